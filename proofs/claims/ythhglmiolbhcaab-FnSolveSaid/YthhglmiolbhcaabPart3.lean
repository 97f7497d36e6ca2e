/- A small language for the functions of this claim, its soundness, contracts. -/
import Derived.Test.YthhglmiolbhcaabPart2
section
set_option linter.unusedSimpArgs false
set_option linter.unusedVariables false
set_option maxRecDepth 100000
set_option maxHeartbeats 4000000
namespace Go.Ml
def F_impl_IsMatrix : Fn := ⟨2, 33, [.tmp 4], (.seq (.reg false 0 [oN 4 (.mov (.c (.bool false)))]) (.seq (.seq (.reg false 0 [oN 9 (oV 0), oN 10 (.len (.t 9)), oN 11 (.bin .gtr (.t 10) (cI 10))]) (.cond (.t 11) (.seq (.reg false 0 [oN 4 (.mov (.c (.bool false)))]) .ret) .skip)) (.seq (.seq (.reg false 0 [oN 12 (oV 0), oN 13 (.len (.t 12)), oN 14 (.mov (cI 0))]) (.block 0 (.loop (.seq (.reg false 0 [oN 15 (.bin .lss (.t 14) (.t 13))]) (.seq (.cond (.t 15) .skip (.exit 0)) (.seq (.block 1 (.seq (.reg false 0 [oN 16 (.idx 1 (.t 12) (.t 14)), oN 17 (.load 1 false (.t 16)), oN 6 (oV 17)]) (.seq (.seq (.reg false 0 [oN 18 (oV 6), oN 19 (.len (.t 18)), oN 20 (oV 1), oN 21 (.bin .neq (.t 19) (.t 20))]) (.cond (.t 21) (.seq (.reg false 0 [oN 4 (.mov (.c (.bool false)))]) .ret) .skip)) (.seq (.reg false 0 [oN 22 (oV 6), oN 23 (.len (.t 22)), oN 24 (.mov (cI 0))]) (.block 2 (.loop (.seq (.reg false 0 [oN 25 (.bin .lss (.t 24) (.t 23))]) (.seq (.cond (.t 25) .skip (.exit 2)) (.seq (.block 3 (.seq (.reg false 1 [oK 26 1 (.idx 3 (.t 22) (.t 24)), oK 27 1 (.load 3 true (.t 26)), oN 8 (.alloc [.bool false, .nils, .nils]), ⟨none, none, 1, .store 3 (.t 8) (.t 27), []⟩]) (.seq (.reg false 0 [oN 28 (.load 3 true (.t 8)), oN 29 (.call 102 [(.t 28)]), oN 30 (.un .not (.t 29))]) (.cond (.t 30) (.seq (.reg false 0 [oN 4 (.mov (.c (.bool false)))]) .ret) .skip)))) (.reg false 0 [oN 31 (.bin .add (.t 24) (cI 1)), oN 24 (oV 31)])))))))))) (.reg false 0 [oN 32 (.bin .add (.t 14) (cI 1)), oN 14 (oV 32)]))))))) (.seq (.reg false 0 [oN 4 (.mov (.c (.bool true)))]) .ret))))⟩
structure D_impl_IsMatrix (T : Nat → Option Fn) : Prop where
  hT : T 93 = some F_impl_IsMatrix
  d_impl_RatOk : D_impl_RatOk T
def lkLess (k l : Lk) : Bool := decide (k.a < l.a) || (decide (k.a = l.a) && decide (k.b < l.b))
def allB (n : Nat) (p : Nat → Bool) : Bool := decide (∀ i, i < n → p i = true)
theorem allB_t {n : Nat} {p : Nat → Bool} (h : ∀ i, i < n → p i = true) : allB n p = true := decide_eq_true h
theorem allB_f {n : Nat} {p : Nat → Bool} {i : Nat} (hi : i < n) (h : p i = false) : allB n p = false := decide_eq_false fun k => by rw [k i hi] at h; cases h
theorem allB_iff {n : Nat} {p : Nat → Bool} : allB n p = true ↔ ∀ i, i < n → p i = true := by simp [allB]
def lksAt (l : List Lk) (i : Nat) : Bool := lkOk (l.getD i default) && (decide (i = 0) || lkLess (l.getD (i - 1) default) (l.getD i default))
def lksOk (l : List Lk) : Bool := allB l.length (lksAt l)
def matAt (m : List (List R)) (cols : Int) (i : Nat) : Bool := decide (((m.getD i default).length : Int) = cols) && allB (m.getD i default).length (fun j => ((m.getD i default).getD j default).ok)
def matOk (m : List (List R)) (cols : Int) : Bool := allB m.length (matAt m cols) && decide (m.length ≤ 10)
theorem matOk_f {m : List (List R)} {cols : Int} {i : Nat} (hi : i < m.length) (h : matAt m cols i = false) : matOk m cols = false := by
  unfold matOk; rw [allB_f hi h, Bool.false_and]
theorem matOk_t {m : List (List R)} {cols : Int} (h : ∀ j, j < m.length → matAt m cols j = true) : matOk m cols = decide (m.length ≤ 10) := by
  unfold matOk; rw [allB_t h, Bool.true_and]
theorem c_iIsMatrix {T : Nat → Option Fn} (h : D_impl_IsMatrix T) {m : List (List R)} {cols : Int} (hw : wfL (wfL R.wf) m := by first | omega | assumption | (simp; omega)) (hcw : cols ≤ 9223372036854775807 := by first | omega | assumption | (simp; omega)) : PF T 93 [ratssV m, iv cols] (.bool (matOk m cols)) := by
  have hlen := hw.1
  refine pf_end (fun _ _ => false) h.hT rfl rfl ?_
  dsimp only [F_impl_IsMatrix, oN, oS, oG, oK, oA, oH, oV, cI]
  (refine ev ?_; try with_reducible exact True.intro)
  refine brK_dec (fun h10 => ?_) fun h10 => ?_ <;> (refine ev1 @h10 ?_; try with_reducible exact True.intro)
  · have : matOk m cols = false := by unfold matOk; rw [decide_eq_false (by omega), Bool.and_false]
    rw [this]
  refine loop_at (fun _ _ => false) (α := Nat) (fun i => ⟨argE [ratssV m, iv cols, .any, .any, .bool false, .any, .any, .any, .any, .any, .any, .any, ratssV m, iv (m.length : Nat), iv (i : Nat)], [], 0, 0, [], []⟩) (fun i => i ≤ m.length ∧ ∀ j, j < i → matAt m cols j = true) (fun i => m.length - i) rfl 0 ?_ ?_ ?_
  · exact ⟨by omega, by intro j hj; omega⟩
  · first | ((refine Fg_env ?_) <;> (try (refine ev ?_; try with_reducible exact True.intro)) <;> (repeat' (first | refine ⟨?_, ?_⟩ | exact EvV_int (by omega) | exact EvV_of (by simp) | exact EvV_nil _)); done) | ((refine Fg_re [] (by simp) (by intro p hp; cases hp) rfl ?_) <;> (try (refine ev ?_; try with_reducible exact True.intro)) <;> (repeat' (first | exact True.intro | omega | exact CanE_ptr rfl (by simp) | refine ⟨?_, ?_⟩ | exact of_eq_true (CanE_nil _ _ _) | exact CanE_of rfl (by simp; done) | exact CanE_of rfl rfl | (refine CanE_msl rfl ?_ rfl; simp [irows]; done) | (refine CanE_msl rfl ?_ rfl; simp [irows]; omega) | (refine CanE_frz ?_ ?_; (focus ((refine ev ?_; try with_reducible exact True.intro); done)); (intro q hq k s0 l0; simp; done)))); done)
  · rintro i ⟨hi, hj⟩
    (refine ev ?_; try with_reducible exact True.intro)
    refine brK_dec (fun hc => ?_) fun hc => ?_ <;> (refine ev2 @hc @mg ?_; try with_reducible exact True.intro)
    · have hil : i < m.length := by omega
      have hwr := hw.at_ hil
      have hrl := hwr.1
      obtain ⟨row, hrow⟩ : ∃ row, m.getD i default = row := ⟨_, rfl⟩
      rw [hrow] at hwr hrl ⊢
      (refine ev ?_; try with_reducible exact True.intro)
      refine brK_dec (fun hn => ?_) fun hn => ?_ <;> (refine ev1 @hn ?_; try with_reducible exact True.intro)
      · refine loop_at (fun _ _ => false) (α := Nat) (fun k => ⟨argE [ratssV m, iv cols, .any, .any, .bool false, .any, .any, .any, .any, .any, .any, .any, ratssV m, iv (m.length : Nat), iv (i : Nat), .any, .any, .any, .any, .any, .any, .any, ratsV row, iv (row.length : Nat), iv (k : Nat)], [], 0, 0, [], []⟩) (fun k => k ≤ row.length ∧ ∀ j, j < k → (row.getD j default).ok = true) (fun k => row.length - k) rfl 0 ?_ ?_ ?_
        · exact ⟨by omega, by intro j hj; omega⟩
        · first | ((refine Fg_env ?_) <;> (try (refine ev ?_; try with_reducible exact True.intro)) <;> (repeat' (first | refine ⟨?_, ?_⟩ | exact EvV_int (by omega) | exact EvV_of (by simp) | exact EvV_nil _)); done) | ((refine Fg_re [] (by simp) (by intro p hp; cases hp) rfl ?_) <;> (try (refine ev ?_; try with_reducible exact True.intro)) <;> (repeat' (first | exact True.intro | omega | exact CanE_ptr rfl (by simp) | refine ⟨?_, ?_⟩ | exact of_eq_true (CanE_nil _ _ _) | exact CanE_of rfl (by simp; done) | exact CanE_of rfl rfl | (refine CanE_msl rfl ?_ rfl; simp [irows]; done) | (refine CanE_msl rfl ?_ rfl; simp [irows]; omega) | (refine CanE_frz ?_ ?_; (focus ((refine ev ?_; try with_reducible exact True.intro); done)); (intro q hq k s0 l0; simp; done)))); done)
        · rintro k ⟨hk, hkj⟩
          (refine ev ?_; try with_reducible exact True.intro)
          refine brK_dec (fun hd => ?_) fun hd => ?_ <;> (refine ev2 @hd @mg ?_; try with_reducible exact True.intro)
          · have hkl : k < row.length := by omega
            have co := c_RatOk h.d_impl_RatOk (r := row.getD k default) (hwr.at_ hkl)
            cases hv : (row.getD k default).ok
            · rw [hv] at co
              refine PFK_of co ?_
              (refine ev ?_; try with_reducible exact True.intro)
              have : matOk m cols = false := matOk_f hil (by unfold matAt; rw [hrow, allB_f hkl hv, Bool.and_false])
              rw [this]
            · rw [hv] at co
              refine PFK_of co ?_
              (refine ev ?_; try with_reducible exact True.intro)
              refine ⟨k + 1, by omega, ⟨by omega, fun j hj' => ?_⟩, by first | ((refine Fg_env ?_) <;> (try (refine ev ?_; try with_reducible exact True.intro)) <;> (repeat' (first | refine ⟨?_, ?_⟩ | exact EvV_int (by omega) | exact EvV_of (by simp) | exact EvV_nil _)); done) | ((refine Fg_re [] (by simp) (by intro p hp; cases hp) rfl ?_) <;> (try (refine ev ?_; try with_reducible exact True.intro)) <;> (repeat' (first | exact True.intro | omega | exact CanE_ptr rfl (by simp) | refine ⟨?_, ?_⟩ | exact of_eq_true (CanE_nil _ _ _) | exact CanE_of rfl (by simp; done) | exact CanE_of rfl rfl | (refine CanE_msl rfl ?_ rfl; simp [irows]; done) | (refine CanE_msl rfl ?_ rfl; simp [irows]; omega) | (refine CanE_frz ?_ ?_; (focus ((refine ev ?_; try with_reducible exact True.intro); done)); (intro q hq k s0 l0; simp; done)))); done)⟩
              by_cases e : j = k
              · subst e; exact hv
              · exact hkj j (by omega)
          · refine ⟨i + 1, by omega, ⟨by omega, fun j hj' => ?_⟩, by first | ((refine Fg_env ?_) <;> (try (refine ev ?_; try with_reducible exact True.intro)) <;> (repeat' (first | refine ⟨?_, ?_⟩ | exact EvV_int (by omega) | exact EvV_of (by simp) | exact EvV_nil _)); done) | ((refine Fg_re [] (by simp) (by intro p hp; cases hp) rfl ?_) <;> (try (refine ev ?_; try with_reducible exact True.intro)) <;> (repeat' (first | exact True.intro | omega | exact CanE_ptr rfl (by simp) | refine ⟨?_, ?_⟩ | exact of_eq_true (CanE_nil _ _ _) | exact CanE_of rfl (by simp; done) | exact CanE_of rfl rfl | (refine CanE_msl rfl ?_ rfl; simp [irows]; done) | (refine CanE_msl rfl ?_ rfl; simp [irows]; omega) | (refine CanE_frz ?_ ?_; (focus ((refine ev ?_; try with_reducible exact True.intro); done)); (intro q hq k s0 l0; simp; done)))); done)⟩
            by_cases e : j = i
            · subst e; unfold matAt; rw [hrow, decide_eq_true (by omega), allB_t fun j hj => hkj j (by omega)]; rfl
            · exact hj j (by omega)
      · have : matOk m cols = false := matOk_f hil (by unfold matAt; rw [hrow, decide_eq_false (by omega), Bool.false_and])
        rw [this]
    · rw [matOk_t fun j hj' => hj j (by omega), decide_eq_true (by omega)]
end Go.Ml
end
section
set_option linter.unusedSimpArgs false
set_option linter.unusedVariables false
set_option maxRecDepth 100000
set_option maxHeartbeats 4000000
namespace Go.Ml
def ends (l : List Lk) (v : Int) : Bool := l.any fun x => decide (x.a = v) || decide (x.b = v)
def nodesI (l : List Lk) (v : Nat) : List Int := ((List.range v).filter fun (u : Nat) => decide (1 ≤ u) && ends l u).map fun u => ((u : Nat) : Int)
end Go.Ml
end
section
set_option linter.unusedSimpArgs false
namespace Go.Ml
def inB (a lo hi : Int) : Bool := decide (lo ≤ a) && decide (a ≤ hi)
def paAt (c : Cd) (i : Nat) : Bool :=
  inB (c.ps.getD i default).node 0 9 && !decide ((c.ps.getD i default).node = c.node) && (decide (i = 0) || decide ((c.ps.getD (i - 1) default).node < (c.ps.getD i default).node)) &&
    decide (0 < sgnR (c.ps.getD i default).share) && (c.ps.getD i default).dx.ok && (c.ps.getD i default).dy.ok
def sumS (l : List Pa) (n : Nat) : R := (l.take n).foldl (fun s p => addR s p.share) (intR 0)
def paOk (c : Cd) : Prop := ∀ i, i < c.ps.length → paAt c i = true
instance (c : Cd) : Decidable (paOk c) := inferInstanceAs (Decidable (∀ i, i < c.ps.length → paAt c i = true))
def cdOk (c : Cd) : Bool := decide (paOk c) && inB c.node 1 9 && decide (0 < sgnR c.total) && !c.ps.isEmpty && decide (sumS c.ps c.ps.length = intR 1)
end Go.Ml
end
section
set_option linter.unusedSimpArgs false
namespace Go.Ml
def netAt (l : List Cd) (i : Nat) : Prop :=
  cdOk (l.getD i default) = true ∧ (∀ k, k < (l.getD i default).ps.length → ((l.getD i default).ps.getD k default).node = 0 ∨ ∃ j, i < j ∧ j < l.length ∧ (l.getD j default).node = ((l.getD i default).ps.getD k default).node) ∧
    ∀ j, i < j → j < l.length → (l.getD j default).node ≠ (l.getD i default).node
noncomputable instance (l : List Cd) : Decidable (∀ i, i < l.length → netAt l i) := Classical.propDecidable _
end Go.Ml
end
section
set_option linter.unusedSimpArgs false
set_option linter.unusedVariables false
set_option maxRecDepth 100000
set_option maxHeartbeats 4000000
namespace Go.Ml
def nodesM (l : List Lk) : List Int := if lksOk l = true then nodesI l 10 else []
def ordP (l : List Lk) (o : List Int) : Prop := lksOk l = true ∧ o.length = (nodesM l).length ∧ ∀ x ∈ nodesM l, x ∈ o
instance (l : List Lk) (o : List Int) : Decidable (ordP l o) := inferInstanceAs (Decidable (_ ∧ _ ∧ _))
end Go.Ml
end
section
set_option linter.unusedSimpArgs false
set_option linter.unusedVariables false
set_option maxRecDepth 100000
set_option maxHeartbeats 4000000
namespace Go.Ml
theorem take_snoc {α : Type} [Inhabited α] {l : List α} {i : Nat} (h : i < l.length) : l.take (i + 1) = l.take i ++ [l.getD i default] := by
  rw [List.take_add_one, List.getElem?_eq_getElem h, List.getD_eq_getElem?_getD, List.getElem?_eq_getElem h]; rfl
end Go.Ml
end
section
set_option linter.unusedSimpArgs false
set_option linter.unusedVariables false
set_option maxRecDepth 100000
set_option maxHeartbeats 4000000
namespace Go.Ml
def woP (v : Int) (x : Lk) : Bool := decide (x.a ≠ v) && decide (x.b ≠ v)
def wo (l : List Lk) (v : Int) (i : Nat) : List Lk := (l.take i).filter (woP v)
end Go.Ml
end
section
set_option linter.unusedSimpArgs false
set_option linter.unusedVariables false
set_option maxRecDepth 100000
set_option maxHeartbeats 8000000
namespace Go.Ml
theorem po_natOfUint {T : Nat → Option Fn} (h : D_impl_natOfUint T) {n : Int} (hn : 0 ≤ n ∧ n < 18446744073709551616 := by first | omega | assumption | (simp; omega)) : PO T 69 [.int .u64 n] (ints (mk n.toNat)) := by
  have hlen : (mk n.toNat).length ≤ 3 := mk_len_le.2 (by omega)
  refine po_end2 (fun _ _ => false) h.hT rfl rfl ?_
  dsimp only [F_impl_natOfUint, oN, oS, oG, oK, oA, oH, oV, cI, St.enter, List.length_cons, List.length_nil, Nat.zero_add]
  (refine ew ?_; try with_reducible exact True.intro)
  refine loop_at (fun _ _ => false) (α := Nat × List Int) (fun q => ⟨argE [.int .u64 (q.1 : Nat), .any, .any, slV q.2.length], slS 1 (irows q.2), 0, 0, [], []⟩) (fun q => q.2 ++ mk q.1 = mk n.toNat ∧ q.1 ≤ n.toNat) (fun q => q.1) rfl (n.toNat, []) ?_ ?_ ?_
  · exact ⟨rfl, Nat.le_refl _⟩
  · first | ((refine Fg_env ?_) <;> (try (refine ew ?_; try with_reducible exact True.intro)) <;> (repeat' (first | refine ⟨?_, ?_⟩ | exact EvV_int (by omega) | exact EvV_of (by simp) | exact EvV_nil _)); done) | ((refine Fg_re [] (by simp) (by intro p hp; cases hp) rfl ?_) <;> (try (refine ew ?_; try with_reducible exact True.intro)) <;> (repeat' (first | exact True.intro | omega | exact CanE_ptr rfl (by simp) | refine ⟨?_, ?_⟩ | exact of_eq_true (CanE_nil _ _ _) | exact CanE_of rfl (by simp; done) | exact CanE_of rfl rfl | (refine CanE_msl rfl ?_ rfl; simp [irows]; done) | (refine CanE_msl rfl ?_ rfl; simp [irows]; omega) | (refine CanE_frz ?_ ?_; (focus ((refine ew ?_; try with_reducible exact True.intro); done)); (intro q hq k s0 l0; simp; done)))); done)
  · rintro ⟨m, xs⟩ ⟨hm, hle⟩
    dsimp only at hm hle
    have hx : xs.length ≤ 3 := by
      have := congrArg List.length hm
      simp at this; omega
    have e1 : ((m : Int).tmod 1000000000) = ((m % 1000000000 : Nat) : Int) := by rw [tmod_B (by omega)]; omega
    have e2 : ((m : Int).tdiv 1000000000) = ((m / 1000000000 : Nat) : Int) := by rw [tdiv_B (by omega)]; omega
    have key : 0 < m → (xs ++ [((m % 1000000000 : Nat) : Int)]) ++ mk (m / 1000000000) = mk n.toNat := fun h => by
      rw [← hm, mk_pos (n := m) (by omega)]; simp
    (rcases xs with _ | ⟨x, xs⟩ <;> simp only [List.length_nil, List.length_cons, slV_0, slV_s, slI_nil, slI_cons] at hx ⊢)
    · (refine ew ?_; try with_reducible exact True.intro)
      refine brK_dec (fun hb => ?_) fun hb => ?_ <;> (refine ew3 @hb @e1 @e2 ?_; try with_reducible exact True.intro)
      · exact ⟨by omega, (m / 1000000000, [] ++ [((m % 1000000000 : Nat) : Int)]), by dsimp only; omega, ⟨key (by omega), by dsimp only; omega⟩, by (simp only [← irows_snoc]; refine Fg_push (k := 1) (still_isnoc _ _) rfl ?_; (try (refine ew ?_; try with_reducible exact True.intro)); (repeat' (first | exact True.intro | omega | exact CanE_push (by simp) (by simp) (by simp) | refine ⟨?_, ?_⟩ | exact CanE_of rfl (by simp))))⟩
      · have e : mk n.toNat = [] := by rw [← hm, show m = 0 by omega, mk_zero]; rfl
        rw [e]; exact fin_nil
    · (refine ew ?_; try with_reducible exact True.intro)
      refine brK_dec (fun hb => ?_) fun hb => ?_ <;> (refine ew3 @hb @e1 @e2 ?_; try with_reducible exact True.intro)
      · refine ⟨by omega, (m / 1000000000, (x :: xs) ++ [((m % 1000000000 : Nat) : Int)]), by dsimp only; omega, ⟨key (by omega), by dsimp only; omega⟩, by (simp only [← irows_snoc]; refine Fg_push (k := 2) (still_isnoc _ _) rfl ?_; (try (refine ew ?_; try with_reducible exact True.intro)); (repeat' (first | exact True.intro | omega | exact CanE_push (by simp) (by simp) (by simp) | refine ⟨?_, ?_⟩ | exact CanE_of rfl (by simp))))⟩
      · have e : x :: xs = mk n.toNat := by rw [← hm, show m = 0 by omega, mk_zero]; simp
        rw [← e]; exact fin_ints (o := 0) (l := x :: xs) rfl
theorem rf_natTrim {T : Nat → Option Fn} (h : D_impl_natTrim T) {l : List Int} {σ : Store} {o : Nat} (h0 : objAt σ o = some ⟨1, irows l⟩) (hl : l.length ≤ 1048576 := by first | omega | assumption | (simp; omega)) :
    Run T (.fn 151 [.msl o 0 l.length] σ) (.fn (.msl o 0 (trim l).length) σ) := by
  have : ∃ r σ', Run T (.fn 151 [.msl o 0 l.length] σ) (.fn r σ') ∧ (r = .msl o 0 (trim l).length ∧ σ' = σ) := by
    have htl : ∀ n, n ≤ l.length → trimN l l.length = trimN l n → (n = 0 ∨ l.getD (n - 1) 0 ≠ 0) → (trim l).length = n := by
      intro n hn h1 h2
      unfold trim
      rw [h1, List.length_take]
      cases n with
      | zero => simp [trimN]
      | succ m =>
        simp only [Nat.add_sub_cancel] at h2
        simp only [trimN]
        rw [if_neg (by omega)]
        omega
    refine run_end (fun _ _ => false) h.hT rfl rfl ?_
    dsimp only [F_impl_natTrim, oN, oS, oG, oK, oA, oH, oV, cI, St.enter, List.length_cons, List.length_nil, Nat.zero_add]
    (refine ew ?_; try with_reducible exact True.intro)
    (refine ew1 @h0 ?_; try with_reducible exact True.intro)
    refine loop_at (fun _ _ => false) (α := Nat) (fun n => ⟨argE [.msl o 0 l.length, .any, .any, iv (n : Nat)], σ, σ.length, 0, [], []⟩) (fun n => n ≤ l.length ∧ trimN l l.length = trimN l n) (fun n => n) rfl l.length ?_ ?_ ?_
    · exact ⟨by omega, rfl⟩
    · (refine Fg_env ?_) <;> (try (refine ew ?_; try with_reducible exact True.intro)) <;> (repeat' (first | refine ⟨?_, ?_⟩ | exact EvV_int (by omega) | exact EvV_of (by simp) | exact EvV_nil _))
    · rintro n ⟨hn, ht⟩
      (refine ew1 @h0 ?_; try with_reducible exact True.intro)
      refine brK_dec (fun hb => ?_) fun hb => ?_
      · obtain ⟨m, rfl⟩ : ∃ m, n = m + 1 := ⟨n - 1, by omega⟩
        have e1 : ((m + 1 : Nat) : Int) - 1 = (m : Nat) := by omega
        (refine ew3 @h0 @e1 @hb ?_; try with_reducible exact True.intro)
        refine brK_dec (fun hc => ?_) fun hc => ?_ <;> (refine ew2 @hc @h0 ?_; try with_reducible exact True.intro)
        · refine ⟨m, by omega, ⟨by omega, ?_⟩, by (refine Fg_env ?_) <;> (try (refine ew ?_; try with_reducible exact True.intro)) <;> (repeat' (first | refine ⟨?_, ?_⟩ | exact EvV_int (by omega) | exact EvV_of (by simp) | exact EvV_nil _))⟩
          rw [ht]; simp only [trimN, hc, if_true]
        · rw [htl (m + 1) hn ht (by simp only [Nat.add_sub_cancel]; omega)]
      · have : n = 0 := by omega
        subst this
        rw [htl 0 hn ht (by omega)]
        (refine ew2 @h0 @hb ?_; try with_reducible exact True.intro)
  obtain ⟨r, σ', h1, rfl, rfl⟩ := this
  exact h1
theorem rf_bigMake {T : Nat → Option Fn} (h : D_impl_bigMake T) {neg : Bool} {n : Nat} {σ : Store} {o : Nat} (h0 : objAt σ o = some ⟨1, irows (mk n)⟩) (hn : 0 < n) (hl : (mk n).length ≤ 60 := by first | omega | assumption | (simp; omega)) :
    ∃ σ', Run T (.fn 68 [.bool neg, .msl o 0 (mk n).length] σ) (.fn (.agg [.bool neg, .msl o 0 (mk n).length]) σ') ∧ (∀ q, q < σ.length → objAt σ' q = objAt σ q) ∧ σ.length ≤ σ'.length := by
  have : ∃ r σ', Run T (.fn 68 [.bool neg, .msl o 0 (mk n).length] σ) (.fn r σ') ∧ (r = .agg [.bool neg, .msl o 0 (mk n).length] ∧ (∀ q, q < σ.length → objAt σ' q = objAt σ q) ∧ σ.length ≤ σ'.length) := by
    have hp := ln_pos.2 hn
    refine run_end (fun _ _ => false) h.hT rfl rfl ?_
    dsimp only [F_impl_bigMake, oN, oS, oG, oK, oA, oH, oV, cI, St.enter, List.length_cons, List.length_nil, Nat.zero_add]
    (refine ew ?_; try with_reducible exact True.intro)
    have hlt := objAt_lt h0
    have c1 : ¬ (((mk n).length : Nat) : Int) = 0 := by omega
    have c2 : ¬ (60 : Int) < ((mk n).length : Nat) := by omega
    (refine ew4 @h0 @hlt @c1 @c2 ?_; try with_reducible exact True.intro)
    exact ⟨fun q hq => objAt_snoc_lt hq, by omega⟩
  obtain ⟨r, σ', h1, rfl, h2, h3⟩ := this
  exact ⟨σ', h1, h2, h3⟩
theorem px_natDiv {T : Nat → Option Fn} (h : D_impl_natDiv T) {m n : Nat} (hn : 0 < n) (la : (mk m).length ≤ 900 := by first | omega | assumption | (simp; omega)) (lb : (mk n).length ≤ 900 := by first | omega | assumption | (simp; omega)) :
    PX T 138 [ints (mk m), ints (mk n)] [(true, ints (mk (m / n))), (false, ints (mk (m % n)))] := by
  obtain ⟨A, hA⟩ : ∃ A, mk m = A := ⟨_, rfl⟩
  obtain ⟨B, hB⟩ : ∃ B, mk n = B := ⟨_, rfl⟩
  have hva : val A = m := by rw [← hA, val_mk]
  have hbA : Lb A := hA ▸ lb_mk m
  have hbB : Lb B := hB ▸ lb_mk n
  rw [hA] at la ⊢
  rw [hB] at lb ⊢
  refine px_endW (fun x d => (x == 69 && d == 28) || (x == 151 && d == 74)) h.hT rfl rfl ?_
  dsimp only [F_impl_natDiv, oN, oS, oG, oK, oA, oH, oV, cI, St.enter, List.length_cons, List.length_nil, Nat.zero_add]
  (refine ew ?_; try with_reducible exact True.intro)
  have cas : (((A.length : Nat) : Int) ≤ 2 ∧ ((B.length : Nat) : Int) ≤ 2) ∨ ((((A.length : Nat) : Int) ≤ 2 ∧ ¬ ((B.length : Nat) : Int) ≤ 2) ∨ ¬ ((A.length : Nat) : Int) ≤ 2) := by omega
  rcases cas with ⟨c1, c2⟩ | big
  · have sm : m < 1000000000000000000 := by
      have := val_lt hbA
      rw [hva] at this
      exact Nat.lt_of_lt_of_le this (Nat.le_trans (Nat.pow_le_pow_right (by omega) (show A.length ≤ 2 by omega)) (by omega))
    have sn : n < 1000000000000000000 := by
      have := val_lt hbB
      rw [← hB, val_mk] at this
      exact Nat.lt_of_lt_of_le this (Nat.le_trans (Nat.pow_le_pow_right (by omega) (show (mk n).length ≤ 2 by rw [hB]; omega)) (by omega))
    have cs := c_natSmall h.d_impl_natSmall sm
    have ct := c_natSmall h.d_impl_natSmall sn
    rw [hA] at cs
    rw [hB] at ct
    have e1 : ((m : Nat) : Int).tdiv (n : Nat) = ((m / n : Nat) : Int) := by rw [Int.tdiv_eq_ediv_of_nonneg (by omega), Int.natCast_ediv]
    have e2 : ((m : Nat) : Int).tmod (n : Nat) = ((m % n : Nat) : Int) := by rw [Int.tmod_eq_emod_of_nonneg (by omega), Int.natCast_emod]
    have d1 : m / n ≤ m := Nat.div_le_self ..
    have d2 : m % n ≤ m := Nat.mod_le ..
    have nz : ¬ ((n : Nat) : Int) = 0 := by omega
    generalize m / n = q at *
    generalize m % n = r at *
    have c3 := c_natOfUint h.d_impl_natOfUint (n := ((q : Nat) : Int)) (by omega)
    have c4 := c_natOfUint h.d_impl_natOfUint (n := ((r : Nat) : Int)) (by omega)
    rw [Int.toNat_natCast] at c3 c4
    (refine ew2 @c1 @c2 ?_; try with_reducible exact True.intro)
    refine PFK_of cs ?_
    (refine ew ?_; try with_reducible exact True.intro)
    refine PFK_of ct ?_
    (refine ew3 @nz @e1 @e2 ?_; try with_reducible exact True.intro)
    have p3 := po_natOfUint h.d_impl_natOfUint (n := ((q : Nat) : Int)) (by omega)
    rw [Int.toNat_natCast] at p3
    refine OwnK_got0 p3 (by (refine ew ?_; try with_reducible exact True.intro)) (by (refine ew ?_; try with_reducible exact True.intro)) ?_
    intro v1 s1 o1 g
    (refine ew3 @nz @e1 @e2 ?_; try with_reducible exact True.intro)
    refine PFK_of c4 ?_
    (refine ew ?_; try with_reducible exact True.intro)
    refine ⟨by unfold OkA; decide +kernel, ?_⟩
    exact .inl (finX_of g.ow g.nd rfl)
  rcases big with ⟨c1, c2⟩ | c1
  case' inl => (refine ew2 @c1 @c2 ?_; try with_reducible exact True.intro)
  case' inr => (refine ew1 @c1 ?_; try with_reducible exact True.intro)
  all_goals
    refine ⟨by omega, ?_⟩
    rw [ir_rep]
    refine loop_at (fun x d => (x == 69 && d == 28) || (x == 151 && d == 74)) (α := Nat × List Int × Nat) (fun q => ⟨argE [ints A, ints B, .any, .any, .any, .any, .any, .any, .msl 0 0 A.length, ints (mk q.2.2), iv ((q.1 : Nat) - 1)], [some ⟨1, irows q.2.1⟩], 0, 0, [], []⟩) (fun q => q.1 ≤ A.length ∧ q.2.1.length = A.length ∧ Lb q.2.1 ∧ (∀ j, j < q.1 → q.2.1.getD j 0 = 0) ∧ q.2.2 < n ∧ val (A.drop q.1) = val (q.2.1.drop q.1) * n + q.2.2) (fun q => q.1) rfl (A.length, List.replicate A.length 0, 0) ?_ ?_ ?_
    · exact ⟨by omega, by simp, lb_rep _, by intro j _; simp [List.getD_eq_getElem?_getD, List.getElem?_replicate]; split <;> rfl, hn, by dsimp only; rw [val_drop_ge (Nat.le_refl _), val_drop_ge (by simp)]; simp⟩
    · rw [mk_zero]
      (refine Fg_re [(0, _)] (by simp) (by intro p hp; simp only [List.mem_cons, List.not_mem_nil, or_false] at hp; rcases hp with rfl <;> refine ⟨rfl, ?_⟩ <;> first | exact ir_still _ | simp [stillR, V.still]) rfl ?_) <;> (try (refine ew ?_; try with_reducible exact True.intro)) <;> (repeat' (first | exact True.intro | omega | exact CanE_ptr rfl (by simp) | refine ⟨?_, ?_⟩ | exact of_eq_true (CanE_nil _ _ _) | exact CanE_of rfl (by simp; done) | exact CanE_of rfl rfl | (refine CanE_msl rfl ?_ rfl; simp [irows]; done) | (refine CanE_msl rfl ?_ rfl; simp [irows]; omega) | (refine CanE_frz ?_ ?_; (focus ((refine ew ?_; try with_reducible exact True.intro); done)); (intro q hq k s0 l0; simp; done))))
    · rintro ⟨k, Q, x⟩ ⟨hk, hQ, hQb, hz, hx, hv⟩
      dsimp only at hk hQ hQb hz hx hv
      by_cases k0 : k = 0
      · subst k0
        rw [List.drop_zero, List.drop_zero, hva] at hv
        obtain ⟨q1, q2⟩ := div_unique hv hx
        have e0 : ¬ (0 : Int) ≤ ((0 : Nat) : Int) - 1 := by omega
        (refine ew1 @e0 ?_; try with_reducible exact True.intro)
        have hr := rf_natTrim h.d_impl_natTrim (l := Q) (σ := [some ⟨1, irows Q⟩]) (o := 0) rfl (by omega)
        rw [hQ] at hr
        refine RefK_mk hr rfl (Nat.le_refl _) (by simp) ?_
        (refine ew ?_; try with_reducible exact True.intro)
        rw [← q1, ← q2]
        exact .inr (finW_cut (by have := (trim_take Q).2; omega) (by rw [← (trim_take Q).1, trim_mk hQb]) rfl)
      · obtain ⟨i, rfl⟩ : ∃ i, k = i + 1 := ⟨k - 1, by omega⟩
        have e0 : (((i + 1 : Nat) : Int) - 1) = (i : Nat) := by omega
        have e1 : ((i : Nat) : Int) < (A.length : Nat) := by omega
        have e2 : (0 : Int) ≤ (i : Nat) := by omega
        rw [e0]
        have ga := lb_at hbA i
        have hvi := val_dropG A i
        obtain ⟨t, ht⟩ : ∃ t, (A.getD i 0).toNat + 1000000000 * x = t := ⟨_, rfl⟩
        have htn : t < n * 1000000000 := by omega
        have lt' : (A.getD i 0 :: mk x).length ≤ 1048576 := by
          have : (mk x).length ≤ B.length := by rw [mk_len_le]; exact Nat.lt_trans hx (by have := val_lt hbB; rw [← hB, val_mk, hB] at this; exact this)
          simp only [List.length_cons]; omega
        have tr : trim (A.getD i 0 :: mk x) = mk t := by
          rw [trim_mk (by intro y hy; rcases List.mem_cons.1 hy with rfl | hy; exact ga; exact lb_mk x y hy), ← ht, val, val_mk]
        have ct := c_natTrim h.d_impl_natTrim (l := A.getD i 0 :: mk x) lt'
        rw [tr] at ct
        have ely : ∀ y, y ≤ t → (mk y).length ≤ 901 := by
          intro y hy
          have : (mk y).length ≤ B.length + 1 := by
            rw [mk_len_le, Nat.pow_succ]
            have := val_lt hbB
            rw [← hB, val_mk, hB] at this
            exact Nat.lt_of_lt_of_le (Nat.lt_of_le_of_lt hy htn) (Nat.mul_le_mul_right _ (Nat.le_of_lt this))
          omega
        have lx := ely
        (refine ew2 @e2 @e1 ?_; try with_reducible exact True.intro)
        refine ⟨fun e3 => ?_, fun e3 => ?_⟩
        case' refine_1 =>
          have x0 : mk x = [] := by cases hm : mk x with | nil => rfl | cons a l => rw [hm] at e3; cases e3
          rw [x0] at ct
          rw [show [[V.int IntKind.i64 (A.getD i 0)]] = irows [A.getD i 0] from rfl]
          (refine ew ?_; try with_reducible exact True.intro)
        case' refine_2 =>
          (refine ew1 @e3 ?_; try with_reducible exact True.intro)
          rw [show [V.int IntKind.i64 (A.getD i 0)] :: irows (mk x) = irows (A.getD i 0 :: mk x) from rfl]
          (refine ew ?_; try with_reducible exact True.intro)
          have lm := lt'
          simp only [List.length_cons] at lm
          refine ⟨by omega, ?_⟩
        all_goals
          clear lt'
          refine PFK_of ct ?_
          (refine ew ?_; try with_reducible exact True.intro)
          refine loop_at (fun x d => (x == 69 && d == 28) || (x == 151 && d == 74)) (α := List Int × Nat) (fun q => ⟨argE [ints A, ints B, .any, .any, .any, .any, .any, .any, .msl 0 0 A.length, ints (mk q.2), iv (i : Nat)], [some ⟨1, irows q.1⟩], 0, 0, [], []⟩) (fun q => q.1.length = A.length ∧ Lb q.1 ∧ (∀ j, j < i → q.1.getD j 0 = 0) ∧ q.1.drop (i + 1) = Q.drop (i + 1) ∧ q.2 + (q.1.getD i 0).toNat * n = t) (fun q => q.2) rfl (Q, t) ?_ ?_ ?_
          · exact ⟨hQ, hQb, fun j hj => hz j (by omega), rfl, by dsimp only; rw [hz i (by omega)]; simp⟩
          · (refine Fg_re [(0, _)] (by simp) (by intro p hp; simp only [List.mem_cons, List.not_mem_nil, or_false] at hp; rcases hp with rfl <;> refine ⟨rfl, ?_⟩ <;> first | exact ir_still _ | simp [stillR, V.still]) rfl ?_) <;> (try (refine ew ?_; try with_reducible exact True.intro)) <;> (repeat' (first | exact True.intro | omega | exact CanE_ptr rfl (by simp) | refine ⟨?_, ?_⟩ | exact of_eq_true (CanE_nil _ _ _) | exact CanE_of rfl (by simp; done) | exact CanE_of rfl rfl | (refine CanE_msl rfl ?_ rfl; simp [irows]; done) | (refine CanE_msl rfl ?_ rfl; simp [irows]; omega) | (refine CanE_frz ?_ ?_; (focus ((refine ew ?_; try with_reducible exact True.intro); done)); (intro q hq k s0 l0; simp; done))))
          · rintro ⟨P, y⟩ ⟨hP, hPb, hzP, hd, hy⟩
            dsimp only at hP hPb hzP hd hy
            have yt : y ≤ t := by omega
            have ly := ely y yt
            have cc := c_natCmp h.d_impl_natCmp (can_mk y) (can_mk n) (by omega) (by rw [hB]; omega)
            rw [val_mk, val_mk, hB] at cc
            (refine ew ?_; try with_reducible exact True.intro)
            refine PFK_of cc ?_
            (refine ew ?_; try with_reducible exact True.intro)
            refine brK_dec (fun c3 => ?_) fun c3 => ?_ <;> (refine ew1 @c3 ?_; try with_reducible exact True.intro)
            · have hny : n ≤ y := cmpN_nonneg.1 c3
              obtain ⟨d, pg, d0, d1, d2⟩ := c_natGuess h.d_impl_natGuess hn hny (by omega) (by omega) (by rw [hB]; omega)
              rw [hB] at pg
              have pm := c_natMul h.d_impl_natMul (m := n) (n := d) (by rw [hB]; omega) (by rw [mk_one d0 d1]; simp)
              have dn : n * d ≤ y := by rw [Nat.mul_comm]; exact d2
              have lnd := ely (n * d) (by omega)
              have ps := c_natSub h.d_impl_natSub dn (by omega) (by omega)
              rw [hB, mk_one d0 d1] at pm
              have gp := lb_at hPb i
              have y2 : y - n * d + ((P.getD i 0).toNat + d) * n = t := by rw [Nat.add_mul, Nat.mul_comm d n]; omega
              have gp2 : P.getD i 0 + d < 1000000000 := by
                have : ((P.getD i 0).toNat + d) * n < 1000000000 * n := by rw [Nat.mul_comm 1000000000]; omega
                have := Nat.lt_of_mul_lt_mul_right this
                omega
              have d0' : 0 < n * d := Nat.mul_pos hn d0
              have k1 := lb_set (l := P) (i := i) (d := P.getD i 0 + d) (by omega) gp2 hPb
              have k2 : ∀ j, j < i → (P.set i (P.getD i 0 + d)).getD j 0 = 0 := by
                intro j hj
                rw [getD_set_int', if_neg (by omega)]
                exact hzP j hj
              have k3 : (P.set i (P.getD i 0 + d)).drop (i + 1) = Q.drop (i + 1) := by rw [List.drop_set_of_lt (by omega), hd]
              have k4 : ((P.set i (P.getD i 0 + d)).getD i 0) = P.getD i 0 + d := by rw [getD_set_int', if_pos ⟨rfl, by omega⟩]
              have k5 : y - n * d + ((P.set i (P.getD i 0 + d)).getD i 0).toNat * n = t := by
                rw [k4, show (P.getD i 0 + (d : Int)).toNat = (P.getD i 0).toNat + d by omega]; exact y2
              have k6 : y - n * d < y := by omega
              clear y2 hy htn ht hvi k4 hzP hd d2 lx ely hv hz hx
              refine PFK_of pg ?_
              (refine ew ?_; try with_reducible exact True.intro)
              rw [show [[V.int IntKind.i64 (d : Int)]] = irows [(d : Int)] from rfl]
              (refine ew ?_; try with_reducible exact True.intro)
              refine PFK_of pm ?_
              (refine ew ?_; try with_reducible exact True.intro)
              refine PFK_of ps ?_
              (refine ew2 @e1 @hP ?_; try with_reducible exact True.intro)
              exact ⟨(P.set i (P.getD i 0 + d), y - n * d), k6, ⟨by simp [hP], k1, k2, k3, k5⟩, by (refine Fg_re [(0, _)] (by simp) (by intro p hp; simp only [List.mem_cons, List.not_mem_nil, or_false] at hp; rcases hp with rfl <;> refine ⟨rfl, ?_⟩ <;> first | exact ir_still _ | simp [stillR, V.still]) rfl ?_) <;> (try (refine ew ?_; try with_reducible exact True.intro)) <;> (repeat' (first | exact True.intro | omega | exact CanE_ptr rfl (by simp) | refine ⟨?_, ?_⟩ | exact of_eq_true (CanE_nil _ _ _) | exact CanE_of rfl (by simp; done) | exact CanE_of rfl rfl | (refine CanE_msl rfl ?_ rfl; simp [irows]; done) | (refine CanE_msl rfl ?_ rfl; simp [irows]; omega) | (refine CanE_frz ?_ ?_; (focus ((refine ew ?_; try with_reducible exact True.intro); done)); (intro q hq k s0 l0; simp; done))))⟩
            · have hny : y < n := by
                have := @cmpN_nonneg y n
                omega
              have k1 := val_dropG P i
              rw [hd] at k1
              have k2 : val (A.drop i) = val (P.drop i) * n + y := by
                rw [hvi, hv, k1, Nat.add_mul, Nat.mul_add, ← Nat.mul_assoc]; omega
              exact ⟨(i, P, y), by dsimp only; omega, ⟨by dsimp only; omega, hP, hPb, hzP, hny, k2⟩, by (refine Fg_env ?_) <;> (try (refine ew ?_; try with_reducible exact True.intro)) <;> (repeat' (first | refine ⟨?_, ?_⟩ | exact EvV_int (by omega) | exact EvV_of (by simp) | exact EvV_nil _))⟩
theorem owV_agg2 {σ : Store} {b : Bool} {v : V} {l : List Int} {os : List Nat} (h : OwV σ v (ints l) os) : OwV σ (.agg [.bool b, v]) (.agg [.bool b, ints l]) os := owV_agg (owL_bool (by simpa using owL_v h owL_nil))
theorem owV_rat {σ : Store} {b : Bool} {v w : V} {l m : List Int} {o1 o2 : List Nat} (h : OwV σ v (ints l) o1) (k : OwV σ w (ints m) o2) : OwV σ (.agg [.bool b, v, w]) (.agg [.bool b, ints l, ints m]) (o1 ++ o2) :=
  owV_agg (owL_bool (owL_v h (by simpa using owL_v k owL_nil)))
theorem owV_R0 {σ : Store} : OwV σ (ratV R0) (ratV R0) [] := owV_rat (o1 := []) (o2 := []) owV_ints0 owV_ints0
theorem fin_R0 {σ : Store} : Fin σ (.agg [.bool false, .nils, .nils]) (ratV R0) := ⟨_, [], laxR0, owV_R0, .nil⟩
theorem OwV.lenI {σ : Store} {v : V} {l : List Int} {os : List Nat} (h : OwV σ v (ints l) os) : lenOf σ v = some l.length := by
  rcases h.ints_inv with ⟨rfl, rfl, _⟩ | ⟨o, rfl, h1, _⟩
  · rfl
  · simp [lenOf, h1]
theorem rf_bigMake0 {T : Nat → Option Fn} (h : D_impl_bigMake T) {neg : Bool} {σ : Store} {v : V} {os : List Nat} (h0 : OwV σ v (ints []) os) :
    ∃ σ', Run T (.fn 68 [.bool neg, v] σ) (.fn (.agg [.bool false, .nils]) σ') ∧ (∀ q, q < σ.length → objAt σ' q = objAt σ q) ∧ σ.length ≤ σ'.length := by
  have : ∃ r σ', Run T (.fn 68 [.bool neg, v] σ) (.fn r σ') ∧ (r = .agg [.bool false, .nils] ∧ (∀ q, q < σ.length → objAt σ' q = objAt σ q) ∧ σ.length ≤ σ'.length) := by
    rcases h0.ints_inv with ⟨_, rfl, _⟩ | ⟨o, rfl, h1, _⟩
    · have hz : ((0 : Nat) : Int) = 0 := rfl
      refine run_end (fun _ _ => false) h.hT rfl rfl ?_
      dsimp only [F_impl_bigMake, oN, oS, oG, oK, oA, oH, oV, cI, St.enter, List.length_cons, List.length_nil, Nat.zero_add]
      (refine ew ?_; try with_reducible exact True.intro)
      (refine ew1 @hz ?_; try with_reducible exact True.intro)
      exact ⟨fun q hq => objAt_snoc_lt hq, by omega⟩
    · have hlt := objAt_lt h1
      have hz : ((0 : Nat) : Int) = 0 := rfl
      simp only [List.length_nil]
      refine run_end (fun _ _ => false) h.hT rfl rfl ?_
      dsimp only [F_impl_bigMake, oN, oS, oG, oK, oA, oH, oV, cI, St.enter, List.length_cons, List.length_nil, Nat.zero_add]
      (refine ew ?_; try with_reducible exact True.intro)
      (refine ew3 @h1 @hlt @hz ?_; try with_reducible exact True.intro)
      exact ⟨fun q hq => objAt_snoc_lt hq, by omega⟩
  obtain ⟨r, σ', h1, rfl, h2, h3⟩ := this
  exact ⟨σ', h1, h2, h3⟩
theorem RefK_big {T : Nat → Option Fn} (h : D_impl_bigMake T) {as : List Src} {dst : Option Nat} {env : Nat → V} {σ : Store} {kp bs : Nat} {rs ms : List Nat} {k : St → Prop} {neg : Bool} {n o : Nat}
    (h0 : objAt σ o = some ⟨1, irows (mk n)⟩) (hn : 0 < n) (ha : (as.map fun s => s.ev env) = [.bool neg, .msl o 0 (mk n).length]) (hl : (mk n).length ≤ 60)
    (hk : ∀ σ2 : Store, (∀ q, q < σ.length → objAt σ2 q = objAt σ q) → σ.length ≤ σ2.length → k ⟨updO env dst (.agg [.bool neg, .msl o 0 (mk n).length]), σ2, kp, bs, rs, ms⟩) : RefK T 68 as dst ⟨env, σ, kp, bs, rs, ms⟩ k := by
  have e1 : gcS [o] σ = [some ⟨1, irows (mk n)⟩] := by simp [gcS, h0, mapO_ints]
  obtain ⟨σ', hr, hold, hlen⟩ := rf_bigMake h (neg := neg) (n := n) (σ := gcS [o] σ) (o := 0) (by rw [e1]; rfl) hn hl
  refine RefK_refI (ρ := [o]) (by simp) (fun q hq => ⟨_, by simp at hq; subst hq; exact h0⟩) ?_ hr (fun q hq => hold q (by rw [e1]; exact hq)) ?_
  · have := congrArg (List.map (mapV (place [o]))) ha
    rw [List.map_map] at this
    refine Eq.trans this ?_
    simp [mapV, place]
  · intro σ2 h1 h2
    have := hk σ2 h1 h2
    simpa [mapV, mapV.mapL, back] using this
theorem RefK_big0 {T : Nat → Option Fn} (h : D_impl_bigMake T) {as : List Src} {dst : Option Nat} {env : Nat → V} {σ : Store} {kp bs : Nat} {rs ms : List Nat} {k : St → Prop} {neg : Bool} {v : V} {os : List Nat}
    (h0 : OwV σ v (ints []) os) (ha : (as.map fun s => s.ev env) = [.bool neg, v])
    (hk : ∀ σ2 : Store, (∀ q, q < σ.length → objAt σ2 q = objAt σ q) → σ.length ≤ σ2.length → k ⟨updO env dst (.agg [.bool false, .nils]), σ2, kp, bs, rs, ms⟩) : RefK T 68 as dst ⟨env, σ, kp, bs, rs, ms⟩ k := by
  rcases h0.ints_inv with ⟨_, rfl, _⟩ | ⟨o, rfl, h1, _⟩
  · obtain ⟨σ', hr, hold, hlen⟩ := rf_bigMake0 h (neg := neg) (σ := gcS [] σ) (v := .sl 1 []) (os := []) owV_ints0
    refine RefK_refI (ρ := []) (by simp) (by simp) ?_ hr (fun q hq => by simp at hq) ?_
    · have := congrArg (List.map (mapV (place []))) ha
      rw [List.map_map] at this
      refine Eq.trans this ?_
      simp [mapV, place]
    · intro σ2 h1 h2
      have := hk σ2 h1 h2
      simpa [mapV, mapV.mapL, back] using this
  · have e1 : gcS [o] σ = [some ⟨1, irows []⟩] := by simp [gcS, h1, mapO_ints]
    obtain ⟨σ', hr, hold, hlen⟩ := rf_bigMake0 h (neg := neg) (σ := gcS [o] σ) (v := .msl 0 0 ([] : List Int).length) (os := [0]) (owV_ints (by rw [e1]; rfl))
    refine RefK_refI (ρ := [o]) (by simp) (fun q hq => ⟨_, by simp at hq; subst hq; exact h1⟩) ?_ hr (fun q hq => hold q (by rw [e1]; exact hq)) ?_
    · have := congrArg (List.map (mapV (place [o]))) ha
      rw [List.map_map] at this
      refine Eq.trans this ?_
      simp [mapV, place]
    · intro σ2 h1 h2
      have := hk σ2 h1 h2
      simpa [mapV, mapV.mapL, back] using this
theorem po_ratMake {T : Nat → Option Fn} (h : D_impl_ratMake T) {n d : Int} (ln : (mk n.natAbs).length ≤ 60 := by first | omega | assumption | (simp; omega)) (ld : (mk d.natAbs).length ≤ 60 := by first | omega | assumption | (simp; omega)) :
    PO T 144 [biV (bi n), biV (bi d)] (ratV (Q.raw (mkQ n d))) := by
  by_cases hd : d = 0
  · subst hd
    have e : mkQ n 0 = none := rfl
    rw [e]
    refine po_end2 (fun _ _ => false) h.hT rfl rfl ?_
    dsimp only [F_impl_ratMake, oN, oS, oG, oK, oA, oH, oV, cI, St.enter, List.length_cons, List.length_nil, Nat.zero_add]
    (refine ew ?_; try with_reducible exact True.intro)
    have c1 : (((mk (0 : Int).natAbs).length : Nat) : Int) = 0 := by
      show (((mk 0).length : Nat) : Int) = 0
      rw [ln_zero]; rfl
    (refine ew1 @c1 ?_; try with_reducible exact True.intro)
    exact fin_R0
  · rw [mkQ_raw hd]
    have hg : 0 < Nat.gcd n.natAbs d.natAbs := Nat.gcd_pos_of_pos_right _ (by omega)
    have cg := c_natGcd h.d_impl_natGcd (m := n.natAbs) (n := d.natAbs) (by omega) (by omega)
    have lg : (mk (Nat.gcd n.natAbs d.natAbs)).length ≤ 60 := Nat.le_trans (ln_mono (Nat.le_of_dvd (by omega) (Nat.gcd_dvd_right _ _))) ld
    have l1 := ln_div n.natAbs (Nat.gcd n.natAbs d.natAbs)
    have l2 := ln_div d.natAbs (Nat.gcd n.natAbs d.natAbs)
    have cn := px_natDiv h.d_impl_natDiv (m := n.natAbs) hg (by omega) (by omega)
    have cd := px_natDiv h.d_impl_natDiv (m := d.natAbs) hg (by omega) (by omega)
    have c1 : ¬ (((mk d.natAbs).length : Nat) : Int) = 0 := by have := @ln_z d.natAbs; omega
    clear hg lg
    generalize n.natAbs / Nat.gcd n.natAbs d.natAbs = u at *
    generalize d.natAbs / Nat.gcd n.natAbs d.natAbs = v at *
    generalize n.natAbs % Nat.gcd n.natAbs d.natAbs = u2 at *
    generalize d.natAbs % Nat.gcd n.natAbs d.natAbs = v2 at *
    refine po_end2 (fun x d => x == 138 || x == 68) h.hT rfl rfl ?_
    dsimp only [F_impl_ratMake, oN, oS, oG, oK, oA, oH, oV, cI, St.enter, List.length_cons, List.length_nil, Nat.zero_add]
    (refine ew ?_; try with_reducible exact True.intro)
    (refine ew1 @c1 ?_; try with_reducible exact True.intro)
    refine PFK_of cg ?_
    (refine ew ?_; try with_reducible exact True.intro)
    refine RefK_gotX cn (by (refine ew ?_; try with_reducible exact True.intro)) (by (refine ew ?_; try with_reducible exact True.intro)) ?_
    intro vs q1 o1 g
    obtain ⟨x, x2, rfl, hx2, g⟩ := g.of1
    have B0 := g.at 0 (by simp) rfl
    have B1 := g.at 1 (by simp) rfl
    have B2 := g.at 2 (by simp) rfl
    have lq : 3 ≤ q1.length := g.len
    have f1 : ∀ o ∈ o1, 3 ≤ o := g.fresh
    have k1 := g.ow
    have n1 := g.nd
    clear g
    (refine ew4 @B0 @B1 @B2 @lq ?_; try with_reducible exact True.intro)
    refine RefK_gotX cd (by (refine ew ?_; try with_reducible exact True.intro)) (by (refine ew ?_; try with_reducible exact True.intro)) ?_
    intro vs q2 o2 g
    obtain ⟨y, y2, rfl, hy2, g⟩ := g.of1
    replace B0 := (g.old 0 (by omega)).trans B0
    replace B1 := (g.old 1 (by omega)).trans B1
    replace B2 := (g.old 2 (by omega)).trans B2
    have lq2 := g.len
    have k1lt := k1.lt
    replace k1 := k1.frame (σ' := q2) fun o ho => g.old o (k1.lt o ho)
    have k2 := g.ow
    have n2 := g.nd
    have dj : ∀ o ∈ o1, ∀ p ∈ o2, o ≠ p := fun o ho p hp e => by
      have := k1lt o ho
      have := g.fresh p hp
      omega
    have f2 : ∀ o ∈ o2, 3 ≤ o := fun o ho => by have := g.fresh o ho; omega
    replace lq : 3 ≤ q2.length := by omega
    clear g lq2
    have e1 := k1.lenI
    have e2 := k2.lenI
    have lfy := k2.leaf rfl
    have fcy := cells_lf lfy
    have hn12 : (o1 ++ o2).Nodup := by
      rw [List.nodup_append]; exact ⟨n1, n2, dj⟩
    by_cases c2 : (24 : Int) < ((mk u).length : Nat)
    · (refine ew7 @B0 @B1 @B2 @lq @e1 @e2 @c2 ?_; try with_reducible exact True.intro)
      rw [if_neg (by omega)]
      exact fin_R0
    by_cases c3 : (24 : Int) < ((mk v).length : Nat)
    · (refine ew8 @B0 @B1 @B2 @lq @e1 @e2 @c2 @c3 ?_; try with_reducible exact True.intro)
      rw [if_neg (by omega)]
      exact fin_R0
    (refine ew8 @B0 @B1 @B2 @lq @e1 @e2 @c2 @c3 ?_; try with_reducible exact True.intro)
    rw [if_pos (by omega), ← bne_dec]
    have key := sg_natAbs (!decide (decide (n < 0) = decide (d < 0))) u
    by_cases hu : u = 0
    · subst hu
      rw [mk_zero] at k1
      obtain ⟨q3, hr, hold, hlen⟩ := rf_bigMake0 h.d_impl_bigMake (neg := !decide (decide (n < 0) = decide (d < 0))) k1
      refine RefK_mk hr rfl hlen (by simp) ?_
      replace B2 := (hold 2 (by omega)).trans B2
      have lq3 : 3 ≤ q3.length := by omega
      (refine ew4 @B2 @lq3 @lfy @fcy ?_; try with_reducible exact True.intro)
      rw [sg_zero, mk_zero]
      have k2' := k2.frame (σ' := q3.set 2 (some ⟨3, [[.bool false, .nils, y]]⟩)) fun o ho => by
        have := f2 o ho
        rw [objAt_setne (by omega), hold o (k2.lt o ho)]
      refine ⟨.agg [.bool false, .sl 1 [], y], o2, ?_, owV_rat (o1 := []) owV_ints0 k2', n2⟩
      simp only [LaxV_agg, LaxL_c, LaxL_n, LaxV_bool, LaxV_nil, true_and, and_true]
      exact laxV_refl _
    · rcases k1.ints_inv with ⟨h1, _, _⟩ | ⟨o, rfl, h1, _⟩
      · have := ln_pos.2 (Nat.pos_of_ne_zero hu)
        rw [h1] at this; simp at this
      · obtain ⟨q3, hr, hold, hlen⟩ := rf_bigMake h.d_impl_bigMake (neg := !decide (decide (n < 0) = decide (d < 0))) h1 (Nat.pos_of_ne_zero hu) (by omega)
        refine RefK_mk hr rfl hlen (by simp) ?_
        replace B2 := (hold 2 (by omega)).trans B2
        have lq3 : 3 ≤ q3.length := by omega
        (refine ew4 @B2 @lq3 @lfy @fcy ?_; try with_reducible exact True.intro)
        have hb := congrArg Bi.neg (bi_sg (!decide (decide (n < 0) = decide (d < 0))) u (Nat.pos_of_ne_zero hu))
        have hb : decide (sg (!decide (decide (n < 0) = decide (d < 0))) u < 0) = !decide (decide (n < 0) = decide (d < 0)) := hb
        rw [hb]
        generalize (!decide (decide (n < 0) = decide (d < 0))) = ng
        have fr : ∀ p, p ∈ o1 ++ o2 → objAt (q3.set 2 (some ⟨3, [[.bool ng, .msl o 0 (mk u).length, y]]⟩)) p = objAt q2 p := fun p hp => by
          have h3 : 3 ≤ p ∧ p < q2.length := by
            rcases List.mem_append.1 hp with hp | hp
            · exact ⟨f1 p hp, k1.lt p hp⟩
            · exact ⟨f2 p hp, k2.lt p hp⟩
          rw [objAt_setne (by omega), hold p h3.2]
        exact fin_of (owV_rat (k1.frame fun p hp => fr p (List.mem_append_left _ hp)) (k2.frame fun p hp => fr p (List.mem_append_right _ hp))) hn12
theorem po_ratAdd {T : Nat → Option Fn} (h : D_impl_ratAdd T) {a b : Q} (ha : a.ok := by assumption) (hb : b.ok := by assumption) : PO T 131 [ratV (Q.raw a), ratV (Q.raw b)] (ratV (Q.raw (addQ a b))) := by
  cases a with
  | none =>
    refine po_end2 (fun x d => x == 144) h.hT rfl rfl ?_
    dsimp only [F_impl_ratAdd, oN, oS, oG, oK, oA, oH, oV, cI, St.enter, List.length_cons, List.length_nil, Nat.zero_add]
    (refine ew ?_; try with_reducible exact True.intro)
    refine PFK_of (c_goodN h.d_impl_good) ?_
    (refine ew ?_; try with_reducible exact True.intro)
    exact fin_R0
  | some q => cases b with
    | none =>
      refine po_end2 (fun x d => x == 144) h.hT rfl rfl ?_
      dsimp only [F_impl_ratAdd, oN, oS, oG, oK, oA, oH, oV, cI, St.enter, List.length_cons, List.length_nil, Nat.zero_add]
      (refine ew ?_; try with_reducible exact True.intro)
      refine PFK_of (c_goodS h.d_impl_good) ?_
      (refine ew ?_; try with_reducible exact True.intro)
      refine PFK_of (c_goodN h.d_impl_good) ?_
      (refine ew ?_; try with_reducible exact True.intro)
      exact fin_R0
    | some s =>
      obtain ⟨l1, l2⟩ := q_bd ha
      obtain ⟨l3, l4⟩ := q_bd hb
      have e : addQ (some q) (some s) = mkQ (q.num * s.den + s.num * q.den) (q.den * s.den) := (mkQ_add q s).symm
      rw [e]
      have t1 := ln_imul q.num s.den
      have t2 := ln_imul s.num q.den
      have t3 := ln_imul q.den s.den
      have t5 := ln_imul q.num s.num
      have t4 := ln_iadd (q.num * s.den) (s.num * q.den)
      have n1 : (mk (q.den : Int).natAbs).length ≤ 24 := by rw [Int.natAbs_natCast]; exact l2
      have n2 : (mk (s.den : Int).natAbs).length ≤ 24 := by rw [Int.natAbs_natCast]; exact l4
      refine po_end2 (fun x d => x == 144) h.hT rfl rfl ?_
      dsimp only [F_impl_ratAdd, oN, oS, oG, oK, oA, oH, oV, cI, St.enter, List.length_cons, List.length_nil, Nat.zero_add]
      (refine ew ?_; try with_reducible exact True.intro)
      refine PFK_of (c_goodS h.d_impl_good) ?_
      (refine ew ?_; try with_reducible exact True.intro)
      refine PFK_of (c_goodS h.d_impl_good) ?_
      (refine ew ?_; try with_reducible exact True.intro)
      refine PFK_of (c_denQ h.d_impl_denOf (q := s)) ?_
      (refine ew ?_; try with_reducible exact True.intro)
      refine PFK_of (c_bigMul h.d_impl_bigMul (x := q.num) (y := s.den) (by omega) (by omega)) ?_
      (refine ew ?_; try with_reducible exact True.intro)
      refine PFK_of (c_denQ h.d_impl_denOf (q := q)) ?_
      (refine ew ?_; try with_reducible exact True.intro)
      refine PFK_of (c_bigMul h.d_impl_bigMul (x := s.num) (y := q.den) (by omega) (by omega)) ?_
      (refine ew ?_; try with_reducible exact True.intro)
      refine PFK_of (c_bigAdd h.d_impl_bigAdd (x := q.num * s.den) (y := s.num * q.den) (by omega) (by omega)) ?_
      (refine ew ?_; try with_reducible exact True.intro)
      refine ⟨by unfold OkA; decide +kernel, ?_⟩
      refine PFK_of (c_denQ h.d_impl_denOf (q := q)) ?_
      (refine ew ?_; try with_reducible exact True.intro)
      refine PFK_of (c_denQ h.d_impl_denOf (q := s)) ?_
      (refine ew ?_; try with_reducible exact True.intro)
      refine PFK_of (c_bigMul h.d_impl_bigMul (x := q.den) (y := s.den) (by omega) (by omega)) ?_
      (refine ew ?_; try with_reducible exact True.intro)
      refine OwnK_got0 (po_ratMake h.d_impl_ratMake (n := q.num * s.den + s.num * q.den) (d := q.den * s.den) (by omega) (by omega)) (by (refine ew ?_; try with_reducible exact True.intro)) (by (refine ew ?_; try with_reducible exact True.intro)) ?_
      intro v q os g
      have g0 := g
      obtain ⟨a0, d0, _, _, rfl, _, k1, k2⟩ := g.ow.rat_inv
      have B2 := g0.at 2 (by simp) rfl
      have lq : 3 ≤ q.length := by have := g0.len; simp at this; omega
      have la := k1.leaf rfl
      have ld := k2.leaf rfl
      have lfs := And.intro la ld
      have fc := fun b k => cells_agg (cs := [.bool b, a0, d0]) (by simp [la, ld, show ∀ b, V.leaf (.bool b) = true from fun _ => rfl]) k
      (refine ew4 @B2 @lq @lfs @fc ?_; try with_reducible exact True.intro)
      refine ⟨by unfold OkA; decide +kernel, ?_⟩
      (refine ew4 @B2 @lq @lfs @fc ?_; try with_reducible exact True.intro)
      exact g0.finSet (by simp)
theorem po_ratMul {T : Nat → Option Fn} (h : D_impl_ratMul T) {a b : Q} (ha : a.ok := by assumption) (hb : b.ok := by assumption) : PO T 157 [ratV (Q.raw a), ratV (Q.raw b)] (ratV (Q.raw (mulQ a b))) := by
  cases a with
  | none =>
    refine po_end2 (fun x d => x == 144) h.hT rfl rfl ?_
    dsimp only [F_impl_ratMul, oN, oS, oG, oK, oA, oH, oV, cI, St.enter, List.length_cons, List.length_nil, Nat.zero_add]
    (refine ew ?_; try with_reducible exact True.intro)
    refine PFK_of (c_goodN h.d_impl_good) ?_
    (refine ew ?_; try with_reducible exact True.intro)
    exact fin_R0
  | some q => cases b with
    | none =>
      refine po_end2 (fun x d => x == 144) h.hT rfl rfl ?_
      dsimp only [F_impl_ratMul, oN, oS, oG, oK, oA, oH, oV, cI, St.enter, List.length_cons, List.length_nil, Nat.zero_add]
      (refine ew ?_; try with_reducible exact True.intro)
      refine PFK_of (c_goodS h.d_impl_good) ?_
      (refine ew ?_; try with_reducible exact True.intro)
      refine PFK_of (c_goodN h.d_impl_good) ?_
      (refine ew ?_; try with_reducible exact True.intro)
      exact fin_R0
    | some s =>
      obtain ⟨l1, l2⟩ := q_bd ha
      obtain ⟨l3, l4⟩ := q_bd hb
      have e : mulQ (some q) (some s) = mkQ (q.num * s.num) (q.den * s.den) := (mkQ_mul q s).symm
      rw [e]
      have t1 := ln_imul q.num s.den
      have t2 := ln_imul s.num q.den
      have t3 := ln_imul q.den s.den
      have t5 := ln_imul q.num s.num
      have t4 := ln_iadd (q.num * s.den) (s.num * q.den)
      have n1 : (mk (q.den : Int).natAbs).length ≤ 24 := by rw [Int.natAbs_natCast]; exact l2
      have n2 : (mk (s.den : Int).natAbs).length ≤ 24 := by rw [Int.natAbs_natCast]; exact l4
      refine po_end2 (fun x d => x == 144) h.hT rfl rfl ?_
      dsimp only [F_impl_ratMul, oN, oS, oG, oK, oA, oH, oV, cI, St.enter, List.length_cons, List.length_nil, Nat.zero_add]
      (refine ew ?_; try with_reducible exact True.intro)
      refine PFK_of (c_goodS h.d_impl_good) ?_
      (refine ew ?_; try with_reducible exact True.intro)
      refine PFK_of (c_goodS h.d_impl_good) ?_
      (refine ew ?_; try with_reducible exact True.intro)
      refine PFK_of (c_bigMul h.d_impl_bigMul (x := q.num) (y := s.num) (by omega) (by omega)) ?_
      (refine ew ?_; try with_reducible exact True.intro)
      refine PFK_of (c_denQ h.d_impl_denOf (q := q)) ?_
      (refine ew ?_; try with_reducible exact True.intro)
      refine PFK_of (c_denQ h.d_impl_denOf (q := s)) ?_
      (refine ew ?_; try with_reducible exact True.intro)
      refine PFK_of (c_bigMul h.d_impl_bigMul (x := q.den) (y := s.den) (by omega) (by omega)) ?_
      (refine ew ?_; try with_reducible exact True.intro)
      refine OwnK_got0 (po_ratMake h.d_impl_ratMake (n := q.num * s.num) (d := q.den * s.den) (by omega) (by omega)) (by (refine ew ?_; try with_reducible exact True.intro)) (by (refine ew ?_; try with_reducible exact True.intro)) ?_
      intro v q os g
      have g0 := g
      obtain ⟨a0, d0, _, _, rfl, _, k1, k2⟩ := g.ow.rat_inv
      have B2 := g0.at 2 (by simp) rfl
      have lq : 3 ≤ q.length := by have := g0.len; simp at this; omega
      have la := k1.leaf rfl
      have ld := k2.leaf rfl
      have lfs := And.intro la ld
      have fc := fun b k => cells_agg (cs := [.bool b, a0, d0]) (by simp [la, ld, show ∀ b, V.leaf (.bool b) = true from fun _ => rfl]) k
      (refine ew4 @B2 @lq @lfs @fc ?_; try with_reducible exact True.intro)
      refine ⟨by unfold OkA; decide +kernel, ?_⟩
      (refine ew4 @B2 @lq @lfs @fc ?_; try with_reducible exact True.intro)
      exact g0.finSet (by simp)
theorem po_ratDiv {T : Nat → Option Fn} (h : D_impl_ratDiv T) {a b : Q} (ha : a.ok := by assumption) (hb : b.ok := by assumption) : PO T 156 [ratV (Q.raw a), ratV (Q.raw b)] (ratV (Q.raw (divQ a b))) := by
  cases a with
  | none =>
    refine po_end2 (fun x d => x == 144) h.hT rfl rfl ?_
    dsimp only [F_impl_ratDiv, oN, oS, oG, oK, oA, oH, oV, cI, St.enter, List.length_cons, List.length_nil, Nat.zero_add]
    (refine ew ?_; try with_reducible exact True.intro)
    refine PFK_of (c_goodN h.d_impl_good) ?_
    (refine ew ?_; try with_reducible exact True.intro)
    exact fin_R0
  | some q => cases b with
    | none =>
      refine po_end2 (fun x d => x == 144) h.hT rfl rfl ?_
      dsimp only [F_impl_ratDiv, oN, oS, oG, oK, oA, oH, oV, cI, St.enter, List.length_cons, List.length_nil, Nat.zero_add]
      (refine ew ?_; try with_reducible exact True.intro)
      refine PFK_of (c_goodS h.d_impl_good) ?_
      (refine ew ?_; try with_reducible exact True.intro)
      refine PFK_of (c_goodN h.d_impl_good) ?_
      (refine ew ?_; try with_reducible exact True.intro)
      exact fin_R0
    | some s =>
      obtain ⟨l1, l2⟩ := q_bd ha
      obtain ⟨l3, l4⟩ := q_bd hb
      have e : divQ (some q) (some s) = mkQ (q.num * s.den) (s.num * q.den) := (mkQ_div q s).symm
      rw [e]
      have t1 := ln_imul q.num s.den
      have t2 := ln_imul s.num q.den
      have t3 := ln_imul q.den s.den
      have t5 := ln_imul q.num s.num
      have t4 := ln_iadd (q.num * s.den) (s.num * q.den)
      have n1 : (mk (q.den : Int).natAbs).length ≤ 24 := by rw [Int.natAbs_natCast]; exact l2
      have n2 : (mk (s.den : Int).natAbs).length ≤ 24 := by rw [Int.natAbs_natCast]; exact l4
      refine po_end2 (fun x d => x == 144) h.hT rfl rfl ?_
      dsimp only [F_impl_ratDiv, oN, oS, oG, oK, oA, oH, oV, cI, St.enter, List.length_cons, List.length_nil, Nat.zero_add]
      (refine ew ?_; try with_reducible exact True.intro)
      refine PFK_of (c_goodS h.d_impl_good) ?_
      (refine ew ?_; try with_reducible exact True.intro)
      refine PFK_of (c_goodS h.d_impl_good) ?_
      (refine ew ?_; try with_reducible exact True.intro)
      refine PFK_of (c_denQ h.d_impl_denOf (q := s)) ?_
      (refine ew ?_; try with_reducible exact True.intro)
      refine PFK_of (c_bigMul h.d_impl_bigMul (x := q.num) (y := s.den) (by omega) (by omega)) ?_
      (refine ew ?_; try with_reducible exact True.intro)
      refine PFK_of (c_denQ h.d_impl_denOf (q := q)) ?_
      (refine ew ?_; try with_reducible exact True.intro)
      refine PFK_of (c_bigMul h.d_impl_bigMul (x := s.num) (y := q.den) (by omega) (by omega)) ?_
      (refine ew ?_; try with_reducible exact True.intro)
      refine OwnK_got0 (po_ratMake h.d_impl_ratMake (n := q.num * s.den) (d := s.num * q.den) (by omega) (by omega)) (by (refine ew ?_; try with_reducible exact True.intro)) (by (refine ew ?_; try with_reducible exact True.intro)) ?_
      intro v q os g
      have g0 := g
      obtain ⟨a0, d0, _, _, rfl, _, k1, k2⟩ := g.ow.rat_inv
      have B2 := g0.at 2 (by simp) rfl
      have lq : 3 ≤ q.length := by have := g0.len; simp at this; omega
      have la := k1.leaf rfl
      have ld := k2.leaf rfl
      have lfs := And.intro la ld
      have fc := fun b k => cells_agg (cs := [.bool b, a0, d0]) (by simp [la, ld, show ∀ b, V.leaf (.bool b) = true from fun _ => rfl]) k
      (refine ew4 @B2 @lq @lfs @fc ?_; try with_reducible exact True.intro)
      refine ⟨by unfold OkA; decide +kernel, ?_⟩
      (refine ew4 @B2 @lq @lfs @fc ?_; try with_reducible exact True.intro)
      exact g0.finSet (by simp)
theorem po_ratSub {T : Nat → Option Fn} (h : D_impl_ratSub T) {a b : Q} (ha : a.ok := by assumption) (hb : b.ok := by assumption) : PO T 159 [ratV (Q.raw a), ratV (Q.raw b)] (ratV (Q.raw (subQ a b))) := by
  have hn := negQ_ok hb
  refine po_end2 (fun x d => x == 131) h.hT rfl rfl ?_
  dsimp only [F_impl_ratSub, oN, oS, oG, oK, oA, oH, oV, cI, St.enter, List.length_cons, List.length_nil, Nat.zero_add]
  (refine ew ?_; try with_reducible exact True.intro)
  refine PFK_of (c_ratNeg h.d_impl_ratNeg hb) ?_
  (refine ew ?_; try with_reducible exact True.intro)
  refine OwnK_got0 (po_ratAdd h.d_impl_ratAdd ha hn) (by (refine ew ?_; try with_reducible exact True.intro)) (by (refine ew ?_; try with_reducible exact True.intro)) ?_
  intro v q os g
  have g0 := g
  obtain ⟨a0, d0, _, _, rfl, _, k1, k2⟩ := g.ow.rat_inv
  have B2 := g0.at 2 (by simp) rfl
  have lq : 3 ≤ q.length := by have := g0.len; simp at this; omega
  have la := k1.leaf rfl
  have ld := k2.leaf rfl
  have lfs := And.intro la ld
  have fc := fun b k => cells_agg (cs := [.bool b, a0, d0]) (by simp [la, ld, show ∀ b, V.leaf (.bool b) = true from fun _ => rfl]) k
  (refine ew4 @B2 @lq @lfs @fc ?_; try with_reducible exact True.intro)
  refine ⟨by unfold OkA; decide +kernel, ?_⟩
  (refine ew4 @B2 @lq @lfs @fc ?_; try with_reducible exact True.intro)
  exact g0.finSet (by simp)
end Go.Ml
end
section
set_option linter.unusedSimpArgs false
set_option linter.unusedVariables false
set_option maxRecDepth 100000
set_option maxHeartbeats 8000000
namespace Go.Ml
theorem po_ratAddR {T : Nat → Option Fn} (h : D_impl_ratAdd T) {r s : R} (hr : r.cn := by first | with_reducible assumption | with_reducible exact addR_cn _ _ | with_reducible exact subR_cn _ _ | with_reducible exact mulR_cn _ _ | with_reducible exact divR_cn _ _ | with_reducible exact negR_cn _ | with_reducible exact cn_0 | with_reducible exact intR_cn (by decide)) (hs : s.cn := by first | with_reducible assumption | with_reducible exact addR_cn _ _ | with_reducible exact subR_cn _ _ | with_reducible exact mulR_cn _ _ | with_reducible exact divR_cn _ _ | with_reducible exact negR_cn _ | with_reducible exact cn_0 | with_reducible exact intR_cn (by decide)) : PO T 131 [ratV r, ratV s] (ratV (addR r s)) := by
  have := po_ratAdd h (a := r.q) (b := s.q) (q_ok r) (q_ok s)
  rw [hr, hs] at this; exact this
theorem po_ratSubR {T : Nat → Option Fn} (h : D_impl_ratSub T) {r s : R} (hr : r.cn := by first | with_reducible assumption | with_reducible exact addR_cn _ _ | with_reducible exact subR_cn _ _ | with_reducible exact mulR_cn _ _ | with_reducible exact divR_cn _ _ | with_reducible exact negR_cn _ | with_reducible exact cn_0 | with_reducible exact intR_cn (by decide)) (hs : s.cn := by first | with_reducible assumption | with_reducible exact addR_cn _ _ | with_reducible exact subR_cn _ _ | with_reducible exact mulR_cn _ _ | with_reducible exact divR_cn _ _ | with_reducible exact negR_cn _ | with_reducible exact cn_0 | with_reducible exact intR_cn (by decide)) : PO T 159 [ratV r, ratV s] (ratV (subR r s)) := by
  have := po_ratSub h (a := r.q) (b := s.q) (q_ok r) (q_ok s)
  rw [hr, hs] at this; exact this
theorem po_ratMulR {T : Nat → Option Fn} (h : D_impl_ratMul T) {r s : R} (hr : r.cn := by first | with_reducible assumption | with_reducible exact addR_cn _ _ | with_reducible exact subR_cn _ _ | with_reducible exact mulR_cn _ _ | with_reducible exact divR_cn _ _ | with_reducible exact negR_cn _ | with_reducible exact cn_0 | with_reducible exact intR_cn (by decide)) (hs : s.cn := by first | with_reducible assumption | with_reducible exact addR_cn _ _ | with_reducible exact subR_cn _ _ | with_reducible exact mulR_cn _ _ | with_reducible exact divR_cn _ _ | with_reducible exact negR_cn _ | with_reducible exact cn_0 | with_reducible exact intR_cn (by decide)) : PO T 157 [ratV r, ratV s] (ratV (mulR r s)) := by
  have := po_ratMul h (a := r.q) (b := s.q) (q_ok r) (q_ok s)
  rw [hr, hs] at this; exact this
theorem po_ratDivR {T : Nat → Option Fn} (h : D_impl_ratDiv T) {r s : R} (hr : r.cn := by first | with_reducible assumption | with_reducible exact addR_cn _ _ | with_reducible exact subR_cn _ _ | with_reducible exact mulR_cn _ _ | with_reducible exact divR_cn _ _ | with_reducible exact negR_cn _ | with_reducible exact cn_0 | with_reducible exact intR_cn (by decide)) (hs : s.cn := by first | with_reducible assumption | with_reducible exact addR_cn _ _ | with_reducible exact subR_cn _ _ | with_reducible exact mulR_cn _ _ | with_reducible exact divR_cn _ _ | with_reducible exact negR_cn _ | with_reducible exact cn_0 | with_reducible exact intR_cn (by decide)) : PO T 156 [ratV r, ratV s] (ratV (divR r s)) := by
  have := po_ratDiv h (a := r.q) (b := s.q) (q_ok r) (q_ok s)
  rw [hr, hs] at this; exact this
theorem po_BigIntOf {T : Nat → Option Fn} (h : D_impl_BigIntOf T) {n : Int} (hn : -1000000000000000000 < n ∧ n < 1000000000000000000 := by first | omega | assumption | (simp; omega)) : PO T 54 [iv n] (biV (bi n)) := by
  have hl : (mk n.natAbs).length ≤ 2 := ln_small (by omega)
  by_cases hneg : n < 0
  · have c1 := po_natOfUint h.d_impl_natOfUint (n := -(n + 1) + 1) (by omega)
    rw [show (-(n + 1) + 1).toNat = n.natAbs by omega] at c1
    have e : bi n = ⟨true, mk n.natAbs⟩ := by unfold bi; rw [decide_eq_true hneg]
    rw [e]
    refine po_end2 (fun x d => x == 69 || x == 68) h.hT rfl rfl ?_
    dsimp only [F_impl_BigIntOf, oN, oS, oG, oK, oA, oH, oV, cI, St.enter, List.length_cons, List.length_nil, Nat.zero_add]
    (refine ew ?_; try with_reducible exact True.intro)
    (refine ew1 @hneg ?_; try with_reducible exact True.intro)
    rw [show (0 : Int) - (n + 1) + 1 = -(n + 1) + 1 by omega]
    refine RefK_got c1 (by (refine ew ?_; try with_reducible exact True.intro)) ?_
    intro v q1 o1 g
    have B0 := g.at 0 (by simp) rfl
    have lq : 1 ≤ q1.length := g.len
    have f1 : ∀ o ∈ o1, 1 ≤ o := g.fresh
    have k1 := g.ow
    have n1 := g.nd
    clear g
    (refine ew2 @B0 @lq ?_; try with_reducible exact True.intro)
    rcases k1.ints_inv with ⟨h1, _, _⟩ | ⟨o, rfl, h1, _⟩
    · have := ln_pos.2 (show 0 < n.natAbs by omega)
      rw [h1] at this; simp at this
    refine RefK_big h.d_impl_bigMake (neg := true) h1 (by omega) rfl (by omega) ?_
    intro q3 hold hlen
    replace B0 := (hold 0 (by omega)).trans B0
    have lq3 : 1 ≤ q3.length := by omega
    (refine ew2 @B0 @lq3 ?_; try with_reducible exact True.intro)
    refine fin_of (owV_agg2 (k1.frame fun p hp => ?_)) n1
    have := f1 p hp
    rw [objAt_setne (by omega), hold p (k1.lt p hp)]
  · have c1 := po_natOfUint h.d_impl_natOfUint (n := n) (by omega)
    rw [show n.toNat = n.natAbs by omega] at c1
    have e : bi n = ⟨false, mk n.natAbs⟩ := by unfold bi; rw [decide_eq_false hneg]
    rw [e]
    refine po_end2 (fun x d => x == 69 || x == 68) h.hT rfl rfl ?_
    dsimp only [F_impl_BigIntOf, oN, oS, oG, oK, oA, oH, oV, cI, St.enter, List.length_cons, List.length_nil, Nat.zero_add]
    (refine ew ?_; try with_reducible exact True.intro)
    (refine ew1 @hneg ?_; try with_reducible exact True.intro)
    refine RefK_got c1 (by (refine ew ?_; try with_reducible exact True.intro)) ?_
    intro v q1 o1 g
    have B0 := g.at 0 (by simp) rfl
    have lq : 1 ≤ q1.length := g.len
    have f1 : ∀ o ∈ o1, 1 ≤ o := g.fresh
    have k1 := g.ow
    have n1 := g.nd
    clear g
    (refine ew2 @B0 @lq ?_; try with_reducible exact True.intro)
    by_cases h0 : n.natAbs = 0
    · rw [h0, mk_zero] at k1 ⊢
      refine RefK_big0 h.d_impl_bigMake (neg := false) k1 rfl ?_
      intro q3 hold hlen
      replace B0 := (hold 0 (by omega)).trans B0
      have lq3 : 1 ≤ q3.length := by omega
      (refine ew2 @B0 @lq3 ?_; try with_reducible exact True.intro)
      exact ⟨.agg [.bool false, .sl 1 []], [], laxBi0, owV_agg2 (owV_ints0), .nil⟩
    rcases k1.ints_inv with ⟨h1, _, _⟩ | ⟨o, rfl, h1, _⟩
    · have := ln_pos.2 (show 0 < n.natAbs by omega)
      rw [h1] at this; simp at this
    refine RefK_big h.d_impl_bigMake (neg := false) h1 (by omega) rfl (by omega) ?_
    intro q3 hold hlen
    replace B0 := (hold 0 (by omega)).trans B0
    have lq3 : 1 ≤ q3.length := by omega
    (refine ew2 @B0 @lq3 ?_; try with_reducible exact True.intro)
    refine fin_of (owV_agg2 (k1.frame fun p hp => ?_)) n1
    have := f1 p hp
    rw [objAt_setne (by omega), hold p (k1.lt p hp)]
theorem po_RatFromInt {T : Nat → Option Fn} (h : D_impl_RatFromInt T) {n : Int} (hn : -1000000000000000000 < n ∧ n < 1000000000000000000 := by first | omega | assumption | (simp; omega)) : PO T 39 [iv n] (ratV (intR n)) := by
  rw [intR_raw]
  refine po_end2 (fun x d => x == 54) h.hT rfl rfl ?_
  dsimp only [F_impl_RatFromInt, oN, oS, oG, oK, oA, oH, oV, cI, St.enter, List.length_cons, List.length_nil, Nat.zero_add]
  (refine ew ?_; try with_reducible exact True.intro)
  refine RefK_got (po_BigIntOf h.d_impl_BigIntOf hn) (by (refine ew ?_; try with_reducible exact True.intro)) ?_
  intro v q1 o1 g
  obtain ⟨v1, rfl, k1⟩ := g.ow.bi_inv
  have B0 := g.at 0 (by simp) rfl
  have B1 := g.at 1 (by simp) rfl
  have lq : 2 ≤ q1.length := g.len
  have f1 : ∀ o ∈ o1, 2 ≤ o := g.fresh
  have n1 := g.nd
  have la := k1.leaf rfl
  have fc := fun b k => cells_agg (cs := [.bool b, v1]) (by simp [la, show ∀ b, V.leaf (.bool b) = true from fun _ => rfl]) k
  clear g
  (refine ew5 @B0 @B1 @lq @la @fc ?_; try with_reducible exact True.intro)
  refine fin_of (owV_rat (o1 := o1) (o2 := [1]) (k1.frame fun p hp => ?_) (owV_ints (l := [1]) ?_)) ?_
  · have := f1 p hp
    rw [objAt_setne (by omega), objAt_setne (by omega)]
  · rw [objAt_setne (by omega), objAt_seteq (by omega)]; rfl
  · rw [List.nodup_append]
    refine ⟨n1, by simp, fun a ha b hb e => ?_⟩
    have := f1 a ha
    simp at hb
    omega
end Go.Ml
end
section
set_option linter.unusedSimpArgs false
set_option linter.unusedVariables false
set_option maxRecDepth 100000
set_option maxHeartbeats 8000000
namespace Go.Ml
section
variable {s s1 σ2 : Store} {a b ta tb rs trs : List V} {os os2 : List Nat} {L : List (Nat × Obj)}
end
theorem Ep.sub {s : Store} {cs ts : List V} {os : List Nat} {L L' : List (Nat × Obj)} (E : Ep s cs ts os L) (h : ∀ q ∈ L', q ∈ L) : Ep s cs ts os L' := ⟨E.c, fun q hq => E.l q (h q hq)⟩
end Go.Ml
end
section
set_option linter.unusedSimpArgs false
set_option linter.unusedVariables false
namespace Go.Ml
section
variable {s s1 S σ2 : Store} {a b c ta tb tc rs trs cs ts : List V} {os os2 : List Nat} {L L' : List (Nat × Obj)}
theorem Ep.to (E : Ep s cs ts os L) (ho : ∀ o ∈ os, objAt S o = objAt s o) (hL : ∀ q ∈ L', (q ∈ L ∧ objAt S q.1 = objAt s q.1) ∨ (objAt S q.1 = some q.2 ∧ q.1 ∉ os)) : Ep S cs ts os L' := by
  refine ⟨E.c.frame ho, fun q hq => ?_⟩
  rcases hL q hq with ⟨h1, h2⟩ | h
  · exact ⟨h2.trans (E.l q h1).1, (E.l q h1).2⟩
  · exact h
theorem Ep.oslt (E : Ep s cs ts os L) : ∀ o ∈ os, o < s.length := fun o h => E.c.lt o h
theorem Ep.renewM (E : Ep s (a ++ (b ++ c)) (ta ++ (tb ++ tc)) os L) (hla : a.length = ta.length) (hlb : b.length = tb.length) (h1 : ∀ o, o < s.length → objAt s1 o = objAt s o) (hl : s.length ≤ s1.length) (ho : OwL σ2 rs trs os2) (hn : os2.Nodup) (hf : ∀ o ∈ os2, s1.length ≤ o)
    (old : ∀ o, o < s1.length → objAt σ2 o = objAt s1 o) : ∃ os', Ep σ2 (a ++ (rs ++ c)) (ta ++ (trs ++ tc)) os' L ∧ ∀ o ∈ os', o ∈ os ∨ s1.length ≤ o := by
  obtain ⟨a1, a2, oa, obc, e, rfl, k1, k2⟩ := owL_split E.c.ow
  obtain ⟨rfl, rfl⟩ := List.append_inj e (by rw [hla]; exact k1.len.symm)
  obtain ⟨b1, b2, ob, oc, e, rfl, k3, k4⟩ := owL_split k2
  obtain ⟨rfl, rfl⟩ := List.append_inj e (by rw [hlb]; exact k3.len.symm)
  have hlt := fun o (h : o ∈ oa ++ (ob ++ oc)) => E.c.lt o h
  have nd := List.nodup_append.1 E.c.nd
  have nd2 := List.nodup_append.1 nd.2.1
  have fr : ∀ o ∈ oa ++ (ob ++ oc), objAt σ2 o = objAt s o := fun o h => by
    have := hlt o h
    rw [old o (by omega), h1 o this]
  refine ⟨oa ++ (os2 ++ oc), ⟨⟨owL_append (k1.frame fun o h => fr o (by simp [h])) (owL_append ho (k4.frame fun o h => fr o (by simp [h]))), ?_⟩, fun q hq => ⟨(old _ (Nat.lt_of_lt_of_le (E.lt q hq) hl)).trans ((h1 _ (E.lt q hq)).trans (E.l q hq).1), fun hm => ?_⟩⟩, fun o h => ?_⟩
  · rw [List.nodup_append, List.nodup_append]
    refine ⟨nd.1, ⟨hn, nd2.2.1, fun x hx y hy e => ?_⟩, fun x hx y hy e => ?_⟩
    · have := hf x hx
      have := hlt y (by simp [hy])
      omega
    · rcases List.mem_append.1 hy with hy | hy
      · have := hf y hy
        have := hlt x (by simp [hx])
        omega
      · exact nd.2.2 x hx y (List.mem_append_right _ hy) e
  · simp only [List.mem_append] at hm
    rcases hm with hm | hm | hm
    · exact (E.l q hq).2 (by simp [hm])
    · have := hf _ hm; have := E.lt q hq; omega
    · exact (E.l q hq).2 (by simp [hm])
  · simp only [List.mem_append] at h
    rcases h with h | h | h
    · exact .inl (by simp [h])
    · exact .inr (hf o h)
    · exact .inl (by simp [h])
theorem Ep.upd {p : Nat} {ob ob0 : Obj} (E : Ep s (a ++ (b ++ c)) (ta ++ (tb ++ tc)) os L) (hp : (p, ob0) ∈ L) (hla : a.length = ta.length) (hlb : b.length = tb.length) (h1 : ∀ o, o < s.length → objAt s1 o = objAt s o) (hl : s.length ≤ s1.length) (ho : OwL σ2 rs trs os2) (hn : os2.Nodup) (hf : ∀ o ∈ os2, s1.length ≤ o)
    (old : ∀ o, o < s1.length → objAt σ2 o = objAt s1 o) (hL : ∀ q ∈ L', (q.1 ≠ p ∧ q ∈ L) ∨ q = (p, ob)) (hs : s1.length ≤ σ2.length) : ∃ os', Ep (σ2.set p (some ob)) (a ++ (rs ++ c)) (ta ++ (trs ++ tc)) os' L' := by
  obtain ⟨os', E2, _⟩ := E.renewM hla hlb h1 hl ho hn hf old
  have hpl := E.lt _ hp
  exact ⟨os', E2.reloc (E2.l _ hp).2 (by dsimp only at hpl; omega) hL⟩
theorem Ep.cut (E : Ep s (a ++ (b ++ c)) (ta ++ (tb ++ tc)) os L) (hla : a.length = ta.length) (hlb : b.length = tb.length) : ∃ os', Ep s (a ++ c) (ta ++ tc) os' L ∧ ∀ o ∈ os', o ∈ os := by
  obtain ⟨a1, a2, oa, obc, e, rfl, k1, k2⟩ := owL_split E.c.ow
  obtain ⟨rfl, rfl⟩ := List.append_inj e (by rw [hla]; exact k1.len.symm)
  obtain ⟨b1, b2, ob, oc, e, rfl, k3, k4⟩ := owL_split k2
  obtain ⟨rfl, rfl⟩ := List.append_inj e (by rw [hlb]; exact k3.len.symm)
  have nd := List.nodup_append.1 E.c.nd
  have nd2 := List.nodup_append.1 nd.2.1
  refine ⟨oa ++ oc, ⟨⟨owL_append k1 k4, ?_⟩, fun q hq => ⟨(E.l q hq).1, fun hm => (E.l q hq).2 ?_⟩⟩, fun o h => ?_⟩
  · rw [List.nodup_append]
    exact ⟨nd.1, nd2.2.1, fun x hx y hy e => nd.2.2 x hx y (List.mem_append_right _ hy) e⟩
  · rcases List.mem_append.1 hm with h | h <;> simp [h]
  · rcases List.mem_append.1 h with h | h <;> simp [h]
theorem Ep.swap (E : Ep s (a ++ (b ++ c)) (ta ++ (tb ++ tc)) os L) (hla : a.length = ta.length) (hlb : b.length = tb.length) : ∃ os', Ep s (b ++ (a ++ c)) (tb ++ (ta ++ tc)) os' L ∧ ∀ o, o ∈ os' ↔ o ∈ os := by
  obtain ⟨a1, a2, oa, obc, e, rfl, k1, k2⟩ := owL_split E.c.ow
  obtain ⟨rfl, rfl⟩ := List.append_inj e (by rw [hla]; exact k1.len.symm)
  obtain ⟨b1, b2, ob, oc, e, rfl, k3, k4⟩ := owL_split k2
  obtain ⟨rfl, rfl⟩ := List.append_inj e (by rw [hlb]; exact k3.len.symm)
  have nd := List.nodup_append.1 E.c.nd
  have nd2 := List.nodup_append.1 nd.2.1
  have hm : ∀ o, o ∈ ob ++ (oa ++ oc) ↔ o ∈ oa ++ (ob ++ oc) := fun o => by simp only [List.mem_append]; constructor <;> rintro (h | h | h) <;> simp [h]
  refine ⟨ob ++ (oa ++ oc), ⟨⟨owL_append k3 (owL_append k1 k4), ?_⟩, fun q hq => ⟨(E.l q hq).1, fun h => (E.l q hq).2 ((hm _).1 h)⟩⟩, hm⟩
  rw [List.nodup_append, List.nodup_append]
  refine ⟨nd2.1, ⟨nd.1, nd2.2.1, fun x hx y hy e => nd.2.2 x hx y (List.mem_append_right _ hy) e⟩, fun x hx y hy e => ?_⟩
  rcases List.mem_append.1 hy with hy | hy
  · exact nd.2.2 y hy x (List.mem_append_left _ hx) e.symm
  · exact nd2.2.2 x hx y hy e
end
theorem owR_flat {σ : Store} {k : Nat} : ∀ {A T : List (List V)} {os : List Nat}, (∀ r ∈ A, r.length = k) → (∀ r ∈ T, r.length = k) → A.length = T.length → OwL σ A.flatten T.flatten os → OwR σ A T os
  | [], [], os, _, _, _, h => by
    simp only [List.flatten_nil, OwL] at h
    simp only [OwR]; exact h
  | [], t :: T, _, _, _, h, _ => by simp at h
  | a :: A, [], _, _, _, h, _ => by simp at h
  | a :: A, t :: T, os, ha, ht, hl, h => by
    simp only [List.flatten_cons] at h
    obtain ⟨v1, v2, o1, o2, e, rfl, h1, h2⟩ := owL_split h
    have hlen := h1.len
    have e1 := ha a (by simp)
    have e2 := ht t (by simp)
    obtain ⟨rfl, rfl⟩ := List.append_inj e (by omega)
    simp only [OwR]
    exact ⟨a, A, o1, o2, rfl, rfl, h1, owR_flat (fun r hr => ha r (by simp [hr])) (fun r hr => ht r (by simp [hr])) (by simpa using hl) h2⟩
section
variable {s : Store} {A T : List (List V)} {a c ta tc : List V} {os : List Nat} {L : List (Nat × Obj)} {n p k : Nat}
theorem Ep.close (E : Ep s (A.flatten ++ c) (T.flatten ++ tc) os L) (hp : (p, ⟨n, A⟩) ∈ L) (ha : ∀ r ∈ A, r.length = k) (ht : ∀ r ∈ T, r.length = k) (hl : A.length = T.length) :
    ∃ os', Ep s (.msl p 0 A.length :: c) (.sl n T :: tc) os' (L.filter fun q => q.1 != p) := by
  have hfl : A.flatten.length = T.flatten.length := by
    have e1 : ∀ (X : List (List V)), (∀ r ∈ X, r.length = k) → X.flatten.length = X.length * k := fun X => by
      induction X with
      | nil => intro _; simp
      | cons x X ih =>
        intro h
        rw [List.flatten_cons, List.length_append, ih fun r hr => h r (by simp [hr]), h x (by simp), List.length_cons, Nat.succ_mul]
        omega
    rw [e1 A ha, e1 T ht, hl]
  obtain ⟨v1, v2, o1, o2, e, rfl, h1, h2⟩ := owL_split E.c.ow
  obtain ⟨rfl, rfl⟩ := List.append_inj e (by rw [hfl]; exact h1.len.symm)
  have hR := owR_flat ha ht hl h1
  have hpo := E.l _ hp
  have nd := List.nodup_append.1 E.c.nd
  have hv : OwV s (.msl p 0 A.length) (.sl n T) (p :: o1) := by
    simp only [OwV]
    exact .inr ⟨p, A, o1, by rw [hl], hpo.1, rfl, hR⟩
  refine ⟨(p :: o1) ++ o2, ⟨⟨owL_v hv h2, ?_⟩, fun q hq => ?_⟩⟩
  · simp only [List.cons_append, List.nodup_cons]
    exact ⟨hpo.2, E.c.nd⟩
  · obtain ⟨hq1, hq2⟩ := List.mem_filter.1 hq
    have hne : q.1 ≠ p := by simpa using hq2
    refine ⟨(E.l q hq1).1, fun hm => ?_⟩
    simp only [List.cons_append, List.mem_cons] at hm
    rcases hm with hm | hm
    · exact hne hm
    · exact (E.l q hq1).2 hm
theorem Ep.listRes (E : Ep s (A.flatten ++ c) (T.flatten ++ tc) os L) (hp : (p, ⟨n, A⟩) ∈ L) (ha : ∀ r ∈ A, r.length = k) (ht : ∀ r ∈ T, r.length = k) (hl : A.length = T.length) (m : Nat) (hd : DepLe m (.sl n T)) : resolve s m (.msl p 0 A.length) = some (.sl n T) := by
  obtain ⟨os', E2⟩ := E.close hp ha ht hl
  obtain ⟨v, vs, o1, o2, e, _, h1, h2⟩ := E2.c.ow.inv
  simp only [List.cons.injEq] at e
  obtain ⟨rfl, rfl⟩ := e
  exact ow_res m h1 hd
end
end Go.Ml
end
section
set_option linter.unusedSimpArgs false
set_option linter.unusedVariables false
set_option maxRecDepth 100000
set_option maxHeartbeats 8000000
namespace Go.Ml
def F_impl_goodRow : Fn := ⟨1, 15, [.tmp 2], (.seq (.reg false 0 [oN 2 (.mov (.c (.bool false)))]) (.seq (.seq (.reg false 0 [oN 5 (oV 0), oN 6 (.len (.t 5)), oN 7 (.mov (cI 0))]) (.block 0 (.loop (.seq (.reg false 0 [oN 8 (.bin .lss (.t 7) (.t 6))]) (.seq (.cond (.t 8) .skip (.exit 0)) (.seq (.block 1 (.seq (.reg false 1 [oK 9 1 (.idx 3 (.t 5) (.t 7)), oK 10 1 (.load 3 true (.t 9)), oN 4 (.alloc [.bool false, .nils, .nils]), ⟨none, none, 1, .store 3 (.t 4) (.t 10), []⟩]) (.seq (.reg false 0 [oN 11 (.load 3 true (.t 4)), oN 12 (.call 132 [(.t 11)]), oN 13 (.un .not (.t 12))]) (.cond (.t 13) (.seq (.reg false 0 [oN 2 (.mov (.c (.bool false)))]) .ret) .skip)))) (.reg false 0 [oN 14 (.bin .add (.t 7) (cI 1)), oN 7 (oV 14)]))))))) (.seq (.reg false 0 [oN 2 (.mov (.c (.bool true)))]) .ret)))⟩
structure D_impl_goodRow (T : Nat → Option Fn) : Prop where
  hT : T 244 = some F_impl_goodRow
  d_impl_good : D_impl_good T
theorem rs_wf {l : List R} (h : ∀ r ∈ l, r.cn) (hl : l.length ≤ 100) : wfL R.wf l := ⟨by omega, fun x hx => cn_wf (h x hx)⟩
theorem c_goodRow {T : Nat → Option Fn} (h : D_impl_goodRow T) {l : List R} (hc : ∀ r ∈ l, r.cn) (hl : l.length ≤ 1048576) : PF T 244 [ratsV l] (.bool (l.all R.ok)) := by
  refine pf_end (fun _ _ => false) h.hT rfl rfl ?_
  dsimp only [F_impl_goodRow, oN, oS, oG, oK, oA, oH, oV, cI]
  (refine ev ?_; try with_reducible exact True.intro)
  refine loop_at (fun _ _ => false) (α := Nat) (fun i => ⟨argE [ratsV l, .any, .any, .any, .any, ratsV l, iv (l.length : Nat), iv (i : Nat)], [], 0, 0, [], []⟩) (fun i => i ≤ l.length ∧ ∀ k, k < i → (l.getD k default).ok = true) (fun i => l.length - i) rfl 0 ?_ ?_ ?_
  · exact ⟨by omega, by intro k hk; omega⟩
  · (refine Fg_env ?_) <;> (try (refine ev ?_; try with_reducible exact True.intro)) <;> (repeat' (first | refine ⟨?_, ?_⟩ | exact EvV_int (by omega) | exact EvV_of (by simp) | exact EvV_nil _))
  · rintro i ⟨hi, hg⟩
    by_cases hcc : (i : Int) < (l.length : Nat)
    · have hil : i < l.length := by omega
      have hmx : (l.map R.cells).getD i [] = (l.getD i default).cells := mg hil
      have hmem := getD_mem (l := l) hil
      have hgs : (l.getD i default).ok = true → ∀ k, k < i + 1 → (l.getD k default).ok = true := fun h k hk => by
        by_cases e : k = i
        · subst e; exact h
        · exact hg k (by omega)
      generalize l.getD i default = x at hmx hmem hgs
      have cg := c_goodR h.d_impl_good (hc x hmem)
      cases hx : x.ok
      · have ha : l.all R.ok = false := List.all_eq_false.2 ⟨x, hmem, by rw [hx]; simp⟩
        rw [hx] at cg
        rw [ha]
        (refine ev2 @hcc @hmx ?_; try with_reducible exact True.intro)
        refine PFK_of cg ?_
        (refine ev ?_; try with_reducible exact True.intro)
      · rw [hx] at cg
        (refine ev2 @hcc @hmx ?_; try with_reducible exact True.intro)
        refine PFK_of cg ?_
        (refine ev ?_; try with_reducible exact True.intro)
        exact ⟨i + 1, by omega, ⟨by omega, hgs hx⟩, by (refine Fg_re [] (by simp) (by intro p hp; cases hp) rfl ?_) <;> (try (refine ev ?_; try with_reducible exact True.intro)) <;> (repeat' (first | exact True.intro | omega | exact CanE_ptr rfl (by simp) | refine ⟨?_, ?_⟩ | exact of_eq_true (CanE_nil _ _ _) | exact CanE_of rfl (by simp; done) | exact CanE_of rfl rfl | (refine CanE_msl rfl ?_ rfl; simp [irows]; done) | (refine CanE_msl rfl ?_ rfl; simp [irows]; omega) | (refine CanE_frz ?_ ?_; (focus ((refine ev ?_; try with_reducible exact True.intro); done)); (intro q hq k s0 l0; simp; done))))⟩
    · have ha : l.all R.ok = true := List.all_eq_true.2 fun x hx => by
        obtain ⟨k, hk⟩ := List.mem_iff_getElem?.1 hx
        have := hg k (by have := (List.getElem?_eq_some_iff.1 hk).1; omega)
        rw [List.getD_eq_getElem?_getD, hk] at this
        exact this
      rw [ha]
      (refine ev1 @hcc ?_; try with_reducible exact True.intro)
end Go.Ml
end
section
set_option linter.unusedSimpArgs false
set_option linter.unusedVariables false
set_option maxRecDepth 100000
set_option maxHeartbeats 8000000
namespace Go.Ml
def rT (l : List R) : List V := (l.map R.cells).flatten
theorem rT_app (l : List R) (r : R) : rT (l ++ [r]) = rT l ++ r.cells := by simp [rT]
theorem flat3 : ∀ {A : List (List V)}, (∀ r ∈ A, r.length = 3) → A.flatten.length = 3 * A.length
  | [], _ => rfl
  | a :: A, h => by
    rw [List.flatten_cons, List.length_append, flat3 fun r hr => h r (by simp [hr]), h a (by simp), List.length_cons]; omega
theorem rT_len (l : List R) : (rT l).length = 3 * l.length := by
  unfold rT
  rw [flat3 (fun r hr => by obtain ⟨x, _, rfl⟩ := List.mem_map.1 hr; rfl), List.length_map]
end Go.Ml
end
section
set_option linter.unusedSimpArgs false
set_option linter.unusedVariables false
set_option maxRecDepth 100000
set_option maxHeartbeats 8000000
namespace Go.Ml
def Rd2 (s : Store) (v w : V) (X Y : List R) : Prop :=
  (X = [] ∧ Y = [] ∧ v = .nils ∧ w = .nils) ∨ ∃ p q, p ≠ q ∧ v = .msl p 0 X.length ∧ w = .msl q 0 Y.length ∧ objAt s p = some ⟨3, X.map R.cells⟩ ∧ objAt s q = some ⟨3, Y.map R.cells⟩
theorem Rd2.fr {s s2 : Store} {v w : V} {X Y : List R} (h : Rd2 s v w X Y) (hf : ∀ p, p < s.length → objAt s2 p = objAt s p) : Rd2 s2 v w X Y := by
  rcases h with h | ⟨p, q, h1, h2, h3, h4, h5⟩
  · exact .inl h
  · exact .inr ⟨p, q, h1, h2, h3, (hf p (objAt_lt h4)).trans h4, (hf q (objAt_lt h5)).trans h5⟩
end Go.Ml
end
section
set_option linter.unusedSimpArgs false
set_option linter.unusedVariables false
set_option maxRecDepth 100000
set_option maxHeartbeats 8000000
namespace Go.Ml
def F_impl_MultiplyMatrices : Fn := ⟨2, 77, [.tmp 4], (.seq (.reg false 0 [oN 4 (.mov (.c (.nils)))]) (.seq (.reg false 0 [oN 12 (oV 0), oN 13 (.len (.t 12)), oN 5 (oV 13)]) (.seq (.seq (.reg false 0 [oN 14 (oV 1), oN 15 (.len (.t 14)), oN 16 (oV 5), oN 17 (.bin .neq (.t 15) (.t 16)), oN 18 (oV 17), oG 18 false 19 (oV 0), oG 18 false 20 (oV 5), oG 18 false 21 (.call 93 [(.t 19), (.t 20)]), oG 18 false 22 (.un .not (.t 21)), oN 23 (.pick (.t 18) (.c (.bool true)) (.t 22)), oN 24 (oV 23), oG 24 false 25 (oV 1), oG 24 false 26 (oV 5), oG 24 false 27 (.call 93 [(.t 25), (.t 26)]), oG 24 false 28 (.un .not (.t 27)), oN 29 (.pick (.t 24) (.c (.bool true)) (.t 28))]) (.cond (.t 29) (.seq (.reg false 0 [oN 4 (.mov (.c (.nils)))]) .ret) .skip)) (.seq (.reg false 1 [oN 30 (.mkSl 1 [.nils] 0 []), oK 6 1 (oV 30)]) (.seq (.seq (.reg false 0 [oN 7 (.mov (cI 0))]) (.block 0 (.loop (.seq (.seq (.reg false 0 [oN 31 (oV 7), oN 32 (oV 5), oN 33 (.bin .lss (.t 31) (.t 32))]) (.cond (.t 33) .skip (.exit 0))) (.seq (.block 1 (.seq (.reg false 1 [oN 36 (.mkSl 3 [.bool false, .nils, .nils] 0 []), oK 8 1 (oV 36)]) (.seq (.seq (.reg false 0 [oN 9 (.mov (cI 0))]) (.block 2 (.loop (.seq (.seq (.reg false 0 [oN 37 (oV 9), oN 38 (oV 5), oN 39 (.bin .lss (.t 37) (.t 38))]) (.cond (.t 39) .skip (.exit 2))) (.seq (.block 3 (.seq (.reg false 1 [oK 42 1 (.call 39 [(cI 0)]), oN 10 (.alloc [.bool false, .nils, .nils]), ⟨none, none, 1, .store 3 (.t 10) (.t 42), []⟩]) (.seq (.seq (.reg false 0 [oN 11 (.mov (cI 0))]) (.block 4 (.loop (.seq (.seq (.reg false 0 [oN 43 (oV 11), oN 44 (oV 5), oN 45 (.bin .lss (.t 43) (.t 44))]) (.cond (.t 45) .skip (.exit 4))) (.seq (.block 5 (.reg true 0 [oN 48 (.load 3 true (.t 10)), oN 49 (oV 0), oN 50 (oV 7), oA 51 0 (.idx 1 (.t 49) (.t 50)) [1, 2], oA 52 0 (.load 1 false (.t 51)) [3], oN 53 (oV 11), oA 54 0 (.idx 3 (.t 52) (.t 53)) [4, 5], oA 55 0 (.load 3 true (.t 54)) [6], oN 56 (oV 1), oN 57 (oV 11), oA 58 0 (.idx 1 (.t 56) (.t 57)) [8, 9], oA 59 0 (.load 1 false (.t 58)) [10], oN 60 (oV 9), oA 61 0 (.idx 3 (.t 59) (.t 60)) [11, 12], oA 62 0 (.load 3 true (.t 61)) [13], oA 63 0 (.call 157 [(.t 55), (.t 62)]) [7, 14], oA 64 0 (.call 131 [(.t 48), (.t 63)]) [0, 15, 15], ⟨none, none, 0, .store 3 (.t 10) (.t 64), [16, 16, 0, 1, 2, 3, 4, 5, 6, 7, 8, 9, 10, 11, 12, 13, 14, 15, 16]⟩])) (.reg false 0 [oN 46 (oV 11), oN 47 (.bin .add (.t 46) (cI 1)), oN 11 (oV 47)])))))) (.reg false 2 [oK 65 2 (oV 8), oK 66 2 (.load 3 true (.t 10)), oN 67 (.mkSl 3 [.bool false, .nils, .nils] 1 [(0, (.t 66))]), oK 68 1 (.app 3 56 (.t 65) (.t 67)), oK 8 2 (oV 68)])))) (.reg false 0 [oN 40 (oV 9), oN 41 (.bin .add (.t 40) (cI 1)), oN 9 (oV 41)])))))) (.seq (.seq (.reg false 0 [oN 69 (oV 8), oN 70 (.call 244 [(.t 69)]), oN 71 (.un .not (.t 70))]) (.cond (.t 71) (.seq (.reg false 0 [oN 4 (.mov (.c (.nils)))]) .ret) .skip)) (.reg false 2 [oK 72 2 (oV 6), oK 73 2 (oV 8), oN 74 (.mkSl 1 [.nils] 1 [(0, (.t 73))]), oK 75 1 (.app 1 24 (.t 72) (.t 74)), oK 6 2 (oV 75)]))))) (.reg false 0 [oN 34 (oV 7), oN 35 (.bin .add (.t 34) (cI 1)), oN 7 (oV 35)])))))) (.seq (.reg false 0 [oN 76 (oV 6), oN 4 (oV 76)]) .ret))))))⟩
structure D_impl_MultiplyMatrices (T : Nat → Option Fn) : Prop where
  hT : T 233 = some F_impl_MultiplyMatrices
  d_impl_RatFromInt : D_impl_RatFromInt T
  d_impl_IsMatrix : D_impl_IsMatrix T
  d_impl_ratAdd : D_impl_ratAdd T
  d_impl_ratMul : D_impl_ratMul T
  d_impl_goodRow : D_impl_goodRow T
theorem matOk_row {m : List (List R)} {cols : Int} (h : matOk m cols = true) : (∀ i, i < m.length → ((m.getD i default).length : Int) = cols ∧ ∀ j, j < (m.getD i default).length → ((m.getD i default).getD j default).ok = true) ∧ m.length ≤ 10 := by
  unfold matOk at h
  simp only [Bool.and_eq_true, decide_eq_true_eq] at h
  refine ⟨fun i hi => ?_, h.2⟩
  have := allB_iff.1 h.1 i hi
  unfold matAt at this
  simp only [Bool.and_eq_true, decide_eq_true_eq] at this
  exact ⟨this.1, allB_iff.1 this.2⟩
abbrev mEl (m : List (List R)) (i j : Nat) : R := (m.getD i default).getD j default
theorem mEl_cn {m : List (List R)} {cols : Int} (h : matOk m cols = true) (i j : Nat) : (mEl m i j).cn := by
  obtain ⟨h1, _⟩ := matOk_row h
  unfold mEl
  have hd : (default : R).cn := cn_0
  rcases Nat.lt_or_ge i m.length with hi | hi
  · rcases Nat.lt_or_ge j (m.getD i default).length with hj | hj
    · exact cn_ok ((h1 i hi).2 j hj)
    · rw [List.getD_eq_getElem?_getD (l := m.getD i default), List.getElem?_eq_none hj]; exact hd
  · rw [List.getD_eq_getElem?_getD (l := m), List.getElem?_eq_none hi]
    show (([] : List R).getD j default).cn
    exact hd
def mmE (a b : List (List R)) (i j : Nat) : Nat → R
  | 0 => intR 0
  | k + 1 => addR (mmE a b i j k) (mulR (mEl a i k) (mEl b k j))
theorem mmE_cn (a b : List (List R)) (i j : Nat) : ∀ k, (mmE a b i j k).cn
  | 0 => intR_cn (by decide)
  | k + 1 => addR_cn _ _
def mmRow (a b : List (List R)) (n i m : Nat) : List R := (List.range m).map fun j => mmE a b i j n
def mmM (a b : List (List R)) (n m : Nat) : List (List R) := (List.range m).map fun i => mmRow a b n i n
theorem mmRow_s (a b : List (List R)) (n i m : Nat) : mmRow a b n i (m + 1) = mmRow a b n i m ++ [mmE a b i m n] := by unfold mmRow; rw [List.range_succ, List.map_append]; rfl
theorem mmM_s (a b : List (List R)) (n m : Nat) : mmM a b n (m + 1) = mmM a b n m ++ [mmRow a b n m n] := by unfold mmM; rw [List.range_succ, List.map_append]; rfl
theorem mmRow_len (a b : List (List R)) (n i m : Nat) : (mmRow a b n i m).length = m := by unfold mmRow; simp
theorem mmM_len (a b : List (List R)) (n m : Nat) : (mmM a b n m).length = m := by unfold mmM; simp
theorem mmRow_cn (a b : List (List R)) (n i m : Nat) : ∀ r ∈ mmRow a b n i m, r.cn := fun r hr => by
  obtain ⟨j, _, rfl⟩ := List.mem_map.1 hr; exact mmE_cn _ _ _ _ _
def mmC (a b : List (List R)) : Bool := matOk a a.length && matOk b a.length && decide (b.length = a.length)
def mmG (a b : List (List R)) : Bool := mmC a b && (mmM a b a.length a.length).all fun r => r.all R.ok
def mmV (a b : List (List R)) : List (List R) := if mmG a b = true then mmM a b a.length a.length else []
theorem mmV_bad {a b : List (List R)} (h : mmG a b = false) : mmV a b = [] := by unfold mmV; rw [h]; rfl
theorem mmV_good {a b : List (List R)} (h : mmG a b = true) : mmV a b = mmM a b a.length a.length := if_pos h
theorem mmG_c {a b : List (List R)} (h : mmC a b = false) : mmG a b = false := by unfold mmG; rw [h]; rfl
theorem mmC_len {a b : List (List R)} (h : mmC a b = true) : a.length ≤ 10 ∧ b.length = a.length ∧ matOk a a.length = true ∧ matOk b a.length = true := by
  unfold mmC at h
  simp only [Bool.and_eq_true, decide_eq_true_eq] at h
  exact ⟨(matOk_row h.1.1).2, h.2, h.1.1, h.1.2⟩
theorem mmG_row {a b : List (List R)} {i : Nat} (hi : i < a.length) (h : (mmRow a b a.length i a.length).all R.ok = false) : mmG a b = false := by
  unfold mmG
  rw [List.all_eq_false.2 ⟨mmRow a b a.length i a.length, by unfold mmM; exact List.mem_map.2 ⟨i, List.mem_range.2 hi, rfl⟩, by rw [h]; simp⟩, Bool.and_false]
theorem mmG_all {a b : List (List R)} (hc : mmC a b = true) (h : ∀ i, i < a.length → (mmRow a b a.length i a.length).all R.ok = true) : mmG a b = true := by
  unfold mmG
  rw [hc, Bool.true_and, List.all_eq_true]
  intro r hr
  obtain ⟨i, hi, rfl⟩ := List.mem_map.1 hr
  exact h i (List.mem_range.1 hi)
theorem mat_ok {m : List (List R)} {n : Nat} (h : ∀ r ∈ m, (∀ x ∈ r, x.cn) ∧ r.length ≤ n) (hn : n ≤ 20) (hl : m.length ≤ 10) : szL (szL R.sz) m ≤ 100000 ∧ wfL (wfL R.wf) m := by
  refine ⟨?_, by omega, fun r hr => rs_wf (h r hr).1 (by have := (h r hr).2; omega)⟩
  have := szL_bd (f := szL R.sz) (k := 1000) (l := m) fun r hr => by
    have h1 := szL_bd (f := R.sz) (k := 48) (l := r) fun x hx => by have := cn_len ((h r hr).1 x hx); unfold R.sz; omega
    have h2 := (h r hr).2
    have : r.length * 49 ≤ 20 * 49 := Nat.mul_le_mul_right _ (by omega)
    omega
  have : m.length * 1001 ≤ 10 * 1001 := Nat.mul_le_mul_right _ hl
  omega
theorem mmV_ok (a b : List (List R)) : szL (szL R.sz) (mmV a b) ≤ 100000 ∧ wfL (wfL R.wf) (mmV a b) := by
  cases h : mmG a b
  · rw [mmV_bad h]; exact ⟨by simp [szL], by simp [wfL]⟩
  · rw [mmV_good h]
    have hc : mmC a b = true := by
      cases hc : mmC a b
      · rw [mmG_c hc] at h; cases h
      · rfl
    have hl := (mmC_len hc).1
    refine mat_ok (n := 10) (fun r hr => ?_) (by omega) (by rw [mmM_len]; exact hl)
    obtain ⟨i, _, rfl⟩ := List.mem_map.1 hr
    exact ⟨mmRow_cn _ _ _ _ _, by rw [mmRow_len]; exact hl⟩
end Go.Ml
end
section
set_option linter.unusedSimpArgs false
set_option linter.unusedVariables false
set_option maxRecDepth 100000
set_option maxHeartbeats 8000000
namespace Go.Ml
def LAt (n : Nat) (v : V) (A : List (List V)) (M : List (Nat × Obj)) : Prop := (A = [] ∧ v = .nils ∧ M = []) ∨ ∃ p, v = .msl p 0 A.length ∧ M = [(p, ⟨n, A⟩)]
def tO (l : List (List R)) : List V := (l.map fun r => [ratsV r]).flatten
theorem tO_app (l : List (List R)) (r : List R) : tO (l ++ [r]) = tO l ++ [ratsV r] := by simp [tO]
theorem flat1k : ∀ {A : List (List V)}, (∀ r ∈ A, r.length = 1) → A.flatten.length = A.length
  | [], _ => rfl
  | a :: A, h => by
    rw [List.flatten_cons, List.length_append, flat1k fun r hr => h r (by simp [hr]), h a (by simp), List.length_cons]; omega
theorem tO_len (l : List (List R)) : (tO l).length = l.length := by
  unfold tO
  rw [flat1k (fun r hr => by obtain ⟨x, _, rfl⟩ := List.mem_map.1 hr; rfl), List.length_map]
theorem mm_rows {n : Nat} {A : List (List V)} {r : List V} (h : ∀ r ∈ A, r.length = n) (hr : r.length = n) : ∀ x ∈ A ++ [r], x.length = n := fun x hx => by
  rcases List.mem_append.1 hx with hx | hx
  · exact h x hx
  · rw [List.mem_singleton.1 hx]; exact hr
theorem po_iMultiplyMatrices {T : Nat → Option Fn} (h : D_impl_MultiplyMatrices T) {a b : List (List R)} (ha : wfL (wfL R.wf) a) (hb : wfL (wfL R.wf) b) : PO T 233 [ratssV a, ratssV b] (ratssV (mmV a b)) := by
  have la := ha.1
  have lb := hb.1
  have c1 := c_iIsMatrix h.d_impl_IsMatrix (m := a) (cols := (a.length : Nat)) ha (by omega)
  have c2 := c_iIsMatrix h.d_impl_IsMatrix (m := b) (cols := (a.length : Nat)) hb (by omega)
  cases hc : mmC a b
  · rw [mmV_bad (mmG_c hc)]
    refine po_end2 (fun _ _ => false) h.hT rfl rfl ?_
    dsimp only [F_impl_MultiplyMatrices, oN, oS, oG, oK, oA, oH, oV, cI, St.enter, List.length_cons, List.length_nil, Nat.zero_add]
    (refine ew ?_; try with_reducible exact True.intro)
    by_cases hl : ((b.length : Nat) : Int) = (a.length : Nat)
    · have hbl' : (((b.length : Nat) : Int) = (a.length : Nat)) = True := eq_true hl
      (refine ew1 @hbl' ?_; try with_reducible exact True.intro)
      refine PFK_of c1 ?_
      cases h1 : matOk a (a.length : Nat)
      · (refine ew1 @hbl' ?_; try with_reducible exact True.intro)
        exact fin_nil
      · have h2 : matOk b (a.length : Nat) = false := by
          unfold mmC at hc
          rw [h1, decide_eq_true (by omega), Bool.true_and, Bool.and_true] at hc
          exact hc
        rw [h2] at c2
        (refine ew1 @hbl' ?_; try with_reducible exact True.intro)
        refine PFK_of c2 ?_
        (refine ew ?_; try with_reducible exact True.intro)
        exact fin_nil
    · (refine ew1 @hl ?_; try with_reducible exact True.intro)
      exact fin_nil
  obtain ⟨l10, hbl, m1, m2⟩ := mmC_len hc
  rw [m1] at c1
  rw [m2] at c2
  have cA := mEl_cn m1
  have cB := mEl_cn m2
  have rA := (matOk_row m1).1
  have rB := (matOk_row m2).1
  clear la lb
  refine po_end2 (fun x d => (x == 39 && d == 42) || (x == 131 && d == 64)) h.hT rfl rfl ?_
  dsimp only [F_impl_MultiplyMatrices, oN, oS, oG, oK, oA, oH, oV, cI, St.enter, List.length_cons, List.length_nil, Nat.zero_add]
  (refine ew ?_; try with_reducible exact True.intro)
  have hbl' : (((b.length : Nat) : Int) = (a.length : Nat)) = True := eq_true (by omega)
  (refine ew1 @hbl' ?_; try with_reducible exact True.intro)
  refine PFK_of c1 ?_
  (refine ew1 @hbl' ?_; try with_reducible exact True.intro)
  refine PFK_of c2 ?_
  (refine ew ?_; try with_reducible exact True.intro)
  refine loop_at (fun x d => (x == 39 && d == 42) || (x == 131 && d == 64)) (α := Nat × Store × V × List (List V) × List Nat × List (Nat × Obj)) (fun q => ⟨argE [ratssV a, ratssV b, .any, .any, .any, iv (a.length : Nat), q.2.2.1, iv (q.1 : Nat)], q.2.1, 0, 0, [], []⟩) (fun q => (q.1 ≤ a.length ∧ LAt 1 q.2.2.1 q.2.2.2.1 q.2.2.2.2.2 ∧ (∀ r ∈ q.2.2.2.1, r.length = 1) ∧ q.2.2.2.1.length = q.1 ∧ ∀ z, z < q.1 → (mmRow a b a.length z a.length).all R.ok = true) ∧ Ep q.2.1 q.2.2.2.1.flatten (tO (mmM a b a.length q.1)) q.2.2.2.2.1 q.2.2.2.2.2) (fun q => a.length - q.1) rfl (0, [none], .nils, [], [], []) ?_ ?_ ?_
  · exact ⟨⟨by omega, .inl ⟨rfl, rfl, rfl⟩, by simp, rfl, by intro z hz; omega⟩, ⟨⟨by simp [tO, mmM, OwL], .nil⟩, by simp⟩⟩
  · (refine Fg_env ?_) <;> (try (refine ew ?_; try with_reducible exact True.intro)) <;> (repeat' (first | refine ⟨?_, ?_⟩ | exact EvV_int (by omega) | exact EvV_of (by simp) | exact EvV_nil _))
  · rintro ⟨i, s, v6, OA, os, M⟩ ⟨⟨hi, hv6, hOA, hOl, hok⟩, E⟩
    dsimp only at hi hv6 hOA hOl hok E
    by_cases hcc : (i : Int) < (a.length : Nat)
    · have hil : i < a.length := by omega
      have hai : (a.map fun r => [ratsV r]).getD i [] = [ratsV (a.getD i default)] := mg (f := fun r : List R => [ratsV r]) hil
      have hal := (rA i hil).1
      have eO := mmM_s a b a.length i
      have hTO : OA.flatten.length = (tO (mmM a b a.length i)).length := by rw [flat1k hOA, tO_len, mmM_len]; omega
      generalize hTOe : tO (mmM a b a.length i) = TO at *
      (refine ew1 @hcc ?_; try with_reducible exact True.intro)
      refine loop_at (fun x d => (x == 39 && d == 42) || (x == 131 && d == 64)) (α := Nat × Store × V × List (List V) × List Nat × List (Nat × Obj)) (fun q => ⟨argE [ratssV a, ratssV b, .any, .any, .any, iv (a.length : Nat), v6, iv (i : Nat), q.2.2.1, iv (q.1 : Nat)], q.2.1, 0, 0, [], []⟩) (fun q => (q.1 ≤ a.length ∧ LAt 3 q.2.2.1 q.2.2.2.1 q.2.2.2.2.2 ∧ (∀ r ∈ q.2.2.2.1, r.length = 3) ∧ q.2.2.2.1.length = q.1) ∧ Ep q.2.1 (q.2.2.2.1.flatten ++ OA.flatten) (rT (mmRow a b a.length i q.1) ++ TO) q.2.2.2.2.1 (q.2.2.2.2.2 ++ M)) (fun q => a.length - q.1) rfl (0, s ++ [none], .nils, [], os, []) ?_ ?_ ?_
      · exact ⟨⟨by omega, .inl ⟨rfl, rfl, rfl⟩, by simp, rfl⟩, by simpa [rT, mmRow] using E.snoc⟩
      · (refine Fg_env ?_) <;> (try (refine ew ?_; try with_reducible exact True.intro)) <;> (repeat' (first | refine ⟨?_, ?_⟩ | exact EvV_int (by omega) | exact EvV_of (by simp) | exact EvV_nil _))
      · rintro ⟨j, s, v8, RA, os, N⟩ ⟨⟨hj, hv8, hRA, hRl⟩, E⟩
        dsimp only at hj hv8 hRA hRl E
        by_cases hcj : (j : Int) < (a.length : Nat)
        · have eR := mmRow_s a b a.length i j
          have hTR : RA.flatten.length = (rT (mmRow a b a.length i j)).length := by rw [flat3 hRA, rT_len, mmRow_len]; omega
          generalize hTRe : rT (mmRow a b a.length i j) = TR at *
          (refine ew1 @hcj ?_; try with_reducible exact True.intro)
          refine RefK_got (po_RatFromInt h.d_impl_RatFromInt (n := 0)) (by (refine ew ?_; try with_reducible exact True.intro)) ?_
          intro r q1 o1 G
          obtain ⟨_, rfl, hQ1⟩ := G.ow.agg_inv
          obtain ⟨x1, x2, rfl⟩ := hQ1.rat
          have E1 := E.got (s1 := s ++ [none]) (fun o ho => objAt_snoc_lt ho) (by simp) hQ1 G.nd G.fresh G.old
          have F1 := E.free (s1 := s ++ [none]) (p := s.length) G.fresh (Nat.le_refl _) (by simp)
          have gl : s.length + 1 ≤ q1.length := by simpa using G.len
          have hM : ∀ q ∈ N ++ M, q.1 ≠ s.length := fun q hq => by have := E.lt q hq; omega
          replace E1 := E1.loc (ob := ⟨3, [[.bool (intR 0).neg, x1, x2]]⟩) F1 (by omega) hM
          have l1 := OwL.leaf hQ1 rfl
          simp only [List.all_cons, List.all_nil, Bool.and_true, Bool.and_eq_true] at l1
          (refine ew2 @l1 @List.set_set.{0} ?_; try with_reducible exact True.intro)
          generalize hq1e : q1.set s.length (some ⟨3, [[.bool (intR 0).neg, x1, x2]]⟩) = s1 at *
          generalize s.length = p at *
          clear G gl hq1e hQ1 F1 E l1
          generalize hCe : RA.flatten ++ OA.flatten = Cc at *
          generalize hTCe : TR ++ TO = TC at *
          have hCl : Cc.length = TC.length := by rw [← hCe, ← hTCe, List.length_append, List.length_append, hTR, hTO]
          obtain ⟨os2, E3, _⟩ := Ep.swap (a := Cc) (b := [.bool (intR 0).neg, x1, x2]) (c := []) (ta := TC) (tb := (intR 0).cells) (tc := []) (by simpa only [List.append_nil] using E1) hCl rfl
          simp only [List.append_nil] at E3
          clear E1
          have E3 := E3.sub (L' := (p, (⟨3, [[.bool (intR 0).neg, x1, x2]]⟩ : Obj)) :: (N ++ M)) (by
            intro q hq
            simp only [List.mem_cons, List.mem_append, List.not_mem_nil, or_false] at hq ⊢
            rcases hq with h | h | h <;> simp [h])
          refine loop_at (fun x d => (x == 39 && d == 42) || (x == 131 && d == 64)) (α := Nat × Store × V × V × List Nat) (fun q => ⟨argE [ratssV a, ratssV b, .any, .any, .any, iv (a.length : Nat), v6, iv (i : Nat), v8, iv (j : Nat), .ptr p 0 0, iv (q.1 : Nat)], q.2.1, 0, 0, [], []⟩) (fun q => q.1 ≤ a.length ∧ Ep q.2.1 ([.bool (mmE a b i j q.1).neg, q.2.2.1, q.2.2.2.1] ++ Cc) ([.bool (mmE a b i j q.1).neg, ints (mmE a b i j q.1).mag, ints (mmE a b i j q.1).den] ++ TC) q.2.2.2.2 ((p, (⟨3, [[.bool (mmE a b i j q.1).neg, q.2.2.1, q.2.2.2.1]]⟩ : Obj)) :: (N ++ M))) (fun q => a.length - q.1) rfl (0, s1, x1, x2, os2) ?_ ?_ ?_
          · exact ⟨by omega, E3⟩
          · (refine Fg_env ?_) <;> (try (refine ew ?_; try with_reducible exact True.intro)) <;> (repeat' (first | refine ⟨?_, ?_⟩ | exact EvV_int (by omega) | exact EvV_of (by simp) | exact EvV_nil _))
          · clear E3
            rintro ⟨k, s, x1, x2, os⟩ ⟨hk, E⟩
            dsimp only at hk E
            have hX := mmE_cn a b i j k
            by_cases hck : (k : Int) < (a.length : Nat)
            · have hkl : k < a.length := by omega
              have es : mmE a b i j (k + 1) = addR (mmE a b i j k) (mulR (mEl a i k) (mEl b k j)) := rfl
              have hbk : (b.map fun r => [ratsV r]).getD k [] = [ratsV (b.getD k default)] := mg (f := fun r : List R => [ratsV r]) (by omega)
              have hbl2 := (rB k (by omega)).1
              have hak : ((a.getD i default).map R.cells).getD k [] = (mEl a i k).cells := mg (by omega)
              have hbj : ((b.getD k default).map R.cells).getD j [] = (mEl b k j).cells := mg (by omega)
              have n1 := cA i k
              have n2 := cB k j
              generalize mEl a i k = A at *
              generalize mEl b k j = B at *
              generalize a.getD i default = ra at *
              generalize b.getD k default = rb at *
              generalize mmE a b i j k = X at *
              have L := E.at0 (p := p) (ob := ⟨3, [[.bool X.neg, x1, x2]]⟩) (by simp)
              have hkra : (k : Int) < (ra.length : Nat) := by omega
              have hjrb : (j : Int) < (rb.length : Nat) := by omega
              (refine ew4 @hck @L (And.intro hai hbk) (And.intro hak hbj) ?_; try with_reducible exact True.intro)
              refine PFK_of (c_ratMulR h.d_impl_ratMul n1 n2) ?_
              have R := And.intro (E.res1 1 rfl rfl (dep_ints _ _)) (E.res1 2 rfl rfl (dep_ints _ _))
              have LF := And.intro (E.leaf 1 rfl rfl) (E.leaf 2 rfl rfl)
              (refine ew5 @L @R @LF @numK_any @or_sc ?_; try with_reducible exact True.intro)
              have hmc := mulR_cn A B
              generalize mulR A B = mm at *
              refine OwnK_gotP (fun o => o ∈ os) (show PO T 131 [ratV X, ratV mm] (ratV (addR X mm)) from po_ratAddR h.d_impl_ratAdd hX hmc) (by (refine ew3 @R @numK_any @or_sc ?_; try with_reducible exact True.intro)) ?_ ?_
              · intro o ho
                have ho : o ∈ reach s (11 + 1) (.agg [.bool X.neg, x1, x2]) ++ (reach s FD (ratV mm) ++ []) := ho
                rw [show reach s FD (ratV mm) = [] from by (refine ew ?_; try with_reducible exact True.intro), List.append_nil, List.append_nil] at ho
                obtain ⟨c, hc, ho⟩ := reach_agg.1 ho
                rcases List.mem_cons.1 hc with e | hc
                · rw [e] at ho; simp [reach] at ho
                rcases List.mem_cons.1 hc with e | hc
                · rw [e] at ho; exact E.reach 1 rfl rfl _ o ho
                · rw [List.mem_singleton.1 hc] at ho; exact E.reach 2 rfl rfl _ o ho
              intro Rr r q2 o2 hRr G
              have gl : s.length ≤ q2.length := G.len
              obtain ⟨_, rfl, hQ⟩ := G.ow.agg_inv
              obtain ⟨z1, z2, rfl⟩ := hQ.rat
              have lz := OwL.leaf hQ rfl
              simp only [List.all_cons, List.all_nil, Bool.and_true, Bool.and_eq_true] at lz
              have hZ := addR_cn X mm
              generalize addR X mm = Z at *
              obtain ⟨os9, E9⟩ := Ep.upd (a := []) (b := [.bool X.neg, x1, x2]) (c := Cc) (ta := []) (tb := [.bool X.neg, ints X.mag, ints X.den]) (tc := TC) (p := p) (ob := ⟨3, [[.bool Z.neg, z1, z2]]⟩) (ob0 := ⟨3, [[.bool X.neg, x1, x2]]⟩) (L' := (p, (⟨3, [[.bool Z.neg, z1, z2]]⟩ : Obj)) :: (N ++ M)) E (by simp) rfl rfl (fun _ _ => rfl) (Nat.le_refl _) hQ G.nd G.fresh G.old (by
                intro q hq
                rcases List.mem_cons.1 hq with rfl | hq
                · exact .inr rfl
                · exact .inl ⟨hM q hq, by simp [List.mem_append.1 hq]⟩) gl
              have K := (G.old p L.2).trans L.1
              have hK : p < q2.length := by have := L.2; omega
              (refine ew5 @lz @K @hK @numK_any @or_sc ?_; try with_reducible exact True.intro)
              refine ⟨by unfold OkA; rfl, ?_⟩
              refine ⟨(k + 1, q2.set p (some ⟨3, [[.bool Z.neg, z1, z2]]⟩), z1, z2, os9), by dsimp only; omega, ⟨by dsimp only; omega, ?_⟩, ?_⟩
              · dsimp only
                rw [es]
                exact E9
              · dsimp only
                (refine Fg_env ?_) <;> (try (refine ew ?_; try with_reducible exact True.intro)) <;> (repeat' (first | refine ⟨?_, ?_⟩ | exact EvV_int (by omega) | exact EvV_of (by simp) | exact EvV_nil _))
            · have hke : k = a.length := by omega
              rw [hke] at hX E
              generalize mmE a b i j a.length = X at *
              have L := E.at0 (p := p) (ob := ⟨3, [[.bool X.neg, x1, x2]]⟩) (by simp)
              have LF := And.intro (E.leaf 1 rfl rfl) (E.leaf 2 rfl rfl)
              have Ex : Ep s ([.bool X.neg, x1, x2] ++ (RA.flatten ++ OA.flatten)) (X.cells ++ (TR ++ TO)) os ((p, (⟨3, [[.bool X.neg, x1, x2]]⟩ : Obj)) :: (N ++ M)) := by rw [hCe, hTCe]; exact E
              obtain ⟨os', E5, hmm⟩ := Ex.swap rfl hTR
              have E5 : Ep s ((RA ++ [[.bool X.neg, x1, x2]]).flatten ++ OA.flatten) ((TR ++ X.cells) ++ TO) os' ((p, (⟨3, [[.bool X.neg, x1, x2]]⟩ : Obj)) :: (N ++ M)) := by simpa [List.flatten_append] using E5
              have hlt' : ∀ o ∈ os', o < s.length := E5.oslt
              have hLM : ∀ q ∈ N ++ M, q.1 < s.length ∧ q.1 ≠ p ∧ q.1 ∉ os' := fun q hq => ⟨E5.lt q (by simp [List.mem_append.1 hq]), hM q hq, (E5.l q (by simp [List.mem_append.1 hq])).2⟩
              have hR' := mm_rows hRA (show ([.bool X.neg, x1, x2] : List V).length = 3 from rfl)
              have hstep : ∀ (S' : Store) (q : Nat), (∀ o ∈ os', objAt S' o = objAt s o) → (∀ z ∈ M, objAt S' z.1 = objAt s z.1) → s.length ≤ q → objAt S' q = some ⟨3, RA ++ [[.bool X.neg, x1, x2]]⟩ →
                  Ep S' ((RA ++ [[.bool X.neg, x1, x2]]).flatten ++ OA.flatten) (rT (mmRow a b a.length i j ++ [X]) ++ TO) os' ([(q, ⟨3, RA ++ [[.bool X.neg, x1, x2]]⟩)] ++ M) := by
                intro S' q h1 h2 h3 h4
                rw [rT_app, hTRe]
                refine E5.to h1 fun z hz => ?_
                rcases List.mem_append.1 hz with hz | hz
                · rw [List.mem_singleton.1 hz]
                  exact .inr ⟨h4, fun hm => by have := hlt' _ hm; dsimp only at this; omega⟩
                · exact .inl ⟨by simp [hz], h2 z hz⟩
              rcases hv8 with ⟨rfl, rfl, rfl⟩ | ⟨pr, rfl, rfl⟩
              · (refine ew3 @hck @L @LF ?_; try with_reducible exact True.intro)
                refine ⟨by omega, ?_⟩
                refine ⟨(j + 1, ?st, .msl (s.length + 1) 0 1, [] ++ [[.bool X.neg, x1, x2]], os', [(s.length + 1, ⟨3, [] ++ [[.bool X.neg, x1, x2]]⟩)]), ?c1, ⟨⟨?c2, .inr ⟨_, rfl, rfl⟩, hR', ?c4⟩, ?c6⟩, ?c3⟩
                case c3 => dsimp only; (refine Fg_env ?_) <;> (try (refine ew ?_; try with_reducible exact True.intro)) <;> (repeat' (first | refine ⟨?_, ?_⟩ | exact EvV_int (by omega) | exact EvV_of (by simp) | exact EvV_nil _))
                case c1 => dsimp only; omega
                case c2 => dsimp only; omega
                case c4 => dsimp only; simp at hRl ⊢; omega
                case c6 =>
                  dsimp only
                  rw [eR]
                  refine hstep _ _ (fun o ho => ?_) (fun z hz => ?_) (by omega) ?_
                  · have := hlt' o ho
                    simp (disch := first | omega | (simp only [List.length_append, List.length_set, List.length_cons, List.length_nil]; omega)) only [EVs]
                  · have := (hLM z (by simp [hz])).1
                    simp (disch := first | omega | (simp only [List.length_append, List.length_set, List.length_cons, List.length_nil]; omega)) only [EVs]
                  · exact objAt_seteq (by simp <;> omega)
              · have Lr := E.at0 (p := pr) (ob := ⟨3, RA⟩) (by simp)
                have npr : pr ≠ p := hM (pr, ⟨3, RA⟩) (by simp)
                (refine ew4 @hck @L @LF @Lr ?_; try with_reducible exact True.intro)
                refine ⟨by omega, ?_⟩
                refine ⟨(j + 1, ?st2, .msl (s.length + 1) 0 (RA.length + 1), RA ++ [[.bool X.neg, x1, x2]], os', [(s.length + 1, ⟨3, RA ++ [[.bool X.neg, x1, x2]]⟩)]), ?c1, ⟨⟨?c2, .inr ⟨_, by dsimp only; rw [List.length_append]; rfl, rfl⟩, hR', ?c4⟩, ?c6⟩, ?c3⟩
                case c3 => dsimp only; (refine Fg_env ?_) <;> (try (refine ew ?_; try with_reducible exact True.intro)) <;> (repeat' (first | refine ⟨?_, ?_⟩ | exact EvV_int (by omega) | exact EvV_of (by simp) | exact EvV_nil _))
                case c1 => dsimp only; omega
                case c2 => dsimp only; omega
                case c4 => dsimp only; simp at hRl ⊢; omega
                case c6 =>
                  dsimp only
                  rw [eR]
                  refine hstep _ _ (fun o ho => ?_) (fun z hz => ?_) (by omega) ?_
                  · have := hlt' o ho
                    have ha : o ≠ pr := fun e => (hLM (pr, ⟨3, RA⟩) (by simp)).2.2 (e ▸ ho)
                    simp (disch := first | omega | (simp only [List.length_append, List.length_set, List.length_cons, List.length_nil]; omega)) only [EVs]
                  · have := (hLM z (by simp [hz])).1
                    have hne : z.1 ≠ pr := fun e => by
                      have k1 := (E.l z (by simp [hz])).1
                      rw [e, Lr.1] at k1
                      rcases hv6 with ⟨_, _, rfl⟩ | ⟨po, _, rfl⟩
                      · cases hz
                      · rw [List.mem_singleton.1 hz] at k1; cases k1
                    simp (disch := first | omega | (simp only [List.length_append, List.length_set, List.length_cons, List.length_nil]; omega)) only [EVs]
                  · exact objAt_seteq (by simp <;> omega)
        · have hje : j = a.length := by omega
          rcases hv8 with ⟨rfl, rfl, rfl⟩ | ⟨pr, rfl, rfl⟩
          · simp at hRl; omega
          have Lr := E.at0 (p := pr) (ob := ⟨3, RA⟩) (by simp)
          rw [hje] at E
          have hRcn := mmRow_cn a b a.length i a.length
          have hRow : (mmRow a b a.length i a.length).length = RA.length := by rw [mmRow_len]; omega
          have hbad := mmG_row (b := b) hil
          have hok2 : (mmRow a b a.length i a.length).all R.ok = true → ∀ z, z < i + 1 → (mmRow a b a.length z a.length).all R.ok = true := fun h z hz => by
            by_cases e : z = i
            · subst e; exact h
            · exact hok z (by omega)
          have eO2 : tO (mmM a b a.length (i + 1)) = TO ++ [ratsV (mmRow a b a.length i a.length)] := by rw [eO, tO_app, hTOe]
          generalize mmRow a b a.length i a.length = row at *
          have cg := c_goodRow h.d_impl_goodRow hRcn (by omega)
          have hRr : ∀ r ∈ row.map R.cells, r.length = 3 := fun r hr => by obtain ⟨x, _, rfl⟩ := List.mem_map.1 hr; rfl
          have E' : Ep s (RA.flatten ++ OA.flatten) ((row.map R.cells).flatten ++ TO) os ([(pr, ⟨3, RA⟩)] ++ M) := E
          have Rf := E'.listRes (p := pr) (n := 3) (by simp) hRA hRr (by simp [hRow]) FD (dep_rats _ _)
          cases hg : row.all R.ok
          · rw [mmV_bad (hbad hg)]
            rw [hg] at cg
            (refine ew4 @hcj @Rf @numK_any @or_sc ?_; try with_reducible exact True.intro)
            refine PFK_of cg ?_
            (refine ew ?_; try with_reducible exact True.intro)
            exact fin_nil
          · have hok3 := hok2 hg
            rw [hg] at cg
            obtain ⟨os1, E1⟩ := E'.close (p := pr) (n := 3) (by simp) hRA hRr (by simp [hRow])
            obtain ⟨os2, E2, _⟩ := Ep.swap (a := [.msl pr 0 RA.length]) (b := OA.flatten) (c := []) (ta := [ratsV row]) (tb := TO) (tc := []) (show Ep s ([V.msl pr 0 RA.length] ++ (OA.flatten ++ [])) ([ratsV row] ++ (TO ++ [])) _ _ from by rw [List.append_nil, List.append_nil]; exact E1) rfl hTO
            simp only [List.append_nil] at E2
            have hlt' : ∀ o ∈ os2, o < s.length := E2.oslt
            have hO' := mm_rows hOA (show ([.msl pr 0 RA.length] : List V).length = 1 from rfl)
            have hstep : ∀ (S' : Store) (q : Nat), (∀ o ∈ os2, objAt S' o = objAt s o) → s.length ≤ q → objAt S' q = some ⟨1, OA ++ [[.msl pr 0 RA.length]]⟩ →
                Ep S' (OA ++ [[V.msl pr 0 RA.length]]).flatten (tO (mmM a b a.length (i + 1))) os2 [(q, ⟨1, OA ++ [[.msl pr 0 RA.length]]⟩)] := by
              intro S' q h1 h3 h4
              rw [eO2, List.flatten_append, show ([[V.msl pr 0 RA.length]] : List (List V)).flatten = [V.msl pr 0 RA.length] from rfl]
              refine E2.to h1 fun z hz => ?_
              rw [List.mem_singleton.1 hz]
              exact .inr ⟨h4, fun hm => by have := hlt' _ hm; dsimp only at this; omega⟩
            (refine ew4 @hcj @Rf @numK_any @or_sc ?_; try with_reducible exact True.intro)
            refine PFK_of cg ?_
            rcases hv6 with ⟨rfl, rfl, rfl⟩ | ⟨po, rfl, rfl⟩
            · (refine ew1 @Lr ?_; try with_reducible exact True.intro)
              refine ⟨by omega, ?_⟩
              refine ⟨(i + 1, ?st3, .msl (s.length + 1) 0 1, [] ++ [[.msl pr 0 RA.length]], os2, [(s.length + 1, ⟨1, [] ++ [[.msl pr 0 RA.length]]⟩)]), ?c1, ⟨⟨?c2, .inr ⟨_, rfl, rfl⟩, hO', ?c4, hok3⟩, ?c6⟩, ?c3⟩
              case c3 => dsimp only; (refine Fg_env ?_) <;> (try (refine ew ?_; try with_reducible exact True.intro)) <;> (repeat' (first | refine ⟨?_, ?_⟩ | exact EvV_int (by omega) | exact EvV_of (by simp) | exact EvV_nil _))
              case c1 => dsimp only; omega
              case c2 => dsimp only; omega
              case c4 => dsimp only; simp at hOl ⊢; omega
              case c6 =>
                refine hstep _ _ (fun o ho => ?_) (by omega) ?_
                · have := hlt' o ho
                  simp (disch := first | omega | (simp only [List.length_append, List.length_set, List.length_cons, List.length_nil]; omega)) only [EVs]
                · exact objAt_seteq (by simp <;> omega)
            · have Lo := E.at0 (p := po) (ob := ⟨1, OA⟩) (by simp)
              have npo : po ≠ pr := fun e => by have := Lr.1; rw [← e, Lo.1] at this; cases this
              have hno : po ∉ os2 := (E2.l (po, ⟨1, OA⟩) (by simp; exact fun e => npo e)).2
              (refine ew2 @Lr @Lo ?_; try with_reducible exact True.intro)
              refine ⟨by omega, ?_⟩
              refine ⟨(i + 1, ?st4, .msl (s.length + 1) 0 (OA.length + 1), OA ++ [[.msl pr 0 RA.length]], os2, [(s.length + 1, ⟨1, OA ++ [[.msl pr 0 RA.length]]⟩)]), ?c1, ⟨⟨?c2, .inr ⟨_, by dsimp only; rw [List.length_append]; rfl, rfl⟩, hO', ?c4, hok3⟩, ?c6⟩, ?c3⟩
              case c3 => dsimp only; (refine Fg_env ?_) <;> (try (refine ew ?_; try with_reducible exact True.intro)) <;> (repeat' (first | refine ⟨?_, ?_⟩ | exact EvV_int (by omega) | exact EvV_of (by simp) | exact EvV_nil _))
              case c1 => dsimp only; omega
              case c2 => dsimp only; omega
              case c4 => dsimp only; simp at hOl ⊢; omega
              case c6 =>
                refine hstep _ _ (fun o ho => ?_) (by omega) ?_
                · have := hlt' o ho
                  have ha : o ≠ po := fun e => hno (e ▸ ho)
                  simp (disch := first | omega | (simp only [List.length_append, List.length_set, List.length_cons, List.length_nil]; omega)) only [EVs]
                · exact objAt_seteq (by simp <;> omega)
    · have hie : i = a.length := by omega
      rw [hie] at E hok
      rw [mmV_good (mmG_all hc hok)]
      have hl2 : (mmM a b a.length a.length).length = OA.length := by rw [mmM_len]; omega
      generalize mmM a b a.length a.length = mm at *
      rcases hv6 with ⟨rfl, rfl, rfl⟩ | ⟨po, rfl, rfl⟩
      · have : mm = [] := List.eq_nil_of_length_eq_zero (by simpa using hl2)
        subst this
        (refine ew1 @hcc ?_; try with_reducible exact True.intro)
        exact fin_nil
      · have hTr : ∀ r ∈ mm.map fun r => [ratsV r], r.length = 1 := fun r hr => by obtain ⟨x, _, rfl⟩ := List.mem_map.1 hr; rfl
        obtain ⟨os1, E1⟩ := Ep.close (A := OA) (T := mm.map fun r => [ratsV r]) (c := []) (tc := []) (p := po) (n := 1) (by simpa only [List.append_nil, tO] using E) (by simp) hOA hTr (by simp [hl2])
        (refine ew1 @hcc ?_; try with_reducible exact True.intro)
        obtain ⟨v, vs, o1, o2, e, rfl, k1, k2⟩ := E1.c.ow.inv
        simp only [List.cons.injEq] at e
        obtain ⟨rfl, rfl⟩ := e
        obtain ⟨_, rfl⟩ := k2.nil_inv
        exact fin_of k1 (by have := E1.c.nd; simpa using this)
end Go.Ml
end
section
set_option linter.unusedSimpArgs false
set_option linter.unusedVariables false
set_option maxRecDepth 100000
set_option maxHeartbeats 8000000
namespace Go.Ml
def zrow (x : Nat × List R) : List V := [.msl x.1 0 x.2.length]
def MatA (s : Store) (v : V) (Z : List (Nat × List R)) : Prop := ((Z = [] ∧ v = .nils) ∨ ∃ q, v = .msl q 0 Z.length ∧ objAt s q = some ⟨1, Z.map zrow⟩) ∧ ∀ x ∈ Z, objAt s x.1 = some ⟨3, x.2.map R.cells⟩
theorem MatA.fr {s s2 : Store} {v : V} {Z : List (Nat × List R)} (h : MatA s v Z) (hf : ∀ p, p < s.length → objAt s2 p = objAt s p) : MatA s2 v Z :=
  ⟨h.1.imp id fun ⟨q, e, hq⟩ => ⟨q, e, (hf q (objAt_lt hq)).trans hq⟩, fun x hx => (hf _ (objAt_lt (h.2 x hx))).trans (h.2 x hx)⟩
theorem MatA.map {s : Store} {m : Nat} : ∀ {Z : List (Nat × List R)}, (∀ x ∈ Z, objAt s x.1 = some ⟨3, x.2.map R.cells⟩) → ((Z.map zrow).mapM fun r => r.mapM (resolve s (m + 2))) = some ((Z.map (·.2)).map fun r => [ratsV r])
  | [], _ => rfl
  | x :: Z, h => by
    have hx := h x (by simp)
    have e : resolve s (m + 2) (.msl x.1 0 x.2.length) = some (ratsV x.2) := by
      have h2 := st_R x.2
      unfold resolve
      simp only [hx]
      rw [if_pos (by simp), List.drop_zero, List.take_of_length_le (by simp), mapM_stillR (n := m) h2]
      rfl
    have ih := MatA.map (m := m) (Z := Z) fun y hy => h y (by simp [hy])
    rw [List.map_cons, List.mapM_cons, ih]
    have : (zrow x).mapM (resolve s (m + 2)) = some [ratsV x.2] := by
      unfold zrow
      rw [List.mapM_cons, e]
      rfl
    rw [this]
    rfl
theorem MatA.res {s : Store} {q : Nat} {Z : List (Nat × List R)} (h : ∀ x ∈ Z, objAt s x.1 = some ⟨3, x.2.map R.cells⟩) (hq : objAt s q = some ⟨1, Z.map zrow⟩) : resolve s FD (.msl q 0 Z.length) = some (ratssV (Z.map (·.2))) := by
  show resolve s (9 + 2 + 1) _ = _
  unfold resolve
  simp only [hq]
  rw [if_pos (by simp), List.drop_zero, List.take_of_length_le (by simp), MatA.map h]
  rfl
def RowN (s : Store) (n0 : Nat) (v : V) (L : List R) : Prop := (L = [] ∧ v = .nils) ∨ ∃ p, v = .msl p 0 L.length ∧ n0 ≤ p ∧ objAt s p = some ⟨3, L.map R.cells⟩
theorem RowN.fr {s s2 : Store} {v : V} {n0 : Nat} {L : List R} (h : RowN s n0 v L) (hf : ∀ p, p < s.length → objAt s2 p = objAt s p) : RowN s2 n0 v L :=
  h.imp id fun ⟨q, e, hn, hq⟩ => ⟨q, e, hn, (hf q (objAt_lt hq)).trans hq⟩
end Go.Ml
end
section
set_option linter.unusedSimpArgs false
set_option linter.unusedVariables false
set_option maxRecDepth 100000
set_option maxHeartbeats 8000000
namespace Go.Ml
def F_impl_subtractRow : Fn := ⟨3, 30, [.tmp 6], (.seq (.reg false 1 [oN 5 (.box (.t 2)), oK 6 1 (.mov (.c (.bool false)))]) (.seq (.seq (.reg false 0 [oN 8 (oV 0), oN 9 (.len (.t 8)), oN 10 (.mov (cI 0))]) (.block 0 (.loop (.seq (.reg false 0 [oN 11 (.bin .lss (.t 10) (.t 9))]) (.seq (.cond (.t 11) .skip (.exit 0)) (.seq (.block 1 (.seq (.reg false 0 [oN 12 (oV 10), oN 7 (oV 12)]) (.reg true 0 [oN 13 (oV 0), oN 14 (oV 7), oN 15 (oV 0), oN 16 (oV 7), oA 17 0 (.idx 3 (.t 15) (.t 16)) [2, 3], oA 18 0 (.load 3 true (.t 17)) [4], oN 19 (oV 1), oN 20 (oV 7), oA 21 0 (.idx 3 (.t 19) (.t 20)) [6, 7], oA 22 0 (.load 3 true (.t 21)) [8], oN 23 (.load 3 true (.t 5)), oA 24 0 (.call 157 [(.t 22), (.t 23)]) [9, 10], oA 25 0 (.call 159 [(.t 18), (.t 24)]) [5, 11, 11], oA 26 0 (.idx 3 (.t 13) (.t 14)) [0, 1, 0, 1, 2, 3, 4, 5, 6, 7, 8, 9, 10, 11, 12], ⟨none, none, 0, .store 3 (.t 26) (.t 25), [13, 12, 12, 0, 1, 2, 3, 4, 5, 6, 7, 8, 9, 10, 11, 12]⟩]))) (.reg false 0 [oN 27 (.bin .add (.t 10) (cI 1)), oN 10 (oV 27)]))))))) (.seq (.reg false 0 [oN 28 (oV 0), oN 29 (.call 244 [(.t 28)]), oN 6 (oV 29)]) .ret)))⟩
structure D_impl_subtractRow (T : Nat → Option Fn) : Prop where
  hT : T 245 = some F_impl_subtractRow
  d_impl_ratMul : D_impl_ratMul T
  d_impl_ratSub : D_impl_ratSub T
  d_impl_goodRow : D_impl_goodRow T
def F_impl_ReduceRows : Fn := ⟨2, 145, [.tmp 4, .tmp 5], (.seq (.reg false 0 [oN 4 (.mov (.c (.nils))), oN 5 (.mov (.c (.bool false)))]) (.seq (.reg false 0 [oN 15 (oV 0), oN 16 (.len (.t 15)), oN 6 (oV 16)]) (.seq (.seq (.reg false 0 [oN 17 (oV 0), oN 18 (oV 1), oN 19 (.call 93 [(.t 17), (.t 18)]), oN 20 (.un .not (.t 19)), oN 21 (oV 20), oG 21 false 22 (oV 1), oG 21 false 23 (oV 6), oG 21 false 24 (.bin .lss (.t 22) (.t 23)), oN 25 (.pick (.t 21) (.c (.bool true)) (.t 24))]) (.cond (.t 25) (.seq (.reg false 0 [oN 4 (.mov (.c (.nils))), oN 5 (.mov (.c (.bool false)))]) .ret) .skip)) (.seq (.reg false 1 [oN 26 (.mkSl 1 [.nils] 0 []), oK 7 1 (oV 26)]) (.seq (.seq (.reg false 0 [oN 27 (oV 0), oN 28 (.len (.t 27)), oN 29 (.mov (cI 0))]) (.block 0 (.loop (.seq (.reg false 0 [oN 30 (.bin .lss (.t 29) (.t 28))]) (.seq (.cond (.t 30) .skip (.exit 0)) (.seq (.block 1 (.seq (.reg false 0 [oN 31 (.idx 1 (.t 27) (.t 29)), oN 32 (.load 1 false (.t 31)), oN 9 (oV 32)]) (.reg false 4 [oK 33 4 (oV 7), oN 34 (.mkSl 3 [.bool false, .nils, .nils] 0 []), oK 35 4 (oV 9), oK 36 1 (.app 3 56 (.t 34) (.t 35)), oK 37 2 (.mkSl 1 [.nils] 1 [(0, (.t 36))]), oK 38 3 (.app 1 24 (.t 33) (.t 37)), oK 7 4 (oV 38)]))) (.reg false 0 [oN 39 (.bin .add (.t 29) (cI 1)), oN 29 (oV 39)]))))))) (.seq (.seq (.reg false 0 [oN 10 (.mov (cI 0))]) (.block 2 (.loop (.seq (.seq (.reg false 0 [oN 40 (oV 10), oN 41 (oV 6), oN 42 (.bin .lss (.t 40) (.t 41))]) (.cond (.t 42) .skip (.exit 2))) (.seq (.block 3 (.seq (.reg false 0 [oN 45 (oV 10), oN 11 (oV 45)]) (.seq (.block 4 (.loop (.seq (.seq (.reg false 0 [oN 46 (oV 11), oN 47 (oV 6), oN 48 (.bin .lss (.t 46) (.t 47)), oN 49 (oV 48), oG 49 true 50 (oV 7), oG 49 true 51 (oV 11), oG 49 true 52 (.idx 1 (.t 50) (.t 51)), oG 49 true 53 (.load 1 false (.t 52)), oG 49 true 54 (oV 10), oG 49 true 55 (.idx 3 (.t 53) (.t 54)), oG 49 true 56 (.load 3 true (.t 55)), oG 49 true 57 (.call 124 [(.t 56)]), oG 49 true 58 (.bin .eql (.t 57) (cI 0)), oN 59 (.pick (.t 49) (.t 58) (.c (.bool false)))]) (.cond (.t 59) .skip (.exit 4))) (.block 5 (.reg false 0 [oN 60 (oV 11), oN 61 (.bin .add (.t 60) (cI 1)), oN 11 (oV 61)]))))) (.seq (.seq (.reg false 0 [oN 62 (oV 11), oN 63 (oV 6), oN 64 (.bin .eql (.t 62) (.t 63))]) (.cond (.t 64) (.seq (.reg false 0 [oN 4 (.mov (.c (.nils))), oN 5 (.mov (.c (.bool false)))]) .ret) .skip)) (.seq (.reg true 0 [oN 65 (oV 7), oN 66 (oV 10), oN 67 (oV 7), oN 68 (oV 11), oN 69 (oV 7), oN 70 (oV 11), oA 71 0 (.idx 1 (.t 69) (.t 70)) [4, 5], oA 72 0 (.load 1 false (.t 71)) [6], oN 73 (oV 7), oN 74 (oV 10), oA 75 0 (.idx 1 (.t 73) (.t 74)) [8, 9], oA 76 0 (.load 1 false (.t 75)) [10], oA 77 0 (.idx 1 (.t 65) (.t 66)) [0, 1, 0, 1, 4, 5, 6, 7, 11], ⟨none, none, 0, .store 1 (.t 77) (.t 72), [12, 7, 0, 1, 4, 5, 6, 7, 11]⟩, oA 78 0 (.idx 1 (.t 67) (.t 68)) [2, 3, 0, 1, 2, 3, 4, 5, 6, 7, 8, 9, 10, 11, 12, 13], ⟨none, none, 0, .store 1 (.t 78) (.t 76), [14, 11, 13, 0, 1, 2, 3, 4, 5, 6, 7, 8, 9, 10, 11, 12, 13]⟩]) (.seq (.reg false 1 [oK 79 1 (oV 7), oK 80 1 (oV 10), oK 81 1 (.idx 1 (.t 79) (.t 80)), oK 82 1 (.load 1 false (.t 81)), oK 83 1 (oV 10), oK 84 1 (.idx 3 (.t 82) (.t 83)), oK 85 1 (.load 3 true (.t 84)), oN 12 (.alloc [.bool false, .nils, .nils]), ⟨none, none, 1, .store 3 (.t 12) (.t 85), []⟩]) (.seq (.seq (.reg false 0 [oN 86 (oV 7), oN 87 (oV 10), oN 88 (.idx 1 (.t 86) (.t 87)), oN 89 (.load 1 false (.t 88)), oN 90 (.len (.t 89)), oN 91 (.mov (cI 0))]) (.block 6 (.loop (.seq (.reg false 0 [oN 92 (.bin .lss (.t 91) (.t 90))]) (.seq (.cond (.t 92) .skip (.exit 6)) (.seq (.block 7 (.seq (.reg false 0 [oN 93 (oV 91), oN 13 (oV 93)]) (.reg true 0 [oN 94 (oV 7), oN 95 (oV 10), oA 96 0 (.idx 1 (.t 94) (.t 95)) [0, 1], oA 97 0 (.load 1 false (.t 96)) [2], oN 98 (oV 13), oN 99 (oV 7), oN 100 (oV 10), oA 101 0 (.idx 1 (.t 99) (.t 100)) [5, 6], oA 102 0 (.load 1 false (.t 101)) [7], oN 103 (oV 13), oA 104 0 (.idx 3 (.t 102) (.t 103)) [8, 9], oA 105 0 (.load 3 true (.t 104)) [10], oN 106 (.load 3 true (.t 12)), oA 107 0 (.call 156 [(.t 105), (.t 106)]) [11, 12], oA 108 0 (.idx 3 (.t 97) (.t 98)) [3, 4, 0, 1, 2, 3, 4, 5, 6, 7, 8, 9, 10, 11, 12, 13], ⟨none, none, 0, .store 3 (.t 108) (.t 107), [14, 13, 13, 0, 1, 2, 3, 4, 5, 6, 7, 8, 9, 10, 11, 12, 13]⟩]))) (.reg false 0 [oN 109 (.bin .add (.t 91) (cI 1)), oN 91 (oV 109)]))))))) (.seq (.seq (.reg false 0 [oN 110 (oV 7), oN 111 (oV 10), oN 112 (.idx 1 (.t 110) (.t 111)), oN 113 (.load 1 false (.t 112)), oN 114 (.call 244 [(.t 113)]), oN 115 (.un .not (.t 114))]) (.cond (.t 115) (.seq (.reg false 0 [oN 4 (.mov (.c (.nils))), oN 5 (.mov (.c (.bool false)))]) .ret) .skip)) (.seq (.reg false 0 [oN 116 (oV 7), oN 117 (.len (.t 116)), oN 118 (.mov (cI 0))]) (.block 8 (.loop (.seq (.reg false 0 [oN 119 (.bin .lss (.t 118) (.t 117))]) (.seq (.cond (.t 119) .skip (.exit 8)) (.seq (.block 9 (.seq (.reg false 0 [oN 120 (oV 118), oN 14 (oV 120)]) (.seq (.reg true 0 [oN 121 (oV 14), oN 122 (oV 10), oA 123 0 (.bin .neq (.t 121) (.t 122)) [0, 1], oA 124 0 (oV 123) [2], oH 124 true 125 0 (oV 7) [3], oH 124 true 126 0 (oV 14) [3], oH 124 true 127 0 (.idx 1 (.t 125) (.t 126)) [4, 5, 3], oH 124 true 128 0 (.load 1 false (.t 127)) [6, 3], oH 124 true 129 0 (oV 7) [3], oH 124 true 130 0 (oV 10) [3], oH 124 true 131 0 (.idx 1 (.t 129) (.t 130)) [8, 9, 3], oH 124 true 132 0 (.load 1 false (.t 131)) [10, 3], oH 124 true 133 0 (oV 7) [3], oH 124 true 134 0 (oV 14) [3], oH 124 true 135 0 (.idx 1 (.t 133) (.t 134)) [12, 13, 3], oH 124 true 136 0 (.load 1 false (.t 135)) [14, 3], oH 124 true 137 0 (oV 10) [3], oH 124 true 138 0 (.idx 3 (.t 136) (.t 137)) [15, 16, 3], oH 124 true 139 0 (.load 3 true (.t 138)) [17, 3], oH 124 true 140 0 (.call 245 [(.t 128), (.t 132), (.t 139)]) [7, 11, 18, 3, 3], oH 124 true 141 0 (.un .not (.t 140)) [19, 3], oA 142 0 (.pick (.t 124) (.t 141) (.c (.bool false))) [3, 20]]) (.cond (.t 142) (.seq (.reg false 0 [oN 4 (.mov (.c (.nils))), oN 5 (.mov (.c (.bool false)))]) .ret) .skip)))) (.reg false 0 [oN 143 (.bin .add (.t 118) (cI 1)), oN 118 (oV 143)]))))))))))))))) (.reg false 0 [oN 43 (oV 10), oN 44 (.bin .add (.t 43) (cI 1)), oN 10 (oV 44)])))))) (.seq (.reg false 0 [oN 144 (oV 7), oN 4 (oV 144), oN 5 (.mov (.c (.bool true)))]) .ret)))))))⟩
structure D_impl_ReduceRows (T : Nat → Option Fn) : Prop where
  hT : T 243 = some F_impl_ReduceRows
  d_impl_IsMatrix : D_impl_IsMatrix T
  d_impl_ratSign : D_impl_ratSign T
  d_impl_ratDiv : D_impl_ratDiv T
  d_impl_goodRow : D_impl_goodRow T
  d_impl_subtractRow : D_impl_subtractRow T
abbrev MF := Nat → List R
def elF (M : MF) (i j : Nat) : R := (M i).getD j default
def rrP (M : MF) (k : Nat) : Nat → Nat → Nat
  | 0, p => p
  | f + 1, p => if sgnR (elF M p k) = 0 then rrP M k f (p + 1) else p
def rrPv (n : Nat) (M : MF) (k : Nat) : Nat := rrP M k (n - k) k
theorem rrP_z {M : MF} {k n p : Nat} (h : p < n) (hz : sgnR (elF M p k) = 0) : rrP M k (n - p) p = rrP M k (n - (p + 1)) (p + 1) := by
  rw [show n - p = (n - (p + 1)) + 1 by omega]; exact if_pos hz
theorem rrP_n {M : MF} {k n p : Nat} (h : p < n) (hz : ¬ sgnR (elF M p k) = 0) : rrP M k (n - p) p = p := by
  rw [show n - p = (n - (p + 1)) + 1 by omega]; exact if_neg hz
def rrSwap (M : MF) (k p : Nat) : MF := fun i => if i = p then M k else if i = k then M p else M i
def rrDiv (r : List R) (k : Nat) : List R := r.map fun x => divR x (r.getD k default)
def rrSub (r b : List R) (f : R) : List R := (List.range r.length).map fun j => subR (r.getD j default) (mulR (b.getD j default) f)
def rrOne (n : Nat) (M : MF) (k : Nat) : MF := rrSwap M k (rrPv n M k)
def rrTwo (n : Nat) (M : MF) (k : Nat) : MF := fun i => if i = k then rrDiv (rrOne n M k k) k else rrOne n M k i
def rrTri (M : MF) (k : Nat) : MF := fun i => if i = k then M k else rrSub (M i) (M k) (elF M i k)
def rrMix (M : MF) (k i0 : Nat) : MF := fun i => if i < i0 then rrTri M k i else M i
def allOk (n : Nat) (M : MF) : Bool := allB n fun i => (M i).all R.ok
def rrStep (n : Nat) (M : MF) (k : Nat) : Option MF :=
  if (decide (rrPv n M k < n) && allOk n (rrTri (rrTwo n M k) k)) = true then some (rrTri (rrTwo n M k) k) else none
def rrIt (n : Nat) (m : MF) : Nat → Option MF
  | 0 => some m
  | k + 1 => (rrIt n m k).bind fun M => rrStep n M k
theorem rrIt_none {n : Nat} {m : MF} {k : Nat} (h : rrIt n m k = none) : ∀ j, k ≤ j → rrIt n m j = none
  | 0, hj => by have : k = 0 := by omega
                subst this; exact h
  | j + 1, hj => by
    by_cases e : k = j + 1
    · subst e; exact h
    · unfold rrIt; rw [rrIt_none h j (by omega)]; rfl
theorem rrIt_s {n : Nat} {m M : MF} {k : Nat} (h : rrIt n m k = some M) : rrIt n m (k + 1) = rrStep n M k := by
  show (rrIt n m k).bind _ = _
  rw [h]; rfl
def mF (m : List (List R)) : MF := fun i => m.getD i default
def rrC (m : List (List R)) (c : Int) : Bool := matOk m c && decide ((m.length : Int) ≤ c)
def rrV (m : List (List R)) (c : Int) : Option MF := if rrC m c = true then rrIt m.length (mF m) m.length else none
def rrM (m : List (List R)) (c : Int) : List (List R) := match rrV m c with
  | some M => (List.range m.length).map M
  | none => []
def rrB (m : List (List R)) (c : Int) : Bool := (rrV m c).isSome
theorem rrV_bad {m : List (List R)} {c : Int} (h : rrC m c = false) : rrM m c = [] ∧ rrB m c = false := by
  have e : rrV m c = none := by unfold rrV; rw [h]; rfl
  unfold rrM rrB
  rw [e]; exact ⟨rfl, rfl⟩
theorem rrV_none {m : List (List R)} {c : Int} {k : Nat} (hc : rrC m c = true) (h : rrIt m.length (mF m) k = none) (hk : k ≤ m.length) : rrM m c = [] ∧ rrB m c = false := by
  have e : rrV m c = none := by unfold rrV; rw [if_pos hc]; exact rrIt_none h _ hk
  unfold rrM rrB
  rw [e]; exact ⟨rfl, rfl⟩
theorem rrV_some {m : List (List R)} {c : Int} {M : MF} (hc : rrC m c = true) (h : rrIt m.length (mF m) m.length = some M) : rrM m c = (List.range m.length).map M ∧ rrB m c = true := by
  have e : rrV m c = some M := by unfold rrV; rw [if_pos hc]; exact h
  unfold rrM rrB
  rw [e]; exact ⟨rfl, rfl⟩
def OkM (n c : Nat) (M : MF) : Prop := ∀ i, i < n → (M i).length = c ∧ ∀ x ∈ M i, x.cn
theorem OkM.el {n c : Nat} {M : MF} (h : OkM n c M) {i j : Nat} (hi : i < n) (hj : j < c) : (elF M i j).cn := (h i hi).2 _ (getD_mem (by rw [(h i hi).1]; exact hj))
theorem rrDiv_len (r : List R) (k : Nat) : (rrDiv r k).length = r.length := by unfold rrDiv; simp
theorem rrSub_len (r b : List R) (f : R) : (rrSub r b f).length = r.length := by unfold rrSub; simp
theorem rrDiv_cn (r : List R) (k : Nat) : ∀ x ∈ rrDiv r k, x.cn := fun x hx => by
  obtain ⟨y, _, rfl⟩ := List.mem_map.1 hx; exact divR_cn _ _
theorem rrSub_cn (r b : List R) (f : R) : ∀ x ∈ rrSub r b f, x.cn := fun x hx => by
  obtain ⟨y, _, rfl⟩ := List.mem_map.1 hx; exact subR_cn _ _
theorem rrSub_at (r b : List R) (f : R) {j : Nat} (h : j < r.length) : (rrSub r b f).getD j default = subR (r.getD j default) (mulR (b.getD j default) f) := by
  unfold rrSub
  rw [List.getD_eq_getElem?_getD, List.getElem?_map, List.getElem?_range h]; rfl
theorem rrDiv_at (r : List R) (k : Nat) {j : Nat} (h : j < r.length) : (rrDiv r k).getD j default = divR (r.getD j default) (r.getD k default) := by
  unfold rrDiv
  generalize r.getD k default = y
  rw [List.getD_eq_getElem?_getD, List.getElem?_map, List.getD_eq_getElem?_getD, List.getElem?_eq_getElem h]; rfl
theorem OkM.swap {n c : Nat} {M : MF} (h : OkM n c M) {k p : Nat} (hk : k < n) (hp : p < n) : OkM n c (rrSwap M k p) := fun i hi => by
  unfold rrSwap
  split
  · exact h k hk
  · split
    · exact h p hp
    · exact h i hi
theorem OkM.one {n c : Nat} {M : MF} (h : OkM n c M) {k : Nat} (hk : k < n) (hp : rrPv n M k < n) : OkM n c (rrOne n M k) := h.swap hk hp
theorem OkM.two {n c : Nat} {M : MF} (h : OkM n c M) {k : Nat} (hk : k < n) (hp : rrPv n M k < n) : OkM n c (rrTwo n M k) := fun i hi => by
  unfold rrTwo
  split
  · exact ⟨by rw [rrDiv_len]; exact (h.one hk hp k hk).1, rrDiv_cn _ _⟩
  · exact h.one hk hp i hi
theorem OkM.tri {n c : Nat} {M : MF} (h : OkM n c M) {k : Nat} (hk : k < n) : OkM n c (rrTri M k) := fun i hi => by
  unfold rrTri
  split
  · exact h k hk
  · exact ⟨by rw [rrSub_len]; exact (h i hi).1, rrSub_cn _ _ _⟩
theorem rrMix_0 (M : MF) (k : Nat) : rrMix M k 0 = M := by funext i; unfold rrMix; rw [if_neg (by omega)]
theorem OkM.mix {n c : Nat} {M : MF} (h : OkM n c M) {k : Nat} (hk : k < n) (i0 : Nat) : OkM n c (rrMix M k i0) := fun i hi => by
  unfold rrMix
  split
  · exact h.tri hk i hi
  · exact h i hi
theorem OkM.step {n c : Nat} {M M' : MF} (h : OkM n c M) {k : Nat} (hk : k < n) (e : rrStep n M k = some M') : OkM n c M' := by
  unfold rrStep at e
  split at e
  · rename_i hc
    simp only [Bool.and_eq_true, decide_eq_true_eq] at hc
    cases e
    exact (h.two hk hc.1).tri hk
  · cases e
theorem allOk_iff {n : Nat} {M : MF} : allOk n M = true ↔ ∀ i, i < n → (M i).all R.ok = true := allB_iff
theorem allOk_f {n : Nat} {M : MF} {i : Nat} (hi : i < n) (h : (M i).all R.ok = false) : allOk n M = false := allB_f hi h
theorem rrStep_p {n : Nat} {M : MF} {k : Nat} (h : ¬ rrPv n M k < n) : rrStep n M k = none := by
  unfold rrStep; rw [decide_eq_false h]; rfl
theorem rrStep_f {n : Nat} {M : MF} {k : Nat} (h : allOk n (rrTri (rrTwo n M k) k) = false) : rrStep n M k = none := by
  unfold rrStep; rw [h, Bool.and_false]; rfl
theorem rrStep_t {n : Nat} {M : MF} {k : Nat} (hp : rrPv n M k < n) (h : allOk n (rrTri (rrTwo n M k) k) = true) : rrStep n M k = some (rrTri (rrTwo n M k) k) := by
  unfold rrStep; rw [h, decide_eq_true hp]; rfl
theorem rrC_ok {m : List (List R)} {c : Int} (h : rrC m c = true) : m.length ≤ 10 ∧ (m.length : Int) ≤ c ∧ matOk m c = true ∧ OkM m.length c.toNat (mF m) := by
  unfold rrC at h
  simp only [Bool.and_eq_true, decide_eq_true_eq] at h
  obtain ⟨h1, h2⟩ := matOk_row h.1
  refine ⟨h2, h.2, h.1, fun i hi => ⟨?_, fun x hx => ?_⟩⟩
  · have := (h1 i hi).1; unfold mF; omega
  · obtain ⟨j, hj⟩ := List.mem_iff_getElem?.1 hx
    have hl := (List.getElem?_eq_some_iff.1 hj).1
    have := (h1 i hi).2 j hl
    unfold mF at hj
    rw [List.getD_eq_getElem?_getD, hj] at this
    exact cn_ok this
def LimbOk (s : Store) (v : V) (l : List Int) : Prop := v = ints l ∨ ∃ o, v = .msl o 0 l.length ∧ objAt s o = some ⟨1, irows l⟩
def CellOk (s : Store) (c : List V) (x : R) : Prop := ∃ v1 v2, c = [.bool x.neg, v1, v2] ∧ LimbOk s v1 x.mag ∧ LimbOk s v2 x.den
def RowOk (s : Store) (A : List (List V)) (r : List R) : Prop := A.length = r.length ∧ ∀ j, j < r.length → CellOk s (A.getD j []) (r.getD j default)
def Kp (s s2 : Store) : Prop := ∀ o l, objAt s o = some ⟨1, irows l⟩ → objAt s2 o = objAt s o
theorem Kp.refl (s : Store) : Kp s s := fun _ _ _ => rfl
theorem Kp.trans {a b c : Store} (h : Kp a b) (k : Kp b c) : Kp a c := fun o l e => (k o l ((h o l e).trans e)).trans (h o l e)
theorem Kp.old {s s2 : Store} (h : ∀ o, o < s.length → objAt s2 o = objAt s o) : Kp s s2 := fun o l e => h o (objAt_lt e)
theorem LimbOk.fr {s s2 : Store} {v : V} {l : List Int} (h : LimbOk s v l) (k : Kp s s2) : LimbOk s2 v l := h.imp id fun ⟨o, e, ho⟩ => ⟨o, e, (k o l ho).trans ho⟩
theorem CellOk.fr {s s2 : Store} {c : List V} {x : R} (h : CellOk s c x) (k : Kp s s2) : CellOk s2 c x := by
  obtain ⟨v1, v2, e, h1, h2⟩ := h; exact ⟨v1, v2, e, h1.fr k, h2.fr k⟩
theorem RowOk.fr {s s2 : Store} {A : List (List V)} {r : List R} (h : RowOk s A r) (k : Kp s s2) : RowOk s2 A r := ⟨h.1, fun j hj => (h.2 j hj).fr k⟩
theorem LimbOk.leaf {s : Store} {v : V} {l : List Int} (h : LimbOk s v l) : v.leaf = true := by
  rcases h with rfl | ⟨o, rfl, _⟩ <;> rfl
theorem LimbOk.res {s : Store} {v : V} {l : List Int} (h : LimbOk s v l) (n : Nat) : resolve s (n + 3) v = some (ints l) := by
  rcases h with rfl | ⟨o, rfl, ho⟩
  · rfl
  · have := res_mslS (n := n + 1) ho (ir_still l)
    rwa [ir_len] at this
theorem limb_frz {s : Store} (l : List Int) : LimbOk s (ints l) l := .inl rfl
theorem cell_frz {s : Store} (x : R) : CellOk s x.cells x := ⟨_, _, rfl, limb_frz _, limb_frz _⟩
theorem row_frz {s : Store} (r : List R) : RowOk s (r.map R.cells) r := ⟨by simp, fun j hj => by rw [mg hj]; exact cell_frz _⟩
theorem CellOk.mm {s : Store} {c : List V} {x : R} (h : CellOk s c x) (n : Nat) : c.mapM (resolve s (n + 3)) = some x.cells := by
  obtain ⟨v1, v2, rfl, h1, h2⟩ := h
  simp only [List.mapM_cons, List.mapM_nil, h1.res, h2.res]
  rfl
theorem CellOk.res {s : Store} {c : List V} {x : R} (h : CellOk s c x) : resolve s FD (.agg c) = some (ratV x) := by
  show resolve s (8 + 3 + 1) _ = _
  rw [resolve, h.mm 8]; rfl
theorem RowOk.mm {s : Store} {A : List (List V)} {r : List R} (h : RowOk s A r) (n : Nat) : (A.mapM fun (c : List V) => c.mapM (resolve s (n + 3))) = some (r.map R.cells) := by
  obtain ⟨hl, h⟩ := h
  induction r generalizing A with
  | nil =>
    have : A = [] := List.eq_nil_of_length_eq_zero hl
    subst this; rfl
  | cons x r ih =>
    rcases A with _ | ⟨a, A⟩
    · simp at hl
    have h0 := h 0 (by simp)
    simp only [List.getD_cons_zero] at h0
    rw [List.mapM_cons, h0.mm n, ih (by simpa using hl) fun j hj => by simpa using h (j + 1) (by simpa using hj)]
    rfl
theorem RowOk.resN {s : Store} {A : List (List V)} {r : List R} {p : Nat} (h : RowOk s A r) (hp : objAt s p = some ⟨3, A⟩) (n : Nat) : resolve s (n + 4) (.msl p 0 r.length) = some (ratsV r) := by
  rw [resolve]
  simp only [hp]
  rw [if_pos (by rw [h.1]; omega), List.drop_zero, List.take_of_length_le (by rw [h.1]; omega), h.mm n]; rfl
theorem RowOk.res {s : Store} {A : List (List V)} {r : List R} {p : Nat} (h : RowOk s A r) (hp : objAt s p = some ⟨3, A⟩) : resolve s FD (.msl p 0 r.length) = some (ratsV r) := h.resN hp 8
theorem limb_ow {s : Store} {v : V} {l : List Int} {os : List Nat} (h : OwV s v (ints l) os) : LimbOk s v l ∧ ∀ o ∈ os, ∃ l, objAt s o = some ⟨1, irows l⟩ := by
  rcases h.ints_inv with ⟨rfl, rfl, rfl⟩ | ⟨o, rfl, ho, rfl⟩
  · exact ⟨.inl rfl, by simp⟩
  · exact ⟨.inr ⟨o, rfl, ho⟩, fun q hq => by rw [List.mem_singleton.1 hq]; exact ⟨_, ho⟩⟩
theorem cell_ow {s : Store} {c : List V} {x : R} {os : List Nat} (h : OwL s c x.cells os) : CellOk s c x ∧ ∀ o ∈ os, ∃ l, objAt s o = some ⟨1, irows l⟩ := by
  obtain ⟨cs, rfl, b⟩ := h.bool_inv
  obtain ⟨v1, cs, o1, o2, rfl, rfl, c, d⟩ := b.inv
  obtain ⟨v2, cs, o3, o4, rfl, rfl, e, f⟩ := d.inv
  obtain ⟨rfl, rfl⟩ := f.nil_inv
  have k1 := limb_ow c
  have k2 := limb_ow e
  refine ⟨⟨v1, v2, rfl, k1.1, k2.1⟩, fun o ho => ?_⟩
  rcases List.mem_append.1 ho with ho | ho
  · exact k1.2 o ho
  · exact k2.2 o (by simpa using ho)
theorem row_ow {s : Store} : ∀ {r : List R} {A : List (List V)} {os : List Nat}, OwR s A (r.map R.cells) os → RowOk s A r ∧ ∀ o ∈ os, ∃ l, objAt s o = some ⟨1, irows l⟩
  | [], A, os, h => by
    simp only [List.map_nil, OwR] at h
    obtain ⟨rfl, rfl⟩ := h
    exact ⟨⟨rfl, by simp⟩, by simp⟩
  | x :: r, A, os, h => by
    simp only [List.map_cons, OwR] at h
    obtain ⟨v, vs', o1, o2, rfl, rfl, h1, h2⟩ := h
    have k1 := cell_ow h1
    have k2 := row_ow h2
    refine ⟨⟨by simp [k2.1.1], fun j hj => ?_⟩, fun o ho => ?_⟩
    · cases j with
      | zero => exact k1.1
      | succ j => simpa using k2.1.2 j (by simpa using hj)
    · rcases List.mem_append.1 ho with ho | ho
      · exact k1.2 o ho
      · exact k2.2 o ho
def orow (n c : Nat) (rp : Nat → Nat) : List (List V) := (List.range n).map fun i => [.msl (rp i) 0 c]
theorem orow_len (n c : Nat) (rp : Nat → Nat) : (orow n c rp).length = n := by simp [orow]
theorem orow_at {n c : Nat} {rp : Nat → Nat} {i : Nat} (h : i < n) : (orow n c rp)[i]? = some [.msl (rp i) 0 c] := by
  unfold orow; rw [List.getElem?_map, List.getElem?_range h]; rfl
theorem orow_set {n c : Nat} {rp : Nat → Nat} {i p : Nat} : (orow n c rp).set i [.msl p 0 c] = orow n c fun x => if x = i then p else rp x := by
  apply List.ext_getElem?
  intro x
  unfold orow
  rw [List.getElem?_set]
  simp only [List.length_map, List.length_range, List.getElem?_map]
  by_cases h : i = x
  · subst h
    by_cases hn : i < n
    · simp [hn]
    · rw [if_pos rfl, if_neg hn, List.getElem?_eq_none (by simpa using hn)]; rfl
  · rw [if_neg h]
    by_cases hn : x < n
    · rw [List.getElem?_range hn]; simp only [Option.map_some]; rw [if_neg fun e : x = i => h e.symm]
    · rw [List.getElem?_eq_none (by simpa using hn)]; rfl
structure Mat (s : Store) (q n c : Nat) (rp : Nat → Nat) (A : Nat → List (List V)) (M : MF) : Prop where
  inj : ∀ i j, i < n → j < n → rp i = rp j → i = j
  out : objAt s q = some ⟨1, orow n c rp⟩
  row : ∀ i, i < n → objAt s (rp i) = some ⟨3, A i⟩
  cel : ∀ i, i < n → RowOk s (A i) (M i)
theorem Mat.lt {s : Store} {q n c : Nat} {rp : Nat → Nat} {A : Nat → List (List V)} {M : MF} (h : Mat s q n c rp A M) : q < s.length ∧ ∀ i, i < n → rp i < s.length := ⟨objAt_lt h.out, fun i hi => objAt_lt (h.row i hi)⟩
theorem Mat.ne {s : Store} {q n c : Nat} {rp : Nat → Nat} {A : Nat → List (List V)} {M : MF} (h : Mat s q n c rp A M) {i : Nat} (hi : i < n) : rp i ≠ q := fun e => by
  have := h.row i hi
  rw [e, h.out] at this; cases this
theorem Mat.fr {s s2 : Store} {q n c : Nat} {rp : Nat → Nat} {A : Nat → List (List V)} {M : MF} (h : Mat s q n c rp A M) (hf : ∀ p, p < s.length → objAt s2 p = objAt s p) : Mat s2 q n c rp A M :=
  ⟨h.inj, (hf _ h.lt.1).trans h.out, fun i hi => (hf _ (h.lt.2 i hi)).trans (h.row i hi), fun i hi => (h.cel i hi).fr (.old hf)⟩
theorem Mat.rres {s : Store} {q n c : Nat} {rp : Nat → Nat} {A : Nat → List (List V)} {M : MF} (h : Mat s q n c rp A M) {i : Nat} (hi : i < n) (hl : (M i).length = c) : resolve s FD (.msl (rp i) 0 c) = some (ratsV (M i)) := by
  have := (h.cel i hi).res (h.row i hi)
  rwa [hl] at this
theorem Mat.res {s : Store} {q n c : Nat} {rp : Nat → Nat} {A : Nat → List (List V)} {M : MF} (h : Mat s q n c rp A M) (hl : ∀ i, i < n → (M i).length = c) : resolve s FD (.msl q 0 n) = some (ratssV ((List.range n).map M)) := by
  show resolve s (11 + 1) _ = _
  rw [resolve]
  simp only [h.out]
  rw [if_pos (by rw [orow_len]; omega), List.drop_zero, List.take_of_length_le (by rw [orow_len]; omega)]
  have : ((orow n c rp).mapM fun (r : List V) => r.mapM (resolve s 11)) = some ((List.range n).map fun i => [ratsV (M i)]) := by
    unfold orow
    rw [List.mapM_map]
    refine mapM_some fun i hi => ?_
    have hi := List.mem_range.1 hi
    have h1 := (h.cel i hi).resN (h.row i hi) 7
    rw [hl i hi] at h1
    simp only [Function.comp, List.mapM_cons, List.mapM_nil]
    rw [h1]; rfl
  rw [this, Option.map_some]
  unfold ratssV
  rw [List.map_map]
  rfl
theorem Mat.put {s s2 : Store} {q n c k : Nat} {rp : Nat → Nat} {A : Nat → List (List V)} {M : MF} {A2 : List (List V)} {r : List R} (h : Mat s q n c rp A M) (hk : k < n) (hr : objAt s2 (rp k) = some ⟨3, A2⟩) (ho : ∀ o, o < s.length → o ≠ rp k → objAt s2 o = objAt s o) (hok : RowOk s2 A2 r) :
    Mat s2 q n c rp (fun i => if i = k then A2 else A i) (fun i => if i = k then r else M i) := by
  have kp : Kp s s2 := fun o l e => ho o (objAt_lt e) fun e2 => by rw [e2, h.row k hk] at e; cases e
  refine ⟨h.inj, (ho _ h.lt.1 fun e => h.ne hk e.symm).trans h.out, fun i hi => ?_, fun i hi => ?_⟩
  · by_cases e : i = k
    · subst e; rw [if_pos rfl]; exact hr
    · rw [if_neg e]; exact (ho _ (h.lt.2 i hi) fun e2 => e (h.inj i k hi hk e2)).trans (h.row i hi)
  · by_cases e : i = k
    · subst e; rw [if_pos rfl, if_pos rfl]; exact hok
    · rw [if_neg e, if_neg e]; exact (h.cel i hi).fr kp
theorem Mat.ext {s : Store} {q n c : Nat} {rp : Nat → Nat} {A : Nat → List (List V)} {M M2 : MF} (h : Mat s q n c rp A M) (e : ∀ i, i < n → M i = M2 i) : Mat s q n c rp A M2 :=
  ⟨h.inj, h.out, h.row, fun i hi => e i hi ▸ h.cel i hi⟩
theorem orow_irows {n c : Nat} {rp : Nat → Nat} (hn : 0 < n) (l : List Int) : orow n c rp ≠ irows l := fun e => by
  have h1 := orow_at (c := c) (rp := rp) hn
  rw [e] at h1
  cases l with
  | nil => simp [irows] at h1
  | cons x l => simp [irows] at h1
theorem Mat.swap {s : Store} {q n c k p : Nat} {rp : Nat → Nat} {A : Nat → List (List V)} {M : MF} (h : Mat s q n c rp A M) (hk : k < n) (hp : p < n) {rows : List (List V)} (hrows : rows = ((orow n c rp).set k [.msl (rp p) 0 c]).set p [.msl (rp k) 0 c]) {s2 : Store} (hq : objAt s2 q = some ⟨1, rows⟩) (ho : ∀ o, o ≠ q → o < s.length → objAt s2 o = objAt s o) :
    Mat s2 q n c (fun x => if x = p then rp k else if x = k then rp p else rp x) (fun x => if x = p then A k else if x = k then A p else A x) (rrSwap M k p) := by
  have kp : Kp s s2 := fun o l e => ho o (fun e2 => by
    rw [e2, h.out] at e
    injection e with e
    injection e with _ e
    exact orow_irows (by omega) l e) (objAt_lt e)
  have hr := fun i hi => (ho _ (h.ne hi) (h.lt.2 i hi)).trans (h.row i hi)
  have hc := fun i hi => (h.cel i hi).fr kp
  refine ⟨fun i j hi hj e => ?_, ?_, fun i hi => ?_, fun i hi => ?_⟩
  · have inj := h.inj
    by_cases a1 : i = p <;> by_cases b1 : j = p
    · omega
    · rw [if_pos a1, if_neg b1] at e
      by_cases b2 : j = k
      · rw [if_pos b2] at e
        have := inj k p hk hp e; omega
      · rw [if_neg b2] at e
        have := inj k j hk hj e; omega
    · rw [if_neg a1, if_pos b1] at e
      by_cases b2 : i = k
      · rw [if_pos b2] at e
        have := inj p k hp hk e; omega
      · rw [if_neg b2] at e
        have := inj i k hi hk e; omega
    · rw [if_neg a1, if_neg b1] at e
      by_cases a2 : i = k <;> by_cases b2 : j = k
      · omega
      · rw [if_pos a2, if_neg b2] at e
        have := inj p j hp hj e; omega
      · rw [if_neg a2, if_pos b2] at e
        have := inj i p hi hp e; omega
      · rw [if_neg a2, if_neg b2] at e
        exact inj i j hi hj e
  · rw [hq, hrows, orow_set, orow_set]
  · split
    · exact hr k hk
    · split
      · exact hr p hp
      · exact hr i hi
  · unfold rrSwap
    split
    · exact hc k hk
    · split
      · exact hc p hp
      · exact hc i hi
structure OwF (s : Store) (A : Nat → List (List V)) (M : MF) (f : Nat → List Nat) (S : Nat → Prop) : Prop where
  ow : ∀ i, S i → OwR s (A i) ((M i).map R.cells) (f i)
  nd : ∀ i, S i → (f i).Nodup
  ap : ∀ i j, S i → S j → i ≠ j → ∀ o ∈ f i, o ∉ f j
theorem owF_no {s : Store} {A : Nat → List (List V)} {M : MF} {f : Nat → List Nat} : OwF s A M f fun _ => False := ⟨fun _ h => h.elim, fun _ h => h.elim, fun _ _ h => h.elim⟩
theorem OwF.kp {s s2 : Store} {A : Nat → List (List V)} {M : MF} {f : Nat → List Nat} {S : Nat → Prop} (h : OwF s A M f S) (k : Kp s s2) : OwF s2 A M f S :=
  ⟨fun i hi => (h.ow i hi).frame fun o ho => by obtain ⟨l, hl⟩ := (row_ow (h.ow i hi)).2 o ho; exact k o l hl, h.nd, h.ap⟩
theorem OwF.put {s s2 : Store} {A : Nat → List (List V)} {M : MF} {f : Nat → List Nat} {S : Nat → Prop} {k : Nat} {A2 : List (List V)} {r : List R} {os : List Nat} (h : OwF s A M f S) (kp : Kp s s2) (ho : OwR s2 A2 (r.map R.cells) os) (hn : os.Nodup) (hf : ∀ o ∈ os, s.length ≤ o) :
    OwF s2 (fun i => if i = k then A2 else A i) (fun i => if i = k then r else M i) (fun i => if i = k then os else f i) (fun i => S i ∨ i = k) := by
  have h2 := h.kp kp
  have lt : ∀ i, S i → ∀ o ∈ f i, o < s.length := fun i hi => (h.ow i hi).lt
  refine ⟨fun i hi => ?_, fun i hi => ?_, fun i j hi hj hne o h1 h3 => ?_⟩
  · by_cases e : i = k
    · subst e; rw [if_pos rfl, if_pos rfl, if_pos rfl]; exact ho
    · rw [if_neg e, if_neg e, if_neg e]; exact h2.ow i (hi.resolve_right e)
  · by_cases e : i = k
    · subst e; rw [if_pos rfl]; exact hn
    · rw [if_neg e]; exact h.nd i (hi.resolve_right e)
  · by_cases e : i = k
    · by_cases e2 : j = k
      · omega
      · rw [if_pos e] at h1; rw [if_neg e2] at h3
        have := hf o h1
        have := lt j (hj.resolve_right e2) o h3
        omega
    · rw [if_neg e] at h1
      by_cases e2 : j = k
      · rw [if_pos e2] at h3
        have := hf o h3
        have := lt i (hi.resolve_right e) o h1
        omega
      · rw [if_neg e2] at h3
        exact h.ap i j (hi.resolve_right e) (hj.resolve_right e2) hne o h1 h3
theorem OwF.ext {s : Store} {A : Nat → List (List V)} {M M2 : MF} {f : Nat → List Nat} {S S2 : Nat → Prop} (h : OwF s A M f S) (e : ∀ i, S2 i → S i ∧ M i = M2 i) : OwF s A M2 f S2 :=
  ⟨fun i hi => (e i hi).2 ▸ h.ow i (e i hi).1, fun i hi => h.nd i (e i hi).1, fun i j hi hj => h.ap i j (e i hi).1 (e j hj).1⟩
theorem OwF.fin {s : Store} {q n c : Nat} {rp : Nat → Nat} {A : Nat → List (List V)} {M : MF} {f : Nat → List Nat} (h : Mat s q n c rp A M) (ho : OwF s A M f fun i => i < n) (hc : 0 < c) (hl : ∀ i, i < n → (M i).length = c) : Fin s (.msl q 0 n) (ratssV ((List.range n).map M)) := by
  have key : ∀ m, m ≤ n → ∃ os, OwR s ((List.range m).map fun i => [.msl (rp i) 0 c]) (((List.range m).map M).map fun r => [ratsV r]) os ∧ os.Nodup ∧ ∀ o ∈ os, ∃ i, i < m ∧ (o = rp i ∨ o ∈ f i) := by
    intro m
    induction m with
    | zero => intro _; exact ⟨[], by simp [OwR], .nil, by simp⟩
    | succ m ih =>
      intro hm
      obtain ⟨os, k1, k2, k3⟩ := ih (by omega)
      have hm' : m < n := by omega
      have kinds : ∀ i, i < n → ∀ o ∈ f i, ∃ l, objAt s o = some ⟨1, irows l⟩ := fun i hi => (row_ow (ho.ow i hi)).2
      have hnf : ∀ i j, i < n → j < n → rp i ∉ f j := fun i j hi hj hm => by
        obtain ⟨l, hl⟩ := kinds j hj _ hm
        rw [h.row i hi] at hl; cases hl
      have hv : OwV s (.msl (rp m) 0 c) (ratsV (M m)) (rp m :: f m) := by
        unfold ratsV
        simp only [OwV]
        exact .inr ⟨rp m, A m, f m, by rw [List.length_map, hl m hm'], h.row m hm', rfl, ho.ow m hm'⟩
      refine ⟨os ++ (rp m :: f m), ?_, ?_, fun o ho' => ?_⟩
      · rw [List.range_succ, List.map_append, List.map_append, List.map_append]
        exact owR_append k1 (owR_1 (owL_1 hv))
      · rw [List.nodup_append, List.nodup_cons]
        refine ⟨k2, ⟨hnf m m hm' hm', ho.nd m hm'⟩, fun x hx y hy e => ?_⟩
        subst e
        obtain ⟨i, hi, hi2⟩ := k3 x hx
        rcases List.mem_cons.1 hy with hy | hy
        · rcases hi2 with hi2 | hi2
          · have := h.inj i m (by omega) hm' (hi2.symm.trans hy); omega
          · rw [hy] at hi2; exact hnf m i hm' (by omega) hi2
        · rcases hi2 with hi2 | hi2
          · rw [hi2] at hy; exact hnf i m (by omega) hm' hy
          · exact ho.ap i m (by omega) hm' (by omega) x hi2 hy
      · rcases List.mem_append.1 ho' with ho' | ho'
        · obtain ⟨i, hi, k⟩ := k3 o ho'; exact ⟨i, by omega, k⟩
        · rcases List.mem_cons.1 ho' with rfl | ho'
          · exact ⟨m, by omega, .inl rfl⟩
          · exact ⟨m, by omega, .inr ho'⟩
  obtain ⟨os, k1, k2, k3⟩ := key n (Nat.le_refl _)
  refine fin_of (os := q :: os) ?_ (List.nodup_cons.2 ⟨fun hm => ?_, k2⟩)
  · unfold ratssV
    simp only [OwV]
    exact .inr ⟨q, _, os, by simp, h.out, rfl, k1⟩
  · obtain ⟨i, hi, e | e⟩ := k3 q hm
    · exact h.ne hi e.symm
    · obtain ⟨l, hl⟩ := (row_ow (ho.ow i hi)).2 _ e
      rw [h.out] at hl
      injection hl with hl
      injection hl with _ hl
      exact orow_irows (by omega) l hl
end Go.Ml
end
section
set_option linter.unusedSimpArgs false
set_option linter.unusedVariables false
namespace Go.Ml
theorem OwnK_idn {T : Nat → Option Fn} {f : Nat} {as : List Src} {dst : Option Nat} {env : Nat → V} {σ σ' : Store} {kp bs : Nat} {rs ms : List Nat} {k : List Nat → List Nat → Bool → St → Prop} {as' : List V} {r : V}
    (h : Run T (.fn f as' σ) (.fn r σ')) (ha : (as.map fun s => s.ev env) = as') (hl : σ.length ≤ σ'.length) (hb : σ.length ≤ bs) (hk : k (List.range σ.length) (List.range σ.length) true ⟨updO env dst r, σ', kp, bs, rs, ms⟩) :
    OwnK T f as dst ⟨env, σ, kp, bs, rs, ms⟩ k := by
  subst ha
  exact .inr (.inr (.inl ⟨r, σ', h, hl, hb, hk⟩))
def renA (g : Nat → Nat) (a : Acc) : Acc := ⟨a.i, a.R.map g, a.W.map g, a.n⟩
section
variable {g : Nat → Nat} {L L0 : Nat} (hinj : ∀ x y, g x = g y ↔ x = y) (hlt : ∀ x, g x < L ↔ x < L0)
include hinj in
theorem ren_contains (l : List Nat) (p : Nat) : (l.map g).contains (g p) = l.contains p := by
  rw [Bool.eq_iff_iff, List.contains_iff_mem, List.contains_iff_mem, List.mem_map]
  constructor
  · rintro ⟨q, h1, h2⟩
    rw [(hinj _ _).1 h2] at h1; exact h1
  · exact fun h => ⟨p, h, rfl⟩
include hlt in
theorem below_ren (a b : Acc) : belowA L (renA g a) (renA g b) = belowA L0 a b := by
  unfold belowA renA
  simp only [List.all_map, Function.comp_def]
  simp only [hlt]
include hinj hlt in
theorem apart_ren (d e : OpI) (a b : Acc) : apartA L d e (renA g a) (renA g b) = apartA L0 d e a b := by
  unfold apartA
  rw [below_ren hlt, below_ren hlt]
  simp only [renA, List.all_map, Function.comp_def]
  simp only [ren_contains hinj]
  congr 6
  · congr 1
    funext p
    congr 2
    funext q
    rw [bne, bne]
    congr 1
    rw [Bool.eq_iff_iff, beq_iff_eq, beq_iff_eq]; exact hinj _ _
include hinj hlt in
theorem okA_ren {B : Nat → List Nat} {ops : List OpI} : ∀ l : List Acc, okA L B ops (l.map (renA g)) = okA L0 B ops l
  | [] => rfl
  | a :: l => by
    simp only [List.map_cons, okA, List.all_map, Function.comp_def]
    rw [okA_ren l]
    congr 2
    funext b
    have h1 : (renA g a).i = a.i := rfl
    have h2 : (renA g b).i = b.i := rfl
    rw [apart_ren hinj hlt, h1, h2]
include hinj hlt in
theorem OkA_ren {ops : List OpI} {l l0 : List Acc} (he : l = l0.map (renA g)) (hk : OkA L0 ops l0) : OkA L ops l := by
  unfold OkA at hk ⊢
  rw [he, ← List.map_reverse, okA_ren hinj hlt]
  exact hk
end
def gN (l : List Nat) (L x : Nat) : Nat := match l[x]? with
  | some y => y
  | none => L + x
theorem gN_lt {l : List Nat} {L : Nat} (hl : ∀ o ∈ l, o < L) (x : Nat) : gN l L x < L ↔ x < l.length := by
  unfold gN
  cases h : l[x]? with
  | none =>
    have := List.getElem?_eq_none_iff.1 h
    simp only []
    omega
  | some y =>
    have h1 := (List.getElem?_eq_some_iff.1 h).1
    have h2 := hl y (List.mem_of_getElem? h)
    simp only []
    omega
theorem gN_inj {l : List Nat} {L : Nat} (hl : ∀ o ∈ l, o < L) (hn : l.Nodup) (x y : Nat) : gN l L x = gN l L y ↔ x = y := by
  constructor
  · intro e
    have hx := gN_lt hl x
    have hy := gN_lt hl y
    by_cases h : x < l.length
    · have h2 : y < l.length := hy.1 (e ▸ hx.2 h)
      unfold gN at e
      rw [List.getElem?_eq_getElem h, List.getElem?_eq_getElem h2] at e
      exact (List.getElem_inj hn).1 e
    · have h2 : ¬ y < l.length := fun k => h (hx.1 (e ▸ hy.2 k))
      unfold gN at e
      rw [List.getElem?_eq_none (by omega), List.getElem?_eq_none (by omega)] at e
      simp only [] at e
      omega
  · rintro rfl; rfl
theorem OkA_all3 {ops : List OpI} {aF : Nat → Nat → Nat → List Acc} (a b c L : Nat) (hn : [a, b, c].Nodup) (hl : ∀ o ∈ [a, b, c], o < L) (ha : ∀ (g : Nat → Nat) (a b c : Nat), aF (g a) (g b) (g c) = (aF a b c).map (renA g)) (h : OkA 3 ops (aF 0 1 2)) : OkA L ops (aF a b c) :=
  OkA_ren (g := gN [a, b, c] L) (gN_inj hl hn) (gN_lt hl) (ha (gN [a, b, c] L) 0 1 2) h
theorem nd2 {a b : Nat} (h : a ≠ b) : [a, b].Nodup := by simp [h]
theorem nd3 {a b c : Nat} (h : a ≠ b) (h2 : a ≠ c) (h3 : b ≠ c) : [a, b, c].Nodup := by simp [h, h2, h3]
theorem nd4 {a b c d : Nat} (h : a ≠ b) (h2 : a ≠ c) (h3 : a ≠ d) (h4 : b ≠ c) (h5 : b ≠ d) (h6 : c ≠ d) : [a, b, c, d].Nodup := by simp [h, h2, h3, h4, h5, h6]
theorem lt2 {a b L : Nat} (h : a < L) (h2 : b < L) : ∀ o ∈ [a, b], o < L := by simp [h, h2]
theorem lt3 {a b c L : Nat} (h : a < L) (h2 : b < L) (h3 : c < L) : ∀ o ∈ [a, b, c], o < L := by simp [h, h2, h3]
end Go.Ml
end
section
set_option linter.unusedSimpArgs false
set_option linter.unusedVariables false
set_option maxRecDepth 100000
set_option maxHeartbeats 8000000
namespace Go.Ml
structure SubI (s0 s : Store) (ri : Nat) (box : Obj) (A : List (List V)) (Z : List R) (j : Nat) (N : List (List V)) (os : List Nat) : Prop where
  row : objAt s ri = some ⟨3, N ++ A.drop j⟩
  nl : N.length = j
  ow : OwR s N ((Z.take j).map R.cells) os
  nd : os.Nodup
  fr : ∀ o ∈ os, s0.length ≤ o
  old : ∀ o, o < s0.length → o ≠ ri → objAt s o = objAt s0 o
  bx : objAt s s0.length = some box
  len : s0.length < s.length
section
variable {s0 s : Store} {ri : Nat} {box : Obj} {A : List (List V)} {Z : List R} {j : Nat} {N : List (List V)} {os : List Nat}
theorem subI_init (hi : objAt s0 ri = some ⟨3, A⟩) : SubI s0 (s0 ++ [some box]) ri box A Z 0 [] [] :=
  ⟨(objAt_snoc_lt (objAt_lt hi)).trans (by rw [List.nil_append, List.drop_zero]; exact hi), rfl, by simp [OwR], .nil, by simp, fun o ho _ => objAt_snoc_lt ho, objAt_snoc _ _, by simp⟩
theorem SubI.kp (I : SubI s0 s ri box A Z j N os) (hi : objAt s0 ri = some ⟨3, A⟩) : Kp s0 s := fun o l e => I.old o (objAt_lt e) fun e2 => by rw [e2, hi] at e; cases e
theorem SubI.at (I : SubI s0 s ri box A Z j N os) (hj : j < A.length) : (N ++ A.drop j)[j]? = some (A.getD j []) := by
  rw [List.getElem?_append_right (by rw [I.nl]; exact Nat.le_refl _), I.nl, Nat.sub_self, List.getElem?_drop, Nat.add_zero, List.getD_eq_getElem?_getD, List.getElem?_eq_getElem hj]; rfl
theorem SubI.step (I : SubI s0 s ri box A Z j N os) (hri : ri < s0.length) (hj : j < A.length) (hjZ : j < Z.length) {z : R} (hz : Z.getD j default = z) {q3 : Store} {c : List V} {o3 : List Nat} (old : ∀ o, o < s.length → objAt q3 o = objAt s o) (len : s.length ≤ q3.length)
    (ho : OwL q3 c z.cells o3) (nd3 : o3.Nodup) (fr3 : ∀ o ∈ o3, s.length ≤ o) : SubI s0 (q3.set ri (some ⟨3, (N ++ A.drop j).set j c⟩)) ri box A Z (j + 1) (N ++ [c]) (os ++ o3) := by
  have hl := I.len
  have ne : ∀ o, ri ≠ o → objAt (q3.set ri (some ⟨3, (N ++ A.drop j).set j c⟩)) o = objAt q3 o := fun o h => objAt_setne fun e => h e.symm
  have e1 : (N ++ A.drop j).set j c = (N ++ [c]) ++ A.drop (j + 1) := by
    rw [List.set_append_right _ _ (by rw [I.nl]; exact Nat.le_refl _), I.nl, Nat.sub_self, List.drop_eq_getElem_cons hj, List.set_cons_zero, List.append_assoc]; rfl
  refine ⟨?_, by simp [I.nl], ?_, ?_, fun o h => ?_, fun o h1 h2 => ?_, ?_, by simp; omega⟩
  · rw [objAt_seteq (by omega), e1]
  · rw [take_snoc hjZ, List.map_append, hz]
    refine owR_append (I.ow.frame fun o h => ?_) (owR_1 (ho.frame fun o h => ?_))
    · have h1 := I.fr o h
      rw [ne o (by omega), old o (I.ow.lt o h)]
    · have := fr3 o h
      rw [ne o (by omega)]
  · rw [List.nodup_append]
    refine ⟨I.nd, nd3, fun x hx y hy e => ?_⟩
    have := I.ow.lt x hx
    have := fr3 y hy
    omega
  · rcases List.mem_append.1 h with h | h
    · exact I.fr o h
    · have := fr3 o h; omega
  · rw [ne o (fun e => h2 e.symm), old o (by omega), I.old o h1 h2]
  · rw [ne _ (by omega), old _ (by omega), I.bx]
theorem SubI.fin (I : SubI s0 s ri box A Z j N os) (h1 : j = A.length) (h2 : j = Z.length) : objAt s ri = some ⟨3, N⟩ ∧ OwR s N (Z.map R.cells) os := by
  have a := I.row
  have b := I.ow
  rw [h1, List.drop_length, List.append_nil] at a
  rw [h2, List.take_length] at b
  exact ⟨a, b⟩
end
theorem LimbOk.r11 {s : Store} {v : V} {l : List Int} (h : LimbOk s v l) : resolve s 11 v = some (ints l) := h.res 8
theorem LimbOk.rch {s : Store} {v : V} {l : List Int} (h : LimbOk s v l) : ∀ n, ∀ o ∈ reach s n v, ∃ l, objAt s o = some ⟨1, irows l⟩ := by
  intro n o ho
  rcases h with rfl | ⟨q, rfl, hq⟩
  · cases n <;> simp [reach] at ho
  · cases n with
    | zero => simp [reach] at ho
    | succ n =>
      simp only [reach, hq, List.mem_cons, List.mem_flatMap] at ho
      rcases ho with rfl | ⟨r, hr, c, hc, ho⟩
      · exact ⟨_, hq⟩
      · have hs := ir_still l r hr c hc
        cases n with
        | zero => simp [reach] at ho
        | succ n => rw [reach_still hs] at ho; cases ho
theorem CellOk.rch {s : Store} {c : List V} {x : R} (h : CellOk s c x) : ∀ n, ∀ o ∈ reach s n (.agg c), ∃ l, objAt s o = some ⟨1, irows l⟩ := by
  intro n o ho
  obtain ⟨v1, v2, rfl, h1, h2⟩ := h
  cases n with
  | zero => simp [reach] at ho
  | succ n =>
    rw [reach_agg] at ho
    obtain ⟨c, hc, ho⟩ := ho
    simp only [List.mem_cons, List.not_mem_nil, or_false] at hc
    rcases hc with rfl | rfl | rfl
    · cases n <;> simp [reach] at ho
    · exact h1.rch n o ho
    · exact h2.rch n o ho
theorem rn_subtractRow {T : Nat → Option Fn} (h : D_impl_subtractRow T) {s0 : Store} {ri rk : Nat} {A B : List (List V)} {X Y : List R} {f : R} {w1 w2 : V}
    (hi : objAt s0 ri = some ⟨3, A⟩) (hk : objAt s0 rk = some ⟨3, B⟩) (hne : ri ≠ rk) (hA : RowOk s0 A X) (hB : RowOk s0 B Y) (hl : Y.length = X.length) (hf1 : LimbOk s0 w1 f.mag) (hf2 : LimbOk s0 w2 f.den)
    (cX : ∀ x ∈ X, x.cn) (cY : ∀ x ∈ Y, x.cn) (cf : f.cn) (hX : X.length ≤ 1048576) :
    ∃ s' A' os, Run T (.fn 245 [.msl ri 0 X.length, .msl rk 0 X.length, .agg [.bool f.neg, w1, w2]] s0) (.fn (.bool ((rrSub X Y f).all R.ok)) s') ∧
      objAt s' ri = some ⟨3, A'⟩ ∧ OwR s' A' ((rrSub X Y f).map R.cells) os ∧ os.Nodup ∧ (∀ o ∈ os, s0.length ≤ o) ∧ (∀ o, o < s0.length → o ≠ ri → objAt s' o = objAt s0 o) ∧ s0.length ≤ s'.length := by
  have lw := And.intro hf1.leaf hf2.leaf
  have hZl := rrSub_len X Y f
  have hZc := rrSub_cn X Y f
  have hZa := fun j (hj : j < X.length) => rrSub_at X Y f hj
  have hri := objAt_lt hi
  have hrk := objAt_lt hk
  have hAl := hA.1
  have : ∃ r s', Run T (.fn 245 [.msl ri 0 X.length, .msl rk 0 X.length, .agg [.bool f.neg, w1, w2]] s0) (.fn r s') ∧ (r = .bool ((rrSub X Y f).all R.ok) ∧ ∃ A' os,
      objAt s' ri = some ⟨3, A'⟩ ∧ OwR s' A' ((rrSub X Y f).map R.cells) os ∧ os.Nodup ∧ (∀ o ∈ os, s0.length ≤ o) ∧ (∀ o, o < s0.length → o ≠ ri → objAt s' o = objAt s0 o) ∧ s0.length ≤ s'.length) := by
    generalize rrSub X Y f = Z at *
    obtain ⟨p, hp⟩ : ∃ p, p = s0.length := ⟨_, rfl⟩
    have hpri : ri ≠ p := by omega
    have hprk : rk ≠ p := by omega
    refine run_end (fun x d => x == 157 || x == 159) h.hT rfl rfl ?_
    dsimp only [F_impl_subtractRow, oN, oS, oG, oK, oA, oH, oV, cI, St.enter, List.length_cons, List.length_nil, Nat.zero_add]
    (refine ew ?_; try with_reducible exact True.intro)
    have hi1 : objAt (s0 ++ [some (⟨3, [[.bool f.neg, w1, w2]]⟩ : Obj)]) ri = some ⟨3, A⟩ := (objAt_snoc_lt hri).trans hi
    (refine ew2 @lw @hi ?_; try with_reducible exact True.intro)
    refine loop_at (fun x d => x == 157 || x == 159) (α := Nat × Store × List (List V) × List Nat) (fun q => ⟨argE [.msl ri 0 X.length, .msl rk 0 X.length, .any, .any, .any, .ptr s0.length 0 0, .any, .any, .msl ri 0 X.length, iv (X.length : Nat), iv (q.1 : Nat)], q.2.1, s0.length, 0, [], []⟩) (fun q => q.1 ≤ X.length ∧ SubI s0 q.2.1 ri ⟨3, [[.bool f.neg, w1, w2]]⟩ A Z q.1 q.2.2.1 q.2.2.2) (fun q => X.length - q.1) rfl (0, s0 ++ [some (⟨3, [[.bool f.neg, w1, w2]]⟩ : Obj)], [], []) ?_ ?_ ?_
    · exact ⟨by omega, subI_init hi⟩
    · (refine Fg_env ?_) <;> (try (refine ew ?_; try with_reducible exact True.intro)) <;> (repeat' (first | refine ⟨?_, ?_⟩ | exact EvV_int (by omega) | exact EvV_of (by simp) | exact EvV_nil _))
    · rintro ⟨j, s, N, os⟩ ⟨hj, I⟩
      dsimp only at hj I
      have hls := I.len
      have hbx := I.bx
      rw [← hp] at hbx ⊢
      by_cases hc : (j : Int) < (X.length : Nat)
      · have hjl : j < X.length := by omega
        obtain ⟨a1, a2, ea, ka1, ka2⟩ := hA.2 j hjl
        obtain ⟨b1, b2, eb, kb1, kb2⟩ := hB.2 j (by omega)
        have kp := I.kp hi
        have cx := cX _ (getD_mem hjl)
        have cy := cY _ (getD_mem (l := Y) (i := j) (by omega))
        have hz := hZa j hjl
        have gA := I.at (by omega)
        rw [ea] at gA
        have gB : B[j]? = some (B.getD j []) := by
          have hjB : j < B.length := by rw [hB.1]; omega
          rw [List.getD_eq_getElem?_getD, List.getElem?_eq_getElem hjB]; rfl
        rw [eb] at gB
        have orow := I.row
        have ork := (I.old rk hrk (fun e => hne e.symm)).trans hk
        have hrs : ri < s.length := by omega
        have hks : rk < s.length := by omega
        have hps : p < s.length := by omega
        replace kb1 := kb1.fr kp
        replace kb2 := kb2.fr kp
        have kw1 := hf1.fr kp
        have kw2 := hf2.fr kp
        replace ka1 := ka1.fr kp
        replace ka2 := ka2.fr kp
        generalize X.getD j default = x at *
        generalize Y.getD j default = y at *
        have stp := fun (q3 : Store) (c : List V) (o3 : List Nat) old len ho nd3 fr3 => I.step (q3 := q3) (c := c) (o3 := o3) hri (by omega) (by omega) hz old len ho nd3 fr3
        generalize hL : N ++ List.drop j A = L at *
        have R1 := And.intro (And.intro kb1.r11 kb2.r11) (And.intro kw1.r11 kw2.r11)
        (refine ew6 @hc (And.intro orow (And.intro ork hbx)) (And.intro gA gB) @R1 @numK_any @or_sc ?_; try with_reducible exact True.intro)
        refine OwnK_gotP (fun o => ∃ l, objAt s o = some ⟨1, irows l⟩) (show PO T 157 [ratV y, ratV f] (ratV (mulR y f)) from po_ratMulR h.d_impl_ratMul cy cf) (by (refine ew3 @R1 @numK_any @or_sc ?_; try with_reducible exact True.intro)) ?_ ?_
        · intro o ho
          have ho : o ∈ reach s (11 + 1) (.agg [.bool y.neg, b1, b2]) ++ (reach s (11 + 1) (.agg [.bool f.neg, w1, w2]) ++ []) := ho
          rw [List.append_nil] at ho
          rcases List.mem_append.1 ho with ho | ho
          · exact CellOk.rch ⟨_, _, rfl, kb1, kb2⟩ _ o ho
          · exact CellOk.rch ⟨_, _, rfl, kw1, kw2⟩ _ o ho
        intro Q1 r q2 o2 hQ1 G
        have hmc := mulR_cn y f
        generalize mulR y f = mm at *
        obtain ⟨_, rfl, hQ⟩ := G.ow.agg_inv
        obtain ⟨m1, m2, rfl⟩ := hQ.rat
        obtain ⟨v1, v2, e, km1, km2⟩ := (cell_ow hQ).1
        simp only [List.cons.injEq, and_true, true_and] at e
        obtain ⟨rfl, rfl⟩ := e
        have gl2 : s.length ≤ q2.length := G.len
        replace ka1 := ka1.fr (.old G.old)
        replace ka2 := ka2.fr (.old G.old)
        have R2 := And.intro (And.intro ka1.r11 ka2.r11) (And.intro km1.r11 km2.r11)
        (refine ew3 @R2 @numK_any @or_sc ?_; try with_reducible exact True.intro)
        refine OwnK_gotP (fun o => ∃ l, objAt q2 o = some ⟨1, irows l⟩) (show PO T 159 [ratV x, ratV mm] (ratV (subR x mm)) from po_ratSubR h.d_impl_ratSub cx hmc) (by (refine ew3 @R2 @numK_any @or_sc ?_; try with_reducible exact True.intro)) ?_ ?_
        · intro o ho
          have ho : o ∈ reach q2 (11 + 1) (.agg [.bool x.neg, a1, a2]) ++ (reach q2 (11 + 1) (.agg [.bool mm.neg, m1, m2]) ++ []) := ho
          rw [List.append_nil] at ho
          rcases List.mem_append.1 ho with ho | ho
          · exact CellOk.rch ⟨_, _, rfl, ka1, ka2⟩ _ o ho
          · exact CellOk.rch ⟨_, _, rfl, km1, km2⟩ _ o ho
        intro Q2 r q3 o3 hQ2 G2
        generalize subR x mm = z at *
        obtain ⟨_, rfl, hQ⟩ := G2.ow.agg_inv
        obtain ⟨z1, z2, rfl⟩ := hQ.rat
        have lz := OwL.leaf hQ rfl
        simp only [List.all_cons, List.all_nil, Bool.and_true, Bool.and_eq_true] at lz
        have gl3 : q2.length ≤ q3.length := G2.len
        have old3 : ∀ o, o < s.length → objAt q3 o = objAt s o := fun o ho => (G2.old o (by omega)).trans (G.old o ho)
        have row3 := (old3 ri hrs).trans orow
        have hr3 : ri < q3.length := by omega
        have stp2 := stp q3 _ o3 old3 (by omega) hQ G2.nd (fun o ho => by have := G2.fresh o ho; omega)
        have nri : ∀ (q : Store) (l : List Int), objAt q ri = some ⟨3, L⟩ → objAt q ri ≠ some ⟨1, irows l⟩ := fun q l e k => by rw [e] at k; cases k
        have n1 : ∀ o ∈ Q1, o ≠ ri := fun o ho e => by
          obtain ⟨l, hl⟩ := hQ1 o ho
          exact nri s l orow (e ▸ hl)
        have n2 : ∀ o ∈ Q2, o ≠ ri := fun o ho e => by
          obtain ⟨l, hl⟩ := hQ2 o ho
          exact nri q2 l ((G.old ri hrs).trans orow) (e ▸ hl)
        clear hQ1 hQ2 stp
        (refine ew5 @lz (And.intro row3 hr3) @gA @numK_any @or_sc ?_; try with_reducible exact True.intro)
        refine ⟨?_, ?_⟩
        · have d1 : ri < s.length := hrs
          clear stp2 old3 row3 hr3
          revert Q2
          refine OkA_dropA _ (fun R => ∀ o ∈ R, o ≠ ri) 2 12 rfl (fun _ => rfl) ?_ ?_
          · intro R hR b hb w hw hm
            simp only [List.mem_cons, List.not_mem_nil, or_false] at hb
            rcases hb with rfl | rfl | rfl | rfl | rfl | rfl | rfl | rfl | rfl | rfl | rfl | rfl | rfl | rfl | rfl
            all_goals first | (cases hw; done) | (rw [List.mem_singleton.1 hw] at hm; exact hR _ hm rfl)
          revert Q1
          refine OkA_dropA _ (fun R => ∀ o ∈ R, o ≠ ri) 3 11 rfl (fun _ => rfl) ?_ ?_
          · intro R hR b hb w hw hm
            simp only [List.mem_cons, List.not_mem_nil, or_false] at hb
            rcases hb with rfl | rfl | rfl | rfl | rfl | rfl | rfl | rfl | rfl | rfl | rfl | rfl | rfl | rfl | rfl
            all_goals first | (cases hw; done) | (rw [List.mem_singleton.1 hw] at hm; exact hR _ hm rfl)
          refine OkA_all3 (aF := fun a b c => [⟨14, [a], [a], false⟩, ⟨13, [a], [], false⟩, ⟨12, [], [], true⟩, ⟨11, [], [], true⟩, ⟨10, [c], [], false⟩, ⟨9, [b], [], false⟩, ⟨8, [b], [], false⟩, ⟨7, [], [], false⟩, ⟨6, [], [], false⟩, ⟨5, [a], [], false⟩, ⟨4, [a], [], false⟩, ⟨3, [], [], false⟩, ⟨2, [], [], false⟩, ⟨1, [], [], false⟩, ⟨0, [], [], false⟩]) ri rk p s.length ?_ ?_ ?_ ?_
          · exact nd3 hne hpri hprk
          · exact lt3 hrs hks hps
          · exact fun _ _ _ _ => rfl
          · unfold OkA; decide +kernel
        · refine ⟨(j + 1, ?st, N ++ [[.bool z.neg, z1, z2]], os ++ o3), ?c1, ⟨?c2, ?c4⟩, ?c3⟩
          case c3 => dsimp only; (refine Fg_env ?_) <;> (try (refine ew ?_; try with_reducible exact True.intro)) <;> (repeat' (first | refine ⟨?_, ?_⟩ | exact EvV_int (by omega) | exact EvV_of (by simp) | exact EvV_nil _))
          case c1 => dsimp only; omega
          case c2 => dsimp only; omega
          case c4 => exact stp2
      · have hje : j = X.length := by omega
        obtain ⟨f1, f2⟩ := I.fin (by omega) (by omega)
        have rw1 := (row_ow f2).1
        have Rf := rw1.res f1
        rw [hZl] at Rf
        have cg := c_goodRow h.d_impl_goodRow hZc (by omega)
        (refine ew2 @hc @Rf ?_; try with_reducible exact True.intro)
        refine PFK_of cg ?_
        (refine ew ?_; try with_reducible exact True.intro)
        subst hp
        exact ⟨N, os, f1, f2, I.nd, I.fr, I.old, by omega⟩
  obtain ⟨r, s', h1, rfl, A', os, h2⟩ := this
  exact ⟨s', A', os, h1, h2⟩
end Go.Ml
end
section
set_option linter.unusedSimpArgs false
set_option linter.unusedVariables false
set_option maxRecDepth 100000
set_option maxHeartbeats 16000000
namespace Go.Ml
theorem matF_snoc {s s2 : Store} {q q2 p2 i c : Nat} {rp : Nat → Nat} {M : MF} (h : i = 0 ∨ Mat s q i c rp (fun x => (M x).map R.cells) M) (hq : objAt s2 q2 = some ⟨1, orow i c rp ++ [[.msl p2 0 c]]⟩) (hp : objAt s2 p2 = some ⟨3, (M i).map R.cells⟩) (hpl : s.length ≤ p2)
    (old : ∀ o, o < s.length → o ≠ q → objAt s2 o = objAt s o) : Mat s2 q2 (i + 1) c (fun x => if x = i then p2 else rp x) (fun x => (M x).map R.cells) M := by
  have hlt : ∀ x, x < i → rp x < s.length ∧ rp x ≠ q := fun x hx => by
    rcases h with h | h
    · omega
    · exact ⟨h.lt.2 x hx, h.ne hx⟩
  refine ⟨fun x y hx hy e => ?_, ?_, fun x hx => ?_, fun x hx => row_frz _⟩
  · by_cases h1 : x = i
    · by_cases h2 : y = i
      · omega
      · rw [if_pos h1, if_neg h2] at e
        have := (hlt y (by omega)).1
        omega
    · by_cases h2 : y = i
      · rw [if_neg h1, if_pos h2] at e
        have := (hlt x (by omega)).1
        omega
      · rw [if_neg h1, if_neg h2] at e
        rcases h with h | h
        · omega
        · exact h.inj x y (by omega) (by omega) e
  · rw [hq]
    unfold orow
    rw [List.range_succ, List.map_append]
    congr 2
    congr 1
    · refine List.map_congr_left fun x hx => ?_
      have := List.mem_range.1 hx
      show [V.msl (rp x) 0 c] = [V.msl (if x = i then p2 else rp x) 0 c]
      rw [if_neg (by omega)]
    · simp
  · by_cases h1 : x = i
    · subst h1; rw [if_pos rfl]; exact hp
    · rw [if_neg h1]
      have hxi : x < i := by omega
      rcases h with h | h
      · omega
      · exact (old _ (hlt x hxi).1 (hlt x hxi).2).trans (h.row x hxi)
theorem mat_bd {m : List (List R)} {C : Nat} (hz : szL (szL R.sz) m ≤ 1048576) (h0 : 0 < m.length) (hrl : ∀ i, i < m.length → (m.getD i default).length = C) : C ≤ 1048576 := by
  have h2 := szL_memb (f := szL R.sz) hz (getD_mem h0)
  have h3 := szL_eq R.sz (m.getD 0 default)
  have := hrl 0 h0
  omega
theorem getQ {α : Type} {l : List (List α)} {j : Nat} (h : j < l.length) : l[j]? = some (l.getD j []) := by
  rw [List.getD_eq_getElem?_getD, List.getElem?_eq_getElem h]; rfl
theorem Mat.cell {s : Store} {q n c : Nat} {rp : Nat → Nat} {A : Nat → List (List V)} {M : MF} (h : Mat s q n c rp A M) (hl : ∀ i, i < n → (M i).length = c) {i j : Nat} (hi : i < n) (hj : j < c) : ∃ a1 a2, (A i)[j]? = some [.bool (elF M i j).neg, a1, a2] ∧ LimbOk s a1 (elF M i j).mag ∧ LimbOk s a2 (elF M i j).den := by
  have hr := h.cel i hi
  have hjl : j < (M i).length := by rw [hl i hi]; exact hj
  obtain ⟨a1, a2, e, k1, k2⟩ := hr.2 j hjl
  exact ⟨a1, a2, by rw [getQ (by rw [hr.1]; exact hjl), e]; rfl, k1, k2⟩
theorem Mat.kpq {s s2 : Store} {q n c : Nat} {rp : Nat → Nat} {A : Nat → List (List V)} {M : MF} (h : Mat s q n c rp A M) (hn : 0 < n) (ho : ∀ o, o ≠ q → o < s.length → objAt s2 o = objAt s o) : Kp s s2 := fun o l e => ho o (fun e2 => by
    rw [e2, h.out] at e
    injection e with e
    injection e with _ e
    exact orow_irows hn l e) (objAt_lt e)
theorem po_iReduceRows {T : Nat → Option Fn} (h : D_impl_ReduceRows T) {m : List (List R)} {c : Int} (hw : wfL (wfL R.wf) m) (hz : rrC m c = true → szL (szL R.sz) m ≤ 1048576) (hcw : c ≤ 9223372036854775807) : PO T 243 [ratssV m, iv c] (.tup [ratssV (rrM m c), .bool (rrB m c)]) := by
  have c1 := c_iIsMatrix h.d_impl_IsMatrix (m := m) (cols := c) hw hcw
  have hml := hw.1
  cases hc : rrC m c
  · obtain ⟨e1, e2⟩ := rrV_bad hc
    rw [e1, e2]
    unfold rrC at hc
    generalize matOk m c = x at c1 hc
    have hx : x = false ∨ x = true := by cases x <;> simp
    refine po_end2 (fun _ _ => false) h.hT rfl rfl ?_
    dsimp only [F_impl_ReduceRows, oN, oS, oG, oK, oA, oH, oV, cI, St.enter, List.length_cons, List.length_nil, Nat.zero_add]
    (refine ew ?_; try with_reducible exact True.intro)
    refine PFK_of c1 ?_
    rcases hx with hx | hx
    · (refine ew1 @hx ?_; try with_reducible exact True.intro)
      exact (fin_nil (sz := 1)).tup1
    · have hlt : c < (m.length : Nat) := by
        rw [hx, Bool.true_and, decide_eq_false_iff_not] at hc
        omega
      (refine ew2 @hx @hlt ?_; try with_reducible exact True.intro)
      exact (fin_nil (sz := 1)).tup1
  obtain ⟨h10, hnc, hmo, hok⟩ := rrC_ok hc
  rw [hmo] at c1
  have hlt : ¬ c < (m.length : Nat) := by omega
  obtain ⟨C, rfl⟩ : ∃ C : Nat, c = C := ⟨c.toNat, by omega⟩
  rw [Int.toNat_natCast] at hok
  have hrl : ∀ i, i < m.length → (m.getD i default).length = C := fun i hi => (hok i hi).1
  rcases Nat.eq_zero_or_pos m.length with h0 | h0
  · obtain ⟨e1, e2⟩ := rrV_some hc (M := mF m) (by rw [h0]; rfl)
    rw [h0] at e1
    rw [e1, e2]
    refine po_end2 (fun _ _ => false) h.hT rfl rfl ?_
    dsimp only [F_impl_ReduceRows, oN, oS, oG, oK, oA, oH, oV, cI, St.enter, List.length_cons, List.length_nil, Nat.zero_add]
    (refine ew ?_; try with_reducible exact True.intro)
    refine PFK_of c1 ?_
    (refine ew1 @hlt ?_; try with_reducible exact True.intro)
    refine loop_at (fun _ _ => false) (α := Nat) (fun i => ⟨argE [.any, .any, .any, .any, .any, .any, iv (m.length : Nat), .nils, .any, .any, .any, .any, .any, .any, .any, .any, .any, .any, .any, .any, .any, .any, .any, .any, .any, .any, .any, ratssV m, iv (m.length : Nat), iv (i : Nat)], [none], 0, 0, [], []⟩) (fun i => i = 0) (fun i => i) rfl 0 ?_ ?_ ?_
    · rfl
    · (refine Fg_env ?_) <;> (try (refine ew ?_; try with_reducible exact True.intro)) <;> (repeat' (first | refine ⟨?_, ?_⟩ | exact EvV_int (by omega) | exact EvV_of (by simp) | exact EvV_nil _))
    · rintro i rfl
      have hcc : ¬ (((0 : Nat) : Int) < (m.length : Nat)) := by omega
      (refine ew1 @hcc ?_; try with_reducible exact True.intro)
      refine loop_at (fun _ _ => false) (α := Nat) (fun k => ⟨argE [.any, .any, .any, .any, .any, .any, iv (m.length : Nat), .nils, .any, .any, iv (k : Nat)], [none], 0, 0, [], []⟩) (fun k => k = 0) (fun k => k) rfl 0 ?_ ?_ ?_
      · rfl
      · (refine Fg_env ?_) <;> (try (refine ew ?_; try with_reducible exact True.intro)) <;> (repeat' (first | refine ⟨?_, ?_⟩ | exact EvV_int (by omega) | exact EvV_of (by simp) | exact EvV_nil _))
      · rintro k rfl
        (refine ew1 @hcc ?_; try with_reducible exact True.intro)
        exact (fin_nil (sz := 1)).tup1
  have hC := mat_bd (hz hc) h0 hrl
  clear hw hz hml
  refine po_end2 (fun x d => (x == 156 && d == 107) || (x == 245 && d == 140)) h.hT rfl rfl ?_
  dsimp only [F_impl_ReduceRows, oN, oS, oG, oK, oA, oH, oV, cI, St.enter, List.length_cons, List.length_nil, Nat.zero_add]
  (refine ew ?_; try with_reducible exact True.intro)
  refine PFK_of c1 ?_
  (refine ew1 @hlt ?_; try with_reducible exact True.intro)
  refine loop_at (fun x d => (x == 156 && d == 107) || (x == 245 && d == 140)) (α := Nat × Store × V × Nat × (Nat → Nat)) (fun q => ⟨argE [.any, .any, .any, .any, .any, .any, iv (m.length : Nat), q.2.2.1, .any, .any, .any, .any, .any, .any, .any, .any, .any, .any, .any, .any, .any, .any, .any, .any, .any, .any, .any, ratssV m, iv (m.length : Nat), iv (q.1 : Nat)], q.2.1, 0, 0, [], []⟩) (fun q => q.1 ≤ m.length ∧ ((q.1 = 0 ∧ q.2.2.1 = .nils) ∨ (0 < q.1 ∧ q.2.2.1 = .msl q.2.2.2.1 0 q.1 ∧ Mat q.2.1 q.2.2.2.1 q.1 C q.2.2.2.2 (fun x => (mF m x).map R.cells) (mF m)))) (fun q => m.length - q.1) rfl (0, [none], .nils, 0, fun _ => 0) ?_ ?_ ?_
  · exact ⟨by omega, .inl ⟨rfl, rfl⟩⟩
  · (refine Fg_env ?_) <;> (try (refine ew ?_; try with_reducible exact True.intro)) <;> (repeat' (first | refine ⟨?_, ?_⟩ | exact EvV_int (by omega) | exact EvV_of (by simp) | exact EvV_nil _))
  · rintro ⟨i, s, v7, qo, rp⟩ ⟨hi, hM⟩
    dsimp only at hi hM
    by_cases hcc : (i : Int) < (m.length : Nat)
    · have hil : i < m.length := by omega
      have hai : (m.map fun r => [ratsV r]).getD i [] = [ratsV (m.getD i default)] := mg (f := fun r : List R => [ratsV r]) hil
      have hri := hrl i hil
      have emf : mF m i = m.getD i default := rfl
      generalize m.getD i default = r at *
      have hne : (r.map R.cells = []) = False := eq_false fun e => by
        have := congrArg List.length e
        simp at this
        subst this
        simp at hri; omega
      rcases hM with ⟨rfl, rfl⟩ | ⟨hi0, rfl, hM⟩
      · (refine ew3 @hcc @hai @hne ?_; try with_reducible exact True.intro)
        refine ⟨⟨by omega, by omega⟩, by decide, ?_⟩
        refine ⟨(0 + 1, ?st, .msl (s.length + 3) 0 1, s.length + 3, fun x => if x = 0 then s.length + 1 else rp x), ?c1, ⟨?c2, .inr ⟨by omega, rfl, ?c4⟩⟩, ?c3⟩
        case c3 => dsimp only; (refine Fg_env ?_) <;> (try (refine ew ?_; try with_reducible exact True.intro)) <;> (repeat' (first | refine ⟨?_, ?_⟩ | exact EvV_int (by omega) | exact EvV_of (by simp) | exact EvV_nil _))
        case c1 => dsimp only; omega
        case c2 => dsimp only; omega
        case c4 =>
          dsimp only
          refine matF_snoc (s := s) (q := 0) (.inl rfl) ?_ ?_ (by omega) (fun o ho _ => ?_)
          · rw [objAt_seteq (by simp)]
            rw [hri]; rfl
          · rw [emf]
            simp (disch := first | omega | (simp only [List.length_append, List.length_set, List.length_cons, List.length_nil]; omega)) only [EVs]
          · simp (disch := first | omega | (simp only [List.length_append, List.length_set, List.length_cons, List.length_nil]; omega)) only [EVs]
      · have hq := hM.out
        have hql := hM.lt.1
        have hoc := orow_len i C rp
        (refine ew5 @hcc @hai @hne @hq @hoc ?_; try with_reducible exact True.intro)
        refine ⟨⟨by omega, by omega⟩, by omega, ?_⟩
        refine ⟨(i + 1, ?st2, .msl (s.length + 3) 0 (i + 1), s.length + 3, fun x => if x = i then s.length + 1 else rp x), ?c1, ⟨?c2, .inr ⟨by omega, rfl, ?c4⟩⟩, ?c3⟩
        case c3 => dsimp only; (refine Fg_env ?_) <;> (try (refine ew ?_; try with_reducible exact True.intro)) <;> (repeat' (first | refine ⟨?_, ?_⟩ | exact EvV_int (by omega) | exact EvV_of (by simp) | exact EvV_nil _))
        case c1 => dsimp only; omega
        case c2 => dsimp only; omega
        case c4 =>
          dsimp only
          refine matF_snoc (s := s) (q := qo) (.inr hM) ?_ ?_ (by omega) (fun o ho hne => ?_)
          · rw [objAt_seteq (by simp)]
            rw [hri]
          · rw [emf]
            have : s.length + 1 ≠ qo := by omega
            simp (disch := first | omega | (simp only [List.length_append, List.length_set, List.length_cons, List.length_nil]; omega)) only [EVs]
          · simp (disch := first | omega | (simp only [List.length_append, List.length_set, List.length_cons, List.length_nil]; omega)) only [EVs]
    · have hie : i = m.length := by omega
      subst hie
      rcases hM with ⟨h1, _⟩ | ⟨_, rfl, hM⟩
      · omega
      (refine ew1 @hcc ?_; try with_reducible exact True.intro)
      have hql := hM.lt.1
      refine loop_at (fun x d => (x == 156 && d == 107) || (x == 245 && d == 140)) (α := Nat × Store × (Nat → Nat) × (Nat → List (List V)) × MF × (Nat → List Nat)) (fun q => ⟨argE [.any, .any, .any, .any, .any, .any, iv (m.length : Nat), .msl qo 0 m.length, .any, .any, iv (q.1 : Nat)], q.2.1, 0, 0, [], []⟩) (fun q => q.1 ≤ m.length ∧ Mat q.2.1 qo m.length C q.2.2.1 q.2.2.2.1 q.2.2.2.2.1 ∧ rrIt m.length (mF m) q.1 = some q.2.2.2.2.1 ∧ OkM m.length C q.2.2.2.2.1 ∧ (0 < q.1 → OwF q.2.1 q.2.2.2.1 q.2.2.2.2.1 q.2.2.2.2.2 fun i => i < m.length)) (fun q => m.length - q.1) rfl (0, s, rp, fun x => (mF m x).map R.cells, mF m, fun _ => []) ?_ ?_ ?_
      · exact ⟨by omega, hM, rfl, hok, fun h => absurd h (by omega)⟩
      · (refine Fg_env ?_) <;> (try (refine ew ?_; try with_reducible exact True.intro)) <;> (repeat' (first | refine ⟨?_, ?_⟩ | exact EvV_int (by omega) | exact EvV_of (by simp) | exact EvV_nil _))
      · clear hM hok hql hrl hcc hi
        rintro ⟨k, s, rp, A, M, f⟩ ⟨hk, hM, hIt, hOk, hOw⟩
        dsimp only at hk hM hIt hOk hOw
        by_cases hck : (k : Int) < (m.length : Nat)
        · have hkl : k < m.length := by omega
          have hkC : k < C := by omega
          have hql := hM.lt.1
          (refine ew1 @hck ?_; try with_reducible exact True.intro)
          refine loop_at (fun x d => (x == 156 && d == 107) || (x == 245 && d == 140)) (α := Nat) (fun p => ⟨argE [.any, .any, .any, .any, .any, .any, iv (m.length : Nat), .msl qo 0 m.length, .any, .any, iv (k : Nat), iv (p : Nat)], s, 0, 0, [], []⟩) (fun p => k ≤ p ∧ p ≤ m.length ∧ rrP M k (m.length - p) p = rrPv m.length M k) (fun p => m.length - p) rfl k ?_ ?_ ?_
          · exact ⟨Nat.le_refl _, by omega, rfl⟩
          · (refine Fg_env ?_) <;> (try (refine ew ?_; try with_reducible exact True.intro)) <;> (repeat' (first | refine ⟨?_, ?_⟩ | exact EvV_int (by omega) | exact EvV_of (by simp) | exact EvV_nil _))
          · rintro p ⟨hkp, hpn, hP⟩
            by_cases hcp : (p : Int) < (m.length : Nat)
            · have hpl : p < m.length := by omega
              obtain ⟨a1, a2, gA, ka1, ka2⟩ := hM.cell (fun i hi => (hOk i hi).1) hpl hkC
              have cs := c_ratSignR h.d_impl_ratSign (hOk.el hpl hkC)
              have hzz := rrP_z (M := M) (k := k) hpl
              have hnz := rrP_n (M := M) (k := k) hpl
              have hxc := hOk.el hpl hkC
              obtain ⟨x, hx⟩ : ∃ x, elF M p k = x := ⟨_, rfl⟩
              rw [hx] at gA ka1 ka2 cs hzz hnz hxc
              have R1 := And.intro ka1.r11 ka2.r11
              have O1 := And.intro hM.out (hM.row p hpl)
              have G1 := And.intro (orow_at (c := C) (rp := rp) hpl) gA
              (refine ew4 @hcp @O1 @G1 @R1 ?_; try with_reducible exact True.intro)
              refine PFK_of cs ?_
              by_cases hs : sgnR x = 0
              · (refine ew1 @hs ?_; try with_reducible exact True.intro)
                exact ⟨p + 1, by omega, ⟨by omega, by omega, (hzz hs).symm.trans hP⟩, by (refine Fg_env ?_) <;> (try (refine ew ?_; try with_reducible exact True.intro)) <;> (repeat' (first | refine ⟨?_, ?_⟩ | exact EvV_int (by omega) | exact EvV_of (by simp) | exact EvV_nil _))⟩
              · have hPv := (hnz hs).symm.trans hP
                have hpn' : ¬ ((p : Int) = (m.length : Nat)) := by omega
                have gk := orow_at (c := C) (rp := rp) hkl
                obtain ⟨w, gS1⟩ : ∃ w, ((orow m.length C rp).set k [V.msl (rp p) 0 C])[p]? = some [w] := by rw [orow_set]; exact ⟨_, orow_at hpl⟩
                have gS2 : (((orow m.length C rp).set k [V.msl (rp p) 0 C]).set p [.msl (rp k) 0 C])[k]? = some [.msl (rp p) 0 C] := by
                  rw [orow_set, orow_set, orow_at hkl]
                  by_cases e : k = p
                  · subst e; simp
                  · rw [if_neg e, if_pos rfl]
                have hnq := hM.ne hpl
                have hpq := hM.lt.2 p hpl
                have lx := And.intro ka1.leaf ka2.leaf
                (refine ew6 (And.intro hs hpn') @O1 @G1 (And.intro gk (And.intro gS1 gS2)) @lx @List.set_set.{0} ?_; try with_reducible exact True.intro)
                refine ⟨by unfold OkA; rfl, ?_⟩
                have hl2 : (s.set qo (some ⟨1, ((orow m.length C rp).set k [V.msl (rp p) 0 C]).set p [.msl (rp k) 0 C]⟩)).length = s.length := by simp
                have hM2 := hM.swap hkl hpl rfl (s2 := s.set qo (some ⟨1, ((orow m.length C rp).set k [V.msl (rp p) 0 C]).set p [.msl (rp k) 0 C]⟩)) (objAt_seteq hql) (fun o h _ => objAt_setne h)
                have kp2 := hM.kpq h0 (s2 := s.set qo (some ⟨1, ((orow m.length C rp).set k [V.msl (rp p) 0 C]).set p [.msl (rp k) 0 C]⟩)) (fun o h _ => objAt_setne h)
                replace ka1 := ka1.fr kp2
                replace ka2 := ka2.fr kp2
                generalize s.set qo (some ⟨1, ((orow m.length C rp).set k [V.msl (rp p) 0 C]).set p [.msl (rp k) 0 C]⟩) = s2 at *
                rw [← hl2]
                have hp1 : rrPv m.length M k < m.length := hPv ▸ hpl
                have e1 : rrSwap M k p = rrOne m.length M k := by unfold rrOne; rw [← hPv]
                rw [e1] at hM2
                have hOk1 := hOk.one hkl hp1
                have exk : elF (rrOne m.length M k) k k = x := by
                  rw [← hx, ← e1]
                  unfold elF rrSwap
                  by_cases e : k = p
                  · rw [if_pos e, e]
                  · rw [if_neg e, if_pos rfl]
                have hL1 := fun i hi => (hOk1 i hi).1
                have e2w : rrTwo m.length M k = fun i => if i = k then rrDiv (rrOne m.length M k k) k else rrOne m.length M k i := rfl
                have hOk2 := hOk.two hkl hp1
                have hstep : rrIt m.length (mF m) (k + 1) = rrStep m.length M k := rrIt_s hIt
                have hsf := @rrStep_f m.length M k
                have hst := rrStep_t (n := m.length) (M := M) (k := k) hp1
                have hOks := fun M' => hOk.step (M' := M') hkl
                generalize (fun x => if x = p then rp k else if x = k then rp p else rp x) = rp2 at hM2
                generalize (fun x => if x = p then A k else if x = k then A p else A x) = A2 at hM2
                have hDl := rrDiv_len (rrOne m.length M k k) k
                have hDc := rrDiv_cn (rrOne m.length M k k) k
                have hDa := fun j hj => rrDiv_at (rrOne m.length M k k) k (j := j) hj
                have hlk := hL1 k hkl
                have hck2 := fun j hj => hM2.cell hL1 hkl (j := j) hj
                have hel := fun j hj => hOk1.el hkl (j := j) hj
                rw [show (rrOne m.length M k k).getD k default = x from exk] at hDa
                generalize rrTwo m.length M k = M2 at *
                generalize hM1 : rrOne m.length M k = M1 at *
                clear hs hzz hnz cs R1 O1 G1 gk gS1 gS2 hnq hpq hpn' hM hOk hOw gA hx hP hPv kp2 hp1 e1 hql hl2 hIt w
                have hrq := hM2.ne hkl
                have hrl2 := hM2.lt.2 k hkl
                have hql2 := hM2.lt.1
                have hq2 := hM2.out
                have hrk := hM2.row k hkl
                have hAk := (hM2.cel k hkl).1
                rw [hlk] at hDl hAk
                have hDl' : (rrDiv (M1 k) k).length = C := hDl
                have gk := orow_at (c := C) (rp := rp2) hkl
                refine loop_at (fun x d => (x == 156 && d == 107) || (x == 245 && d == 140)) (α := Nat × Store × List (List V) × List Nat) (fun q => ⟨argE [.any, .any, .any, .any, .any, .any, iv (m.length : Nat), .msl qo 0 m.length, .any, .any, iv (k : Nat), .any, .ptr s2.length 0 0, .any, .any, .any, .any, .any, .any, .any, .any, .any, .any, .any, .any, .any, .any, .any, .any, .any, .any, .any, .any, .any, .any, .any, .any, .any, .any, .any, .any, .any, .any, .any, .any, .any, .any, .any, .any, .any, .any, .any, .any, .any, .any, .any, .any, .any, .any, .any, .any, .any, .any, .any, .any, .any, .any, .any, .any, .any, .any, .any, .any, .any, .any, .any, .any, .any, .any, .any, .any, .any, .any, .any, .any, .any, .any, .any, .any, .any, iv (C : Nat), iv (q.1 : Nat)], q.2.1, 0, 0, [], []⟩) (fun q => q.1 ≤ C ∧ SubI s2 q.2.1 (rp2 k) ⟨3, [[.bool x.neg, a1, a2]]⟩ (A2 k) (rrDiv (M1 k) k) q.1 q.2.2.1 q.2.2.2) (fun q => C - q.1) rfl (0, (s2 ++ [none]).set s2.length (some ⟨3, [[.bool x.neg, a1, a2]]⟩), [], []) ?_ ?_ ?_
                · exact ⟨by omega, by rw [set_snoc]; exact subI_init hrk⟩
                · (refine Fg_env ?_) <;> (try (refine ew ?_; try with_reducible exact True.intro)) <;> (repeat' (first | refine ⟨?_, ?_⟩ | exact EvV_int (by omega) | exact EvV_of (by simp) | exact EvV_nil _))
                · rintro ⟨j, t, N, os⟩ ⟨hj, I⟩
                  dsimp only at hj I
                  have hlt2 := I.len
                  have hbx := I.bx
                  obtain ⟨b, hb⟩ : ∃ b, b = s2.length := ⟨_, rfl⟩
                  rw [← hb] at hbx ⊢
                  have hqt := (I.old qo hql2 (fun e => hrq e.symm)).trans hq2
                  have hrt := I.row
                  by_cases hcj : (j : Int) < (C : Nat)
                  · have hjl : j < C := by omega
                    obtain ⟨b1, b2, gB, kb1, kb2⟩ := hck2 j hjl
                    have kp := I.kp hrk
                    have cy := hel j hjl
                    have hz := hDa j (by omega)
                    rw [show (M1 k).getD j default = elF M1 k j from rfl] at hz
                    have gA := I.at (by omega)
                    have gB2 : (A2 k)[j]? = some ((A2 k).getD j []) := getQ (by omega)
                    rw [gB] at gB2
                    rw [← Option.some.inj gB2] at gA
                    replace kb1 := kb1.fr kp
                    replace kb2 := kb2.fr kp
                    have kw1 := ka1.fr kp
                    have kw2 := ka2.fr kp
                    generalize elF M1 k j = y at *
                    have stp := fun (q3 : Store) (c : List V) (o3 : List Nat) old len ho nd3 fr3 => I.step (q3 := q3) (c := c) (o3 := o3) hrl2 (by omega) (by omega) hz old len ho nd3 fr3
                    generalize hL : N ++ List.drop j (A2 k) = L at *
                    have R1 := And.intro (And.intro kb1.r11 kb2.r11) (And.intro kw1.r11 kw2.r11)
                    have hrs : rp2 k < t.length := by omega
                    have hqs : qo < t.length := by omega
                    have hbs : b < t.length := by omega
                    (refine ew6 @hcj (And.intro hqt (And.intro hrt hbx)) (And.intro gk gA) @R1 @numK_any @or_sc ?_; try with_reducible exact True.intro)
                    refine OwnK_gotP (fun o => ∃ l, objAt t o = some ⟨1, irows l⟩) (show PO T 156 [ratV y, ratV x] (ratV (divR y x)) from po_ratDivR h.d_impl_ratDiv cy hxc) (by (refine ew3 @R1 @numK_any @or_sc ?_; try with_reducible exact True.intro)) ?_ ?_
                    · intro o ho
                      have ho : o ∈ reach t (11 + 1) (.agg [.bool y.neg, b1, b2]) ++ (reach t (11 + 1) (.agg [.bool x.neg, a1, a2]) ++ []) := ho
                      rw [List.append_nil] at ho
                      rcases List.mem_append.1 ho with ho | ho
                      · exact CellOk.rch ⟨_, _, rfl, kb1, kb2⟩ _ o ho
                      · exact CellOk.rch ⟨_, _, rfl, kw1, kw2⟩ _ o ho
                    intro Q1 r q3 o3 hQ1 G
                    generalize divR y x = z at *
                    obtain ⟨_, rfl, hQ⟩ := G.ow.agg_inv
                    obtain ⟨z1, z2, rfl⟩ := hQ.rat
                    have lz := OwL.leaf hQ rfl
                    simp only [List.all_cons, List.all_nil, Bool.and_true, Bool.and_eq_true] at lz
                    have gl3 : t.length ≤ q3.length := G.len
                    have old3 : ∀ o, o < t.length → objAt q3 o = objAt t o := fun o ho => G.old o ho
                    have row3 := (old3 _ hrs).trans hrt
                    have hr3 : rp2 k < q3.length := by omega
                    have stp2 := stp q3 _ o3 old3 gl3 hQ G.nd (fun o ho => G.fresh o ho)
                    have n1 : ∀ o ∈ Q1, o ≠ rp2 k := fun o ho e => by
                      obtain ⟨l, hl⟩ := hQ1 o ho
                      rw [e, hrt] at hl; cases hl
                    clear hQ1 stp
                    (refine ew5 @lz (And.intro row3 hr3) @gA @numK_any @or_sc ?_; try with_reducible exact True.intro)
                    refine ⟨?_, ?_⟩
                    · clear stp2 old3 row3 hr3
                      revert Q1
                      refine OkA_dropA _ (fun R => ∀ o ∈ R, o ≠ rp2 k) 2 13 rfl (fun _ => rfl) ?_ ?_
                      · intro R hR b hb w hw hm
                        simp only [List.mem_cons, List.not_mem_nil, or_false] at hb
                        rcases hb with rfl | rfl | rfl | rfl | rfl | rfl | rfl | rfl | rfl | rfl | rfl | rfl | rfl | rfl | rfl | rfl
                        all_goals first | (cases hw; done) | (rw [List.mem_singleton.1 hw] at hm; exact hR _ hm rfl)
                      refine OkA_all3 (aF := fun a b c => [⟨15, [a], [a], false⟩, ⟨14, [a], [], false⟩, ⟨13, [], [], true⟩, ⟨12, [c], [], false⟩, ⟨11, [a], [], false⟩, ⟨10, [a], [], false⟩, ⟨9, [], [], false⟩, ⟨8, [b], [], false⟩, ⟨7, [b], [], false⟩, ⟨6, [], [], false⟩, ⟨5, [], [], false⟩, ⟨4, [], [], false⟩, ⟨3, [b], [], false⟩, ⟨2, [b], [], false⟩, ⟨1, [], [], false⟩, ⟨0, [], [], false⟩]) (rp2 k) qo b t.length ?_ ?_ ?_ ?_
                      · exact nd3 hrq (by omega) (by omega)
                      · exact lt3 hrs hqs hbs
                      · exact fun _ _ _ _ => rfl
                      · unfold OkA; decide +kernel
                    · refine ⟨(j + 1, ?st6, N ++ [[.bool z.neg, z1, z2]], os ++ o3), ?c1, ⟨?c2, ?c4⟩, ?c3⟩
                      case c3 => dsimp only; (refine Fg_env ?_) <;> (try (refine ew ?_; try with_reducible exact True.intro)) <;> (repeat' (first | refine ⟨?_, ?_⟩ | exact EvV_int (by omega) | exact EvV_of (by simp) | exact EvV_nil _))
                      case c1 => dsimp only; omega
                      case c2 => dsimp only; omega
                      case c4 => exact stp2
                  · have hje : j = C := by omega
                    obtain ⟨f1, f2⟩ := I.fin (by omega) (by omega)
                    have hM3 := hM2.put hkl f1 I.old (row_ow f2).1
                    rw [← e2w] at hM3
                    have hO3 := ((owF_no (s := s2) (A := A2) (M := M1) (f := fun _ => [])).put (k := k) (I.kp hrk) f2 I.nd I.fr).ext (M2 := M2) (S2 := fun x => x < 0 ∨ x = k) (fun i hi => ⟨hi.imp (fun h => absurd h (Nat.not_lt_zero _)) id, by rw [e2w]⟩)
                    have Rf := hM3.rres hkl (hOk2 k hkl).1
                    have cg := c_goodRow h.d_impl_goodRow (hOk2 k hkl).2 (by rw [(hOk2 k hkl).1]; exact hC)
                    clear I hrt f1 f2 hM2 hbx hel hck2 hDa hDc hDl hDl' hAk hrk hq2
                    rw [← rrMix_0 M2 k] at hM3 hO3
                    have et : rrTri M2 k k = M2 k := if_pos rfl
                    cases hg : (M2 k).all R.ok
                    · rw [hg] at cg
                      obtain ⟨e1, e2⟩ := rrV_none hc (hstep.trans (hsf (allOk_f hkl (by rw [et]; exact hg)))) hkl
                      rw [e1, e2]
                      (refine ew4 @hcj @hqt @gk @Rf ?_; try with_reducible exact True.intro)
                      refine PFK_of cg ?_
                      (refine ew ?_; try with_reducible exact True.intro)
                      exact (fin_nil (sz := 1)).tup1
                    · rw [hg] at cg
                      (refine ew4 @hcj @hqt @gk @Rf ?_; try with_reducible exact True.intro)
                      refine PFK_of cg ?_
                      (refine ew1 @hqt ?_; try with_reducible exact True.intro)
                      refine loop_at (fun x d => (x == 156 && d == 107) || (x == 245 && d == 140)) (α := Nat × Store × (Nat → List (List V)) × (Nat → List Nat)) (fun q => ⟨argE [.any, .any, .any, .any, .any, .any, iv (m.length : Nat), .msl qo 0 m.length, .any, .any, iv (k : Nat), .any, .any, .any, .any, .any, .any, .any, .any, .any, .any, .any, .any, .any, .any, .any, .any, .any, .any, .any, .any, .any, .any, .any, .any, .any, .any, .any, .any, .any, .any, .any, .any, .any, .any, .any, .any, .any, .any, .any, .any, .any, .any, .any, .any, .any, .any, .any, .any, .any, .any, .any, .any, .any, .any, .any, .any, .any, .any, .any, .any, .any, .any, .any, .any, .any, .any, .any, .any, .any, .any, .any, .any, .any, .any, .any, .any, .any, .any, .any, .any, .any, .any, .any, .any, .any, .any, .any, .any, .any, .any, .any, .any, .any, .any, .any, .any, .any, .any, .any, .any, .any, .any, .any, .any, .any, .any, iv (m.length : Nat), iv (q.1 : Nat)], q.2.1, 0, 0, [], []⟩) (fun q => q.1 ≤ m.length ∧ Mat q.2.1 qo m.length C rp2 q.2.2.1 (rrMix M2 k q.1) ∧ OwF q.2.1 q.2.2.1 (rrMix M2 k q.1) q.2.2.2 (fun x => x < q.1 ∨ x = k) ∧ ∀ x, x < q.1 → (rrTri M2 k x).all R.ok = true) (fun q => m.length - q.1) rfl (0, t, fun i => if i = k then N else A2 i, fun i => if i = k then os else []) ?_ ?_ ?_
                      · exact ⟨Nat.zero_le _, hM3, hO3, fun x hx => absurd hx (Nat.not_lt_zero _)⟩
                      · (refine Fg_env ?_) <;> (try (refine ew ?_; try with_reducible exact True.intro)) <;> (repeat' (first | refine ⟨?_, ?_⟩ | exact EvV_int (by omega) | exact EvV_of (by simp) | exact EvV_nil _))
                      · clear hM3 hO3 hqt Rf hcj hj hje hb hlt2
                        rintro ⟨i, u, A3, f⟩ ⟨hi, hM, hO, hgi⟩
                        dsimp only at hi hM hO hgi
                        by_cases hci : (i : Int) < (m.length : Nat)
                        · have hil : i < m.length := by omega
                          have hgi2 : (rrTri M2 k i).all R.ok = true → ∀ x, x < i + 1 → (rrTri M2 k x).all R.ok = true := fun h x hx => by
                            by_cases e : x = i
                            · subst e; exact h
                            · exact hgi x (by omega)
                          by_cases hik : i = k
                          · have hik' : ((i : Int) = (k : Nat)) = True := eq_true (by omega)
                            have em : ∀ x, rrMix M2 k (i + 1) x = rrMix M2 k i x := fun x => by
                              unfold rrMix
                              by_cases e : x < i
                              · rw [if_pos e, if_pos (by omega)]
                              · by_cases e2 : x = i
                                · rw [if_neg e, if_pos (by omega), e2, hik, et]
                                · rw [if_neg e, if_neg (by omega)]
                            (refine ew2 @hci @hik' ?_; try with_reducible exact True.intro)
                            refine ⟨by unfold OkA; rfl, ⟨(i + 1, u, A3, f), by dsimp only; omega, ⟨by dsimp only; omega, hM.ext fun x _ => (em x).symm, hO.ext fun x hx => ⟨?_, (em x).symm⟩, hgi2 (by rw [hik, et]; exact hg)⟩, by (refine Fg_env ?_) <;> (try (refine ew ?_; try with_reducible exact True.intro)) <;> (repeat' (first | refine ⟨?_, ?_⟩ | exact EvV_int (by omega) | exact EvV_of (by simp) | exact EvV_nil _))⟩⟩
                            dsimp only at hx
                            omega
                          · have hik' : ((i : Int) = (k : Nat)) = False := eq_false (by omega)
                            have hOm := hOk2.mix hkl i
                            have hlm := fun x hx => (hOm x hx).1
                            have emi : rrMix M2 k i i = M2 i := if_neg (Nat.lt_irrefl _)
                            have emk : rrMix M2 k i k = M2 k := by
                              unfold rrMix
                              split
                              · exact et
                              · rfl
                            obtain ⟨w1, w2, gC, kc1, kc2⟩ := hM.cell hlm hil hkC
                            rw [show elF (rrMix M2 k i) i k = elF M2 i k by unfold elF; rw [emi]] at gC kc1 kc2
                            have etr : rrTri M2 k i = rrSub (M2 i) (M2 k) (elF M2 i k) := if_neg hik
                            obtain ⟨u2, A', o', hr, g1, g2, g3, g4, g5, g6⟩ := rn_subtractRow h.d_impl_subtractRow (hM.row i hil) (hM.row k hkl) (fun e => hik (hM.inj i k hil hkl e)) (hM.cel i hil) (hM.cel k hkl) (by rw [hlm k hkl, hlm i hil]) kc1 kc2 (hOm i hil).2 (hOm k hkl).2 (hOk2.el hil hkC) (by rw [hlm i hil]; exact hC)
                            rw [hlm i hil, emi, emk, ← etr] at hr
                            rw [emi, emk, ← etr] at g2
                            have kp : Kp u u2 := fun o l e => g5 o (objAt_lt e) (fun e2 => by rw [e2, hM.row i hil] at e; cases e)
                            have hM4 := hM.put hil g1 g5 (row_ow g2).1
                            have hO4 := hO.put (k := i) kp g2 g3 g4
                            have em : ∀ x, (if x = i then rrTri M2 k i else rrMix M2 k i x) = rrMix M2 k (i + 1) x := fun x => by
                              unfold rrMix
                              by_cases e : x = i
                              · rw [if_pos e, if_pos (by omega), e]
                              · by_cases e2 : x < i
                                · rw [if_neg e, if_pos e2, if_pos (by omega)]
                                · rw [if_neg e, if_neg e2, if_neg (by omega)]
                            generalize elF M2 i k = y at *
                            have gi := orow_at (c := C) (rp := rp2) hil
                            have O1 := And.intro hM.out (hM.row i hil)
                            (refine ew4 @hci @hik' @O1 (And.intro gi (And.intro gk gC)) ?_; try with_reducible exact True.intro)
                            refine OwnK_idn hr rfl g6 (Nat.le_refl _) ?_
                            obtain ⟨bb, hbb⟩ : ∃ bb, (rrTri M2 k i).all R.ok = bb := ⟨_, rfl⟩
                            rw [hbb]
                            have hb2 : bb = false ∨ bb = true := by cases bb <;> simp
                            rcases hb2 with hb2 | hb2
                            · rw [hb2] at hbb
                              obtain ⟨e1, e2⟩ := rrV_none hc (hstep.trans (hsf (allOk_f hil hbb))) hkl
                              rw [e1, e2]
                              (refine ew4 @hb2 @hik' @numK_any @or_sc ?_; try with_reducible exact True.intro)
                              refine ⟨by unfold OkA; rfl, ?_⟩
                              exact (fin_nil (sz := 1)).tup1
                            · rw [hb2] at hbb
                              (refine ew4 @hb2 @hik' @numK_any @or_sc ?_; try with_reducible exact True.intro)
                              refine ⟨by unfold OkA; rfl, ?_⟩
                              refine ⟨(i + 1, u2, fun x => if x = i then A' else A3 x, fun x => if x = i then o' else f x), by dsimp only; omega, ⟨by dsimp only; omega, hM4.ext fun x _ => em x, hO4.ext fun x hx => ⟨?_, em x⟩, hgi2 hbb⟩, by (refine Fg_env ?_) <;> (try (refine ew ?_; try with_reducible exact True.intro)) <;> (repeat' (first | refine ⟨?_, ?_⟩ | exact EvV_int (by omega) | exact EvV_of (by simp) | exact EvV_nil _))⟩
                              dsimp only at hx
                              omega
                        · have hie : i = m.length := by omega
                          subst hie
                          have ha : allOk m.length (rrTri M2 k) = true := allOk_iff.2 hgi
                          have hnx := hst ha
                          have em : ∀ x, x < m.length → rrMix M2 k m.length x = rrTri M2 k x := fun x hx => by unfold rrMix; rw [if_pos hx]
                          (refine ew1 @hci ?_; try with_reducible exact True.intro)
                          refine ⟨(k + 1, u, rp2, A3, rrTri M2 k, f), ?c1, ⟨?c2, ?c4, ?c5, ?c6, ?c7⟩, ?c3⟩
                          case c3 => dsimp only; (refine Fg_env ?_) <;> (try (refine ew ?_; try with_reducible exact True.intro)) <;> (repeat' (first | refine ⟨?_, ?_⟩ | exact EvV_int (by omega) | exact EvV_of (by simp) | exact EvV_nil _))
                          case c1 => dsimp only; omega
                          case c2 => dsimp only; omega
                          case c4 => exact hM.ext em
                          case c5 => exact hstep.trans hnx
                          case c6 => exact hOks _ hnx
                          case c7 => exact fun _ => hO.ext fun x hx => ⟨.inl hx, em x hx⟩
            · have hpe : p = m.length := by omega
              have hnn : rrStep m.length M k = none := rrStep_p (by rw [← hP, hpe, Nat.sub_self]; exact Nat.lt_irrefl _)
              obtain ⟨e1, e2⟩ := rrV_none hc ((rrIt_s hIt).trans hnn) hkl
              rw [e1, e2]
              have hpe' : ((p : Int) = (m.length : Nat)) = True := eq_true (by omega)
              (refine ew2 @hcp @hpe' ?_; try with_reducible exact True.intro)
              exact (fin_nil (sz := 1)).tup1
        · have hke : k = m.length := by omega
          subst hke
          obtain ⟨e1, e2⟩ := rrV_some hc hIt
          rw [e1, e2]
          (refine ew1 @hck ?_; try with_reducible exact True.intro)
          exact (OwF.fin hM (hOw h0) (by omega) fun i hi => (hOk i hi).1).tup1
end Go.Ml
end
section
set_option linter.unusedSimpArgs false
set_option linter.unusedVariables false
set_option maxRecDepth 100000
set_option maxHeartbeats 16000000
namespace Go.Ml
def MatF (s : Store) (q n c : Nat) (rp : Nat → Nat) (M : MF) : Prop := Mat s q n c rp (fun x => (M x).map R.cells) M
def setR (M : MF) (i : Nat) (r : List R) : MF := fun x => if x = i then r else M x
theorem MatF.put {s s2 : Store} {q n c k : Nat} {rp : Nat → Nat} {M : MF} {r : List R} (h : MatF s q n c rp M) (hk : k < n) (hr : objAt s2 (rp k) = some ⟨3, r.map R.cells⟩) (ho : ∀ o, o < s.length → o ≠ rp k → objAt s2 o = objAt s o) : MatF s2 q n c rp (setR M k r) := by
  have := Mat.put h hk hr ho (row_frz r)
  have e : (fun i => if i = k then r.map R.cells else (M i).map R.cells) = fun x => (setR M k r x).map R.cells := by
    funext i; unfold setR; split <;> rfl
  rw [e] at this
  exact this
theorem MatF.swap {s : Store} {q n c k p : Nat} {rp : Nat → Nat} {M : MF} (h : MatF s q n c rp M) (hk : k < n) (hp : p < n) {rows : List (List V)} (hrows : rows = ((orow n c rp).set k [.msl (rp p) 0 c]).set p [.msl (rp k) 0 c]) {s2 : Store} (hq : objAt s2 q = some ⟨1, rows⟩) (ho : ∀ o, o ≠ q → o < s.length → objAt s2 o = objAt s o) :
    MatF s2 q n c (fun x => if x = p then rp k else if x = k then rp p else rp x) (rrSwap M k p) := by
  have := Mat.swap h hk hp hrows hq ho
  have e : (fun x => if x = p then (M k).map R.cells else if x = k then (M p).map R.cells else (M x).map R.cells) = fun x => (rrSwap M k p x).map R.cells := by
    funext i; unfold rrSwap; split
    · rfl
    · split <;> rfl
  rw [e] at this
  exact this
theorem MatF.ext {s : Store} {q n c : Nat} {rp : Nat → Nat} {M M2 : MF} (h : MatF s q n c rp M) (e : ∀ i, i < n → M i = M2 i) : MatF s q n c rp M2 :=
  ⟨h.inj, h.out, fun i hi => by rw [← e i hi]; exact h.row i hi, fun i hi => by rw [← e i hi]; exact h.cel i hi⟩
theorem MatF.cell {s : Store} {q n c : Nat} {rp : Nat → Nat} {M : MF} (h : MatF s q n c rp M) (hl : ∀ i, i < n → (M i).length = c) {i j : Nat} (hi : i < n) (hj : j < c) : ((M i).map R.cells)[j]? = some (elF M i j).cells := by
  have hjl : j < (M i).length := by rw [hl i hi]; exact hj
  rw [mg? hjl]; rfl
theorem setR_eq (M : MF) (i : Nat) (r : List R) : setR M i r i = r := if_pos rfl
theorem setR_ne {M : MF} {i x : Nat} {r : List R} (h : x ≠ i) : setR M i r x = M x := if_neg h
theorem Mat.resN {s : Store} {q n c : Nat} {rp : Nat → Nat} {A : Nat → List (List V)} {M : MF} (h : Mat s q n c rp A M) (hl : ∀ i, i < n → (M i).length = c) (k : Nat) : resolve s (k + 5) (.msl q 0 n) = some (ratssV ((List.range n).map M)) := by
  rw [resolve]
  simp only [h.out]
  rw [if_pos (by rw [orow_len]; omega), List.drop_zero, List.take_of_length_le (by rw [orow_len]; omega)]
  have : ((orow n c rp).mapM fun (r : List V) => r.mapM (resolve s (k + 4))) = some ((List.range n).map fun i => [ratsV (M i)]) := by
    unfold orow
    rw [List.mapM_map]
    refine mapM_some fun i hi => ?_
    have hi := List.mem_range.1 hi
    have h1 := (h.cel i hi).resN (h.row i hi) k
    rw [hl i hi] at h1
    simp only [Function.comp, List.mapM_cons, List.mapM_nil]
    rw [h1]; rfl
  rw [this, Option.map_some]
  unfold ratssV
  rw [List.map_map]
  rfl
end Go.Ml
end
section
set_option linter.unusedSimpArgs false
set_option linter.unusedVariables false
set_option maxRecDepth 100000
set_option maxHeartbeats 8000000
namespace Go.Ml
def F_impl_SolveSystem : Fn := ⟨2, 73, [.tmp 4, .tmp 5], (.seq (.reg false 0 [oN 4 (.mov (.c (.nils))), oN 5 (.mov (.c (.bool false)))]) (.seq (.reg false 0 [oN 15 (oV 0), oN 16 (.len (.t 15)), oN 6 (oV 16)]) (.seq (.seq (.reg false 0 [oN 17 (oV 0), oN 18 (oV 6), oN 19 (.call 93 [(.t 17), (.t 18)]), oN 20 (.un .not (.t 19)), oN 21 (oV 20), oG 21 false 22 (oV 1), oG 21 false 23 (.len (.t 22)), oG 21 false 24 (oV 6), oG 21 false 25 (.bin .neq (.t 23) (.t 24)), oN 26 (.pick (.t 21) (.c (.bool true)) (.t 25))]) (.cond (.t 26) (.seq (.reg false 0 [oN 4 (.mov (.c (.nils))), oN 5 (.mov (.c (.bool false)))]) .ret) .skip)) (.seq (.reg false 1 [oN 27 (.mkSl 1 [.nils] 0 []), oK 7 1 (oV 27)]) (.seq (.seq (.reg false 0 [oN 28 (oV 0), oN 29 (.len (.t 28)), oN 30 (.mov (cI 0))]) (.block 0 (.loop (.seq (.reg false 0 [oN 31 (.bin .lss (.t 30) (.t 29))]) (.seq (.cond (.t 31) .skip (.exit 0)) (.seq (.block 1 (.seq (.reg false 0 [oN 32 (oV 30), oN 33 (.idx 1 (.t 28) (.t 30)), oN 34 (.load 1 false (.t 33)), oN 8 (oV 32), oN 9 (oV 34)]) (.reg true 6 [oK 35 6 (oV 7), oN 36 (.mkSl 3 [.bool false, .nils, .nils] 0 []), oK 37 6 (oV 9), oA 38 1 (.app 3 56 (.t 36) (.t 37)) [1, 2], oK 39 6 (oV 1), oK 40 6 (oV 8), oA 41 6 (.idx 3 (.t 39) (.t 40)) [4, 5], oA 42 6 (.load 3 true (.t 41)) [6], oA 43 2 (.mkSl 3 [.bool false, .nils, .nils] 1 [(0, (.t 42))]) [7], oA 44 3 (.app 3 56 (.t 38) (.t 43)) [3, 8, 3], oA 45 4 (.mkSl 1 [.nils] 1 [(0, (.t 44))]) [9], oA 46 5 (.app 1 24 (.t 35) (.t 45)) [0, 10, 9], oA 7 6 (oV 46) [11, 11, 0, 1, 2, 3, 4, 5, 6, 7, 8, 9, 10, 11]]))) (.reg false 0 [oN 47 (.bin .add (.t 30) (cI 1)), oN 30 (oV 47)]))))))) (.seq (.reg false 0 [oN 49 (oV 7), oN 50 (oV 6), oN 51 (.bin .add (.t 50) (cI 1)), oN 52 (.call 243 [(.t 49), (.t 51)]), oN 48 (oV 52), oN 53 (.extr 0 (.t 48)), oN 54 (.extr 1 (.t 48)), oN 10 (oV 53), oN 11 (oV 54)]) (.seq (.seq (.reg false 0 [oN 55 (oV 11), oN 56 (.un .not (.t 55))]) (.cond (.t 56) (.seq (.reg false 0 [oN 4 (.mov (.c (.nils))), oN 5 (.mov (.c (.bool false)))]) .ret) .skip)) (.seq (.reg false 1 [oN 57 (.mkSl 3 [.bool false, .nils, .nils] 0 []), oK 12 1 (oV 57)]) (.seq (.seq (.reg false 0 [oN 58 (oV 10), oN 59 (.len (.t 58)), oN 60 (.mov (cI 0))]) (.block 2 (.loop (.seq (.reg false 0 [oN 61 (.bin .lss (.t 60) (.t 59))]) (.seq (.cond (.t 61) .skip (.exit 2)) (.seq (.block 3 (.seq (.reg false 0 [oN 62 (.idx 1 (.t 58) (.t 60)), oN 63 (.load 1 false (.t 62)), oN 14 (oV 63)]) (.reg false 2 [oK 64 2 (oV 12), oK 65 2 (oV 14), oK 66 2 (oV 6), oK 67 2 (.idx 3 (.t 65) (.t 66)), oK 68 2 (.load 3 true (.t 67)), oN 69 (.mkSl 3 [.bool false, .nils, .nils] 1 [(0, (.t 68))]), oK 70 1 (.app 3 56 (.t 64) (.t 69)), oK 12 2 (oV 70)]))) (.reg false 0 [oN 71 (.bin .add (.t 60) (cI 1)), oN 60 (oV 71)]))))))) (.seq (.reg false 0 [oN 72 (oV 12), oN 4 (oV 72), oN 5 (.mov (.c (.bool true)))]) .ret))))))))))⟩
structure D_impl_SolveSystem (T : Nat → Option Fn) : Prop where
  hT : T 231 = some F_impl_SolveSystem
  d_impl_IsMatrix : D_impl_IsMatrix T
  d_impl_ReduceRows : D_impl_ReduceRows T
def F_impl_InvertMatrix : Fn := ⟨1, 79, [.tmp 2, .tmp 3], (.seq (.reg false 0 [oN 2 (.mov (.c (.nils))), oN 3 (.mov (.c (.bool false)))]) (.seq (.reg false 0 [oN 15 (oV 0), oN 16 (.len (.t 15)), oN 4 (oV 16)]) (.seq (.seq (.reg false 0 [oN 17 (oV 0), oN 18 (oV 4), oN 19 (.call 93 [(.t 17), (.t 18)]), oN 20 (.un .not (.t 19))]) (.cond (.t 20) (.seq (.reg false 0 [oN 2 (.mov (.c (.nils))), oN 3 (.mov (.c (.bool false)))]) .ret) .skip)) (.seq (.reg false 1 [oN 21 (.mkSl 1 [.nils] 0 []), oK 5 1 (oV 21)]) (.seq (.seq (.reg false 0 [oN 22 (oV 0), oN 23 (.len (.t 22)), oN 24 (.mov (cI 0))]) (.block 0 (.loop (.seq (.reg false 0 [oN 25 (.bin .lss (.t 24) (.t 23))]) (.seq (.cond (.t 25) .skip (.exit 0)) (.seq (.block 1 (.seq (.reg false 0 [oN 26 (oV 24), oN 27 (.idx 1 (.t 22) (.t 24)), oN 28 (.load 1 false (.t 27)), oN 6 (oV 26), oN 7 (oV 28)]) (.seq (.reg false 2 [oN 29 (.mkSl 3 [.bool false, .nils, .nils] 0 []), oK 30 2 (oV 7), oK 31 1 (.app 3 56 (.t 29) (.t 30)), oK 8 2 (oV 31)]) (.seq (.seq (.reg false 0 [oN 9 (.mov (cI 0))]) (.block 2 (.loop (.seq (.seq (.reg false 0 [oN 32 (oV 9), oN 33 (oV 4), oN 34 (.bin .lss (.t 32) (.t 33))]) (.cond (.t 34) .skip (.exit 2))) (.seq (.block 3 (.seq (.reg false 0 [oN 37 (oV 6), oN 38 (oV 9), oN 39 (.bin .eql (.t 37) (.t 38))]) (.cond (.t 39) (.reg false 2 [oK 40 2 (oV 8), oK 41 2 (.call 39 [(cI 1)]), oN 42 (.mkSl 3 [.bool false, .nils, .nils] 1 [(0, (.t 41))]), oK 43 1 (.app 3 56 (.t 40) (.t 42)), oK 8 2 (oV 43)]) (.reg false 2 [oK 44 2 (oV 8), oK 45 2 (.call 39 [(cI 0)]), oN 46 (.mkSl 3 [.bool false, .nils, .nils] 1 [(0, (.t 45))]), oK 47 1 (.app 3 56 (.t 44) (.t 46)), oK 8 2 (oV 47)])))) (.reg false 0 [oN 35 (oV 9), oN 36 (.bin .add (.t 35) (cI 1)), oN 9 (oV 36)])))))) (.reg false 2 [oK 48 2 (oV 5), oK 49 2 (oV 8), oN 50 (.mkSl 1 [.nils] 1 [(0, (.t 49))]), oK 51 1 (.app 1 24 (.t 48) (.t 50)), oK 5 2 (oV 51)]))))) (.reg false 0 [oN 52 (.bin .add (.t 24) (cI 1)), oN 24 (oV 52)]))))))) (.seq (.reg false 0 [oN 54 (oV 5), oN 55 (oV 4), oN 56 (.bin .mul (cI 2) (.t 55)), oN 57 (.call 243 [(.t 54), (.t 56)]), oN 53 (oV 57), oN 58 (.extr 0 (.t 53)), oN 59 (.extr 1 (.t 53)), oN 10 (oV 58), oN 11 (oV 59)]) (.seq (.seq (.reg false 0 [oN 60 (oV 11), oN 61 (.un .not (.t 60))]) (.cond (.t 61) (.seq (.reg false 0 [oN 2 (.mov (.c (.nils))), oN 3 (.mov (.c (.bool false)))]) .ret) .skip)) (.seq (.reg false 1 [oN 62 (.mkSl 1 [.nils] 0 []), oK 12 1 (oV 62)]) (.seq (.seq (.reg false 0 [oN 63 (oV 10), oN 64 (.len (.t 63)), oN 65 (.mov (cI 0))]) (.block 4 (.loop (.seq (.reg false 0 [oN 66 (.bin .lss (.t 65) (.t 64))]) (.seq (.cond (.t 66) .skip (.exit 4)) (.seq (.block 5 (.seq (.reg false 0 [oN 67 (.idx 1 (.t 63) (.t 65)), oN 68 (.load 1 false (.t 67)), oN 14 (oV 68)]) (.reg false 4 [oK 69 4 (oV 12), oN 70 (.mkSl 3 [.bool false, .nils, .nils] 0 []), oK 71 4 (oV 14), oK 72 4 (oV 4), oK 73 4 (.slice 3 (.t 71) (some (.t 72)) none), oK 74 1 (.app 3 56 (.t 70) (.t 73)), oK 75 2 (.mkSl 1 [.nils] 1 [(0, (.t 74))]), oK 76 3 (.app 1 24 (.t 69) (.t 75)), oK 12 4 (oV 76)]))) (.reg false 0 [oN 77 (.bin .add (.t 65) (cI 1)), oN 65 (oV 77)]))))))) (.seq (.reg false 0 [oN 78 (oV 12), oN 2 (oV 78), oN 3 (.mov (.c (.bool true)))]) .ret))))))))))⟩
structure D_impl_InvertMatrix (T : Nat → Option Fn) : Prop where
  hT : T 232 = some F_impl_InvertMatrix
  d_impl_RatFromInt : D_impl_RatFromInt T
  d_impl_IsMatrix : D_impl_IsMatrix T
  d_impl_ReduceRows : D_impl_ReduceRows T
theorem rrV_ok {m : List (List R)} {c : Int} (h : rrB m c = true) : ∃ M, rrM m c = (List.range m.length).map M ∧ OkM m.length c.toNat M ∧ rrC m c = true := by
  cases hc : rrC m c
  · rw [(rrV_bad hc).2] at h; cases h
  obtain ⟨h10, hcl, hm, hok⟩ := rrC_ok hc
  cases e : rrIt m.length (mF m) m.length with
  | none => rw [(rrV_none hc e (Nat.le_refl _)).2] at h; cases h
  | some M =>
    refine ⟨M, (rrV_some hc e).1, ?_, rfl⟩
    have key : ∀ k, k ≤ m.length → ∀ M, rrIt m.length (mF m) k = some M → OkM m.length c.toNat M := by
      intro k
      induction k with
      | zero => intro _ M e; cases e; exact hok
      | succ k ih =>
        intro hk M e
        cases e2 : rrIt m.length (mF m) k with
        | none => rw [rrIt_none e2 _ (Nat.le_succ k)] at e; cases e
        | some M0 => rw [rrIt_s e2] at e; exact (ih (by omega) _ e2).step (by omega) e
    exact key _ (Nat.le_refl _) M e
def wideL (n : Nat) (M : MF) : List (List R) := (List.range n).map M
theorem wideL_len (n : Nat) (M : MF) : (wideL n M).length = n := by simp [wideL]
theorem wideL_at {n i : Nat} {M : MF} (h : i < n) : mF (wideL n M) i = M i := by
  unfold mF wideL
  rw [List.getD_eq_getElem?_getD, List.getElem?_map, List.getElem?_range h]; rfl
theorem rrC_sz {m : List (List R)} {c : Int} (hc : c ≤ 20) (h : rrC m c = true) : szL (szL R.sz) m ≤ 1048576 := by
  obtain ⟨h10, hcl, hm, hok⟩ := rrC_ok h
  have := (mat_ok (m := m) (n := 20) (fun r hr => by
    obtain ⟨i, hi⟩ := List.mem_iff_getElem?.1 hr
    have hil := (List.getElem?_eq_some_iff.1 hi).1
    have := hok i hil
    rw [show mF m i = r by unfold mF; rw [List.getD_eq_getElem?_getD, hi]; rfl] at this
    exact ⟨this.2, by omega⟩) (Nat.le_refl _) h10).1
  omega
def ssW (m : List (List R)) (b : List R) : MF := fun i => m.getD i default ++ [b.getD i default]
def ssC (m : List (List R)) (b : List R) : Bool := matOk m m.length && decide (b.length = m.length)
def ssL (m : List (List R)) (b : List R) : List (List R) := wideL m.length (ssW m b)
def ssB (m : List (List R)) (b : List R) : Bool := ssC m b && rrB (ssL m b) ((m.length : Nat) + 1)
def ssX (m : List (List R)) (b : List R) : List R := if ssB m b = true then (rrM (ssL m b) ((m.length : Nat) + 1)).map fun r => r.getD m.length default else []
theorem ssB_c {m : List (List R)} {b : List R} (h : ssC m b = false) : ssX m b = [] ∧ ssB m b = false := by
  have : ssB m b = false := by unfold ssB; rw [h]; rfl
  unfold ssX
  rw [this]; exact ⟨rfl, rfl⟩
theorem ssB_r {m : List (List R)} {b : List R} (h : rrB (ssL m b) ((m.length : Nat) + 1) = false) : ssX m b = [] ∧ ssB m b = false := by
  have : ssB m b = false := by unfold ssB; rw [h, Bool.and_false]
  unfold ssX
  rw [this]; exact ⟨rfl, rfl⟩
theorem ssB_t {m : List (List R)} {b : List R} (h : ssC m b = true) (h2 : rrB (ssL m b) ((m.length : Nat) + 1) = true) : ssX m b = ((rrM (ssL m b) ((m.length : Nat) + 1)).map fun r => r.getD m.length default) ∧ ssB m b = true := by
  have : ssB m b = true := by unfold ssB; rw [h, h2]; rfl
  unfold ssX
  rw [this]; exact ⟨if_pos rfl, rfl⟩
theorem ssC_ok {m : List (List R)} {b : List R} (h : ssC m b = true) : m.length ≤ 10 ∧ b.length = m.length ∧ matOk m m.length = true ∧ ∀ i, i < m.length → (m.getD i default).length = m.length := by
  unfold ssC at h
  simp only [Bool.and_eq_true, decide_eq_true_eq] at h
  obtain ⟨h1, h2⟩ := matOk_row h.1
  exact ⟨h2, h.2, h.1, fun i hi => by have := (h1 i hi).1; omega⟩
theorem ssX_cn (m : List (List R)) (b : List R) : (∀ r ∈ ssX m b, r.cn) ∧ (ssX m b).length ≤ 10 := by
  cases hb : ssB m b
  · unfold ssX; rw [hb]; simp
  · have h := hb
    unfold ssB at h
    simp only [Bool.and_eq_true] at h
    obtain ⟨h10, hbl, hm, hl⟩ := ssC_ok h.1
    obtain ⟨M, e, hok, hc⟩ := rrV_ok h.2
    rw [(ssB_t h.1 h.2).1, e]
    have hw : (ssL m b).length = m.length := wideL_len _ _
    refine ⟨fun r hr => ?_, by simp [hw]; omega⟩
    rw [List.map_map] at hr
    obtain ⟨i, hi, rfl⟩ := List.mem_map.1 hr
    have hi := List.mem_range.1 hi
    have := hok i hi
    exact this.2 _ (getD_mem (by rw [this.1]; omega))
theorem ssL_wf {m : List (List R)} {b : List R} (hm : wfL (wfL R.wf) m) (hb : wfL R.wf b) (hl : ∀ i, i < m.length → (m.getD i default).length = m.length) (hbl : b.length = m.length) (h10 : m.length ≤ 10) : wfL (wfL R.wf) (ssL m b) := by
  refine ⟨by rw [show (ssL m b).length = m.length from wideL_len _ _]; omega, fun r hr => ?_⟩
  obtain ⟨i, hi, rfl⟩ := List.mem_map.1 hr
  have hi := List.mem_range.1 hi
  have hrow := hm.2 _ (getD_mem hi)
  refine ⟨by unfold ssW; rw [List.length_append, hl i hi]; simp; omega, fun x hx => ?_⟩
  rcases List.mem_append.1 hx with hx | hx
  · exact hrow.2 x hx
  · rw [List.mem_singleton.1 hx]; exact hb.2 _ (getD_mem (by omega))
def ivmU (n i : Nat) : List R := (List.range n).map fun j => intR (if i = j then 1 else 0)
def ivmW (m : List (List R)) : MF := fun i => m.getD i default ++ ivmU m.length i
def ivmL (m : List (List R)) : List (List R) := wideL m.length (ivmW m)
def ivmB (m : List (List R)) : Bool := matOk m m.length && rrB (ivmL m) (2 * (m.length : Nat))
def ivmX (m : List (List R)) : List (List R) := if ivmB m = true then (rrM (ivmL m) (2 * (m.length : Nat))).map fun r => r.drop m.length else []
theorem ivmB_c {m : List (List R)} (h : matOk m m.length = false) : ivmX m = [] ∧ ivmB m = false := by
  have : ivmB m = false := by unfold ivmB; rw [h]; rfl
  unfold ivmX
  rw [this]; exact ⟨rfl, rfl⟩
theorem ivmB_r {m : List (List R)} (h : rrB (ivmL m) (2 * (m.length : Nat)) = false) : ivmX m = [] ∧ ivmB m = false := by
  have : ivmB m = false := by unfold ivmB; rw [h, Bool.and_false]
  unfold ivmX
  rw [this]; exact ⟨rfl, rfl⟩
theorem ivmB_t {m : List (List R)} (h : matOk m m.length = true) (h2 : rrB (ivmL m) (2 * (m.length : Nat)) = true) : ivmX m = ((rrM (ivmL m) (2 * (m.length : Nat))).map fun r => r.drop m.length) ∧ ivmB m = true := by
  have : ivmB m = true := by unfold ivmB; rw [h, h2]; rfl
  unfold ivmX
  rw [this]; exact ⟨if_pos rfl, rfl⟩
theorem ivmU_len (n i : Nat) : (ivmU n i).length = n := by simp [ivmU]
theorem ivm_ok {m : List (List R)} (h : matOk m m.length = true) : m.length ≤ 10 ∧ ∀ i, i < m.length → (m.getD i default).length = m.length ∧ ∀ x ∈ m.getD i default, x.cn := by
  obtain ⟨h1, h2⟩ := matOk_row h
  refine ⟨h2, fun i hi => ⟨by have := (h1 i hi).1; omega, fun x hx => ?_⟩⟩
  obtain ⟨j, hj⟩ := List.mem_iff_getElem?.1 hx
  have hl := (List.getElem?_eq_some_iff.1 hj).1
  have := (h1 i hi).2 j hl
  rw [List.getD_eq_getElem?_getD (l := m.getD i default), hj] at this
  exact cn_ok this
theorem ivmU_cn (n i : Nat) : ∀ x ∈ ivmU n i, x.cn := fun x hx => by
  obtain ⟨j, _, rfl⟩ := List.mem_map.1 hx
  split
  · exact intR_cn (by decide)
  · exact intR_cn (by decide)
theorem ivmL_ok {m : List (List R)} (h : matOk m m.length = true) : ∀ r ∈ ivmL m, (∀ x ∈ r, x.cn) ∧ r.length ≤ 20 := fun r hr => by
  obtain ⟨h10, hl⟩ := ivm_ok h
  obtain ⟨i, hi, rfl⟩ := List.mem_map.1 hr
  have hi := List.mem_range.1 hi
  refine ⟨fun x hx => ?_, by unfold ivmW; rw [List.length_append, (hl i hi).1, ivmU_len]; omega⟩
  rcases List.mem_append.1 hx with hx | hx
  · exact (hl i hi).2 x hx
  · exact ivmU_cn _ _ x hx
theorem ivmX_ok (m : List (List R)) : szL (szL R.sz) (ivmX m) ≤ 100000 ∧ wfL (wfL R.wf) (ivmX m) := by
  cases hb : ivmB m
  · unfold ivmX; rw [hb]; exact ⟨by simp [szL], by simp [wfL]⟩
  · have h := hb
    unfold ivmB at h
    simp only [Bool.and_eq_true] at h
    obtain ⟨h10, hl⟩ := ivm_ok h.1
    obtain ⟨M, e, hok, hc⟩ := rrV_ok h.2
    rw [(ivmB_t h.1 h.2).1, e]
    have hw : (ivmL m).length = m.length := wideL_len _ _
    refine mat_ok (n := 20) (fun r hr => ?_) (Nat.le_refl _) (by simp [hw]; omega)
    rw [List.map_map] at hr
    obtain ⟨i, hi, rfl⟩ := List.mem_map.1 hr
    have hi := List.mem_range.1 hi
    have := hok i hi
    refine ⟨fun x hx => this.2 x (List.mem_of_mem_drop hx), ?_⟩
    show ((M i).drop m.length).length ≤ 20
    rw [List.length_drop, this.1]; omega
theorem owR_drop {σ : Store} : ∀ (n : Nat) {A T : List (List V)} {os : List Nat}, OwR σ A T os → ∃ os', OwR σ (A.drop n) (T.drop n) os' ∧ os'.Sublist os
  | 0, A, T, os, h => ⟨os, h, List.Sublist.refl _⟩
  | n + 1, A, [], os, h => by
    simp only [OwR] at h
    obtain ⟨rfl, rfl⟩ := h
    exact ⟨[], by simp [OwR], List.Sublist.refl _⟩
  | n + 1, A, t :: T, os, h => by
    simp only [OwR] at h
    obtain ⟨v, vs', o1, o2, rfl, rfl, h1, h2⟩ := h
    obtain ⟨os', k1, k2⟩ := owR_drop n h2
    exact ⟨os', k1, k2.trans (List.sublist_append_right _ _)⟩
theorem owR_at {σ : Store} : ∀ {i : Nat} {A T : List (List V)} {os : List Nat}, OwR σ A T os → i < T.length → ∃ os', OwL σ (A.getD i []) (T.getD i []) os' ∧ os'.Sublist os
  | i, A, [], os, h, hi => absurd hi (Nat.not_lt_zero _)
  | 0, A, t :: T, os, h, hi => by
    simp only [OwR] at h
    obtain ⟨v, vs', o1, o2, rfl, rfl, h1, h2⟩ := h
    exact ⟨o1, h1, List.sublist_append_left _ _⟩
  | i + 1, A, t :: T, os, h, hi => by
    simp only [OwR] at h
    obtain ⟨v, vs', o1, o2, rfl, rfl, h1, h2⟩ := h
    obtain ⟨os', k1, k2⟩ := owR_at h2 (by simpa using hi)
    exact ⟨os', k1, k2.trans (List.sublist_append_right _ _)⟩
theorem OwF.col {s : Store} {A : Nat → List (List V)} {M : MF} {f : Nat → List Nat} {n c j : Nat} (ho : OwF s A M f fun i => i < n) (hl : ∀ i, i < n → (M i).length = c) (hj : j < c) :
    ∀ m, m ≤ n → ∃ os, OwR s ((List.range m).map fun i => (A i).getD j []) (((List.range m).map fun i => (M i).getD j default).map R.cells) os ∧ os.Nodup ∧ ∀ o ∈ os, ∃ i, i < m ∧ o ∈ f i
  | 0, _ => ⟨[], by simp [OwR], .nil, by simp⟩
  | m + 1, hm => by
    obtain ⟨os, k1, k2, k3⟩ := OwF.col ho hl hj m (by omega)
    have hm' : m < n := by omega
    obtain ⟨o2, h1, h2⟩ := owR_at (ho.ow m hm') (i := j) (by rw [List.length_map, hl m hm']; exact hj)
    rw [mg (by rw [hl m hm']; exact hj)] at h1
    refine ⟨os ++ o2, ?_, ?_, fun o h => ?_⟩
    · rw [List.range_succ, List.map_append, List.map_append, List.map_append]
      exact owR_append k1 (owR_1 h1)
    · rw [List.nodup_append]
      refine ⟨k2, (ho.nd m hm').sublist h2, fun x hx y hy e => ?_⟩
      subst e
      obtain ⟨i, hi, hi2⟩ := k3 x hx
      exact ho.ap i m (by omega) hm' (by omega) x hi2 (h2.subset hy)
    · rcases List.mem_append.1 h with h | h
      · obtain ⟨i, hi, k⟩ := k3 o h; exact ⟨i, by omega, k⟩
      · exact ⟨m, by omega, h2.subset h⟩
theorem OwF.drop {s : Store} {A : Nat → List (List V)} {M : MF} {f : Nat → List Nat} {n : Nat} (ho : OwF s A M f fun i => i < n) (d : Nat) : ∃ f', OwF s (fun i => (A i).drop d) (fun i => (M i).drop d) f' (fun i => i < n) ∧ ∀ i, i < n → ∀ o ∈ f' i, o ∈ f i := by
  have h : ∀ i, ∃ os', i < n → OwR s ((A i).drop d) (((M i).drop d).map R.cells) os' ∧ os'.Sublist (f i) := fun i => by
    by_cases hi : i < n
    · obtain ⟨os', k1, k2⟩ := owR_drop d (ho.ow i hi)
      rw [← List.map_drop] at k1
      exact ⟨os', fun _ => ⟨k1, k2⟩⟩
    · exact ⟨[], fun h => absurd h hi⟩
  refine ⟨fun i => Classical.choose (h i), ⟨fun i hi => ?_, fun i hi => ?_, fun i j hi hj hne o h1 h2 => ?_⟩, fun i hi o h1 => ?_⟩
  · exact (Classical.choose_spec (h i) hi).1
  · exact (ho.nd i hi).sublist (Classical.choose_spec (h i) hi).2
  · exact ho.ap i j hi hj hne o ((Classical.choose_spec (h i) hi).2.subset h1) ((Classical.choose_spec (h j) hj).2.subset h2)
  · exact (Classical.choose_spec (h i) hi).2.subset h1
theorem owR_mat {σ : Store} {c : Nat} (hc : 0 < c) : ∀ {RR : List (List R)} {rows : List (List V)} {os : List Nat}, OwR σ rows (RR.map fun r => [ratsV r]) os → os.Nodup → (∀ r ∈ RR, r.length = c) →
    ∃ (rp : Nat → Nat) (A : Nat → List (List V)) (f : Nat → List Nat), rows = orow RR.length c rp ∧ (∀ i, i < RR.length → objAt σ (rp i) = some ⟨3, A i⟩ ∧ OwR σ (A i) ((mF RR i).map R.cells) (f i) ∧ (f i).Nodup ∧ rp i ∈ os ∧ ∀ o ∈ f i, o ∈ os) ∧
      (∀ i j, i < RR.length → j < RR.length → rp i = rp j → i = j) ∧ ∀ i j, i < RR.length → j < RR.length → i ≠ j → ∀ o ∈ f i, o ∉ f j
  | [], rows, os, h, _, _ => by
    simp only [List.map_nil, OwR] at h
    obtain ⟨rfl, rfl⟩ := h
    exact ⟨fun _ => 0, fun _ => [], fun _ => [], rfl, fun i hi => absurd hi (Nat.not_lt_zero _), fun i j hi => absurd hi (Nat.not_lt_zero _), fun i j hi => absurd hi (Nat.not_lt_zero _)⟩
  | r :: RR, rows, os, h, hn, hl => by
    simp only [List.map_cons, OwR] at h
    obtain ⟨v, vs', o1, o2, rfl, rfl, h1, h2⟩ := h
    rw [List.nodup_append] at hn
    obtain ⟨n1, n2, n3⟩ := hn
    obtain ⟨w, vs, o3, o4, rfl, rfl, h3, h4⟩ := h1.inv
    obtain ⟨rfl, rfl⟩ := h4.nil_inv
    have hr := hl r (by simp)
    unfold ratsV at h3
    rcases h3.sl_inv with ⟨e, _, _⟩ | ⟨p, A0, f0, rfl, hp, hA, rfl, hR⟩
    · have := congrArg List.length e
      simp at this
      rw [this] at hr
      simp at hr
      omega
    rw [List.append_nil] at n1 n3
    rw [List.nodup_cons] at n1
    obtain ⟨rp, A, f, e, k1, k2, k3⟩ := owR_mat hc h2 n2 fun r hr => hl r (by simp [hr])
    refine ⟨fun i => match i with | 0 => p | i + 1 => rp i, fun i => match i with | 0 => A0 | i + 1 => A i, fun i => match i with | 0 => f0 | i + 1 => f i, ?_, fun i hi => ?_, fun i j hi hj e => ?_, fun i j hi hj hne o h1 h2 => ?_⟩
    · rw [e, List.length_cons, List.length_map, hr]
      unfold orow
      rw [List.range_succ_eq_map, List.map_cons, List.map_map]
      rfl
    · cases i with
      | zero => exact ⟨hp, hR, n1.2, by simp, fun o h => by simp [h]⟩
      | succ i =>
        obtain ⟨a, b, c, d, e⟩ := k1 i (by simpa using hi)
        exact ⟨a, b, c, by simp [d], fun o h => by simp [e o h]⟩
    · cases i with
      | zero =>
        cases j with
        | zero => rfl
        | succ j =>
          have := (k1 j (by simpa using hj)).2.2.2.1
          exact absurd e fun e => n3 p (by simp) _ this e
      | succ i =>
        cases j with
        | zero =>
          have := (k1 i (by simpa using hi)).2.2.2.1
          exact absurd e fun e => n3 p (by simp) _ this e.symm
        | succ j => rw [k2 i j (by simpa using hi) (by simpa using hj) e]
    · cases i with
      | zero =>
        cases j with
        | zero => exact hne rfl
        | succ j => exact n3 o (by simp [show o ∈ f0 from h1]) o ((k1 j (by simpa using hj)).2.2.2.2 o h2) rfl
      | succ i =>
        cases j with
        | zero => exact n3 o (by simp [show o ∈ f0 from h2]) o ((k1 i (by simpa using hi)).2.2.2.2 o h1) rfl
        | succ j => exact k3 i j (by simpa using hi) (by simpa using hj) (by omega) o h1 h2
theorem owV_mat {σ : Store} {c : Nat} (hc : 0 < c) {RR : List (List R)} {v : V} {os : List Nat} (h : OwV σ v (ratssV RR) os) (hn : os.Nodup) (hl : ∀ r ∈ RR, r.length = c) (hne : 0 < RR.length) :
    ∃ (q : Nat) (rp : Nat → Nat) (A : Nat → List (List V)) (f : Nat → List Nat), v = .msl q 0 RR.length ∧ Mat σ q RR.length c rp A (mF RR) ∧ OwF σ A (mF RR) f (fun i => i < RR.length) ∧ ∀ i, i < RR.length → ∀ o ∈ f i, o ∈ os := by
  unfold ratssV at h
  rcases h.sl_inv with ⟨e, _, _⟩ | ⟨q, rows, os', rfl, hq, _, rfl, hR⟩
  · rw [List.map_eq_nil_iff] at e
    subst e
    exact absurd hne (Nat.lt_irrefl _)
  rw [List.nodup_cons] at hn
  obtain ⟨rp, A, f, e, k1, k2, k3⟩ := owR_mat hc hR hn.2 hl
  refine ⟨q, rp, A, f, by rw [List.length_map], ⟨k2, by rw [hq, e], fun i hi => (k1 i hi).1, fun i hi => (row_ow (k1 i hi).2.1).1⟩, ⟨fun i hi => (k1 i hi).2.1, fun i hi => (k1 i hi).2.2.1, k3⟩, fun i hi o ho => by simp [(k1 i hi).2.2.2.2 o ho]⟩
theorem po_lax {T : Nat → Option Fn} {f : Nat} {as as' : List V} {t : V} (h : PO T f as t) (ha : LaxL as as') : PO T f as' t := by
  obtain ⟨r, σ', os, h1, h2, h3, h4⟩ := h
  exact ⟨r, σ', os, .laxF ha h1 (laxV_refl _), h2, h3, h4⟩
end Go.Ml
end
section
set_option linter.unusedSimpArgs false
set_option linter.unusedVariables false
set_option maxRecDepth 100000
set_option maxHeartbeats 8000000
namespace Go.Ml
def F_spec_l01Byte : Fn := ⟨1, 58, [.tmp 2], (.seq (.reg false 0 [oN 2 (.mov (cI 0))]) (.seq (.reg false 0 [oN 4 (oV 0), oN 5 (oV 0), oN 6 (.chk (.t 5)), oN 7 (.fld 2 (.t 6)), oN 8 (.load 1 false (.t 7)), oN 9 (.bin .mul (.t 8) (cI 6364136223846793005)), oN 10 (.bin .add (.t 9) (cI 1442695040888963407)), oN 11 (.chk (.t 4)), oN 12 (.fld 2 (.t 11)), oS (.store 1 (.t 12) (.t 10))]) (.seq (.reg true 0 [oN 13 (oV 0), oA 14 0 (.chk (.t 13)) [0], oA 15 0 (.fld 2 (.t 14)) [1], oA 16 0 (.load 1 false (.t 15)) [2], oA 17 0 (.bin .shr (.t 16) (.c (.int .u64 33))) [3], oN 18 (oV 0), oA 19 0 (.chk (.t 18)) [5], oA 20 0 (.fld 2 (.t 19)) [6], oA 21 0 (.load 1 false (.t 20)) [7], oA 22 0 (.bin .shr (.t 21) (.c (.int .u64 45))) [8], oA 23 0 (.bin .xor (.t 17) (.t 22)) [4, 9], oA 24 0 (.bin .and (.t 23) (cI 255)) [10], oA 3 0 (oV 24) [11, 0, 1, 2, 3, 4, 5, 6, 7, 8, 9, 10, 11]]) (.seq (.seq (.reg true 0 [oN 25 (oV 0), oA 26 0 (.chk (.t 25)) [0], oA 27 0 (.fld 1 (.t 26)) [1], oA 28 0 (.load 1 false (.t 27)) [2], oN 29 (oV 0), oA 30 0 (.chk (.t 29)) [4], oA 31 0 (.fld 0 (.t 30)) [5], oA 32 0 (.load 1 false (.t 31)) [6], oA 33 0 (.len (.t 32)) [7], oA 34 0 (.bin .lss (.t 28) (.t 33)) [3, 8]]) (.cond (.t 34) (.seq (.reg true 0 [oN 35 (oV 3), oN 36 (oV 0), oA 37 0 (.chk (.t 36)) [1], oA 38 0 (.fld 0 (.t 37)) [2], oA 39 0 (.load 1 false (.t 38)) [3], oN 40 (oV 0), oA 41 0 (.chk (.t 40)) [5], oA 42 0 (.fld 1 (.t 41)) [6], oA 43 0 (.load 1 false (.t 42)) [7], oA 44 0 (.idx 1 (.t 39) (.t 43)) [4, 8], oA 45 0 (.load 1 false (.t 44)) [9], oA 46 0 (.conv .i64 (.t 45)) [10], oA 47 0 (.bin .add (.t 35) (.t 46)) [0, 11], oA 48 0 (.bin .and (.t 47) (cI 255)) [12], oA 3 0 (oV 48) [13, 0, 1, 2, 3, 4, 5, 6, 7, 8, 9, 10, 11, 12, 13]]) (.reg false 0 [oN 49 (oV 0), oN 50 (oV 0), oN 51 (.chk (.t 50)), oN 52 (.fld 1 (.t 51)), oN 53 (.load 1 false (.t 52)), oN 54 (.bin .add (.t 53) (cI 1)), oN 55 (.chk (.t 49)), oN 56 (.fld 1 (.t 55)), oS (.store 1 (.t 56) (.t 54))])) .skip)) (.seq (.reg false 0 [oN 57 (oV 3), oN 2 (oV 57)]) .ret)))))⟩
structure D_spec_l01Byte (T : Nat → Option Fn) : Prop where
  hT : T 129 = some F_spec_l01Byte
def F_spec_l01New : Fn := ⟨1, 32, [.tmp 2], (.seq (.reg false 0 [oN 2 (.mov (.c (.one)))]) (.seq (.reg false 0 [oN 5 (oV 0), oN 6 (.len (.t 5)), oN 7 (.bin .add (cI 1951) (.t 6)), oN 3 (oV 7)]) (.seq (.seq (.reg false 0 [oN 4 (.mov (cI 0))]) (.block 0 (.loop (.seq (.seq (.reg false 0 [oN 8 (oV 4), oN 9 (oV 0), oN 10 (.len (.t 9)), oN 11 (.bin .lss (.t 8) (.t 10)), oN 12 (oV 11), oG 12 true 13 (oV 4), oG 12 true 14 (.bin .lss (.t 13) (cI 4000)), oN 15 (.pick (.t 12) (.t 14) (.c (.bool false)))]) (.cond (.t 15) .skip (.exit 0))) (.seq (.block 1 (.reg false 0 [oN 18 (oV 3), oN 19 (.bin .mul (.t 18) (cI 59)), oN 20 (oV 0), oN 21 (oV 4), oN 22 (.idx 1 (.t 20) (.t 21)), oN 23 (.load 1 false (.t 22)), oN 24 (.conv .i64 (.t 23)), oN 25 (.bin .add (.t 19) (.t 24)), oN 26 (.bin .add (.t 25) (cI 7)), oN 27 (.bin .and (.t 26) (cI 1073741823)), oN 3 (oV 27)])) (.reg false 0 [oN 16 (oV 4), oN 17 (.bin .add (.t 16) (cI 1)), oN 4 (oV 17)])))))) (.seq (.reg false 1 [oK 28 1 (oV 0), oK 29 1 (oV 3), oK 30 1 (.build [.nils, .int .i64 0, .int .i64 0] [(0, 1, (.t 28)), (2, 1, (.t 29))]), oN 31 (.box (.t 30)), oK 2 1 (oV 31)]) .ret))))⟩
structure D_spec_l01New (T : Nat → Option Fn) : Prop where
  hT : T 105 = some F_spec_l01New
def F_spec_l32New : Fn := ⟨2, 17, [.tmp 4], (.seq (.reg false 0 [oN 4 (.mov (.c (.one)))]) (.seq (.reg false 0 [oN 7 (oV 0), oN 8 (.call 105 [(.t 7)]), oN 5 (oV 8)]) (.seq (.seq (.reg false 0 [oN 6 (.mov (cI 0))]) (.block 0 (.loop (.seq (.seq (.reg false 0 [oN 9 (oV 6), oN 10 (oV 1), oN 11 (.bin .lss (.t 9) (.t 10))]) (.cond (.t 11) .skip (.exit 0))) (.seq (.block 1 (.reg false 0 [oN 14 (oV 5), oN 15 (.call 129 [(.t 14)])])) (.reg false 0 [oN 12 (oV 6), oN 13 (.bin .add (.t 12) (cI 1)), oN 6 (oV 13)])))))) (.seq (.reg false 0 [oN 16 (oV 5), oN 4 (oV 16)]) .ret))))⟩
structure D_spec_l32New (T : Nat → Option Fn) : Prop where
  hT : T 181 = some F_spec_l32New
  d_spec_l01New : D_spec_l01New T
  d_spec_l01Byte : D_spec_l01Byte T
def F_spec_l01Below : Fn := ⟨2, 37, [.tmp 4], (.seq (.reg false 0 [oN 4 (.mov (cI 0))]) (.seq (.seq (.reg false 0 [oN 9 (oV 1), oN 10 (.bin .leq (.t 9) (cI 0))]) (.cond (.t 10) (.seq (.reg false 0 [oN 4 (.mov (cI 0))]) .ret) .skip)) (.seq (.seq (.reg false 0 [oN 11 (oV 1), oN 12 (.bin .leq (.t 11) (cI 256))]) (.cond (.t 12) (.seq (.reg false 0 [oN 13 (oV 0), oN 14 (.call 129 [(.t 13)]), oN 15 (oV 1), oN 16 (.bin .rem (.t 14) (.t 15)), oN 4 (oV 16)]) .ret) .skip)) (.seq (.reg false 0 [oN 17 (oV 0), oN 18 (.call 129 [(.t 17)]), oN 5 (oV 18)]) (.seq (.reg false 0 [oN 19 (oV 0), oN 20 (.call 129 [(.t 19)]), oN 6 (oV 20)]) (.seq (.reg false 0 [oN 21 (oV 0), oN 22 (.call 129 [(.t 21)]), oN 7 (oV 22)]) (.seq (.reg false 0 [oN 23 (oV 0), oN 24 (.call 129 [(.t 23)]), oN 8 (oV 24)]) (.seq (.reg false 0 [oN 25 (oV 5), oN 26 (.bin .mul (.t 25) (cI 16777216)), oN 27 (oV 6), oN 28 (.bin .mul (.t 27) (cI 65536)), oN 29 (.bin .add (.t 26) (.t 28)), oN 30 (oV 7), oN 31 (.bin .mul (.t 30) (cI 256)), oN 32 (.bin .add (.t 29) (.t 31)), oN 33 (oV 8), oN 34 (.bin .add (.t 32) (.t 33)), oN 35 (oV 1), oN 36 (.bin .rem (.t 34) (.t 35)), oN 4 (oV 36)]) .ret))))))))⟩
structure D_spec_l01Below (T : Nat → Option Fn) : Prop where
  hT : T 107 = some F_spec_l01Below
  d_spec_l01Byte : D_spec_l01Byte T
def F_spec_RatMake : Fn := ⟨2, 24, [.cell 4 3 true], (.seq (.reg false 3 [oN 2 (.box (.t 0)), oK 3 1 (.box (.t 1)), oK 4 2 (.alloc [.bool false, .nils, .nils])]) (.seq (.seq (.reg false 0 [oN 5 (.load 2 true (.t 2)), oN 6 (.call 120 [(.t 5)]), oN 7 (.un .not (.t 6)), oN 8 (oV 7), oG 8 false 9 (.load 2 true (.t 3)), oG 8 false 10 (.call 120 [(.t 9)]), oG 8 false 11 (.un .not (.t 10)), oN 12 (.pick (.t 8) (.c (.bool true)) (.t 11))]) (.cond (.t 12) (.seq (.reg false 0 [oN 13 (.build [.bool false, .nils, .nils] []), oS (.store 3 (.t 4) (.t 13))]) .ret) .skip)) (.seq (.reg false 0 [oN 14 (.fld 0 (.t 2)), oN 15 (.load 1 false (.t 14)), oN 16 (.fld 0 (.t 3)), oN 17 (.load 1 false (.t 16)), oN 18 (.beq true (.t 15) (.t 17)), oN 19 (.fld 1 (.t 2)), oN 20 (.load 1 false (.t 19)), oN 21 (.fld 1 (.t 3)), oN 22 (.load 1 false (.t 21)), oN 23 (.call 206 [(.t 18), (.t 20), (.t 22)]), oS (.store 3 (.t 4) (.t 23))]) .ret)))⟩
structure D_spec_RatMake (T : Nat → Option Fn) : Prop where
  hT : T 199 = some F_spec_RatMake
  d_spec_BigIntOk : D_spec_BigIntOk T
  d_spec_l04Low : D_spec_l04Low T
def F_spec_RatOf : Fn := ⟨2, 10, [.cell 4 3 true], (.seq (.reg false 1 [oN 4 (.alloc [.bool false, .nils, .nils])]) (.seq (.reg false 0 [oN 5 (oV 0), oN 6 (.call 53 [(.t 5)]), oN 7 (oV 1), oN 8 (.call 53 [(.t 7)]), oN 9 (.call 199 [(.t 6), (.t 8)]), oS (.store 3 (.t 4) (.t 9))]) .ret))⟩
structure D_spec_RatOf (T : Nat → Option Fn) : Prop where
  hT : T 190 = some F_spec_RatOf
  d_spec_BigIntOf : D_spec_BigIntOf T
  d_spec_RatMake : D_spec_RatMake T
def F_spec_l01Pick : Fn := ⟨2, 12, [.tmp 4], (.seq (.reg false 0 [oN 4 (.mov (cI 0))]) (.seq (.reg false 0 [oN 5 (oV 1), oN 6 (oV 0), oN 7 (oV 1), oN 8 (.len (.t 7)), oN 9 (.call 107 [(.t 6), (.t 8)]), oN 10 (.idx 1 (.t 5) (.t 9)), oN 11 (.load 1 false (.t 10)), oN 4 (oV 11)]) .ret))⟩
structure D_spec_l01Pick (T : Nat → Option Fn) : Prop where
  hT : T 191 = some F_spec_l01Pick
  d_spec_l01Below : D_spec_l01Below T
def F_spec_l04Few : Fn := ⟨1, 10, [.cell 2 3 true], (.seq (.reg false 1 [oN 2 (.alloc [.bool false, .nils, .nils])]) (.seq (.reg false 1 [oK 3 1 (oV 0), oK 4 1 (.call 107 [(.t 3), (cI 21)]), oK 5 1 (.bin .sub (.t 4) (cI 10)), oK 6 1 (oV 0), oN 7 (.mkSl 1 [.int .i64 0] 5 [(0, (cI 1)), (1, (cI 1)), (2, (cI 1)), (3, (cI 2)), (4, (cI 3))]), oK 8 1 (.call 191 [(.t 6), (.t 7)]), oK 9 1 (.call 190 [(.t 5), (.t 8)]), ⟨none, none, 1, .store 3 (.t 2) (.t 9), []⟩]) .ret))⟩
structure D_spec_l04Few (T : Nat → Option Fn) : Prop where
  hT : T 184 = some F_spec_l04Few
  d_spec_l01Below : D_spec_l01Below T
  d_spec_RatOf : D_spec_RatOf T
  d_spec_l01Pick : D_spec_l01Pick T
def F_spec_MakeRat : Fn := ⟨2, 10, [.cell 4 3 true], (.seq (.reg false 1 [oN 4 (.alloc [.bool false, .nils, .nils])]) (.seq (.reg false 0 [oN 5 (oV 0), oN 6 (oV 1), oN 7 (.bin .mul (cI 3) (.t 6)), oN 8 (.call 181 [(.t 5), (.t 7)]), oN 9 (.call 184 [(.t 8)]), oS (.store 3 (.t 4) (.t 9))]) .ret))⟩
structure D_spec_MakeRat (T : Nat → Option Fn) : Prop where
  hT : T 175 = some F_spec_MakeRat
  d_spec_l32New : D_spec_l32New T
  d_spec_l04Few : D_spec_l04Few T
abbrev bytesV (x : List UInt8) : V := .sl 1 (x.map fun b => [.int .u8 b.toNat])
def cur (x : List UInt8) (i h : Int) : Store := [some ⟨3, [[bytesV x, iv i, iv h]]⟩]
theorem and255 (a : Int) : 0 ≤ bitsAnd .i64 a 255 ∧ bitsAnd .i64 a 255 ≤ 255 := by
  have h : (BitVec.ofInt 64 a &&& BitVec.ofInt 64 255).toNat ≤ 255 := by
    rw [BitVec.toNat_and]
    exact Nat.le_trans Nat.and_le_right (by decide)
  unfold bitsAnd
  rw [show IntKind.i64.bits = 64 from rfl, w64 ⟨by omega, by omega⟩]
  omega
theorem r_l01Byte {T : Nat → Option Fn} (h : D_spec_l01Byte T) {x : List UInt8} {i hh : Int} (hi : 0 ≤ i ∧ i ≤ x.length) (hx : x.length ≤ 1048576) :
    ∃ n i' h' : Int, (0 ≤ n ∧ n ≤ 255) ∧ (0 ≤ i' ∧ i' ≤ x.length) ∧ Run T (.fn 129 [.ptr 0 0 0] (cur x i hh)) (.fn (iv n) (cur x i' h')) := by
  have : ∃ r σ', Run T (.fn 129 [.ptr 0 0 0] (cur x i hh)) (.fn r σ') ∧ ∃ n i' h' : Int, (r = iv n ∧ σ' = cur x i' h') ∧ (0 ≤ n ∧ n ≤ 255) ∧ (0 ≤ i' ∧ i' ≤ x.length) := by
    unfold cur
    refine run_end (fun _ _ => false) h.hT rfl rfl ?_
    dsimp only [F_spec_l01Byte, oN, oS, oG, oK, oA, oH, oV, cI, St.enter, List.length_cons, List.length_nil, Nat.zero_add]
    (refine ew ?_; try with_reducible exact True.intro)
    refine brK_dec (fun hc => ?_) fun hc => ?_ <;> (refine ew1 @hc ?_; try with_reducible exact True.intro)
    · have g1 : (x.map fun b => [V.int .u8 b.toNat]).getD i.toNat [] = [.int .u8 (x.getD i.toNat default).toNat] := mg (f := fun b : UInt8 => [V.int .u8 b.toNat]) (by omega)
      have hb : (x.getD i.toNat default).toNat < 256 := (x.getD i.toNat default).toBitVec.isLt
      generalize (x.getD i.toNat default).toNat = b at g1 hb
      (refine ew1 @g1 ?_; try with_reducible exact True.intro)
      trace_state
      exact ⟨_, _, _, ⟨rfl, rfl⟩, and255 _, by omega⟩
    · (refine ew ?_; try with_reducible exact True.intro)
      exact ⟨_, _, _, ⟨rfl, rfl⟩, and255 _, hi⟩
  obtain ⟨r, σ', h1, n, i', h', ⟨rfl, rfl⟩, h2, h3⟩ := this
  exact ⟨n, i', h', h2, h3, h1⟩
end Go.Ml
end
section
set_option linter.unusedSimpArgs false
set_option linter.unusedVariables false
set_option maxRecDepth 100000
set_option maxHeartbeats 8000000
namespace Go.Ml
def cob (x : List UInt8) (i h : Int) : Obj := ⟨3, [[bytesV x, iv i, iv h]]⟩
def CurP (s : Store) (b : Nat) (x : List UInt8) : Prop := ∃ i h : Int, objAt s b = some (cob x i h) ∧ 0 ≤ i ∧ i ≤ x.length
def CurF (T : Nat → Option Fn) (f : Nat) (rest : List V) (x : List UInt8) (Q : V → Prop) : Prop :=
  ∀ i h : Int, 0 ≤ i ∧ i ≤ x.length → ∃ (r : V) (i' h' : Int), (Q r ∧ ∀ g, mapV g r = r) ∧ (0 ≤ i' ∧ i' ≤ x.length) ∧ Run T (.fn f (.ptr 0 0 0 :: rest) (cur x i h)) (.fn r (cur x i' h'))
theorem mapO_cob (g : Nat → Option Nat) (x : List UInt8) (i h : Int) : mapO g (cob x i h) = cob x i h := by
  simp [mapO, cob, mapV]
theorem curF_of {T : Nat → Option Fn} {f : Nat} {rest : List V} {x : List UInt8} {Q : V → Prop}
    (h : ∀ i h : Int, 0 ≤ i ∧ i ≤ x.length → ∃ r σ', Run T (.fn f (.ptr 0 0 0 :: rest) (cur x i h)) (.fn r σ') ∧ (Q r ∧ ∀ g, mapV g r = r) ∧ CurP σ' 0 x) : CurF T f rest x Q := by
  intro i hh hi
  obtain ⟨r, σ', h1, h2, i', h', h3, h4⟩ := h i hh hi
  refine ⟨r, i', h', h2, h4, ?_⟩
  have := Run.gcF [0] (by simp) (fun k hk => by
    have hk : k < 1 := hk
    have e : k = 0 := by omega
    rw [e]; rfl) h1
  rw [h2.2] at this
  have e : gcS [0] σ' = cur x i' h' := by
    simp only [gcS, List.map_cons, List.map_nil, h3, Option.map_some, mapO_cob]; rfl
  rwa [e] at this
theorem RefK_curF {T : Nat → Option Fn} {f : Nat} {as : List Src} {dst : Option Nat} {env : Nat → V} {σ : Store} {kp bs : Nat} {rs ms : List Nat} {k : St → Prop} {b : Nat} {x : List UInt8} {rest : List V} {Q : V → Prop}
    (hb : CurP σ b x) (hf : CurF T f rest x Q) (ha : (as.map fun s => s.ev env) = .ptr b 0 0 :: rest) (hr : ∀ g, rest.map (mapV g) = rest)
    (hk : ∀ (r : V) (i h : Int), Q r → 0 ≤ i ∧ i ≤ x.length → k ⟨updO env dst r, σ.set b (some (cob x i h)), kp, bs, rs, ms⟩) : RefK T f as dst ⟨env, σ, kp, bs, rs, ms⟩ k := by
  obtain ⟨i, h, hob, hi⟩ := hb
  obtain ⟨r, i', h', ⟨hq, hm⟩, hi', hrun⟩ := hf i h hi
  have e : (as.map fun s => mapV (place [b]) (s.ev env)) = .ptr 0 0 0 :: rest := by
    have : (as.map fun s => mapV (place [b]) (s.ev env)) = (as.map fun s => s.ev env).map (mapV (place [b])) := by rw [List.map_map]; rfl
    rw [this, ha, List.map_cons, hr]
    simp [mapV, place]
  have e2 : gcS [b] σ = cur x i h := by
    simp only [gcS, List.map_cons, List.map_nil, hob, Option.map_some, mapO_cob]; rfl
  have hlt := objAt_lt hob
  have e3 : putBack [b] σ (cur x i' h') = σ.set b (some (cob x i' h')) := by
    unfold putBack
    have : (cur x i' h').drop [b].length = [] := rfl
    rw [this, List.map_nil, List.append_nil]
    apply List.ext_getElem?
    intro q
    rw [List.getElem?_mapIdx, List.getElem?_set]
    by_cases hq : b = q
    · subst hq
      rw [if_pos rfl, if_pos hlt, List.getElem?_eq_getElem hlt]
      simp only [Option.map_some, place, if_true]
      show some ((objAt (cur x i' h') 0).map _) = _
      show some (some (mapO _ (cob x i' h'))) = _
      rw [mapO_cob]
    · rw [if_neg hq]
      cases hg : σ[q]? with
      | none => rfl
      | some ob => simp [place, hq]
  refine ⟨_, .ref [b] (by simp) (fun o ho => by rw [List.mem_singleton.1 ho, hob]; rfl) (r := r) (σ' := cur x i' h') (by rw [e, e2]; exact hrun), ?_⟩
  have := hk r i' h' hq hi'
  rw [← e3] at this
  have hm2 := hm (back [b] σ.length)
  show k ⟨updO env dst (mapV (back [b] σ.length) r), _, _, _, _, _⟩
  rw [hm2]
  exact this
theorem f_l01Byte {T : Nat → Option Fn} (h : D_spec_l01Byte T) {x : List UInt8} (hx : x.length ≤ 1048576) : CurF T 129 [] x fun r => ∃ n : Int, r = iv n ∧ 0 ≤ n ∧ n ≤ 255 := by
  intro i hh hi
  obtain ⟨n, i', h', h1, h2, h3⟩ := r_l01Byte h (hh := hh) hi hx
  exact ⟨iv n, i', h', ⟨⟨n, rfl, h1⟩, fun g => rfl⟩, h2, h3⟩
theorem f_l01Below {T : Nat → Option Fn} (h : D_spec_l01Below T) {x : List UInt8} {n : Int} (hn : 0 < n ∧ n ≤ 256) (hx : x.length ≤ 1048576) : CurF T 107 [iv n] x fun r => ∃ m : Int, r = iv m ∧ 0 ≤ m ∧ m < n := by
  refine curF_of fun i hh hi => ?_
  have hP : CurP (cur x i hh) 0 x := ⟨i, hh, rfl, hi⟩
  have h1 : ¬ n ≤ 0 := by omega
  have hl : (cur x i hh).length = 1 := rfl
  generalize cur x i hh = s0 at hP hl ⊢
  refine run_end (fun x d => x == 129) h.hT rfl rfl ?_
  dsimp only [F_spec_l01Below, oN, oS, oG, oK, oA, oH, oV, cI, St.enter, List.length_cons, List.length_nil, Nat.zero_add]
  (refine ew ?_; try with_reducible exact True.intro)
  refine brK_dec (fun hc => absurd hc h1) fun _ => ?_
  (refine ew ?_; try with_reducible exact True.intro)
  refine brK_dec (fun _ => ?_) fun hc => absurd hn.2 hc
  (refine ew ?_; try with_reducible exact True.intro)
  refine RefK_curF hP (f_l01Byte h.d_spec_l01Byte hx) rfl (fun _ => rfl) ?_
  rintro _ i2 h2 ⟨m, rfl, hm⟩ hi2
  (refine ew ?_; try with_reducible exact True.intro)
  exact ⟨⟨⟨_, rfl, Int.tmod_nonneg _ hm.1, Int.tmod_lt_of_pos _ hn.1⟩, fun g => rfl⟩, i2, h2, objAt_seteq (by omega), hi2⟩
theorem r_pick5 {T : Nat → Option Fn} (h : D_spec_l01Pick T) {x : List UInt8} (hx : x.length ≤ 1048576) {i hh : Int} (hi : 0 ≤ i ∧ i ≤ x.length) :
    ∃ (d i' h' : Int), (1 ≤ d ∧ d ≤ 3) ∧ (0 ≤ i' ∧ i' ≤ x.length) ∧ Run T (.fn 191 [.ptr 0 0 0, .msl 1 0 5] [some (cob x i hh), some ⟨1, [[iv 1], [iv 1], [iv 1], [iv 2], [iv 3]]⟩]) (.fn (iv d) [some (cob x i' h'), some ⟨1, [[iv 1], [iv 1], [iv 1], [iv 2], [iv 3]]⟩]) := by
  have : ∃ r σ', Run T (.fn 191 [.ptr 0 0 0, .msl 1 0 5] [some (cob x i hh), some ⟨1, [[iv 1], [iv 1], [iv 1], [iv 2], [iv 3]]⟩]) (.fn r σ') ∧ ∃ d i' h' : Int, (r = iv d ∧ σ' = [some (cob x i' h'), some ⟨1, [[iv 1], [iv 1], [iv 1], [iv 2], [iv 3]]⟩]) ∧ (1 ≤ d ∧ d ≤ 3) ∧ (0 ≤ i' ∧ i' ≤ x.length) := by
    refine run_end (fun x d => x == 107) h.hT rfl rfl ?_
    dsimp only [F_spec_l01Pick, oN, oS, oG, oK, oA, oH, oV, cI, St.enter, List.length_cons, List.length_nil, Nat.zero_add]
    (refine ew ?_; try with_reducible exact True.intro)
    refine RefK_curF (b := 0) (rest := [iv 5]) ⟨i, hh, rfl, hi⟩ (f_l01Below h.d_spec_l01Below (n := 5) (by omega) hx) rfl (fun _ => rfl) ?_
    rintro _ i2 h2 ⟨m, rfl, hm⟩ hi2
    have : m = 0 ∨ m = 1 ∨ m = 2 ∨ m = 3 ∨ m = 4 := by omega
    rcases this with rfl | rfl | rfl | rfl | rfl
    all_goals
      (refine ew ?_; try with_reducible exact True.intro)
      exact ⟨_, _, _, ⟨rfl, rfl⟩, by omega, hi2⟩
  obtain ⟨r, σ', h1, n, i', h', ⟨rfl, rfl⟩, h2, h3⟩ := this
  exact ⟨n, i', h', h2, h3, h1⟩
end Go.Ml
end
section
set_option linter.unusedSimpArgs false
set_option linter.unusedVariables false
set_option maxRecDepth 100000
set_option maxHeartbeats 8000000
namespace Go.Ml
def l5 : Obj := ⟨1, [[iv 1], [iv 1], [iv 1], [iv 2], [iv 3]]⟩
theorem mapO_l5 (g : Nat → Option Nat) : mapO g l5 = l5 := by simp [mapO, l5, mapV]
theorem RefK_pick5 {T : Nat → Option Fn} (h : D_spec_l01Pick T) {x : List UInt8} (hx : x.length ≤ 1048576) {as : List Src} {dst : Option Nat} {env : Nat → V} {σ : Store} {kp bs : Nat} {rs ms : List Nat} {k : St → Prop} {b p : Nat}
    (hb : CurP σ b x) (hp : objAt σ p = some l5) (hne : b ≠ p) (ha : (as.map fun s => s.ev env) = [.ptr b 0 0, .msl p 0 5])
    (hk : ∀ (d i h : Int), (1 ≤ d ∧ d ≤ 3) → 0 ≤ i ∧ i ≤ x.length → k ⟨updO env dst (iv d), σ.set b (some (cob x i h)), kp, bs, rs, ms⟩) : RefK T 191 as dst ⟨env, σ, kp, bs, rs, ms⟩ k := by
  obtain ⟨i, hh, hob, hi⟩ := hb
  obtain ⟨d, i', h', hd, hi', hrun⟩ := r_pick5 h hx (hh := hh) hi
  have e : (as.map fun s => mapV (place [b, p]) (s.ev env)) = [.ptr 0 0 0, .msl 1 0 5] := by
    have : (as.map fun s => mapV (place [b, p]) (s.ev env)) = (as.map fun s => s.ev env).map (mapV (place [b, p])) := by rw [List.map_map]; rfl
    rw [this, ha]
    simp [mapV, place, hne]
  have e2 : gcS [b, p] σ = [some (cob x i hh), some l5] := by
    simp only [gcS, List.map_cons, List.map_nil, hob, hp, Option.map_some, mapO_cob, mapO_l5]
  have hlt := objAt_lt hob
  have hlp := objAt_lt hp
  have e3 : putBack [b, p] σ [some (cob x i' h'), some l5] = σ.set b (some (cob x i' h')) := by
    unfold putBack
    have : ([some (cob x i' h'), some l5] : Store).drop [b, p].length = [] := rfl
    rw [this, List.map_nil, List.append_nil]
    apply List.ext_getElem?
    intro q
    rw [List.getElem?_mapIdx, List.getElem?_set]
    by_cases hq : b = q
    · subst hq
      rw [if_pos rfl, if_pos hlt, List.getElem?_eq_getElem hlt]
      simp only [Option.map_some, place, if_true]
      show some (some (mapO _ (cob x i' h'))) = _
      rw [mapO_cob]
    · rw [if_neg hq]
      by_cases hq2 : p = q
      · subst hq2
        have h5 : σ[p]? = some (some l5) := by
          rw [List.getElem?_eq_getElem hlp]
          have : (σ[p]?).getD none = some l5 := hp
          rw [List.getElem?_eq_getElem hlp] at this
          exact congrArg some this
        rw [h5]
        simp only [Option.map_some, place, if_neg hq, if_true]
        show some (some (mapO _ l5)) = _
        rw [mapO_l5]
      · cases hg : σ[q]? with
        | none => rfl
        | some ob => simp [place, hq, hq2]
  refine ⟨_, .ref [b, p] (by simp [hne]) (fun o ho => by
    rcases List.mem_cons.1 ho with rfl | ho
    · rw [hob]; rfl
    · rw [List.mem_singleton.1 ho, hp]; rfl) (r := iv d) (σ' := [some (cob x i' h'), some l5]) (by rw [e, e2]; exact hrun), ?_⟩
  have := hk d i' h' hd hi'
  rw [← e3] at this
  exact this
def fewR (n d : Int) : R := Q.raw (mkQ n d)
theorem biOk {n : Int} (hn : -1000000 ≤ n ∧ n ≤ 1000000) : (natOk (bi n).mag && !((bi n).neg && (bi n).mag.isEmpty)) = true := by
  have h1 : natOk (mk n.natAbs) = true := natOk_of (Nat.lt_of_le_of_lt (by omega : n.natAbs ≤ 1000000) (by decide))
  show (natOk (mk n.natAbs) && !(decide (n < 0) && (mk n.natAbs).isEmpty)) = true
  rw [h1, Bool.true_and]
  by_cases h : n < 0
  · have h2 : mk n.natAbs ≠ [] := fun e => by
      have := congrArg val e
      rw [val_mk] at this
      simp [val] at this
      omega
    rw [decide_eq_true h, Bool.true_and]
    cases he : mk n.natAbs with
    | nil => exact absurd he h2
    | cons a l => rfl
  · rw [decide_eq_false h]; rfl
theorem c_RatMakeS {T : Nat → Option Fn} (h : D_spec_RatMake T) {n d : Int} (hn : -1000000 ≤ n ∧ n ≤ 1000000 := by first | omega | assumption | (simp; omega)) (hd : 1 ≤ d ∧ d ≤ 1000000 := by first | omega | assumption | (simp; omega)) : PF T 199 [biV (bi n), biV (bi d)] (ratV (fewR n d)) := by
  have ln : (mk n.natAbs).length ≤ 2 := ln_small (by omega)
  have ld : (mk d.natAbs).length ≤ 2 := ln_small (by omega)
  have c1 := c_sBigIntOk h.d_spec_BigIntOk (z := bi n) (by show (mk n.natAbs).length ≤ _; omega)
  have c2 := c_sBigIntOk h.d_spec_BigIntOk (z := bi d) (by show (mk d.natAbs).length ≤ _; omega)
  rw [biOk hn] at c1
  rw [biOk ⟨by omega, hd.2⟩] at c2
  have c3 := c_l04Low h.d_spec_l04Low (neg := decide (n < 0)) (m := n.natAbs) (n := d.natAbs) (by omega) (by omega)
  have e : sg (decide (n < 0)) n.natAbs = n := by unfold sg; split <;> simp_all <;> omega
  have e2 : ((d.natAbs : Nat) : Int) = d := by omega
  rw [e, e2] at c3
  have hdn : (d < 0) = False := eq_false (by omega)
  refine pf_endL (fun _ _ => false) h.hT rfl rfl ?_
  dsimp only [F_spec_RatMake, oN, oS, oG, oK, oA, oH, oV, cI]
  (refine ev ?_; try with_reducible exact True.intro)
  refine PFK_of c1 ?_
  (refine ev ?_; try with_reducible exact True.intro)
  refine PFK_of c2 ?_
  (refine ev1 @hdn ?_; try with_reducible exact True.intro)
  refine PFK_of c3 ?_
  (refine ev ?_; try with_reducible exact True.intro)
  exact laxV_refl _
theorem c_RatOfS {T : Nat → Option Fn} (h : D_spec_RatOf T) {n d : Int} (hn : -1000000 ≤ n ∧ n ≤ 1000000 := by first | omega | assumption | (simp; omega)) (hd : 1 ≤ d ∧ d ≤ 1000000 := by first | omega | assumption | (simp; omega)) : PF T 190 [iv n, iv d] (ratV (fewR n d)) := by
  have c1 := c_sBigIntOf h.d_spec_BigIntOf (n := n) (by omega)
  have c2 := c_sBigIntOf h.d_spec_BigIntOf (n := d) (by omega)
  refine pf_endL (fun _ _ => false) h.hT rfl rfl ?_
  dsimp only [F_spec_RatOf, oN, oS, oG, oK, oA, oH, oV, cI]
  (refine ev ?_; try with_reducible exact True.intro)
  refine PFK_of c1 ?_
  (refine ev ?_; try with_reducible exact True.intro)
  refine PFK_of c2 ?_
  (refine ev ?_; try with_reducible exact True.intro)
  refine PFK_of (c_RatMakeS h.d_spec_RatMake hn hd) ?_
  (refine ev ?_; try with_reducible exact True.intro)
  exact laxV_refl _
theorem mapV_rat (g : Nat → Option Nat) (r : R) : mapV g (ratV r) = ratV r := by simp [mapV, mapV.mapL]
theorem f_l04Few {T : Nat → Option Fn} (h : D_spec_l04Few T) {x : List UInt8} (hx : x.length ≤ 1048576) : CurF T 184 [] x fun r => ∃ n d : Int, r = ratV (fewR n d) ∧ (-10 ≤ n ∧ n ≤ 10) ∧ (1 ≤ d ∧ d ≤ 3) := by
  refine curF_of fun i hh hi => ?_
  unfold cur
  refine run_end (fun x d => x == 107 || x == 191) h.hT rfl rfl ?_
  dsimp only [F_spec_l04Few, oN, oS, oG, oK, oA, oH, oV, cI, St.enter, List.length_cons, List.length_nil, Nat.zero_add]
  (refine ew ?_; try with_reducible exact True.intro)
  refine RefK_curF (b := 0) (rest := [iv 21]) ⟨i, hh, rfl, hi⟩ (f_l01Below h.d_spec_l01Below (n := 21) (by omega) hx) rfl (fun _ => rfl) ?_
  rintro _ i2 h2 ⟨m, rfl, hm⟩ hi2
  (refine ew ?_; try with_reducible exact True.intro)
  refine RefK_pick5 h.d_spec_l01Pick hx (b := 0) (p := 2) ⟨i2, h2, rfl, hi2⟩ rfl (by decide) rfl ?_
  intro d i3 h3 hd hi3
  (refine ew ?_; try with_reducible exact True.intro)
  refine PFK_of (c_RatOfS h.d_spec_RatOf (n := m - 10) (d := d) (by omega) (by omega)) ?_
  (refine ew ?_; try with_reducible exact True.intro)
  exact ⟨⟨⟨_, _, rfl, by omega, hd⟩, fun g => mapV_rat g _⟩, i3, h3, rfl, hi3⟩
theorem r_l01New {T : Nat → Option Fn} (h : D_spec_l01New T) {x : List UInt8} (hx : x.length ≤ 1048576) : ∃ hh : Int, Run T (.fn 105 [bytesV x] []) (.fn (.ptr 0 0 0) (cur x 0 hh)) := by
  have : ∃ r σ', Run T (.fn 105 [bytesV x] []) (.fn r σ') ∧ ∃ hh : Int, r = .ptr 0 0 0 ∧ σ' = cur x 0 hh := by
    refine run_end (fun _ _ => false) h.hT rfl rfl ?_
    dsimp only [F_spec_l01New, oN, oS, oG, oK, oA, oH, oV, cI, St.enter, List.length_cons, List.length_nil, Nat.zero_add]
    (refine ew ?_; try with_reducible exact True.intro)
    refine loop_at (fun _ _ => false) (α := Nat × Int) (fun q => ⟨argE [bytesV x, .any, .any, iv q.2, iv (q.1 : Nat)], [], 0, 0, [], []⟩) (fun q => q.1 ≤ x.length) (fun q => x.length - q.1) rfl (0, 1951 + x.length) ?_ ?_ ?_
    · omega
    · (refine Fg_env ?_) <;> (try (refine ew ?_; try with_reducible exact True.intro)) <;> (repeat' (first | refine ⟨?_, ?_⟩ | exact EvV_int (by omega) | exact EvV_of (by simp) | exact EvV_nil _))
    · rintro ⟨k, hh⟩ hk
      dsimp only at hk
      by_cases hc : (k : Int) < (x.length : Nat)
      · have hkl : k < x.length := by omega
        by_cases hc2 : (k : Int) < 4000
        · have g1 : (x.map fun b => [V.int .u8 b.toNat]).getD k [] = [.int .u8 (x.getD k default).toNat] := mg (f := fun b : UInt8 => [V.int .u8 b.toNat]) hkl
          have hb : (x.getD k default).toNat < 256 := (x.getD k default).toBitVec.isLt
          generalize (x.getD k default).toNat = b at g1 hb
          (refine ew3 @hc @hc2 @g1 ?_; try with_reducible exact True.intro)
          exact ⟨(k + 1, bitsAnd IntKind.i64 (IntKind.i64.wrap (IntKind.i64.wrap (IntKind.i64.wrap (hh * 59) + b) + 7)) 1073741823), by dsimp only; omega, by dsimp only; omega, by (refine Fg_env ?_) <;> (try (refine ew ?_; try with_reducible exact True.intro)) <;> (repeat' (first | refine ⟨?_, ?_⟩ | exact EvV_int (by omega) | exact EvV_of (by simp) | exact EvV_nil _))⟩
        · (refine ew2 @hc @hc2 ?_; try with_reducible exact True.intro)
          exact ⟨_, rfl⟩
      · (refine ew1 @hc ?_; try with_reducible exact True.intro)
        exact ⟨_, rfl⟩
  obtain ⟨r, σ', h1, hh, rfl, rfl⟩ := this
  exact ⟨hh, h1⟩
theorem cur_shift {x : List UInt8} {i h : Int} {s : Store} (hi : 0 ≤ i ∧ i ≤ x.length) : CurP (addS s (cur x i h)) s.length x := by
  refine ⟨i, h, ?_, hi⟩
  rw [objAt_addS, if_neg (Nat.lt_irrefl _), Nat.sub_self]
  show (some (cob x i h)).map _ = _
  rw [Option.map_some, mapO_cob]
theorem r_l32New {T : Nat → Option Fn} (h : D_spec_l32New T) {x : List UInt8} {n : Int} (hn : n ≤ 1000) (hx : x.length ≤ 1048576) : ∃ i hh : Int, (0 ≤ i ∧ i ≤ x.length) ∧ Run T (.fn 181 [bytesV x, iv n] []) (.fn (.ptr 0 0 0) (cur x i hh)) := by
  obtain ⟨h0, rn⟩ := r_l01New h.d_spec_l01New hx
  have : ∃ r σ', Run T (.fn 181 [bytesV x, iv n] []) (.fn r σ') ∧ (r = .ptr 0 0 0 ∧ CurP σ' 0 x) := by
    refine run_end (fun x d => x == 105 || x == 129) h.hT rfl rfl ?_
    dsimp only [F_spec_l32New, oN, oS, oG, oK, oA, oH, oV, cI, St.enter, List.length_cons, List.length_nil, Nat.zero_add]
    (refine ew ?_; try with_reducible exact True.intro)
    refine RefK_run0 rn (by (refine ew ?_; try with_reducible exact True.intro)) (by (refine ew ?_; try with_reducible exact True.intro)) ?_
    have hP := cur_shift (x := x) (i := 0) (h := h0) (s := []) (by omega)
    rw [List.length_nil] at hP
    rw [show mapV (shiftN ([] : Store).length) (.ptr 0 0 0) = .ptr 0 0 0 from rfl]
    generalize addS [] (cur x 0 h0) = s0 at hP ⊢
    (refine ew ?_; try with_reducible exact True.intro)
    refine loop_at (fun x d => x == 105 || x == 129) (α := Nat × Store) (fun q => ⟨argE [.any, iv n, .any, .any, .any, .ptr 0 0 0, iv (q.1 : Nat)], q.2, 0, 0, [], []⟩) (fun q => q.1 ≤ 1000 ∧ CurP q.2 0 x) (fun q => 1000 - q.1) rfl (0, s0) ?_ ?_ ?_
    · exact ⟨by omega, hP⟩
    · (refine Fg_env ?_) <;> (try (refine ew ?_; try with_reducible exact True.intro)) <;> (repeat' (first | refine ⟨?_, ?_⟩ | exact EvV_int (by omega) | exact EvV_of (by simp) | exact EvV_nil _))
    · clear hP
      rintro ⟨k, s⟩ ⟨hk, hP⟩
      dsimp only at hk hP
      (refine ew ?_; try with_reducible exact True.intro)
      refine brK_dec (fun hc => ?_) fun hc => ?_ <;> (refine ew1 @hc ?_; try with_reducible exact True.intro)
      · refine RefK_curF hP (f_l01Byte h.d_spec_l01Byte hx) rfl (fun _ => rfl) ?_
        rintro _ i2 h2 ⟨m, rfl, hm⟩ hi2
        (refine ew ?_; try with_reducible exact True.intro)
        have hlt : 0 < s.length := by obtain ⟨_, _, ho, _⟩ := hP; exact objAt_lt ho
        exact ⟨(k + 1, s.set 0 (some (cob x i2 h2))), by dsimp only; omega, ⟨by dsimp only; omega, ⟨i2, h2, objAt_seteq hlt, hi2⟩⟩, by (refine Fg_env ?_) <;> (try (refine ew ?_; try with_reducible exact True.intro)) <;> (repeat' (first | refine ⟨?_, ?_⟩ | exact EvV_int (by omega) | exact EvV_of (by simp) | exact EvV_nil _))⟩
      · exact hP
  obtain ⟨r, σ', h1, rfl, i', h', h3, h4⟩ := this
  refine ⟨i', h', h4, ?_⟩
  have := Run.gcF [0] (by simp) (fun k hk => absurd hk (Nat.not_lt_zero _)) h1
  have e : gcS [0] σ' = cur x i' h' := by
    simp only [gcS, List.map_cons, List.map_nil, h3, Option.map_some, mapO_cob]; rfl
  rwa [e] at this
theorem c_MakeRat {T : Nat → Option Fn} (h : D_spec_MakeRat T) {x : List UInt8} {n : Int} (hn : 0 ≤ n ∧ n ≤ 100) (hx : x.length ≤ 1048576) : ∃ m d : Int, (-10 ≤ m ∧ m ≤ 10) ∧ (1 ≤ d ∧ d ≤ 3) ∧ PF T 175 [bytesV x, iv n] (ratV (fewR m d)) := by
  obtain ⟨i0, h0, hi0, rn⟩ := r_l32New h.d_spec_l32New (n := 3 * n) (by omega) hx
  have : ∃ r σ', Run T (.fn 175 [bytesV x, iv n] []) (.fn r σ') ∧ ∃ m d : Int, (-10 ≤ m ∧ m ≤ 10) ∧ (1 ≤ d ∧ d ≤ 3) ∧ r = ratV (fewR m d) := by
    refine run_end (fun x d => x == 181 || x == 184) h.hT rfl rfl ?_
    dsimp only [F_spec_MakeRat, oN, oS, oG, oK, oA, oH, oV, cI, St.enter, List.length_cons, List.length_nil, Nat.zero_add]
    (refine ew ?_; try with_reducible exact True.intro)
    refine RefK_run0 rn (by (refine ew ?_; try with_reducible exact True.intro)) (by (refine ew ?_; try with_reducible exact True.intro)) ?_
    obtain ⟨s, hs⟩ : ∃ s, addS [some ⟨3, [[.bool false, .nils, .nils]]⟩] (cur x i0 h0) = s := ⟨_, rfl⟩
    have hP := cur_shift (x := x) (i := i0) (h := h0) (s := [some ⟨3, [[.bool false, .nils, .nils]]⟩]) hi0
    have h00 : objAt s 0 = some ⟨3, [[.bool false, .nils, .nils]]⟩ := by rw [← hs, objAt_addS, if_pos (by decide)]; rfl
    rw [hs] at hP ⊢
    rw [show mapV (shiftN ([some ⟨3, [[.bool false, .nils, .nils]]⟩] : Store).length) (.ptr 0 0 0) = .ptr 1 0 0 from rfl]
    rw [show ([some ⟨3, [[.bool false, .nils, .nils]]⟩] : Store).length = 1 from rfl] at hP
    have hlt : 1 < s.length := by obtain ⟨_, _, ho, _⟩ := hP; exact objAt_lt ho
    (refine ew ?_; try with_reducible exact True.intro)
    refine RefK_curF hP (f_l04Few h.d_spec_l04Few hx) rfl (fun _ => rfl) ?_
    rintro _ i2 h2 ⟨m, d, rfl, hm, hd⟩ hi2
    (refine ew1 @h00 ?_; try with_reducible exact True.intro)
    exact ⟨m, d, hm, hd, rfl⟩
  obtain ⟨r, σ', h1, m, d, h2, h3, rfl⟩ := this
  exact ⟨m, d, h2, h3, .frz h1 (res_agg_still (by intro v hv; simp at hv; rcases hv with rfl | rfl | rfl <;> rfl))⟩
end Go.Ml
end
section
set_option linter.unusedSimpArgs false
set_option linter.unusedVariables false
set_option maxRecDepth 100000
set_option maxHeartbeats 8000000
namespace Go.Ml
structure SmL (l : Lk) : Prop where
  ab : 0 ≤ l.a ∧ l.a < l.b ∧ l.b ≤ 3
  w : ∃ n : Int, (1 ≤ n ∧ n ≤ 9) ∧ l.w = intR n
  dx : ∃ n : Int, (-20 ≤ n ∧ n ≤ 20) ∧ l.dx = intR n
  dy : ∃ n : Int, (-20 ≤ n ∧ n ≤ 20) ∧ l.dy = intR n
end Go.Ml
end
section
set_option linter.unusedSimpArgs false
set_option linter.unusedVariables false
namespace Go.Ml
def Ht (a : Rat) (N : Nat) : Prop := a.num.natAbs ≤ N ∧ a.den ≤ N
theorem ht_normalize {n : Int} {d N : Nat} (h : d ≠ 0) (h1 : n.natAbs ≤ N) (h2 : d ≤ N) : Ht (Rat.normalize n d h) N := by
  rw [Rat.normalize_eq]
  refine ⟨?_, Nat.le_trans (Nat.div_le_self _ _) h2⟩
  show (n / (n.natAbs.gcd d : Nat)).natAbs ≤ N
  refine Nat.le_trans ?_ h1
  have hd : ((n.natAbs.gcd d : Nat) : Int) ∣ n := Int.ofNat_dvd_left.2 (Nat.gcd_dvd_left _ _)
  rw [Int.natAbs_ediv_of_dvd hd]
  exact Nat.div_le_self _ _
theorem ht_pos {a : Rat} {N : Nat} (h : Ht a N) : 1 ≤ N := by
  have := a.den_pos
  have := h.2
  omega
theorem ht_mul {a b : Rat} {M N : Nat} (ha : Ht a M) (hb : Ht b N) : Ht (a * b) (M * N) := by
  rw [Rat.mul_def]
  refine ht_normalize _ ?_ (Nat.mul_le_mul ha.2 hb.2)
  rw [Int.natAbs_mul]
  exact Nat.mul_le_mul ha.1 hb.1
theorem ht_add {a b : Rat} {M N : Nat} (ha : Ht a M) (hb : Ht b N) : Ht (a + b) (2 * (M * N)) := by
  rw [Rat.add_def]
  have h1 : (a.num * (b.den : Int)).natAbs ≤ M * N := by
    rw [Int.natAbs_mul, Int.natAbs_natCast]; exact Nat.mul_le_mul ha.1 hb.2
  have h2 : (b.num * (a.den : Int)).natAbs ≤ M * N := by
    rw [Int.natAbs_mul, Int.natAbs_natCast, Nat.mul_comm]; exact Nat.mul_le_mul ha.2 hb.1
  have h3 := Nat.mul_le_mul ha.2 hb.2
  refine ht_normalize _ ?_ (by omega)
  have := Int.natAbs_add_le (a.num * (b.den : Int)) (b.num * (a.den : Int))
  omega
theorem ht_neg {a : Rat} {N : Nat} (h : Ht a N) : Ht (-a) N := by
  unfold Ht
  rw [Rat.neg_num, Rat.neg_den, Int.natAbs_neg]
  exact h
theorem ht_sub {a b : Rat} {M N : Nat} (ha : Ht a M) (hb : Ht b N) : Ht (a - b) (2 * (M * N)) := by
  rw [Rat.sub_eq_add_neg]; exact ht_add ha (ht_neg hb)
theorem ht_inv {a : Rat} {N : Nat} (h : Ht a N) : Ht a⁻¹ N := by
  unfold Ht
  rw [Rat.num_inv, Rat.den_inv]
  refine ⟨?_, ?_⟩
  · rw [Int.natAbs_mul, Int.natAbs_natCast]
    have hs : a.num.sign.natAbs ≤ 1 := by
      rcases Int.lt_trichotomy a.num 0 with h | h | h
      · rw [Int.sign_eq_neg_one_of_neg h]; decide
      · rw [h]; decide
      · rw [Int.sign_eq_one_of_pos h]; decide
    have := Nat.mul_le_mul hs (Nat.le_refl a.den)
    have := h.2
    omega
  · split
    · exact ht_pos h
    · exact h.1
theorem ht_div {a b : Rat} {M N : Nat} (ha : Ht a M) (hb : Ht b N) : Ht (a / b) (M * N) := by
  rw [Rat.div_def]; exact ht_mul ha (ht_inv hb)
theorem ht_int {n : Int} {N : Nat} (h : n.natAbs ≤ N) (h1 : 1 ≤ N) : Ht (n : Rat) N := by
  unfold Ht
  rw [Rat.num_intCast, Rat.den_intCast]
  exact ⟨h, h1⟩
theorem ht_fits {a : Rat} {N : Nat} (h : Ht a N) (hN : N < 1000000000 ^ 24) : fits a = true := by
  unfold fits
  rw [decide_eq_true (Nat.lt_of_le_of_lt h.1 hN), decide_eq_true (Nat.lt_of_le_of_lt h.2 hN)]
  rfl
theorem Ht.mono {a : Rat} {M N : Nat} (h : Ht a M) (hl : M ≤ N) : Ht a N := ⟨Nat.le_trans h.1 hl, Nat.le_trans h.2 hl⟩
structure Rv (r : R) (a : Rat) (N : Nat) : Prop where
  q : r.q = some a
  h : Ht a N
theorem Rv.add {r s : R} {a b : Rat} {M N : Nat} (h1 : Rv r a M) (h2 : Rv s b N) (hN : 2 * (M * N) < 1000000000 ^ 24 := by decide) : Rv (addR r s) (a + b) (2 * (M * N)) := by
  have h := ht_add h1.h h2.h
  refine ⟨?_, h⟩
  rw [addR_q, h1.q, h2.q]
  show norm (a + b) = _
  exact norm_fits (ht_fits h hN)
theorem Rv.sub {r s : R} {a b : Rat} {M N : Nat} (h1 : Rv r a M) (h2 : Rv s b N) (hN : 2 * (M * N) < 1000000000 ^ 24 := by decide) : Rv (subR r s) (a - b) (2 * (M * N)) := by
  have h := ht_sub h1.h h2.h
  refine ⟨?_, h⟩
  rw [subR_q, h1.q, h2.q]
  show norm (a + -b) = _
  rw [← Rat.sub_eq_add_neg]
  exact norm_fits (ht_fits h hN)
theorem Rv.mul {r s : R} {a b : Rat} {M N : Nat} (h1 : Rv r a M) (h2 : Rv s b N) (hN : M * N < 1000000000 ^ 24 := by decide) : Rv (mulR r s) (a * b) (M * N) := by
  have h := ht_mul h1.h h2.h
  refine ⟨?_, h⟩
  rw [mulR_q, h1.q, h2.q]
  show norm (a * b) = _
  exact norm_fits (ht_fits h hN)
theorem Rv.div {r s : R} {a b : Rat} {M N : Nat} (h1 : Rv r a M) (h2 : Rv s b N) (hb : b ≠ 0) (hN : M * N < 1000000000 ^ 24 := by decide) : Rv (divR r s) (a / b) (M * N) := by
  have h := ht_div h1.h h2.h
  refine ⟨?_, h⟩
  rw [divR_q, h1.q, h2.q]
  show (if b = 0 then none else norm (a / b)) = _
  rw [if_neg hb]
  exact norm_fits (ht_fits h hN)
theorem rv_int {n : Int} {N : Nat} (h : n.natAbs ≤ N) (h1 : 1 ≤ N) (hN : N < 1000000000 ^ 24 := by decide) : Rv (intR n) (n : Rat) N :=
  ⟨intR_q (Nat.lt_of_le_of_lt h hN), ht_int h h1⟩
theorem Rv.ok {r : R} {a : Rat} {N : Nat} (h : Rv r a N) : r.ok = true := by
  rw [ok_iff, h.q]; simp
theorem Rv.eq {r s : R} {a b : Rat} {M N : Nat} (h1 : Rv r a M) (h2 : Rv s b N) (hr : r.cn) (hs : s.cn) (e : a = b) : r = s := by
  rw [← hr, ← hs, h1.q, h2.q, e]
end Go.Ml
end
section
set_option linter.unusedSimpArgs false
set_option linter.unusedVariables false
set_option maxRecDepth 100000
set_option maxHeartbeats 8000000
namespace Go.Ml
theorem rv_few {n d : Int} (hn : -10 ≤ n ∧ n ≤ 10) (hd : 1 ≤ d ∧ d ≤ 3) : Rv (fewR n d) (Rat.divInt n d) 10 := by
  have hh : Ht (Rat.divInt n d) 10 := by
    obtain ⟨e, rfl⟩ : ∃ e : Nat, d = (e : Int) := ⟨d.toNat, by omega⟩
    show Ht (mkRat n e) 10
    unfold mkRat
    rw [dif_neg (by omega)]
    exact ht_normalize _ (by omega) (by omega)
  refine ⟨?_, hh⟩
  unfold fewR mkQ
  rw [if_neg (by omega), norm_fits (ht_fits hh (by decide))]
  exact q_raw (ht_fits hh (by decide))
end Go.Ml
end
