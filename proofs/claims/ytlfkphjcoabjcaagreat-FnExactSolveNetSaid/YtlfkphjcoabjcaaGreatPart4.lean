/- A small language for the functions of this claim, its soundness, contracts. -/
import Derived.Test.YtlfkphjcoabjcaaGreatPart3
section
set_option linter.unusedSimpArgs false
set_option linter.unusedVariables false
set_option maxRecDepth 100000
set_option maxHeartbeats 8000000
namespace Go.Ml
theorem po_natOfUint {T : Nat → Option Fn} (h : D_impl_natOfUint T) {n : Int} (hn : 0 ≤ n ∧ n < 18446744073709551616 := by first | omega | assumption | (simp; omega)) : PO T 69 [.int .u64 n] (ints (mk n.toNat)) := by
  have hlen : (mk n.toNat).length ≤ 3 := mk_len_le.2 (by omega)
  refine po_end2 (fun _ _ => false) h.hT rfl rfl ?_
  dsimp only [F_impl_natOfUint, oN, oS, oG, oK, oA, oH, oV, cI, St.enter, List.length_cons, List.length_nil, Nat.zero_add]
  (refine ew ?_; try with_reducible exact True.intro)
  refine loop_at (fun _ _ => false) (α := Nat × List Int) (fun q => ⟨argE [.int .u64 (q.1 : Nat), .any, .any, slV q.2.length], slS 1 (irows q.2), 0, 0, [], []⟩) (fun q => q.2 ++ mk q.1 = mk n.toNat ∧ q.1 ≤ n.toNat) (fun q => q.1) rfl (n.toNat, []) ?_ ?_ ?_
  · exact ⟨rfl, Nat.le_refl _⟩
  · first | ((refine Fg_env ?_) <;> (try (refine ew ?_; try with_reducible exact True.intro)) <;> (repeat' (first | refine ⟨?_, ?_⟩ | exact EvV_int (by omega) | exact EvV_of (by simp) | exact EvV_nil _)); done) | ((refine Fg_re [] (by simp) (by intro p hp; cases hp) rfl ?_) <;> (try (refine ew ?_; try with_reducible exact True.intro)) <;> (repeat' (first | exact True.intro | omega | exact CanE_ptr rfl (by simp) | refine ⟨?_, ?_⟩ | exact of_eq_true (CanE_nil _ _ _) | exact CanE_of rfl (by simp; done) | exact CanE_of rfl rfl | (refine CanE_msl rfl ?_ rfl; simp [irows]; done) | (refine CanE_msl rfl ?_ rfl; simp [irows]; omega) | (refine CanE_frz ?_ ?_; (focus ((refine ew ?_; try with_reducible exact True.intro); done)); (intro q hq k s0 l0; simp; done)))); done)
  · rintro ⟨m, xs⟩ ⟨hm, hle⟩
    dsimp only at hm hle
    have hx : xs.length ≤ 3 := by
      have := congrArg List.length hm
      simp at this; omega
    have e1 : ((m : Int).tmod 1000000000) = ((m % 1000000000 : Nat) : Int) := by rw [tmod_B (by omega)]; omega
    have e2 : ((m : Int).tdiv 1000000000) = ((m / 1000000000 : Nat) : Int) := by rw [tdiv_B (by omega)]; omega
    have key : 0 < m → (xs ++ [((m % 1000000000 : Nat) : Int)]) ++ mk (m / 1000000000) = mk n.toNat := fun h => by
      rw [← hm, mk_pos (n := m) (by omega)]; simp
    (rcases xs with _ | ⟨x, xs⟩ <;> simp only [List.length_nil, List.length_cons, slV_0, slV_s, slI_nil, slI_cons] at hx ⊢)
    · (refine ew ?_; try with_reducible exact True.intro)
      refine brK_dec (fun hb => ?_) fun hb => ?_ <;> (refine ew3 @hb @e1 @e2 ?_; try with_reducible exact True.intro)
      · exact ⟨by omega, (m / 1000000000, [] ++ [((m % 1000000000 : Nat) : Int)]), by dsimp only; omega, ⟨key (by omega), by dsimp only; omega⟩, by (simp only [← irows_snoc]; refine Fg_push (k := 1) (still_isnoc _ _) rfl ?_; (try (refine ew ?_; try with_reducible exact True.intro)); (repeat' (first | exact True.intro | omega | exact CanE_push (by simp) (by simp) (by simp) | refine ⟨?_, ?_⟩ | exact CanE_of rfl (by simp))))⟩
      · have e : mk n.toNat = [] := by rw [← hm, show m = 0 by omega, mk_zero]; rfl
        rw [e]; exact fin_nil
    · (refine ew ?_; try with_reducible exact True.intro)
      refine brK_dec (fun hb => ?_) fun hb => ?_ <;> (refine ew3 @hb @e1 @e2 ?_; try with_reducible exact True.intro)
      · refine ⟨by omega, (m / 1000000000, (x :: xs) ++ [((m % 1000000000 : Nat) : Int)]), by dsimp only; omega, ⟨key (by omega), by dsimp only; omega⟩, by (simp only [← irows_snoc]; refine Fg_push (k := 2) (still_isnoc _ _) rfl ?_; (try (refine ew ?_; try with_reducible exact True.intro)); (repeat' (first | exact True.intro | omega | exact CanE_push (by simp) (by simp) (by simp) | refine ⟨?_, ?_⟩ | exact CanE_of rfl (by simp))))⟩
      · have e : x :: xs = mk n.toNat := by rw [← hm, show m = 0 by omega, mk_zero]; simp
        rw [← e]; exact fin_ints (o := 0) (l := x :: xs) rfl
theorem rf_natTrim {T : Nat → Option Fn} (h : D_impl_natTrim T) {l : List Int} {σ : Store} {o : Nat} (h0 : objAt σ o = some ⟨1, irows l⟩) (hl : l.length ≤ 1048576 := by first | omega | assumption | (simp; omega)) :
    Run T (.fn 151 [.msl o 0 l.length] σ) (.fn (.msl o 0 (trim l).length) σ) := by
  have : ∃ r σ', Run T (.fn 151 [.msl o 0 l.length] σ) (.fn r σ') ∧ (r = .msl o 0 (trim l).length ∧ σ' = σ) := by
    have htl : ∀ n, n ≤ l.length → trimN l l.length = trimN l n → (n = 0 ∨ l.getD (n - 1) 0 ≠ 0) → (trim l).length = n := by
      intro n hn h1 h2
      unfold trim
      rw [h1, List.length_take]
      cases n with
      | zero => simp [trimN]
      | succ m =>
        simp only [Nat.add_sub_cancel] at h2
        simp only [trimN]
        rw [if_neg (by omega)]
        omega
    refine run_end (fun _ _ => false) h.hT rfl rfl ?_
    dsimp only [F_impl_natTrim, oN, oS, oG, oK, oA, oH, oV, cI, St.enter, List.length_cons, List.length_nil, Nat.zero_add]
    (refine ew ?_; try with_reducible exact True.intro)
    (refine ew1 @h0 ?_; try with_reducible exact True.intro)
    refine loop_at (fun _ _ => false) (α := Nat) (fun n => ⟨argE [.msl o 0 l.length, .any, .any, iv (n : Nat)], σ, σ.length, 0, [], []⟩) (fun n => n ≤ l.length ∧ trimN l l.length = trimN l n) (fun n => n) rfl l.length ?_ ?_ ?_
    · exact ⟨by omega, rfl⟩
    · (refine Fg_env ?_) <;> (try (refine ew ?_; try with_reducible exact True.intro)) <;> (repeat' (first | refine ⟨?_, ?_⟩ | exact EvV_int (by omega) | exact EvV_of (by simp) | exact EvV_nil _))
    · rintro n ⟨hn, ht⟩
      (refine ew1 @h0 ?_; try with_reducible exact True.intro)
      refine brK_dec (fun hb => ?_) fun hb => ?_
      · obtain ⟨m, rfl⟩ : ∃ m, n = m + 1 := ⟨n - 1, by omega⟩
        have e1 : ((m + 1 : Nat) : Int) - 1 = (m : Nat) := by omega
        (refine ew3 @h0 @e1 @hb ?_; try with_reducible exact True.intro)
        refine brK_dec (fun hc => ?_) fun hc => ?_ <;> (refine ew2 @hc @h0 ?_; try with_reducible exact True.intro)
        · refine ⟨m, by omega, ⟨by omega, ?_⟩, by (refine Fg_env ?_) <;> (try (refine ew ?_; try with_reducible exact True.intro)) <;> (repeat' (first | refine ⟨?_, ?_⟩ | exact EvV_int (by omega) | exact EvV_of (by simp) | exact EvV_nil _))⟩
          rw [ht]; simp only [trimN, hc, if_true]
        · rw [htl (m + 1) hn ht (by simp only [Nat.add_sub_cancel]; omega)]
      · have : n = 0 := by omega
        subst this
        rw [htl 0 hn ht (by omega)]
        (refine ew2 @h0 @hb ?_; try with_reducible exact True.intro)
  obtain ⟨r, σ', h1, rfl, rfl⟩ := this
  exact h1
theorem rf_bigMake {T : Nat → Option Fn} (h : D_impl_bigMake T) {neg : Bool} {n : Nat} {σ : Store} {o : Nat} (h0 : objAt σ o = some ⟨1, irows (mk n)⟩) (hn : 0 < n) (hl : (mk n).length ≤ 60 := by first | omega | assumption | (simp; omega)) :
    ∃ σ', Run T (.fn 68 [.bool neg, .msl o 0 (mk n).length] σ) (.fn (.agg [.bool neg, .msl o 0 (mk n).length]) σ') ∧ (∀ q, q < σ.length → objAt σ' q = objAt σ q) ∧ σ.length ≤ σ'.length := by
  have : ∃ r σ', Run T (.fn 68 [.bool neg, .msl o 0 (mk n).length] σ) (.fn r σ') ∧ (r = .agg [.bool neg, .msl o 0 (mk n).length] ∧ (∀ q, q < σ.length → objAt σ' q = objAt σ q) ∧ σ.length ≤ σ'.length) := by
    have hp := ln_pos.2 hn
    refine run_end (fun _ _ => false) h.hT rfl rfl ?_
    dsimp only [F_impl_bigMake, oN, oS, oG, oK, oA, oH, oV, cI, St.enter, List.length_cons, List.length_nil, Nat.zero_add]
    (refine ew ?_; try with_reducible exact True.intro)
    have hlt := objAt_lt h0
    have c1 : ¬ (((mk n).length : Nat) : Int) = 0 := by omega
    have c2 : ¬ (60 : Int) < ((mk n).length : Nat) := by omega
    (refine ew4 @h0 @hlt @c1 @c2 ?_; try with_reducible exact True.intro)
    exact ⟨fun q hq => objAt_snoc_lt hq, by omega⟩
  obtain ⟨r, σ', h1, rfl, h2, h3⟩ := this
  exact ⟨σ', h1, h2, h3⟩
theorem px_natDiv {T : Nat → Option Fn} (h : D_impl_natDiv T) {m n : Nat} (hn : 0 < n) (la : (mk m).length ≤ 900 := by first | omega | assumption | (simp; omega)) (lb : (mk n).length ≤ 900 := by first | omega | assumption | (simp; omega)) :
    PX T 138 [ints (mk m), ints (mk n)] [(true, ints (mk (m / n))), (false, ints (mk (m % n)))] := by
  obtain ⟨A, hA⟩ : ∃ A, mk m = A := ⟨_, rfl⟩
  obtain ⟨B, hB⟩ : ∃ B, mk n = B := ⟨_, rfl⟩
  have hva : val A = m := by rw [← hA, val_mk]
  have hbA : Lb A := hA ▸ lb_mk m
  have hbB : Lb B := hB ▸ lb_mk n
  rw [hA] at la ⊢
  rw [hB] at lb ⊢
  refine px_endW (fun x d => (x == 69 && d == 28) || (x == 151 && d == 74)) h.hT rfl rfl ?_
  dsimp only [F_impl_natDiv, oN, oS, oG, oK, oA, oH, oV, cI, St.enter, List.length_cons, List.length_nil, Nat.zero_add]
  (refine ew ?_; try with_reducible exact True.intro)
  have cas : (((A.length : Nat) : Int) ≤ 2 ∧ ((B.length : Nat) : Int) ≤ 2) ∨ ((((A.length : Nat) : Int) ≤ 2 ∧ ¬ ((B.length : Nat) : Int) ≤ 2) ∨ ¬ ((A.length : Nat) : Int) ≤ 2) := by omega
  rcases cas with ⟨c1, c2⟩ | big
  · have sm : m < 1000000000000000000 := by
      have := val_lt hbA
      rw [hva] at this
      exact Nat.lt_of_lt_of_le this (Nat.le_trans (Nat.pow_le_pow_right (by omega) (show A.length ≤ 2 by omega)) (by omega))
    have sn : n < 1000000000000000000 := by
      have := val_lt hbB
      rw [← hB, val_mk] at this
      exact Nat.lt_of_lt_of_le this (Nat.le_trans (Nat.pow_le_pow_right (by omega) (show (mk n).length ≤ 2 by rw [hB]; omega)) (by omega))
    have cs := c_natSmall h.d_impl_natSmall sm
    have ct := c_natSmall h.d_impl_natSmall sn
    rw [hA] at cs
    rw [hB] at ct
    have e1 : ((m : Nat) : Int).tdiv (n : Nat) = ((m / n : Nat) : Int) := by rw [Int.tdiv_eq_ediv_of_nonneg (by omega), Int.natCast_ediv]
    have e2 : ((m : Nat) : Int).tmod (n : Nat) = ((m % n : Nat) : Int) := by rw [Int.tmod_eq_emod_of_nonneg (by omega), Int.natCast_emod]
    have d1 : m / n ≤ m := Nat.div_le_self ..
    have d2 : m % n ≤ m := Nat.mod_le ..
    have nz : ¬ ((n : Nat) : Int) = 0 := by omega
    generalize m / n = q at *
    generalize m % n = r at *
    have c3 := c_natOfUint h.d_impl_natOfUint (n := ((q : Nat) : Int)) (by omega)
    have c4 := c_natOfUint h.d_impl_natOfUint (n := ((r : Nat) : Int)) (by omega)
    rw [Int.toNat_natCast] at c3 c4
    (refine ew2 @c1 @c2 ?_; try with_reducible exact True.intro)
    refine PFK_of cs ?_
    (refine ew ?_; try with_reducible exact True.intro)
    refine PFK_of ct ?_
    (refine ew3 @nz @e1 @e2 ?_; try with_reducible exact True.intro)
    have p3 := po_natOfUint h.d_impl_natOfUint (n := ((q : Nat) : Int)) (by omega)
    rw [Int.toNat_natCast] at p3
    refine OwnK_got0 p3 (by (refine ew ?_; try with_reducible exact True.intro)) (by (refine ew ?_; try with_reducible exact True.intro)) ?_
    intro v1 s1 o1 g
    (refine ew3 @nz @e1 @e2 ?_; try with_reducible exact True.intro)
    refine PFK_of c4 ?_
    (refine ew ?_; try with_reducible exact True.intro)
    refine ⟨by unfold OkA; decide +kernel, ?_⟩
    exact .inl (finX_of g.ow g.nd rfl)
  rcases big with ⟨c1, c2⟩ | c1
  case' inl => (refine ew2 @c1 @c2 ?_; try with_reducible exact True.intro)
  case' inr => (refine ew1 @c1 ?_; try with_reducible exact True.intro)
  all_goals
    refine ⟨by omega, ?_⟩
    rw [ir_rep]
    refine loop_at (fun x d => (x == 69 && d == 28) || (x == 151 && d == 74)) (α := Nat × List Int × Nat) (fun q => ⟨argE [ints A, ints B, .any, .any, .any, .any, .any, .any, .msl 0 0 A.length, ints (mk q.2.2), iv ((q.1 : Nat) - 1)], [some ⟨1, irows q.2.1⟩], 0, 0, [], []⟩) (fun q => q.1 ≤ A.length ∧ q.2.1.length = A.length ∧ Lb q.2.1 ∧ (∀ j, j < q.1 → q.2.1.getD j 0 = 0) ∧ q.2.2 < n ∧ val (A.drop q.1) = val (q.2.1.drop q.1) * n + q.2.2) (fun q => q.1) rfl (A.length, List.replicate A.length 0, 0) ?_ ?_ ?_
    · exact ⟨by omega, by simp, lb_rep _, by intro j _; simp [List.getD_eq_getElem?_getD, List.getElem?_replicate]; split <;> rfl, hn, by dsimp only; rw [val_drop_ge (Nat.le_refl _), val_drop_ge (by simp)]; simp⟩
    · rw [mk_zero]
      (refine Fg_re [(0, _)] (by simp) (by intro p hp; simp only [List.mem_cons, List.not_mem_nil, or_false] at hp; rcases hp with rfl <;> refine ⟨rfl, ?_⟩ <;> first | exact ir_still _ | simp [stillR, V.still]) rfl ?_) <;> (try (refine ew ?_; try with_reducible exact True.intro)) <;> (repeat' (first | exact True.intro | omega | exact CanE_ptr rfl (by simp) | refine ⟨?_, ?_⟩ | exact of_eq_true (CanE_nil _ _ _) | exact CanE_of rfl (by simp; done) | exact CanE_of rfl rfl | (refine CanE_msl rfl ?_ rfl; simp [irows]; done) | (refine CanE_msl rfl ?_ rfl; simp [irows]; omega) | (refine CanE_frz ?_ ?_; (focus ((refine ew ?_; try with_reducible exact True.intro); done)); (intro q hq k s0 l0; simp; done))))
    · rintro ⟨k, Q, x⟩ ⟨hk, hQ, hQb, hz, hx, hv⟩
      dsimp only at hk hQ hQb hz hx hv
      by_cases k0 : k = 0
      · subst k0
        rw [List.drop_zero, List.drop_zero, hva] at hv
        obtain ⟨q1, q2⟩ := div_unique hv hx
        have e0 : ¬ (0 : Int) ≤ ((0 : Nat) : Int) - 1 := by omega
        (refine ew1 @e0 ?_; try with_reducible exact True.intro)
        have hr := rf_natTrim h.d_impl_natTrim (l := Q) (σ := [some ⟨1, irows Q⟩]) (o := 0) rfl (by omega)
        rw [hQ] at hr
        refine RefK_mk hr rfl (Nat.le_refl _) (by simp) ?_
        (refine ew ?_; try with_reducible exact True.intro)
        rw [← q1, ← q2]
        exact .inr (finW_cut (by have := (trim_take Q).2; omega) (by rw [← (trim_take Q).1, trim_mk hQb]) rfl)
      · obtain ⟨i, rfl⟩ : ∃ i, k = i + 1 := ⟨k - 1, by omega⟩
        have e0 : (((i + 1 : Nat) : Int) - 1) = (i : Nat) := by omega
        have e1 : ((i : Nat) : Int) < (A.length : Nat) := by omega
        have e2 : (0 : Int) ≤ (i : Nat) := by omega
        rw [e0]
        have ga := lb_at hbA i
        have hvi := val_dropG A i
        obtain ⟨t, ht⟩ : ∃ t, (A.getD i 0).toNat + 1000000000 * x = t := ⟨_, rfl⟩
        have htn : t < n * 1000000000 := by omega
        have lt' : (A.getD i 0 :: mk x).length ≤ 1048576 := by
          have : (mk x).length ≤ B.length := by rw [mk_len_le]; exact Nat.lt_trans hx (by have := val_lt hbB; rw [← hB, val_mk, hB] at this; exact this)
          simp only [List.length_cons]; omega
        have tr : trim (A.getD i 0 :: mk x) = mk t := by
          rw [trim_mk (by intro y hy; rcases List.mem_cons.1 hy with rfl | hy; exact ga; exact lb_mk x y hy), ← ht, val, val_mk]
        have ct := c_natTrim h.d_impl_natTrim (l := A.getD i 0 :: mk x) lt'
        rw [tr] at ct
        have ely : ∀ y, y ≤ t → (mk y).length ≤ 901 := by
          intro y hy
          have : (mk y).length ≤ B.length + 1 := by
            rw [mk_len_le, Nat.pow_succ]
            have := val_lt hbB
            rw [← hB, val_mk, hB] at this
            exact Nat.lt_of_lt_of_le (Nat.lt_of_le_of_lt hy htn) (Nat.mul_le_mul_right _ (Nat.le_of_lt this))
          omega
        have lx := ely
        (refine ew2 @e2 @e1 ?_; try with_reducible exact True.intro)
        refine ⟨fun e3 => ?_, fun e3 => ?_⟩
        case' refine_1 =>
          have x0 : mk x = [] := by cases hm : mk x with | nil => rfl | cons a l => rw [hm] at e3; cases e3
          rw [x0] at ct
          rw [show [[V.int IntKind.i64 (A.getD i 0)]] = irows [A.getD i 0] from rfl]
          (refine ew ?_; try with_reducible exact True.intro)
        case' refine_2 =>
          (refine ew1 @e3 ?_; try with_reducible exact True.intro)
          rw [show [V.int IntKind.i64 (A.getD i 0)] :: irows (mk x) = irows (A.getD i 0 :: mk x) from rfl]
          (refine ew ?_; try with_reducible exact True.intro)
          have lm := lt'
          simp only [List.length_cons] at lm
          refine ⟨by omega, ?_⟩
        all_goals
          clear lt'
          refine PFK_of ct ?_
          (refine ew ?_; try with_reducible exact True.intro)
          refine loop_at (fun x d => (x == 69 && d == 28) || (x == 151 && d == 74)) (α := List Int × Nat) (fun q => ⟨argE [ints A, ints B, .any, .any, .any, .any, .any, .any, .msl 0 0 A.length, ints (mk q.2), iv (i : Nat)], [some ⟨1, irows q.1⟩], 0, 0, [], []⟩) (fun q => q.1.length = A.length ∧ Lb q.1 ∧ (∀ j, j < i → q.1.getD j 0 = 0) ∧ q.1.drop (i + 1) = Q.drop (i + 1) ∧ q.2 + (q.1.getD i 0).toNat * n = t) (fun q => q.2) rfl (Q, t) ?_ ?_ ?_
          · exact ⟨hQ, hQb, fun j hj => hz j (by omega), rfl, by dsimp only; rw [hz i (by omega)]; simp⟩
          · (refine Fg_re [(0, _)] (by simp) (by intro p hp; simp only [List.mem_cons, List.not_mem_nil, or_false] at hp; rcases hp with rfl <;> refine ⟨rfl, ?_⟩ <;> first | exact ir_still _ | simp [stillR, V.still]) rfl ?_) <;> (try (refine ew ?_; try with_reducible exact True.intro)) <;> (repeat' (first | exact True.intro | omega | exact CanE_ptr rfl (by simp) | refine ⟨?_, ?_⟩ | exact of_eq_true (CanE_nil _ _ _) | exact CanE_of rfl (by simp; done) | exact CanE_of rfl rfl | (refine CanE_msl rfl ?_ rfl; simp [irows]; done) | (refine CanE_msl rfl ?_ rfl; simp [irows]; omega) | (refine CanE_frz ?_ ?_; (focus ((refine ew ?_; try with_reducible exact True.intro); done)); (intro q hq k s0 l0; simp; done))))
          · rintro ⟨P, y⟩ ⟨hP, hPb, hzP, hd, hy⟩
            dsimp only at hP hPb hzP hd hy
            have yt : y ≤ t := by omega
            have ly := ely y yt
            have cc := c_natCmp h.d_impl_natCmp (can_mk y) (can_mk n) (by omega) (by rw [hB]; omega)
            rw [val_mk, val_mk, hB] at cc
            (refine ew ?_; try with_reducible exact True.intro)
            refine PFK_of cc ?_
            (refine ew ?_; try with_reducible exact True.intro)
            refine brK_dec (fun c3 => ?_) fun c3 => ?_ <;> (refine ew1 @c3 ?_; try with_reducible exact True.intro)
            · have hny : n ≤ y := cmpN_nonneg.1 c3
              obtain ⟨d, pg, d0, d1, d2⟩ := c_natGuess h.d_impl_natGuess hn hny (by omega) (by omega) (by rw [hB]; omega)
              rw [hB] at pg
              have pm := c_natMul h.d_impl_natMul (m := n) (n := d) (by rw [hB]; omega) (by rw [mk_one d0 d1]; simp)
              have dn : n * d ≤ y := by rw [Nat.mul_comm]; exact d2
              have lnd := ely (n * d) (by omega)
              have ps := c_natSub h.d_impl_natSub dn (by omega) (by omega)
              rw [hB, mk_one d0 d1] at pm
              have gp := lb_at hPb i
              have y2 : y - n * d + ((P.getD i 0).toNat + d) * n = t := by rw [Nat.add_mul, Nat.mul_comm d n]; omega
              have gp2 : P.getD i 0 + d < 1000000000 := by
                have : ((P.getD i 0).toNat + d) * n < 1000000000 * n := by rw [Nat.mul_comm 1000000000]; omega
                have := Nat.lt_of_mul_lt_mul_right this
                omega
              have d0' : 0 < n * d := Nat.mul_pos hn d0
              have k1 := lb_set (l := P) (i := i) (d := P.getD i 0 + d) (by omega) gp2 hPb
              have k2 : ∀ j, j < i → (P.set i (P.getD i 0 + d)).getD j 0 = 0 := by
                intro j hj
                rw [getD_set_int', if_neg (by omega)]
                exact hzP j hj
              have k3 : (P.set i (P.getD i 0 + d)).drop (i + 1) = Q.drop (i + 1) := by rw [List.drop_set_of_lt (by omega), hd]
              have k4 : ((P.set i (P.getD i 0 + d)).getD i 0) = P.getD i 0 + d := by rw [getD_set_int', if_pos ⟨rfl, by omega⟩]
              have k5 : y - n * d + ((P.set i (P.getD i 0 + d)).getD i 0).toNat * n = t := by
                rw [k4, show (P.getD i 0 + (d : Int)).toNat = (P.getD i 0).toNat + d by omega]; exact y2
              have k6 : y - n * d < y := by omega
              clear y2 hy htn ht hvi k4 hzP hd d2 lx ely hv hz hx
              refine PFK_of pg ?_
              (refine ew ?_; try with_reducible exact True.intro)
              rw [show [[V.int IntKind.i64 (d : Int)]] = irows [(d : Int)] from rfl]
              (refine ew ?_; try with_reducible exact True.intro)
              refine PFK_of pm ?_
              (refine ew ?_; try with_reducible exact True.intro)
              refine PFK_of ps ?_
              (refine ew2 @e1 @hP ?_; try with_reducible exact True.intro)
              exact ⟨(P.set i (P.getD i 0 + d), y - n * d), k6, ⟨by simp [hP], k1, k2, k3, k5⟩, by (refine Fg_re [(0, _)] (by simp) (by intro p hp; simp only [List.mem_cons, List.not_mem_nil, or_false] at hp; rcases hp with rfl <;> refine ⟨rfl, ?_⟩ <;> first | exact ir_still _ | simp [stillR, V.still]) rfl ?_) <;> (try (refine ew ?_; try with_reducible exact True.intro)) <;> (repeat' (first | exact True.intro | omega | exact CanE_ptr rfl (by simp) | refine ⟨?_, ?_⟩ | exact of_eq_true (CanE_nil _ _ _) | exact CanE_of rfl (by simp; done) | exact CanE_of rfl rfl | (refine CanE_msl rfl ?_ rfl; simp [irows]; done) | (refine CanE_msl rfl ?_ rfl; simp [irows]; omega) | (refine CanE_frz ?_ ?_; (focus ((refine ew ?_; try with_reducible exact True.intro); done)); (intro q hq k s0 l0; simp; done))))⟩
            · have hny : y < n := by
                have := @cmpN_nonneg y n
                omega
              have k1 := val_dropG P i
              rw [hd] at k1
              have k2 : val (A.drop i) = val (P.drop i) * n + y := by
                rw [hvi, hv, k1, Nat.add_mul, Nat.mul_add, ← Nat.mul_assoc]; omega
              exact ⟨(i, P, y), by dsimp only; omega, ⟨by dsimp only; omega, hP, hPb, hzP, hny, k2⟩, by (refine Fg_env ?_) <;> (try (refine ew ?_; try with_reducible exact True.intro)) <;> (repeat' (first | refine ⟨?_, ?_⟩ | exact EvV_int (by omega) | exact EvV_of (by simp) | exact EvV_nil _))⟩
theorem owV_agg2 {σ : Store} {b : Bool} {v : V} {l : List Int} {os : List Nat} (h : OwV σ v (ints l) os) : OwV σ (.agg [.bool b, v]) (.agg [.bool b, ints l]) os := owV_agg (owL_bool (by simpa using owL_v h owL_nil))
theorem owV_rat {σ : Store} {b : Bool} {v w : V} {l m : List Int} {o1 o2 : List Nat} (h : OwV σ v (ints l) o1) (k : OwV σ w (ints m) o2) : OwV σ (.agg [.bool b, v, w]) (.agg [.bool b, ints l, ints m]) (o1 ++ o2) :=
  owV_agg (owL_bool (owL_v h (by simpa using owL_v k owL_nil)))
theorem owV_R0 {σ : Store} : OwV σ (ratV R0) (ratV R0) [] := owV_rat (o1 := []) (o2 := []) owV_ints0 owV_ints0
theorem fin_R0 {σ : Store} : Fin σ (.agg [.bool false, .nils, .nils]) (ratV R0) := ⟨_, [], laxR0, owV_R0, .nil⟩
theorem OwV.lenI {σ : Store} {v : V} {l : List Int} {os : List Nat} (h : OwV σ v (ints l) os) : lenOf σ v = some l.length := by
  rcases h.ints_inv with ⟨rfl, rfl, _⟩ | ⟨o, rfl, h1, _⟩
  · rfl
  · simp [lenOf, h1]
theorem rf_bigMake0 {T : Nat → Option Fn} (h : D_impl_bigMake T) {neg : Bool} {σ : Store} {v : V} {os : List Nat} (h0 : OwV σ v (ints []) os) :
    ∃ σ', Run T (.fn 68 [.bool neg, v] σ) (.fn (.agg [.bool false, .nils]) σ') ∧ (∀ q, q < σ.length → objAt σ' q = objAt σ q) ∧ σ.length ≤ σ'.length := by
  have : ∃ r σ', Run T (.fn 68 [.bool neg, v] σ) (.fn r σ') ∧ (r = .agg [.bool false, .nils] ∧ (∀ q, q < σ.length → objAt σ' q = objAt σ q) ∧ σ.length ≤ σ'.length) := by
    rcases h0.ints_inv with ⟨_, rfl, _⟩ | ⟨o, rfl, h1, _⟩
    · have hz : ((0 : Nat) : Int) = 0 := rfl
      refine run_end (fun _ _ => false) h.hT rfl rfl ?_
      dsimp only [F_impl_bigMake, oN, oS, oG, oK, oA, oH, oV, cI, St.enter, List.length_cons, List.length_nil, Nat.zero_add]
      (refine ew ?_; try with_reducible exact True.intro)
      (refine ew1 @hz ?_; try with_reducible exact True.intro)
      exact ⟨fun q hq => objAt_snoc_lt hq, by omega⟩
    · have hlt := objAt_lt h1
      have hz : ((0 : Nat) : Int) = 0 := rfl
      simp only [List.length_nil]
      refine run_end (fun _ _ => false) h.hT rfl rfl ?_
      dsimp only [F_impl_bigMake, oN, oS, oG, oK, oA, oH, oV, cI, St.enter, List.length_cons, List.length_nil, Nat.zero_add]
      (refine ew ?_; try with_reducible exact True.intro)
      (refine ew3 @h1 @hlt @hz ?_; try with_reducible exact True.intro)
      exact ⟨fun q hq => objAt_snoc_lt hq, by omega⟩
  obtain ⟨r, σ', h1, rfl, h2, h3⟩ := this
  exact ⟨σ', h1, h2, h3⟩
theorem RefK_big {T : Nat → Option Fn} (h : D_impl_bigMake T) {as : List Src} {dst : Option Nat} {env : Nat → V} {σ : Store} {kp bs : Nat} {rs ms : List Nat} {k : St → Prop} {neg : Bool} {n o : Nat}
    (h0 : objAt σ o = some ⟨1, irows (mk n)⟩) (hn : 0 < n) (ha : (as.map fun s => s.ev env) = [.bool neg, .msl o 0 (mk n).length]) (hl : (mk n).length ≤ 60)
    (hk : ∀ σ2 : Store, (∀ q, q < σ.length → objAt σ2 q = objAt σ q) → σ.length ≤ σ2.length → k ⟨updO env dst (.agg [.bool neg, .msl o 0 (mk n).length]), σ2, kp, bs, rs, ms⟩) : RefK T 68 as dst ⟨env, σ, kp, bs, rs, ms⟩ k := by
  have e1 : gcS [o] σ = [some ⟨1, irows (mk n)⟩] := by simp [gcS, h0, mapO_ints]
  obtain ⟨σ', hr, hold, hlen⟩ := rf_bigMake h (neg := neg) (n := n) (σ := gcS [o] σ) (o := 0) (by rw [e1]; rfl) hn hl
  refine RefK_refI (ρ := [o]) (by simp) (fun q hq => ⟨_, by simp at hq; subst hq; exact h0⟩) ?_ hr (fun q hq => hold q (by rw [e1]; exact hq)) ?_
  · have := congrArg (List.map (mapV (place [o]))) ha
    rw [List.map_map] at this
    refine Eq.trans this ?_
    simp [mapV, place]
  · intro σ2 h1 h2
    have := hk σ2 h1 h2
    simpa [mapV, mapV.mapL, back] using this
theorem RefK_big0 {T : Nat → Option Fn} (h : D_impl_bigMake T) {as : List Src} {dst : Option Nat} {env : Nat → V} {σ : Store} {kp bs : Nat} {rs ms : List Nat} {k : St → Prop} {neg : Bool} {v : V} {os : List Nat}
    (h0 : OwV σ v (ints []) os) (ha : (as.map fun s => s.ev env) = [.bool neg, v])
    (hk : ∀ σ2 : Store, (∀ q, q < σ.length → objAt σ2 q = objAt σ q) → σ.length ≤ σ2.length → k ⟨updO env dst (.agg [.bool false, .nils]), σ2, kp, bs, rs, ms⟩) : RefK T 68 as dst ⟨env, σ, kp, bs, rs, ms⟩ k := by
  rcases h0.ints_inv with ⟨_, rfl, _⟩ | ⟨o, rfl, h1, _⟩
  · obtain ⟨σ', hr, hold, hlen⟩ := rf_bigMake0 h (neg := neg) (σ := gcS [] σ) (v := .sl 1 []) (os := []) owV_ints0
    refine RefK_refI (ρ := []) (by simp) (by simp) ?_ hr (fun q hq => by simp at hq) ?_
    · have := congrArg (List.map (mapV (place []))) ha
      rw [List.map_map] at this
      refine Eq.trans this ?_
      simp [mapV, place]
    · intro σ2 h1 h2
      have := hk σ2 h1 h2
      simpa [mapV, mapV.mapL, back] using this
  · have e1 : gcS [o] σ = [some ⟨1, irows []⟩] := by simp [gcS, h1, mapO_ints]
    obtain ⟨σ', hr, hold, hlen⟩ := rf_bigMake0 h (neg := neg) (σ := gcS [o] σ) (v := .msl 0 0 ([] : List Int).length) (os := [0]) (owV_ints (by rw [e1]; rfl))
    refine RefK_refI (ρ := [o]) (by simp) (fun q hq => ⟨_, by simp at hq; subst hq; exact h1⟩) ?_ hr (fun q hq => hold q (by rw [e1]; exact hq)) ?_
    · have := congrArg (List.map (mapV (place [o]))) ha
      rw [List.map_map] at this
      refine Eq.trans this ?_
      simp [mapV, place]
    · intro σ2 h1 h2
      have := hk σ2 h1 h2
      simpa [mapV, mapV.mapL, back] using this
theorem po_ratMake {T : Nat → Option Fn} (h : D_impl_ratMake T) {n d : Int} (ln : (mk n.natAbs).length ≤ 60 := by first | omega | assumption | (simp; omega)) (ld : (mk d.natAbs).length ≤ 60 := by first | omega | assumption | (simp; omega)) :
    PO T 144 [biV (bi n), biV (bi d)] (ratV (Q.raw (mkQ n d))) := by
  by_cases hd : d = 0
  · subst hd
    have e : mkQ n 0 = none := rfl
    rw [e]
    refine po_end2 (fun _ _ => false) h.hT rfl rfl ?_
    dsimp only [F_impl_ratMake, oN, oS, oG, oK, oA, oH, oV, cI, St.enter, List.length_cons, List.length_nil, Nat.zero_add]
    (refine ew ?_; try with_reducible exact True.intro)
    have c1 : (((mk (0 : Int).natAbs).length : Nat) : Int) = 0 := by
      show (((mk 0).length : Nat) : Int) = 0
      rw [ln_zero]; rfl
    (refine ew1 @c1 ?_; try with_reducible exact True.intro)
    exact fin_R0
  · rw [mkQ_raw hd]
    have hg : 0 < Nat.gcd n.natAbs d.natAbs := Nat.gcd_pos_of_pos_right _ (by omega)
    have cg := c_natGcd h.d_impl_natGcd (m := n.natAbs) (n := d.natAbs) (by omega) (by omega)
    have lg : (mk (Nat.gcd n.natAbs d.natAbs)).length ≤ 60 := Nat.le_trans (ln_mono (Nat.le_of_dvd (by omega) (Nat.gcd_dvd_right _ _))) ld
    have l1 := ln_div n.natAbs (Nat.gcd n.natAbs d.natAbs)
    have l2 := ln_div d.natAbs (Nat.gcd n.natAbs d.natAbs)
    have cn := px_natDiv h.d_impl_natDiv (m := n.natAbs) hg (by omega) (by omega)
    have cd := px_natDiv h.d_impl_natDiv (m := d.natAbs) hg (by omega) (by omega)
    have c1 : ¬ (((mk d.natAbs).length : Nat) : Int) = 0 := by have := @ln_z d.natAbs; omega
    clear hg lg
    generalize n.natAbs / Nat.gcd n.natAbs d.natAbs = u at *
    generalize d.natAbs / Nat.gcd n.natAbs d.natAbs = v at *
    generalize n.natAbs % Nat.gcd n.natAbs d.natAbs = u2 at *
    generalize d.natAbs % Nat.gcd n.natAbs d.natAbs = v2 at *
    refine po_end2 (fun x d => x == 138 || x == 68) h.hT rfl rfl ?_
    dsimp only [F_impl_ratMake, oN, oS, oG, oK, oA, oH, oV, cI, St.enter, List.length_cons, List.length_nil, Nat.zero_add]
    (refine ew ?_; try with_reducible exact True.intro)
    (refine ew1 @c1 ?_; try with_reducible exact True.intro)
    refine PFK_of cg ?_
    (refine ew ?_; try with_reducible exact True.intro)
    refine RefK_gotX cn (by (refine ew ?_; try with_reducible exact True.intro)) (by (refine ew ?_; try with_reducible exact True.intro)) ?_
    intro vs q1 o1 g
    obtain ⟨x, x2, rfl, hx2, g⟩ := g.of1
    have B0 := g.at 0 (by simp) rfl
    have B1 := g.at 1 (by simp) rfl
    have B2 := g.at 2 (by simp) rfl
    have lq : 3 ≤ q1.length := g.len
    have f1 : ∀ o ∈ o1, 3 ≤ o := g.fresh
    have k1 := g.ow
    have n1 := g.nd
    clear g
    (refine ew4 @B0 @B1 @B2 @lq ?_; try with_reducible exact True.intro)
    refine RefK_gotX cd (by (refine ew ?_; try with_reducible exact True.intro)) (by (refine ew ?_; try with_reducible exact True.intro)) ?_
    intro vs q2 o2 g
    obtain ⟨y, y2, rfl, hy2, g⟩ := g.of1
    replace B0 := (g.old 0 (by omega)).trans B0
    replace B1 := (g.old 1 (by omega)).trans B1
    replace B2 := (g.old 2 (by omega)).trans B2
    have lq2 := g.len
    have k1lt := k1.lt
    replace k1 := k1.frame (σ' := q2) fun o ho => g.old o (k1.lt o ho)
    have k2 := g.ow
    have n2 := g.nd
    have dj : ∀ o ∈ o1, ∀ p ∈ o2, o ≠ p := fun o ho p hp e => by
      have := k1lt o ho
      have := g.fresh p hp
      omega
    have f2 : ∀ o ∈ o2, 3 ≤ o := fun o ho => by have := g.fresh o ho; omega
    replace lq : 3 ≤ q2.length := by omega
    clear g lq2
    have e1 := k1.lenI
    have e2 := k2.lenI
    have lfy := k2.leaf rfl
    have fcy := cells_lf lfy
    have hn12 : (o1 ++ o2).Nodup := by
      rw [List.nodup_append]; exact ⟨n1, n2, dj⟩
    by_cases c2 : (24 : Int) < ((mk u).length : Nat)
    · (refine ew7 @B0 @B1 @B2 @lq @e1 @e2 @c2 ?_; try with_reducible exact True.intro)
      rw [if_neg (by omega)]
      exact fin_R0
    by_cases c3 : (24 : Int) < ((mk v).length : Nat)
    · (refine ew8 @B0 @B1 @B2 @lq @e1 @e2 @c2 @c3 ?_; try with_reducible exact True.intro)
      rw [if_neg (by omega)]
      exact fin_R0
    (refine ew8 @B0 @B1 @B2 @lq @e1 @e2 @c2 @c3 ?_; try with_reducible exact True.intro)
    rw [if_pos (by omega), ← bne_dec]
    have key := sg_natAbs (!decide (decide (n < 0) = decide (d < 0))) u
    by_cases hu : u = 0
    · subst hu
      rw [mk_zero] at k1
      obtain ⟨q3, hr, hold, hlen⟩ := rf_bigMake0 h.d_impl_bigMake (neg := !decide (decide (n < 0) = decide (d < 0))) k1
      refine RefK_mk hr rfl hlen (by simp) ?_
      replace B2 := (hold 2 (by omega)).trans B2
      have lq3 : 3 ≤ q3.length := by omega
      (refine ew4 @B2 @lq3 @lfy @fcy ?_; try with_reducible exact True.intro)
      rw [sg_zero, mk_zero]
      have k2' := k2.frame (σ' := q3.set 2 (some ⟨3, [[.bool false, .nils, y]]⟩)) fun o ho => by
        have := f2 o ho
        rw [objAt_setne (by omega), hold o (k2.lt o ho)]
      refine ⟨.agg [.bool false, .sl 1 [], y], o2, ?_, owV_rat (o1 := []) owV_ints0 k2', n2⟩
      simp only [LaxV_agg, LaxL_c, LaxL_n, LaxV_bool, LaxV_nil, true_and, and_true]
      exact laxV_refl _
    · rcases k1.ints_inv with ⟨h1, _, _⟩ | ⟨o, rfl, h1, _⟩
      · have := ln_pos.2 (Nat.pos_of_ne_zero hu)
        rw [h1] at this; simp at this
      · obtain ⟨q3, hr, hold, hlen⟩ := rf_bigMake h.d_impl_bigMake (neg := !decide (decide (n < 0) = decide (d < 0))) h1 (Nat.pos_of_ne_zero hu) (by omega)
        refine RefK_mk hr rfl hlen (by simp) ?_
        replace B2 := (hold 2 (by omega)).trans B2
        have lq3 : 3 ≤ q3.length := by omega
        (refine ew4 @B2 @lq3 @lfy @fcy ?_; try with_reducible exact True.intro)
        have hb := congrArg Bi.neg (bi_sg (!decide (decide (n < 0) = decide (d < 0))) u (Nat.pos_of_ne_zero hu))
        have hb : decide (sg (!decide (decide (n < 0) = decide (d < 0))) u < 0) = !decide (decide (n < 0) = decide (d < 0)) := hb
        rw [hb]
        generalize (!decide (decide (n < 0) = decide (d < 0))) = ng
        have fr : ∀ p, p ∈ o1 ++ o2 → objAt (q3.set 2 (some ⟨3, [[.bool ng, .msl o 0 (mk u).length, y]]⟩)) p = objAt q2 p := fun p hp => by
          have h3 : 3 ≤ p ∧ p < q2.length := by
            rcases List.mem_append.1 hp with hp | hp
            · exact ⟨f1 p hp, k1.lt p hp⟩
            · exact ⟨f2 p hp, k2.lt p hp⟩
          rw [objAt_setne (by omega), hold p h3.2]
        exact fin_of (owV_rat (k1.frame fun p hp => fr p (List.mem_append_left _ hp)) (k2.frame fun p hp => fr p (List.mem_append_right _ hp))) hn12
theorem po_ratAdd {T : Nat → Option Fn} (h : D_impl_ratAdd T) {a b : Q} (ha : a.ok := by assumption) (hb : b.ok := by assumption) : PO T 131 [ratV (Q.raw a), ratV (Q.raw b)] (ratV (Q.raw (addQ a b))) := by
  cases a with
  | none =>
    refine po_end2 (fun x d => x == 144) h.hT rfl rfl ?_
    dsimp only [F_impl_ratAdd, oN, oS, oG, oK, oA, oH, oV, cI, St.enter, List.length_cons, List.length_nil, Nat.zero_add]
    (refine ew ?_; try with_reducible exact True.intro)
    refine PFK_of (c_goodN h.d_impl_good) ?_
    (refine ew ?_; try with_reducible exact True.intro)
    exact fin_R0
  | some q => cases b with
    | none =>
      refine po_end2 (fun x d => x == 144) h.hT rfl rfl ?_
      dsimp only [F_impl_ratAdd, oN, oS, oG, oK, oA, oH, oV, cI, St.enter, List.length_cons, List.length_nil, Nat.zero_add]
      (refine ew ?_; try with_reducible exact True.intro)
      refine PFK_of (c_goodS h.d_impl_good) ?_
      (refine ew ?_; try with_reducible exact True.intro)
      refine PFK_of (c_goodN h.d_impl_good) ?_
      (refine ew ?_; try with_reducible exact True.intro)
      exact fin_R0
    | some s =>
      obtain ⟨l1, l2⟩ := q_bd ha
      obtain ⟨l3, l4⟩ := q_bd hb
      have e : addQ (some q) (some s) = mkQ (q.num * s.den + s.num * q.den) (q.den * s.den) := (mkQ_add q s).symm
      rw [e]
      have t1 := ln_imul q.num s.den
      have t2 := ln_imul s.num q.den
      have t3 := ln_imul q.den s.den
      have t5 := ln_imul q.num s.num
      have t4 := ln_iadd (q.num * s.den) (s.num * q.den)
      have n1 : (mk (q.den : Int).natAbs).length ≤ 24 := by rw [Int.natAbs_natCast]; exact l2
      have n2 : (mk (s.den : Int).natAbs).length ≤ 24 := by rw [Int.natAbs_natCast]; exact l4
      refine po_end2 (fun x d => x == 144) h.hT rfl rfl ?_
      dsimp only [F_impl_ratAdd, oN, oS, oG, oK, oA, oH, oV, cI, St.enter, List.length_cons, List.length_nil, Nat.zero_add]
      (refine ew ?_; try with_reducible exact True.intro)
      refine PFK_of (c_goodS h.d_impl_good) ?_
      (refine ew ?_; try with_reducible exact True.intro)
      refine PFK_of (c_goodS h.d_impl_good) ?_
      (refine ew ?_; try with_reducible exact True.intro)
      refine PFK_of (c_denQ h.d_impl_denOf (q := s)) ?_
      (refine ew ?_; try with_reducible exact True.intro)
      refine PFK_of (c_bigMul h.d_impl_bigMul (x := q.num) (y := s.den) (by omega) (by omega)) ?_
      (refine ew ?_; try with_reducible exact True.intro)
      refine PFK_of (c_denQ h.d_impl_denOf (q := q)) ?_
      (refine ew ?_; try with_reducible exact True.intro)
      refine PFK_of (c_bigMul h.d_impl_bigMul (x := s.num) (y := q.den) (by omega) (by omega)) ?_
      (refine ew ?_; try with_reducible exact True.intro)
      refine PFK_of (c_bigAdd h.d_impl_bigAdd (x := q.num * s.den) (y := s.num * q.den) (by omega) (by omega)) ?_
      (refine ew ?_; try with_reducible exact True.intro)
      refine ⟨by unfold OkA; decide +kernel, ?_⟩
      refine PFK_of (c_denQ h.d_impl_denOf (q := q)) ?_
      (refine ew ?_; try with_reducible exact True.intro)
      refine PFK_of (c_denQ h.d_impl_denOf (q := s)) ?_
      (refine ew ?_; try with_reducible exact True.intro)
      refine PFK_of (c_bigMul h.d_impl_bigMul (x := q.den) (y := s.den) (by omega) (by omega)) ?_
      (refine ew ?_; try with_reducible exact True.intro)
      refine OwnK_got0 (po_ratMake h.d_impl_ratMake (n := q.num * s.den + s.num * q.den) (d := q.den * s.den) (by omega) (by omega)) (by (refine ew ?_; try with_reducible exact True.intro)) (by (refine ew ?_; try with_reducible exact True.intro)) ?_
      intro v q os g
      have g0 := g
      obtain ⟨a0, d0, _, _, rfl, _, k1, k2⟩ := g.ow.rat_inv
      have B2 := g0.at 2 (by simp) rfl
      have lq : 3 ≤ q.length := by have := g0.len; simp at this; omega
      have la := k1.leaf rfl
      have ld := k2.leaf rfl
      have lfs := And.intro la ld
      have fc := fun b k => cells_agg (cs := [.bool b, a0, d0]) (by simp [la, ld, show ∀ b, V.leaf (.bool b) = true from fun _ => rfl]) k
      (refine ew4 @B2 @lq @lfs @fc ?_; try with_reducible exact True.intro)
      refine ⟨by unfold OkA; decide +kernel, ?_⟩
      (refine ew4 @B2 @lq @lfs @fc ?_; try with_reducible exact True.intro)
      exact g0.finSet (by simp)
end Go.Ml
end
section
set_option linter.unusedSimpArgs false
set_option linter.unusedVariables false
set_option maxRecDepth 100000
set_option maxHeartbeats 8000000
namespace Go.Ml
theorem po_ratAddR {T : Nat → Option Fn} (h : D_impl_ratAdd T) {r s : R} (hr : r.cn := by first | with_reducible assumption | with_reducible exact addR_cn _ _ | with_reducible exact subR_cn _ _ | with_reducible exact mulR_cn _ _ | with_reducible exact divR_cn _ _ | with_reducible exact negR_cn _ | with_reducible exact cn_0 | with_reducible exact intR_cn (by decide)) (hs : s.cn := by first | with_reducible assumption | with_reducible exact addR_cn _ _ | with_reducible exact subR_cn _ _ | with_reducible exact mulR_cn _ _ | with_reducible exact divR_cn _ _ | with_reducible exact negR_cn _ | with_reducible exact cn_0 | with_reducible exact intR_cn (by decide)) : PO T 131 [ratV r, ratV s] (ratV (addR r s)) := by
  have := po_ratAdd h (a := r.q) (b := s.q) (q_ok r) (q_ok s)
  rw [hr, hs] at this; exact this
theorem po_BigIntOf {T : Nat → Option Fn} (h : D_impl_BigIntOf T) {n : Int} (hn : -1000000000000000000 < n ∧ n < 1000000000000000000 := by first | omega | assumption | (simp; omega)) : PO T 54 [iv n] (biV (bi n)) := by
  have hl : (mk n.natAbs).length ≤ 2 := ln_small (by omega)
  by_cases hneg : n < 0
  · have c1 := po_natOfUint h.d_impl_natOfUint (n := -(n + 1) + 1) (by omega)
    rw [show (-(n + 1) + 1).toNat = n.natAbs by omega] at c1
    have e : bi n = ⟨true, mk n.natAbs⟩ := by unfold bi; rw [decide_eq_true hneg]
    rw [e]
    refine po_end2 (fun x d => x == 69 || x == 68) h.hT rfl rfl ?_
    dsimp only [F_impl_BigIntOf, oN, oS, oG, oK, oA, oH, oV, cI, St.enter, List.length_cons, List.length_nil, Nat.zero_add]
    (refine ew ?_; try with_reducible exact True.intro)
    (refine ew1 @hneg ?_; try with_reducible exact True.intro)
    rw [show (0 : Int) - (n + 1) + 1 = -(n + 1) + 1 by omega]
    refine RefK_got c1 (by (refine ew ?_; try with_reducible exact True.intro)) ?_
    intro v q1 o1 g
    have B0 := g.at 0 (by simp) rfl
    have lq : 1 ≤ q1.length := g.len
    have f1 : ∀ o ∈ o1, 1 ≤ o := g.fresh
    have k1 := g.ow
    have n1 := g.nd
    clear g
    (refine ew2 @B0 @lq ?_; try with_reducible exact True.intro)
    rcases k1.ints_inv with ⟨h1, _, _⟩ | ⟨o, rfl, h1, _⟩
    · have := ln_pos.2 (show 0 < n.natAbs by omega)
      rw [h1] at this; simp at this
    refine RefK_big h.d_impl_bigMake (neg := true) h1 (by omega) rfl (by omega) ?_
    intro q3 hold hlen
    replace B0 := (hold 0 (by omega)).trans B0
    have lq3 : 1 ≤ q3.length := by omega
    (refine ew2 @B0 @lq3 ?_; try with_reducible exact True.intro)
    refine fin_of (owV_agg2 (k1.frame fun p hp => ?_)) n1
    have := f1 p hp
    rw [objAt_setne (by omega), hold p (k1.lt p hp)]
  · have c1 := po_natOfUint h.d_impl_natOfUint (n := n) (by omega)
    rw [show n.toNat = n.natAbs by omega] at c1
    have e : bi n = ⟨false, mk n.natAbs⟩ := by unfold bi; rw [decide_eq_false hneg]
    rw [e]
    refine po_end2 (fun x d => x == 69 || x == 68) h.hT rfl rfl ?_
    dsimp only [F_impl_BigIntOf, oN, oS, oG, oK, oA, oH, oV, cI, St.enter, List.length_cons, List.length_nil, Nat.zero_add]
    (refine ew ?_; try with_reducible exact True.intro)
    (refine ew1 @hneg ?_; try with_reducible exact True.intro)
    refine RefK_got c1 (by (refine ew ?_; try with_reducible exact True.intro)) ?_
    intro v q1 o1 g
    have B0 := g.at 0 (by simp) rfl
    have lq : 1 ≤ q1.length := g.len
    have f1 : ∀ o ∈ o1, 1 ≤ o := g.fresh
    have k1 := g.ow
    have n1 := g.nd
    clear g
    (refine ew2 @B0 @lq ?_; try with_reducible exact True.intro)
    by_cases h0 : n.natAbs = 0
    · rw [h0, mk_zero] at k1 ⊢
      refine RefK_big0 h.d_impl_bigMake (neg := false) k1 rfl ?_
      intro q3 hold hlen
      replace B0 := (hold 0 (by omega)).trans B0
      have lq3 : 1 ≤ q3.length := by omega
      (refine ew2 @B0 @lq3 ?_; try with_reducible exact True.intro)
      exact ⟨.agg [.bool false, .sl 1 []], [], laxBi0, owV_agg2 (owV_ints0), .nil⟩
    rcases k1.ints_inv with ⟨h1, _, _⟩ | ⟨o, rfl, h1, _⟩
    · have := ln_pos.2 (show 0 < n.natAbs by omega)
      rw [h1] at this; simp at this
    refine RefK_big h.d_impl_bigMake (neg := false) h1 (by omega) rfl (by omega) ?_
    intro q3 hold hlen
    replace B0 := (hold 0 (by omega)).trans B0
    have lq3 : 1 ≤ q3.length := by omega
    (refine ew2 @B0 @lq3 ?_; try with_reducible exact True.intro)
    refine fin_of (owV_agg2 (k1.frame fun p hp => ?_)) n1
    have := f1 p hp
    rw [objAt_setne (by omega), hold p (k1.lt p hp)]
theorem po_RatFromInt {T : Nat → Option Fn} (h : D_impl_RatFromInt T) {n : Int} (hn : -1000000000000000000 < n ∧ n < 1000000000000000000 := by first | omega | assumption | (simp; omega)) : PO T 39 [iv n] (ratV (intR n)) := by
  rw [intR_raw]
  refine po_end2 (fun x d => x == 54) h.hT rfl rfl ?_
  dsimp only [F_impl_RatFromInt, oN, oS, oG, oK, oA, oH, oV, cI, St.enter, List.length_cons, List.length_nil, Nat.zero_add]
  (refine ew ?_; try with_reducible exact True.intro)
  refine RefK_got (po_BigIntOf h.d_impl_BigIntOf hn) (by (refine ew ?_; try with_reducible exact True.intro)) ?_
  intro v q1 o1 g
  obtain ⟨v1, rfl, k1⟩ := g.ow.bi_inv
  have B0 := g.at 0 (by simp) rfl
  have B1 := g.at 1 (by simp) rfl
  have lq : 2 ≤ q1.length := g.len
  have f1 : ∀ o ∈ o1, 2 ≤ o := g.fresh
  have n1 := g.nd
  have la := k1.leaf rfl
  have fc := fun b k => cells_agg (cs := [.bool b, v1]) (by simp [la, show ∀ b, V.leaf (.bool b) = true from fun _ => rfl]) k
  clear g
  (refine ew5 @B0 @B1 @lq @la @fc ?_; try with_reducible exact True.intro)
  refine fin_of (owV_rat (o1 := o1) (o2 := [1]) (k1.frame fun p hp => ?_) (owV_ints (l := [1]) ?_)) ?_
  · have := f1 p hp
    rw [objAt_setne (by omega), objAt_setne (by omega)]
  · rw [objAt_setne (by omega), objAt_seteq (by omega)]; rfl
  · rw [List.nodup_append]
    refine ⟨n1, by simp, fun a ha b hb e => ?_⟩
    have := f1 a ha
    simp at hb
    omega
end Go.Ml
end
section
set_option linter.unusedSimpArgs false
set_option linter.unusedVariables false
set_option maxRecDepth 100000
set_option maxHeartbeats 8000000
namespace Go.Ml
theorem wfL_at {α : Type} [Inhabited α] {f : α → Prop} {l : List α} (h : wfL f l) {k : Nat} (hk : k < l.length) : f (l.getD k default) := by
  refine h.2 _ ?_
  rw [List.getD_eq_getElem?_getD, List.getElem?_eq_getElem hk]; exact List.getElem_mem hk
end Go.Ml
end
section
set_option linter.unusedSimpArgs false
set_option linter.unusedVariables false
set_option maxRecDepth 100000
set_option maxHeartbeats 8000000
namespace Go.Ml
def F_spec_l08Point : Fn := ⟨1, 11, [.tmp 2], (.seq (.reg false 1 [oN 1 (.box (.t 0)), oK 2 1 (.mov (.c (.bool false)))]) (.seq (.reg false 0 [oN 3 (.fld 0 (.t 1)), oN 4 (.load 3 true (.t 3)), oN 5 (.call 100 [(.t 4)]), oN 6 (oV 5), oG 6 true 7 (.fld 3 (.t 1)), oG 6 true 8 (.load 3 true (.t 7)), oG 6 true 9 (.call 100 [(.t 8)]), oN 10 (.pick (.t 6) (.t 9) (.c (.bool false))), oN 2 (oV 10)]) .ret))⟩
structure D_spec_l08Point (T : Nat → Option Fn) : Prop where
  hT : T 342 = some F_spec_l08Point
  d_spec_RatOk : D_spec_RatOk T
def F_spec_ApplyConditional : Fn := ⟨2, 67, [.cell 4 6 true, .tmp 5], (.seq (.reg false 2 [oN 2 (.box (.t 0)), oK 4 1 (.alloc [.bool false, .nils, .nils, .bool false, .nils, .nils]), oK 5 2 (.mov (.c (.bool false)))]) (.seq (.seq (.reg false 0 [oN 9 (.load 5 true (.t 2)), oN 10 (.call 294 [(.t 9)]), oN 11 (.un .not (.t 10))]) (.cond (.t 11) (.seq (.reg false 0 [oN 12 (.build [.bool false, .nils, .nils, .bool false, .nils, .nils] []), oS (.store 6 (.t 4) (.t 12)), oN 5 (.mov (.c (.bool false)))]) .ret) .skip)) (.seq (.reg false 1 [oK 13 1 (.call 36 [(cI 0)]), oK 14 1 (.call 36 [(cI 0)]), oK 15 1 (.build [.bool false, .nils, .nils, .bool false, .nils, .nils] [(0, 3, (.t 13)), (3, 3, (.t 14))]), oN 6 (.alloc [.bool false, .nils, .nils, .bool false, .nils, .nils]), ⟨none, none, 1, .store 6 (.t 6) (.t 15), []⟩]) (.seq (.seq (.reg false 0 [oN 16 (.fld 4 (.t 2)), oN 17 (.load 1 false (.t 16)), oN 18 (.len (.t 17)), oN 19 (.mov (cI 0))]) (.block 0 (.loop (.seq (.reg false 0 [oN 20 (.bin .lss (.t 19) (.t 18))]) (.seq (.cond (.t 20) .skip (.exit 0)) (.seq (.block 1 (.seq (.reg false 1 [oK 21 1 (.idx 10 (.t 17) (.t 19)), oK 22 1 (.load 10 true (.t 21)), oN 8 (.alloc [.int .i64 0, .bool false, .nils, .nils, .bool false, .nils, .nils, .bool false, .nils, .nils]), ⟨none, none, 1, .store 10 (.t 8) (.t 22), []⟩]) (.seq (.seq (.reg false 0 [oN 23 (.fld 0 (.t 8)), oN 24 (.load 1 false (.t 23)), oN 25 (oV 1), oN 26 (.len (.t 25)), oN 27 (.bin .geq (.t 24) (.t 26))]) (.cond (.t 27) (.seq (.reg false 0 [oN 28 (.build [.bool false, .nils, .nils, .bool false, .nils, .nils] []), oS (.store 6 (.t 4) (.t 28)), oN 5 (.mov (.c (.bool false)))]) .ret) .skip)) (.seq (.reg true 0 [oN 29 (.fld 0 (.t 6)), oA 30 0 (.load 3 true (.t 29)) [0], oN 31 (.fld 1 (.t 8)), oA 32 0 (.load 3 true (.t 31)) [2], oN 33 (oV 1), oN 34 (.fld 0 (.t 8)), oA 35 0 (.load 1 false (.t 34)) [5], oA 36 0 (.idx 6 (.t 33) (.t 35)) [4, 6], oA 37 0 (.fld 0 (.t 36)) [7], oA 38 0 (.load 3 true (.t 37)) [8], oN 39 (.fld 4 (.t 8)), oA 40 0 (.load 3 true (.t 39)) [10], oA 41 0 (.call 189 [(.t 38), (.t 40)]) [9, 11], oA 42 0 (.call 201 [(.t 32), (.t 41)]) [3, 12, 12], oA 43 0 (.call 189 [(.t 30), (.t 42)]) [1, 13, 13], oA 44 0 (.fld 0 (.t 6)) [0, 1, 2, 3, 4, 5, 6, 7, 8, 9, 10, 11, 12, 13, 14], ⟨none, none, 0, .store 3 (.t 44) (.t 43), [15, 14, 14, 0, 1, 2, 3, 4, 5, 6, 7, 8, 9, 10, 11, 12, 13, 14]⟩]) (.reg true 0 [oN 45 (.fld 3 (.t 6)), oA 46 0 (.load 3 true (.t 45)) [0], oN 47 (.fld 1 (.t 8)), oA 48 0 (.load 3 true (.t 47)) [2], oN 49 (oV 1), oN 50 (.fld 0 (.t 8)), oA 51 0 (.load 1 false (.t 50)) [5], oA 52 0 (.idx 6 (.t 49) (.t 51)) [4, 6], oA 53 0 (.fld 3 (.t 52)) [7], oA 54 0 (.load 3 true (.t 53)) [8], oN 55 (.fld 7 (.t 8)), oA 56 0 (.load 3 true (.t 55)) [10], oA 57 0 (.call 189 [(.t 54), (.t 56)]) [9, 11], oA 58 0 (.call 201 [(.t 48), (.t 57)]) [3, 12, 12], oA 59 0 (.call 189 [(.t 46), (.t 58)]) [1, 13, 13], oA 60 0 (.fld 3 (.t 6)) [0, 1, 2, 3, 4, 5, 6, 7, 8, 9, 10, 11, 12, 13, 14], ⟨none, none, 0, .store 3 (.t 60) (.t 59), [15, 14, 14, 0, 1, 2, 3, 4, 5, 6, 7, 8, 9, 10, 11, 12, 13, 14]⟩]))))) (.reg false 0 [oN 61 (.bin .add (.t 19) (cI 1)), oN 19 (oV 61)]))))))) (.seq (.seq (.reg false 0 [oN 62 (.load 6 true (.t 6)), oN 63 (.call 342 [(.t 62)]), oN 64 (.un .not (.t 63))]) (.cond (.t 64) (.seq (.reg false 0 [oN 65 (.build [.bool false, .nils, .nils, .bool false, .nils, .nils] []), oS (.store 6 (.t 4) (.t 65)), oN 5 (.mov (.c (.bool false)))]) .ret) .skip)) (.seq (.reg false 0 [oN 66 (.load 6 true (.t 6)), oS (.store 6 (.t 4) (.t 66)), oN 5 (.mov (.c (.bool true)))]) .ret))))))⟩
structure D_spec_ApplyConditional (T : Nat → Option Fn) : Prop where
  hT : T 366 = some F_spec_ApplyConditional
  d_spec_RatFromInt : D_spec_RatFromInt T
  d_spec_RatAdd : D_spec_RatAdd T
  d_spec_RatMul : D_spec_RatMul T
  d_spec_IsValidConditional : D_spec_IsValidConditional T
  d_spec_l08Point : D_spec_l08Point T
def F_impl_zeroPoint : Fn := ⟨0, 4, [.cell 0 6 true], (.seq (.reg false 1 [oN 0 (.alloc [.bool false, .nils, .nils, .bool false, .nils, .nils])]) (.seq (.reg false 0 [oN 1 (.call 39 [(cI 0)]), oN 2 (.call 39 [(cI 0)]), oN 3 (.build [.bool false, .nils, .nils, .bool false, .nils, .nils] [(0, 3, (.t 1)), (3, 3, (.t 2))]), oS (.store 6 (.t 0) (.t 3))]) .ret))⟩
structure D_impl_zeroPoint (T : Nat → Option Fn) : Prop where
  hT : T 186 = some F_impl_zeroPoint
  d_impl_RatFromInt : D_impl_RatFromInt T
def F_impl_ApplyConditional : Fn := ⟨2, 72, [.cell 4 6 true, .tmp 5], (.seq (.reg false 2 [oN 2 (.box (.t 0)), oK 4 1 (.alloc [.bool false, .nils, .nils, .bool false, .nils, .nils]), oK 5 2 (.mov (.c (.bool false)))]) (.seq (.seq (.reg false 0 [oN 9 (.load 5 true (.t 2)), oN 10 (.call 185 [(.t 9)]), oN 11 (.un .not (.t 10))]) (.cond (.t 11) (.seq (.reg false 0 [oN 12 (.build [.bool false, .nils, .nils, .bool false, .nils, .nils] []), oS (.store 6 (.t 4) (.t 12)), oN 5 (.mov (.c (.bool false)))]) .ret) .skip)) (.seq (.reg false 1 [oK 13 1 (.call 186 []), oN 6 (.alloc [.bool false, .nils, .nils, .bool false, .nils, .nils]), ⟨none, none, 1, .store 6 (.t 6) (.t 13), []⟩]) (.seq (.seq (.reg false 0 [oN 14 (.fld 4 (.t 2)), oN 15 (.load 1 false (.t 14)), oN 16 (.len (.t 15)), oN 17 (.mov (cI 0))]) (.block 0 (.loop (.seq (.reg false 0 [oN 18 (.bin .lss (.t 17) (.t 16))]) (.seq (.cond (.t 18) .skip (.exit 0)) (.seq (.block 1 (.seq (.reg false 1 [oK 19 1 (.idx 10 (.t 15) (.t 17)), oK 20 1 (.load 10 true (.t 19)), oN 8 (.alloc [.int .i64 0, .bool false, .nils, .nils, .bool false, .nils, .nils, .bool false, .nils, .nils]), ⟨none, none, 1, .store 10 (.t 8) (.t 20), []⟩]) (.seq (.seq (.reg false 0 [oN 21 (.fld 0 (.t 8)), oN 22 (.load 1 false (.t 21)), oN 23 (oV 1), oN 24 (.len (.t 23)), oN 25 (.bin .geq (.t 22) (.t 24))]) (.cond (.t 25) (.seq (.reg false 0 [oN 26 (.build [.bool false, .nils, .nils, .bool false, .nils, .nils] []), oS (.store 6 (.t 4) (.t 26)), oN 5 (.mov (.c (.bool false)))]) .ret) .skip)) (.seq (.reg true 0 [oN 27 (.fld 0 (.t 6)), oA 28 0 (.load 3 true (.t 27)) [0], oN 29 (.fld 1 (.t 8)), oA 30 0 (.load 3 true (.t 29)) [2], oN 31 (oV 1), oN 32 (.fld 0 (.t 8)), oA 33 0 (.load 1 false (.t 32)) [5], oA 34 0 (.idx 6 (.t 31) (.t 33)) [4, 6], oA 35 0 (.fld 0 (.t 34)) [7], oA 36 0 (.load 3 true (.t 35)) [8], oN 37 (.fld 4 (.t 8)), oA 38 0 (.load 3 true (.t 37)) [10], oA 39 0 (.call 178 [(.t 36), (.t 38)]) [9, 11], oA 40 0 (.call 157 [(.t 30), (.t 39)]) [3, 12, 12], oA 41 0 (.call 131 [(.t 28), (.t 40)]) [1, 13, 13], oA 42 0 (.fld 0 (.t 6)) [0, 1, 2, 3, 4, 5, 6, 7, 8, 9, 10, 11, 12, 13, 14], ⟨none, none, 0, .store 3 (.t 42) (.t 41), [15, 14, 14, 0, 1, 2, 3, 4, 5, 6, 7, 8, 9, 10, 11, 12, 13, 14]⟩]) (.reg true 0 [oN 43 (.fld 3 (.t 6)), oA 44 0 (.load 3 true (.t 43)) [0], oN 45 (.fld 1 (.t 8)), oA 46 0 (.load 3 true (.t 45)) [2], oN 47 (oV 1), oN 48 (.fld 0 (.t 8)), oA 49 0 (.load 1 false (.t 48)) [5], oA 50 0 (.idx 6 (.t 47) (.t 49)) [4, 6], oA 51 0 (.fld 3 (.t 50)) [7], oA 52 0 (.load 3 true (.t 51)) [8], oN 53 (.fld 7 (.t 8)), oA 54 0 (.load 3 true (.t 53)) [10], oA 55 0 (.call 178 [(.t 52), (.t 54)]) [9, 11], oA 56 0 (.call 157 [(.t 46), (.t 55)]) [3, 12, 12], oA 57 0 (.call 131 [(.t 44), (.t 56)]) [1, 13, 13], oA 58 0 (.fld 3 (.t 6)) [0, 1, 2, 3, 4, 5, 6, 7, 8, 9, 10, 11, 12, 13, 14], ⟨none, none, 0, .store 3 (.t 58) (.t 57), [15, 14, 14, 0, 1, 2, 3, 4, 5, 6, 7, 8, 9, 10, 11, 12, 13, 14]⟩]))))) (.reg false 0 [oN 59 (.bin .add (.t 17) (cI 1)), oN 17 (oV 59)]))))))) (.seq (.seq (.reg false 0 [oN 60 (.fld 0 (.t 6)), oN 61 (.load 3 true (.t 60)), oN 62 (.call 132 [(.t 61)]), oN 63 (.un .not (.t 62)), oN 64 (oV 63), oG 64 false 65 (.fld 3 (.t 6)), oG 64 false 66 (.load 3 true (.t 65)), oG 64 false 67 (.call 132 [(.t 66)]), oG 64 false 68 (.un .not (.t 67)), oN 69 (.pick (.t 64) (.c (.bool true)) (.t 68))]) (.cond (.t 69) (.seq (.reg false 0 [oN 70 (.build [.bool false, .nils, .nils, .bool false, .nils, .nils] []), oS (.store 6 (.t 4) (.t 70)), oN 5 (.mov (.c (.bool false)))]) .ret) .skip)) (.seq (.reg false 0 [oN 71 (.load 6 true (.t 6)), oS (.store 6 (.t 4) (.t 71)), oN 5 (.mov (.c (.bool true)))]) .ret))))))⟩
structure D_impl_ApplyConditional (T : Nat → Option Fn) : Prop where
  hT : T 176 = some F_impl_ApplyConditional
  d_impl_ratAdd : D_impl_ratAdd T
  d_impl_good : D_impl_good T
  d_impl_ratMul : D_impl_ratMul T
  d_impl_RatAdd : D_impl_RatAdd T
  d_impl_IsValidConditional : D_impl_IsValidConditional T
  d_impl_zeroPoint : D_impl_zeroPoint T
def acT (p : Pa) (x d : R) : R := mulR p.share (addR x d)
def acX (c : Cd) (at' : List Pt) : Nat → R
  | 0 => intR 0
  | k + 1 => addR (acX c at' k) (acT (c.ps.getD k default) (at'.getD (c.ps.getD k default).node.toNat default).x (c.ps.getD k default).dx)
def acY (c : Cd) (at' : List Pt) : Nat → R
  | 0 => intR 0
  | k + 1 => addR (acY c at' k) (acT (c.ps.getD k default) (at'.getD (c.ps.getD k default).node.toNat default).y (c.ps.getD k default).dy)
def acG (c : Cd) (n : Nat) : Bool := c.ps.all fun p => decide (p.node < n)
def acOk (c : Cd) (at' : List Pt) : Bool := cdOk c && (acG c at'.length && ((acX c at' c.ps.length).ok && (acY c at' c.ps.length).ok))
def acV (c : Cd) (at' : List Pt) : Pt := if acOk c at' = true then ⟨acX c at' c.ps.length, acY c at' c.ps.length⟩ else ⟨R0, R0⟩
theorem acX_cn (c : Cd) (at' : List Pt) : ∀ k, (acX c at' k).cn
  | 0 => intR_cn (by decide)
  | k + 1 => addR_cn _ _
theorem acY_cn (c : Cd) (at' : List Pt) : ∀ k, (acY c at' k).cn
  | 0 => intR_cn (by decide)
  | k + 1 => addR_cn _ _
theorem acT_cn (p : Pa) (x d : R) : (acT p x d).cn := mulR_cn _ _
theorem acV_cn (c : Cd) (at' : List Pt) : (acV c at').x.cn ∧ (acV c at').y.cn := by
  unfold acV; split
  · exact ⟨acX_cn _ _ _, acY_cn _ _ _⟩
  · exact ⟨cn_0, cn_0⟩
theorem acG_bad {c : Cd} {n k : Nat} (hk : k < c.ps.length) (h : ¬ (c.ps.getD k default).node < n) : acG c n = false := by
  unfold acG
  rw [List.all_eq_false]
  refine ⟨c.ps.getD k default, ?_, by simpa using h⟩
  rw [List.getD_eq_getElem?_getD, List.getElem?_eq_getElem hk]; exact List.getElem_mem hk
theorem acG_good {c : Cd} {n : Nat} (h : ∀ k, k < c.ps.length → (c.ps.getD k default).node < n) : acG c n = true := by
  unfold acG
  rw [List.all_eq_true]
  intro x hx
  obtain ⟨k, hk⟩ := List.mem_iff_getElem?.1 hx
  have := h k (List.getElem?_eq_some_iff.1 hk).1
  rw [List.getD_eq_getElem?_getD, hk] at this
  exact decide_eq_true this
theorem ac_bad {c : Cd} {at' : List Pt} (h : acOk c at' = false) : acV c at' = ⟨R0, R0⟩ := by
  unfold acV; rw [h]; rfl
theorem cdOk_pa {c : Cd} (h : cdOk c = true) {k : Nat} (hk : k < c.ps.length) : 0 ≤ (c.ps.getD k default).node ∧ (c.ps.getD k default).share.ok = true := by
  unfold cdOk at h
  simp only [Bool.and_eq_true, decide_eq_true_eq] at h
  have := h.1.1.1.1 k hk
  unfold paAt inB at this
  simp only [Bool.and_eq_true, decide_eq_true_eq] at this
  exact ⟨this.1.1.1.1.1.1, sgnR_ok this.1.1.2⟩
theorem c_l08Point {T : Nat → Option Fn} (h : D_spec_l08Point T) {p : Pt} (hp : p.wf) : PF T 342 [ptV p] (.bool (p.x.ok && p.y.ok)) := by
  have c1 := c_sRatOk h.d_spec_RatOk hp.1
  have c2 := c_sRatOk h.d_spec_RatOk hp.2
  refine pf_endL (fun _ _ => false) h.hT rfl rfl ?_
  dsimp only [F_spec_l08Point, oN, oS, oG, oK, oA, oH, oV, cI]
  (refine ev ?_; try with_reducible exact True.intro)
  refine PFK_of c1 ?_
  cases p.x.ok
  · (refine ev ?_; try with_reducible exact True.intro)
    exact laxV_refl _
  · (refine ev ?_; try with_reducible exact True.intro)
    refine PFK_of c2 ?_
    cases p.y.ok <;> ((refine ev ?_; try with_reducible exact True.intro); exact laxV_refl _)
end Go.Ml
end
section
set_option linter.unusedSimpArgs false
set_option linter.unusedVariables false
set_option maxRecDepth 100000
set_option maxHeartbeats 8000000
namespace Go.Ml
section
variable {s s1 σ2 : Store} {a b ta tb rs trs : List V} {os os2 : List Nat} {L : List (Nat × Obj)}
theorem Ep.renewL (E : Ep s (a ++ b) (ta ++ tb) os L) (hla : a.length = ta.length) (h1 : ∀ o, o < s.length → objAt s1 o = objAt s o) (hl : s.length ≤ s1.length) (ho : OwL σ2 rs trs os2) (hn : os2.Nodup) (hf : ∀ o ∈ os2, s1.length ≤ o)
    (old : ∀ o, o < s1.length → objAt σ2 o = objAt s1 o) : ∃ os', Ep σ2 (rs ++ b) (trs ++ tb) os' L ∧ ∀ o ∈ os', o ∈ os ∨ s1.length ≤ o := by
  obtain ⟨a1, a2, oa, ob, e, rfl, k1, k2⟩ := owL_split E.c.ow
  obtain ⟨rfl, rfl⟩ := List.append_inj e (by rw [hla]; exact k1.len.symm)
  have hlt := fun o (h : o ∈ oa ++ ob) => E.c.lt o h
  have nd := List.nodup_append.1 E.c.nd
  refine ⟨os2 ++ ob, ⟨⟨owL_append ho (k2.frame fun o h => ?_), ?_⟩, fun q hq => ⟨(old _ (Nat.lt_of_lt_of_le (E.lt q hq) hl)).trans ((h1 _ (E.lt q hq)).trans (E.l q hq).1), fun hm => ?_⟩⟩, fun o h => ?_⟩
  · have := hlt o (List.mem_append_right _ h)
    rw [old o (by omega), h1 o this]
  · rw [List.nodup_append]
    refine ⟨hn, nd.2.1, fun x hx y hy e => ?_⟩
    have := hf x hx
    have := hlt y (List.mem_append_right _ hy)
    omega
  · rcases List.mem_append.1 hm with hm | hm
    · have := hf _ hm; have := E.lt q hq; omega
    · exact (E.l q hq).2 (List.mem_append_right _ hm)
  · rcases List.mem_append.1 h with h | h
    · exact .inr (hf o h)
    · exact .inl (List.mem_append_right _ h)
theorem Ep.renewR (E : Ep s (a ++ b) (ta ++ tb) os L) (hla : a.length = ta.length) (h1 : ∀ o, o < s.length → objAt s1 o = objAt s o) (hl : s.length ≤ s1.length) (ho : OwL σ2 rs trs os2) (hn : os2.Nodup) (hf : ∀ o ∈ os2, s1.length ≤ o)
    (old : ∀ o, o < s1.length → objAt σ2 o = objAt s1 o) : ∃ os', Ep σ2 (a ++ rs) (ta ++ trs) os' L ∧ ∀ o ∈ os', o ∈ os ∨ s1.length ≤ o := by
  obtain ⟨a1, a2, oa, ob, e, rfl, k1, k2⟩ := owL_split E.c.ow
  obtain ⟨rfl, rfl⟩ := List.append_inj e (by rw [hla]; exact k1.len.symm)
  have hlt := fun o (h : o ∈ oa ++ ob) => E.c.lt o h
  have nd := List.nodup_append.1 E.c.nd
  refine ⟨oa ++ os2, ⟨⟨owL_append (k1.frame fun o h => ?_) ho, ?_⟩, fun q hq => ⟨(old _ (Nat.lt_of_lt_of_le (E.lt q hq) hl)).trans ((h1 _ (E.lt q hq)).trans (E.l q hq).1), fun hm => ?_⟩⟩, fun o h => ?_⟩
  · have := hlt o (List.mem_append_left _ h)
    rw [old o (by omega), h1 o this]
  · rw [List.nodup_append]
    refine ⟨nd.1, hn, fun x hx y hy e => ?_⟩
    have := hf y hy
    have := hlt x (List.mem_append_left _ hx)
    omega
  · rcases List.mem_append.1 hm with hm | hm
    · exact (E.l q hq).2 (List.mem_append_left _ hm)
    · have := hf _ hm; have := E.lt q hq; omega
  · rcases List.mem_append.1 h with h | h
    · exact .inl (List.mem_append_left _ h)
    · exact .inr (hf o h)
end
theorem Ep.sub {s : Store} {cs ts : List V} {os : List Nat} {L L' : List (Nat × Obj)} (E : Ep s cs ts os L) (h : ∀ q ∈ L', q ∈ L) : Ep s cs ts os L' := ⟨E.c, fun q hq => E.l q (h q hq)⟩
theorem finP0 {σ : Store} : Fin σ (.agg [.bool false, .nils, .nils, .bool false, .nils, .nils]) (ptV ⟨R0, R0⟩) :=
  ⟨ptV ⟨R0, R0⟩, [], by simp only [LaxV, LaxL]; exact ⟨_, rfl, _, _, rfl, rfl, _, _, rfl, of_eq_true (LaxV_nil 1), _, _, rfl, of_eq_true (LaxV_nil 1), _, _, rfl, rfl, _, _, rfl, of_eq_true (LaxV_nil 1), _, _, rfl, of_eq_true (LaxV_nil 1), rfl⟩,
    owV_agg (owL_bool (owL_v (o1 := []) owV_ints0 (owL_v (o1 := []) owV_ints0 (owL_bool (owL_v (o1 := []) owV_ints0 (owL_v (o1 := []) owV_ints0 owL_nil)))))), .nil⟩
theorem po_zeroPoint {T : Nat → Option Fn} (h : D_impl_zeroPoint T) : PO T 186 [] (ptV ⟨intR 0, intR 0⟩) := by
  refine po_end2 (fun x d => x == 39) h.hT rfl rfl ?_
  dsimp only [F_impl_zeroPoint, oN, oS, oG, oK, oA, oH, oV, cI, St.enter, List.length_cons, List.length_nil, Nat.zero_add]
  (refine ew ?_; try with_reducible exact True.intro)
  refine RefK_got (po_RatFromInt h.d_impl_RatFromInt (n := 0)) (by (refine ew ?_; try with_reducible exact True.intro)) ?_
  intro r q1 o1 G
  have gl : 1 ≤ q1.length := by simpa using G.len
  obtain ⟨_, rfl, hQ1⟩ := G.ow.agg_inv
  obtain ⟨x1, x2, rfl⟩ := hQ1.rat
  have E : Ep [some ⟨6, [[.bool false, .nils, .nils, .bool false, .nils, .nils]]⟩] [] [] [] [(0, ⟨6, [[.bool false, .nils, .nils, .bool false, .nils, .nils]]⟩)] := ⟨cs_nil, by simp [objAt]⟩
  have E1 := E.got (fun q hq => rfl) (Nat.le_refl _) hQ1 G.nd G.fresh G.old
  clear G E
  (refine ew ?_; try with_reducible exact True.intro)
  refine RefK_got (po_RatFromInt h.d_impl_RatFromInt (n := 0)) (by (refine ew ?_; try with_reducible exact True.intro)) ?_
  intro r q2 o2 G
  have gl2 : q1.length ≤ q2.length := G.len
  obtain ⟨_, rfl, hQ2⟩ := G.ow.agg_inv
  obtain ⟨x3, x4, rfl⟩ := hQ2.rat
  have E2 := E1.got (fun q hq => rfl) (Nat.le_refl _) hQ2 G.nd G.fresh G.old
  clear G E1
  have E : Ep q2 [.bool (intR 0).neg, x1, x2, .bool (intR 0).neg, x3, x4] [.bool (intR 0).neg, ints (intR 0).mag, ints (intR 0).den, .bool (intR 0).neg, ints (intR 0).mag, ints (intR 0).den] _ [(0, ⟨6, [[.bool false, .nils, .nils, .bool false, .nils, .nils]]⟩)] := E2
  clear E2
  have L0 := E.at0 (p := 0) (ob := ⟨6, [[.bool false, .nils, .nils, .bool false, .nils, .nils]]⟩) (by simp)
  have LF := And.intro (And.intro (E.leaf 1 rfl rfl) (E.leaf 2 rfl rfl)) (And.intro (E.leaf 4 rfl rfl) (E.leaf 5 rfl rfl))
  (refine ew2 @L0 @LF ?_; try with_reducible exact True.intro)
  have n0 := (E.l (0, ⟨6, [[.bool false, .nils, .nils, .bool false, .nils, .nils]]⟩) (by simp)).2
  have C := E.c.set (o := 0) (x := some ⟨6, [[.bool (intR 0).neg, x1, x2, .bool (intR 0).neg, x3, x4]]⟩) n0
  exact fin_of (owV_agg C.ow) C.nd
theorem po_iApplyConditional {T : Nat → Option Fn} (h : D_impl_ApplyConditional T) {c : Cd} {at' : List Pt} (hw : c.wf := by first | omega | assumption | (simp; omega)) (hp : wfL Pt.wf at' := by first | omega | assumption | (simp; omega)) (hl : c.ps.length ≤ 1048576 := by first | omega | assumption | (simp; omega)) (hl2 : at'.length ≤ 1048576 := by first | omega | assumption | (simp; omega)) : PO T 176 [cdV c, ptsV at'] (.tup [ptV (acV c at'), .bool (acOk c at')]) := by
  have ci := c_iIsValidConditional h.d_impl_IsValidConditional hw
  cases hb : cdOk c
  · rw [hb] at ci
    have e1 : acOk c at' = false := by unfold acOk; rw [hb]; rfl
    rw [ac_bad e1, e1]
    refine po_end2 (fun x d => (x == 186 && d == 13) || (x == 131 && d == 41) || (x == 131 && d == 57)) h.hT rfl rfl ?_
    dsimp only [F_impl_ApplyConditional, oN, oS, oG, oK, oA, oH, oV, cI, St.enter, List.length_cons, List.length_nil, Nat.zero_add]
    (refine ew ?_; try with_reducible exact True.intro)
    refine PFK_of ci ?_
    (refine ew ?_; try with_reducible exact True.intro)
    exact finP0.tup1
  rw [hb] at ci
  have bad : ∀ k, k < c.ps.length → ¬ (c.ps.getD k default).node < at'.length → ∀ σ, Fin σ (.tup [.agg [.bool false, .nils, .nils, .bool false, .nils, .nils], .bool false]) (.tup [ptV (acV c at'), .bool (acOk c at')]) := fun k hk h σ => by
    have e1 : acOk c at' = false := by unfold acOk; rw [acG_bad hk h, hb]; rfl
    rw [ac_bad e1, e1]
    exact finP0.tup1
  have hpa := fun k hk => cdOk_pa hb (k := k) hk
  refine po_end2 (fun x d => (x == 186 && d == 13) || (x == 131 && d == 41) || (x == 131 && d == 57)) h.hT rfl rfl ?_
  dsimp only [F_impl_ApplyConditional, oN, oS, oG, oK, oA, oH, oV, cI, St.enter, List.length_cons, List.length_nil, Nat.zero_add]
  (refine ew ?_; try with_reducible exact True.intro)
  refine PFK_of ci ?_
  (refine ew ?_; try with_reducible exact True.intro)
  refine RefK_got (po_zeroPoint h.d_impl_zeroPoint) (by (refine ew ?_; try with_reducible exact True.intro)) ?_
  intro r q1 o1 G
  have gl : 3 ≤ q1.length := by simpa using G.len
  obtain ⟨_, rfl, hQ1⟩ := G.ow.agg_inv
  obtain ⟨x1, x2, x3, x4, rfl⟩ := hQ1.pt
  have E : Ep [some ⟨5, [c.cells]⟩, some ⟨6, [[.bool false, .nils, .nils, .bool false, .nils, .nils]]⟩] [] [] [] [(0, ⟨5, [c.cells]⟩), (1, ⟨6, [[.bool false, .nils, .nils, .bool false, .nils, .nils]]⟩)] := ⟨cs_nil, by simp [objAt]⟩
  have E2 := E.got (s1 := [some ⟨5, [c.cells]⟩, some ⟨6, [[.bool false, .nils, .nils, .bool false, .nils, .nils]]⟩] ++ [none]) (fun q hq => objAt_app_lt hq) (by simp) hQ1 G.nd G.fresh G.old
  have F0 := E.free (s1 := [some ⟨5, [c.cells]⟩, some ⟨6, [[.bool false, .nils, .nils, .bool false, .nils, .nils]]⟩] ++ [none]) (p := 2) G.fresh (by simp) (by simp)
  clear E G
  have E : Ep q1 [.bool (intR 0).neg, x1, x2, .bool (intR 0).neg, x3, x4] [.bool (intR 0).neg, ints (intR 0).mag, ints (intR 0).den, .bool (intR 0).neg, ints (intR 0).mag, ints (intR 0).den] _ [(0, ⟨5, [c.cells]⟩), (1, ⟨6, [[.bool false, .nils, .nils, .bool false, .nils, .nils]]⟩)] := E2
  clear E2
  replace E := E.reloc (p := 2) (ob := ⟨6, [[.bool (intR 0).neg, x1, x2, .bool (intR 0).neg, x3, x4]]⟩) (L' := [(0, ⟨5, [c.cells]⟩), (1, ⟨6, [[.bool false, .nils, .nils, .bool false, .nils, .nils]]⟩), (2, ⟨6, [[.bool (intR 0).neg, x1, x2, .bool (intR 0).neg, x3, x4]]⟩)]) F0 (by omega) (by simp)
  have LF := And.intro (And.intro (E.leaf 1 rfl rfl) (E.leaf 2 rfl rfl)) (And.intro (E.leaf 4 rfl rfl) (E.leaf 5 rfl rfl))
  have L0 := E.at0 (p := 0) (ob := ⟨5, [c.cells]⟩) (by simp)
  have hqe : objAt q1 0 = some ⟨5, [c.cells]⟩ := by have := L0.1; rwa [objAt_setne (by omega)] at this
  (refine ew3 @LF @List.set_set.{0} @hqe ?_; try with_reducible exact True.intro)
  clear LF L0 hqe
  refine loop_at (fun x d => (x == 186 && d == 13) || (x == 131 && d == 41) || (x == 131 && d == 57)) (α := Nat × Store × V × V × V × V × List Nat) (fun q => ⟨argE [.any, ptsV at', .any, .any, .ptr 1 0 0, .any, .ptr 2 0 0, .any, .any, .any, .any, .any, .any, .any, .any, pasV c.ps, iv (c.ps.length : Nat), iv (q.1 : Nat)], q.2.1, 0, 0, [], []⟩) (fun q => (q.1 ≤ c.ps.length ∧ ∀ k, k < q.1 → (c.ps.getD k default).node < at'.length) ∧ Ep q.2.1 [.bool (acX c at' q.1).neg, q.2.2.1, q.2.2.2.1, .bool (acY c at' q.1).neg, q.2.2.2.2.1, q.2.2.2.2.2.1] [.bool (acX c at' q.1).neg, ints (acX c at' q.1).mag, ints (acX c at' q.1).den, .bool (acY c at' q.1).neg, ints (acY c at' q.1).mag, ints (acY c at' q.1).den] q.2.2.2.2.2.2 [(0, ⟨5, [c.cells]⟩), (1, ⟨6, [[.bool false, .nils, .nils, .bool false, .nils, .nils]]⟩), (2, ⟨6, [[.bool (acX c at' q.1).neg, q.2.2.1, q.2.2.2.1, .bool (acY c at' q.1).neg, q.2.2.2.2.1, q.2.2.2.2.2.1]]⟩)]) (fun q => c.ps.length - q.1) rfl (0, (q1.set 2 (some ⟨6, [[.bool (intR 0).neg, x1, x2, .bool (intR 0).neg, x3, x4]]⟩)), x1, x2, x3, x4, [] ++ o1) ?_ ?_ ?_
  · exact ⟨⟨by omega, by intro k hk; omega⟩, E⟩
  · (refine Fg_env ?_) <;> (try (refine ew ?_; try with_reducible exact True.intro)) <;> (repeat' (first | refine ⟨?_, ?_⟩ | exact EvV_int (by omega) | exact EvV_of (by simp) | exact EvV_nil _))
  · clear E
    rintro ⟨i, s, x1, x2, x3, x4, os⟩ ⟨⟨hi, hg⟩, E⟩
    dsimp only at hi hg E
    have ex : acX c at' (i + 1) = addR (acX c at' i) (acT (c.ps.getD i default) (at'.getD (c.ps.getD i default).node.toNat default).x (c.ps.getD i default).dx) := rfl
    have ey : acY c at' (i + 1) = addR (acY c at' i) (acT (c.ps.getD i default) (at'.getD (c.ps.getD i default).node.toNat default).y (c.ps.getD i default).dy) := rfl
    have hxc := acX_cn c at' i
    have hyc := acY_cn c at' i
    have hbad := bad i
    have hpa := hpa i
    have hfx : i = c.ps.length → acX c at' c.ps.length = acX c at' i := fun e => by rw [e]
    have hfy : i = c.ps.length → acY c at' c.ps.length = acY c at' i := fun e => by rw [e]
    generalize hX : acX c at' i = X at ex hxc hfx E
    generalize hY : acY c at' i = Y at ey hyc hfy E
    have L1 := E.at0 (p := 1) (ob := ⟨6, [[.bool false, .nils, .nils, .bool false, .nils, .nils]]⟩) (by simp)
    have L2 := E.at0 (p := 2) (ob := ⟨6, [[.bool X.neg, x1, x2, .bool Y.neg, x3, x4]]⟩) (by simp)
    by_cases hc : (i : Int) < (c.ps.length : Nat)
    · have hil : i < c.ps.length := by omega
      have hxw := wfL_at hw.2 hil
      have hbad := hbad hil
      obtain ⟨hp0, hp1⟩ := hpa hil
      have hgs : (c.ps.getD i default).node < at'.length → ∀ k, k < i + 1 → (c.ps.getD k default).node < at'.length := fun h k hk => by
        by_cases e : k = i
        · subst e; exact h
        · exact hg k (by omega)
      have hmx : (c.ps.map Pa.cells).getD i [] = (c.ps.getD i default).cells := mg hil
      generalize c.ps.getD i default = p at ex ey hbad hxw hgs hp0 hp1 hmx
      by_cases hn : p.node < at'.length
      · have hn1 : ¬ p.node ≥ (at'.length : Nat) := by omega
        have hgs := hgs hn
        have wp := wfL_at hp (k := p.node.toNat) (by omega)
        have g1 : (at'.map Pt.cells).getD p.node.toNat [] = (at'.getD p.node.toNat default).cells := mg (by omega)
        generalize at'.getD p.node.toNat default = q at ex ey wp g1
        have hsc := cn_ok hp1
        (refine ew6 @hc @hmx @L1 @L2 @hn1 @g1 ?_; try with_reducible exact True.intro)
        refine PFK_of (c_iRatAdd h.d_impl_RatAdd wp.1 hxw.2.1) ?_
        obtain ⟨pi, hpi⟩ : ∃ pi, s.length = pi := ⟨_, rfl⟩
        obtain ⟨s1, hs1⟩ : ∃ s1, s ++ [some ⟨10, [p.cells]⟩] = s1 := ⟨_, rfl⟩
        have E1 := E.push (ob := ⟨10, [p.cells]⟩)
        rw [hs1, hpi] at E1
        have hl1 : s1.length = pi + 1 := by rw [← hs1, ← hpi]; simp
        have hpi2 : 3 ≤ pi := by have := L2.2; omega
        clear E
        simp only [hs1]
        simp only [hpi]
        have MP := E1.at0 (p := pi) (ob := ⟨10, [p.cells]⟩) (by simp)
        have M1 := E1.at0 (p := 1) (ob := ⟨6, [[.bool false, .nils, .nils, .bool false, .nils, .nils]]⟩) (by simp)
        have M2 := E1.at0 (p := 2) (ob := ⟨6, [[.bool X.neg, x1, x2, .bool Y.neg, x3, x4]]⟩) (by simp)
        have R := And.intro (E1.res1 1 rfl rfl (dep_ints _ _)) (E1.res1 2 rfl rfl (dep_ints _ _))
        (refine ew7 @MP @M1 @M2 @g1 @R @numK_any @or_sc ?_; try with_reducible exact True.intro)
        refine PFK_of (c_ratMulR h.d_impl_ratMul hsc (addR_cn _ _)) ?_
        (refine ew7 @MP @M1 @M2 @g1 @R @numK_any @or_sc ?_; try with_reducible exact True.intro)
        refine OwnK_gotP (fun o => o ∈ os) (show PO T 131 [ratV X, ratV (acT p q.x p.dx)] (ratV (addR X (acT p q.x p.dx))) from po_ratAddR h.d_impl_ratAdd hxc (acT_cn _ _ _)) (by (refine ew3 @R @numK_any @or_sc ?_; try with_reducible exact True.intro); rfl) ?_ ?_
        · intro o ho
          have ho : o ∈ reach s1 (11 + 1) (.agg [.bool X.neg, x1, x2]) ++ (reach s1 FD (ratV (acT p q.x p.dx)) ++ []) := ho
          rw [show reach s1 FD (ratV (acT p q.x p.dx)) = [] from by (refine ew ?_; try with_reducible exact True.intro), List.append_nil, List.append_nil] at ho
          obtain ⟨c, hc, ho⟩ := reach_agg.1 ho
          rcases List.mem_cons.1 hc with e | hc
          · rw [e] at ho; simp [reach] at ho
          rcases List.mem_cons.1 hc with e | hc
          · rw [e] at ho; exact E1.reach 1 rfl rfl _ o ho
          · rw [List.mem_singleton.1 hc] at ho; exact E1.reach 2 rfl rfl _ o ho
        intro Rr r q2 oq2 hRr G
        obtain ⟨_, rfl, hQ⟩ := G.ow.agg_inv
        obtain ⟨y1, y2, rfl⟩ := hQ.rat
        obtain ⟨os2, E0, hos⟩ := Ep.renewL (a := [.bool X.neg, x1, x2]) (b := [.bool Y.neg, x3, x4]) (ta := [.bool X.neg, ints X.mag, ints X.den]) (tb := [.bool Y.neg, ints Y.mag, ints Y.den]) E1 rfl (s1 := s1) (fun q hq => rfl) (Nat.le_refl _) hQ G.nd G.fresh G.old
        have gl := G.len
        have n2 : 2 ∉ os2 := fun hm => by
          rcases hos 2 hm with h | h
          · exact (E1.l (2, ⟨6, [[.bool X.neg, x1, x2, .bool Y.neg, x3, x4]]⟩) (by simp)).2 h
          · omega
        clear hos hRr G hQ E1 R MP M1 M2
        rw [← ex] at E0
        have E2 : Ep q2 [.bool (acX c at' (i + 1)).neg, y1, y2, .bool Y.neg, x3, x4] [.bool (acX c at' (i + 1)).neg, ints (acX c at' (i + 1)).mag, ints (acX c at' (i + 1)).den, .bool Y.neg, ints Y.mag, ints Y.den] os2 [(0, ⟨5, [c.cells]⟩), (1, ⟨6, [[.bool false, .nils, .nils, .bool false, .nils, .nils]]⟩), (2, ⟨6, [[.bool X.neg, x1, x2, .bool Y.neg, x3, x4]]⟩), (pi, ⟨10, [p.cells]⟩)] := E0
        clear E0
        have MP := E2.at0 (p := pi) (ob := ⟨10, [p.cells]⟩) (by simp)
        have M1 := E2.at0 (p := 1) (ob := ⟨6, [[.bool false, .nils, .nils, .bool false, .nils, .nils]]⟩) (by simp)
        have M2 := E2.at0 (p := 2) (ob := ⟨6, [[.bool X.neg, x1, x2, .bool Y.neg, x3, x4]]⟩) (by simp)
        have LF := And.intro (And.intro (E2.leaf 1 rfl rfl) (E2.leaf 2 rfl rfl)) (And.intro (E2.leaf 4 rfl rfl) (E2.leaf 5 rfl rfl))
        (refine ew8 @MP @M1 @M2 @g1 @LF @numK_any @or_sc @List.set_set.{0} ?_; try with_reducible exact True.intro)
        refine ⟨by unfold OkA; rfl, ?_⟩
        try rw [← ex]
        obtain ⟨s3, hs⟩ : ∃ s, q2.set 2 (some ⟨6, [[.bool (acX c at' (i + 1)).neg, y1, y2, .bool Y.neg, x3, x4]]⟩) = s := ⟨_, rfl⟩
        have E5 := E2.reloc (p := 2) (ob := ⟨6, [[.bool (acX c at' (i + 1)).neg, y1, y2, .bool Y.neg, x3, x4]]⟩) (L' := [(0, ⟨5, [c.cells]⟩), (1, ⟨6, [[.bool false, .nils, .nils, .bool false, .nils, .nils]]⟩), (2, ⟨6, [[.bool (acX c at' (i + 1)).neg, y1, y2, .bool Y.neg, x3, x4]]⟩), (pi, ⟨10, [p.cells]⟩)]) n2 M2.2 (by simp; try omega)
        have hl2 : q2.length = s3.length := by rw [← hs]; simp
        rw [hs] at E5
        simp only [hs]
        try simp only [hl2]
        rw [hl2] at gl
        clear E2 MP M1 M2 LF hs hl2 n2
        have MP := E5.at0 (p := pi) (ob := ⟨10, [p.cells]⟩) (by simp)
        have M1 := E5.at0 (p := 1) (ob := ⟨6, [[.bool false, .nils, .nils, .bool false, .nils, .nils]]⟩) (by simp)
        have M2 := E5.at0 (p := 2) (ob := ⟨6, [[.bool (acX c at' (i + 1)).neg, y1, y2, .bool Y.neg, x3, x4]]⟩) (by simp)
        have R := And.intro (E5.res1 4 rfl rfl (dep_ints _ _)) (E5.res1 5 rfl rfl (dep_ints _ _))
        refine PFK_of (c_iRatAdd h.d_impl_RatAdd wp.2 hxw.2.2) ?_
        (refine ew7 @MP @M1 @M2 @g1 @R @numK_any @or_sc ?_; try with_reducible exact True.intro)
        refine PFK_of (c_ratMulR h.d_impl_ratMul hsc (addR_cn _ _)) ?_
        (refine ew7 @MP @M1 @M2 @g1 @R @numK_any @or_sc ?_; try with_reducible exact True.intro)
        refine OwnK_gotP (fun o => o ∈ os2) (show PO T 131 [ratV Y, ratV (acT p q.y p.dy)] (ratV (addR Y (acT p q.y p.dy))) from po_ratAddR h.d_impl_ratAdd hyc (acT_cn _ _ _)) (by (refine ew3 @R @numK_any @or_sc ?_; try with_reducible exact True.intro); rfl) ?_ ?_
        · intro o ho
          have ho : o ∈ reach s3 (11 + 1) (.agg [.bool Y.neg, x3, x4]) ++ (reach s3 FD (ratV (acT p q.y p.dy)) ++ []) := ho
          rw [show reach s3 FD (ratV (acT p q.y p.dy)) = [] from by (refine ew ?_; try with_reducible exact True.intro), List.append_nil, List.append_nil] at ho
          obtain ⟨c, hc, ho⟩ := reach_agg.1 ho
          rcases List.mem_cons.1 hc with e | hc
          · rw [e] at ho; simp [reach] at ho
          rcases List.mem_cons.1 hc with e | hc
          · rw [e] at ho; exact E5.reach 4 rfl rfl _ o ho
          · rw [List.mem_singleton.1 hc] at ho; exact E5.reach 5 rfl rfl _ o ho
        intro Rr r q4 oq4 hRr G
        obtain ⟨_, rfl, hQ⟩ := G.ow.agg_inv
        obtain ⟨y3, y4, rfl⟩ := hQ.rat
        obtain ⟨os4, E0, hos⟩ := Ep.renewR (a := [.bool (acX c at' (i + 1)).neg, y1, y2]) (b := [.bool Y.neg, x3, x4]) (ta := [.bool (acX c at' (i + 1)).neg, ints (acX c at' (i + 1)).mag, ints (acX c at' (i + 1)).den]) (tb := [.bool Y.neg, ints Y.mag, ints Y.den]) E5 rfl (s1 := s3) (fun q hq => rfl) (Nat.le_refl _) hQ G.nd G.fresh G.old
        have gl := G.len
        have n2 : 2 ∉ os4 := fun hm => by
          rcases hos 2 hm with h | h
          · exact (E5.l (2, ⟨6, [[.bool (acX c at' (i + 1)).neg, y1, y2, .bool Y.neg, x3, x4]]⟩) (by simp)).2 h
          · omega
        clear hos hRr G hQ E5 R MP M1 M2
        rw [← ey] at E0
        have E4 : Ep q4 [.bool (acX c at' (i + 1)).neg, y1, y2, .bool (acY c at' (i + 1)).neg, y3, y4] [.bool (acX c at' (i + 1)).neg, ints (acX c at' (i + 1)).mag, ints (acX c at' (i + 1)).den, .bool (acY c at' (i + 1)).neg, ints (acY c at' (i + 1)).mag, ints (acY c at' (i + 1)).den] os4 [(0, ⟨5, [c.cells]⟩), (1, ⟨6, [[.bool false, .nils, .nils, .bool false, .nils, .nils]]⟩), (2, ⟨6, [[.bool (acX c at' (i + 1)).neg, y1, y2, .bool Y.neg, x3, x4]]⟩), (pi, ⟨10, [p.cells]⟩)] := E0
        clear E0
        have MP := E4.at0 (p := pi) (ob := ⟨10, [p.cells]⟩) (by simp)
        have M1 := E4.at0 (p := 1) (ob := ⟨6, [[.bool false, .nils, .nils, .bool false, .nils, .nils]]⟩) (by simp)
        have M2 := E4.at0 (p := 2) (ob := ⟨6, [[.bool (acX c at' (i + 1)).neg, y1, y2, .bool Y.neg, x3, x4]]⟩) (by simp)
        have LF := And.intro (And.intro (E4.leaf 1 rfl rfl) (E4.leaf 2 rfl rfl)) (And.intro (E4.leaf 4 rfl rfl) (E4.leaf 5 rfl rfl))
        (refine ew8 @MP @M1 @M2 @g1 @LF @numK_any @or_sc @List.set_set.{0} ?_; try with_reducible exact True.intro)
        refine ⟨by unfold OkA; rfl, ?_⟩
        try rw [← ey]
        obtain ⟨s5, hs⟩ : ∃ s, q4.set 2 (some ⟨6, [[.bool (acX c at' (i + 1)).neg, y1, y2, .bool (acY c at' (i + 1)).neg, y3, y4]]⟩) = s := ⟨_, rfl⟩
        have E5 := E4.reloc (p := 2) (ob := ⟨6, [[.bool (acX c at' (i + 1)).neg, y1, y2, .bool (acY c at' (i + 1)).neg, y3, y4]]⟩) (L' := [(0, ⟨5, [c.cells]⟩), (1, ⟨6, [[.bool false, .nils, .nils, .bool false, .nils, .nils]]⟩), (2, ⟨6, [[.bool (acX c at' (i + 1)).neg, y1, y2, .bool (acY c at' (i + 1)).neg, y3, y4]]⟩), (pi, ⟨10, [p.cells]⟩)]) n2 M2.2 (by simp; try omega)
        have hl2 : q4.length = s5.length := by rw [← hs]; simp
        rw [hs] at E5
        simp only [hs]
        try simp only [hl2]
        rw [hl2] at gl
        clear E4 MP M1 M2 LF hs hl2 n2
        refine ⟨(i + 1, s5, y1, y2, y3, y4, os4), by dsimp only; omega, ⟨⟨by dsimp only; omega, hgs⟩, E5.sub (by intro q hq; simp only [List.mem_cons, List.not_mem_nil, or_false] at hq ⊢; rcases hq with h | h | h <;> simp [h])⟩, ?_⟩
        dsimp only
        (refine Fg_env ?_) <;> (try (refine ew ?_; try with_reducible exact True.intro)) <;> (repeat' (first | refine ⟨?_, ?_⟩ | exact EvV_int (by omega) | exact EvV_of (by simp) | exact EvV_nil _))
      · have hn1 : p.node ≥ (at'.length : Nat) := by omega
        (refine ew5 @hc @hmx @L1 @L2 @hn1 ?_; try with_reducible exact True.intro)
        exact hbad hn _
    · have hie : i = c.ps.length := by omega
      have hG := acG_good (c := c) (n := at'.length) fun k hk => hg k (by omega)
      have e1 : acOk c at' = ((acX c at' c.ps.length).ok && (acY c at' c.ps.length).ok) := by unfold acOk; rw [hb, hG, Bool.true_and, Bool.true_and]
      unfold acV
      rw [e1, hfx hie, hfy hie]
      have c1 := c_goodR h.d_impl_good hxc
      have c2 := c_goodR h.d_impl_good hyc
      have LF := And.intro (And.intro (E.leaf 1 rfl rfl) (E.leaf 2 rfl rfl)) (And.intro (E.leaf 4 rfl rfl) (E.leaf 5 rfl rfl))
      have R := And.intro (And.intro (E.res1 1 rfl rfl (dep_ints _ _)) (E.res1 2 rfl rfl (dep_ints _ _))) (And.intro (E.res1 4 rfl rfl (dep_ints _ _)) (E.res1 5 rfl rfl (dep_ints _ _)))
      (refine ew6 @hc @L1 @L2 @R @numK_any @or_sc ?_; try with_reducible exact True.intro)
      refine PFK_of c1 ?_
      cases h1 : X.ok
      · (refine ew3 @L1 @L2 @LF ?_; try with_reducible exact True.intro)
        exact finP0.tup1
      · (refine ew5 @L1 @L2 @R @numK_any @or_sc ?_; try with_reducible exact True.intro)
        refine PFK_of c2 ?_
        cases h2 : Y.ok
        · (refine ew3 @L1 @L2 @LF ?_; try with_reducible exact True.intro)
          exact finP0.tup1
        · (refine ew3 @L1 @L2 @LF ?_; try with_reducible exact True.intro)
          have n1 := (E.l (1, ⟨6, [[.bool false, .nils, .nils, .bool false, .nils, .nils]]⟩) (by simp)).2
          have C := E.c.set (o := 1) (x := some ⟨6, [[.bool X.neg, x1, x2, .bool Y.neg, x3, x4]]⟩) n1
          have hf : Fin (s.set 1 (some ⟨6, [[.bool X.neg, x1, x2, .bool Y.neg, x3, x4]]⟩)) (.agg [.bool X.neg, x1, x2, .bool Y.neg, x3, x4]) (ptV ⟨X, Y⟩) := fin_of (owV_agg C.ow) C.nd
          exact hf.tup1
end Go.Ml
end
section
set_option linter.unusedSimpArgs false
set_option linter.unusedVariables false
namespace Go.Ml
section
variable {s s1 S σ2 : Store} {a b c ta tb tc rs trs cs ts : List V} {os os2 : List Nat} {L L' : List (Nat × Obj)}
theorem Ep.to (E : Ep s cs ts os L) (ho : ∀ o ∈ os, objAt S o = objAt s o) (hL : ∀ q ∈ L', (q ∈ L ∧ objAt S q.1 = objAt s q.1) ∨ (objAt S q.1 = some q.2 ∧ q.1 ∉ os)) : Ep S cs ts os L' := by
  refine ⟨E.c.frame ho, fun q hq => ?_⟩
  rcases hL q hq with ⟨h1, h2⟩ | h
  · exact ⟨h2.trans (E.l q h1).1, (E.l q h1).2⟩
  · exact h
theorem Ep.renewM (E : Ep s (a ++ (b ++ c)) (ta ++ (tb ++ tc)) os L) (hla : a.length = ta.length) (hlb : b.length = tb.length) (h1 : ∀ o, o < s.length → objAt s1 o = objAt s o) (hl : s.length ≤ s1.length) (ho : OwL σ2 rs trs os2) (hn : os2.Nodup) (hf : ∀ o ∈ os2, s1.length ≤ o)
    (old : ∀ o, o < s1.length → objAt σ2 o = objAt s1 o) : ∃ os', Ep σ2 (a ++ (rs ++ c)) (ta ++ (trs ++ tc)) os' L ∧ ∀ o ∈ os', o ∈ os ∨ s1.length ≤ o := by
  obtain ⟨a1, a2, oa, obc, e, rfl, k1, k2⟩ := owL_split E.c.ow
  obtain ⟨rfl, rfl⟩ := List.append_inj e (by rw [hla]; exact k1.len.symm)
  obtain ⟨b1, b2, ob, oc, e, rfl, k3, k4⟩ := owL_split k2
  obtain ⟨rfl, rfl⟩ := List.append_inj e (by rw [hlb]; exact k3.len.symm)
  have hlt := fun o (h : o ∈ oa ++ (ob ++ oc)) => E.c.lt o h
  have nd := List.nodup_append.1 E.c.nd
  have nd2 := List.nodup_append.1 nd.2.1
  have fr : ∀ o ∈ oa ++ (ob ++ oc), objAt σ2 o = objAt s o := fun o h => by
    have := hlt o h
    rw [old o (by omega), h1 o this]
  refine ⟨oa ++ (os2 ++ oc), ⟨⟨owL_append (k1.frame fun o h => fr o (by simp [h])) (owL_append ho (k4.frame fun o h => fr o (by simp [h]))), ?_⟩, fun q hq => ⟨(old _ (Nat.lt_of_lt_of_le (E.lt q hq) hl)).trans ((h1 _ (E.lt q hq)).trans (E.l q hq).1), fun hm => ?_⟩⟩, fun o h => ?_⟩
  · rw [List.nodup_append, List.nodup_append]
    refine ⟨nd.1, ⟨hn, nd2.2.1, fun x hx y hy e => ?_⟩, fun x hx y hy e => ?_⟩
    · have := hf x hx
      have := hlt y (by simp [hy])
      omega
    · rcases List.mem_append.1 hy with hy | hy
      · have := hf y hy
        have := hlt x (by simp [hx])
        omega
      · exact nd.2.2 x hx y (List.mem_append_right _ hy) e
  · simp only [List.mem_append] at hm
    rcases hm with hm | hm | hm
    · exact (E.l q hq).2 (by simp [hm])
    · have := hf _ hm; have := E.lt q hq; omega
    · exact (E.l q hq).2 (by simp [hm])
  · simp only [List.mem_append] at h
    rcases h with h | h | h
    · exact .inl (by simp [h])
    · exact .inr (hf o h)
    · exact .inl (by simp [h])
theorem Ep.upd {p : Nat} {ob ob0 : Obj} (E : Ep s (a ++ (b ++ c)) (ta ++ (tb ++ tc)) os L) (hp : (p, ob0) ∈ L) (hla : a.length = ta.length) (hlb : b.length = tb.length) (h1 : ∀ o, o < s.length → objAt s1 o = objAt s o) (hl : s.length ≤ s1.length) (ho : OwL σ2 rs trs os2) (hn : os2.Nodup) (hf : ∀ o ∈ os2, s1.length ≤ o)
    (old : ∀ o, o < s1.length → objAt σ2 o = objAt s1 o) (hL : ∀ q ∈ L', (q.1 ≠ p ∧ q ∈ L) ∨ q = (p, ob)) (hs : s1.length ≤ σ2.length) : ∃ os', Ep (σ2.set p (some ob)) (a ++ (rs ++ c)) (ta ++ (trs ++ tc)) os' L' := by
  obtain ⟨os', E2, _⟩ := E.renewM hla hlb h1 hl ho hn hf old
  have hpl := E.lt _ hp
  exact ⟨os', E2.reloc (E2.l _ hp).2 (by dsimp only at hpl; omega) hL⟩
theorem Ep.cut (E : Ep s (a ++ (b ++ c)) (ta ++ (tb ++ tc)) os L) (hla : a.length = ta.length) (hlb : b.length = tb.length) : ∃ os', Ep s (a ++ c) (ta ++ tc) os' L ∧ ∀ o ∈ os', o ∈ os := by
  obtain ⟨a1, a2, oa, obc, e, rfl, k1, k2⟩ := owL_split E.c.ow
  obtain ⟨rfl, rfl⟩ := List.append_inj e (by rw [hla]; exact k1.len.symm)
  obtain ⟨b1, b2, ob, oc, e, rfl, k3, k4⟩ := owL_split k2
  obtain ⟨rfl, rfl⟩ := List.append_inj e (by rw [hlb]; exact k3.len.symm)
  have nd := List.nodup_append.1 E.c.nd
  have nd2 := List.nodup_append.1 nd.2.1
  refine ⟨oa ++ oc, ⟨⟨owL_append k1 k4, ?_⟩, fun q hq => ⟨(E.l q hq).1, fun hm => (E.l q hq).2 ?_⟩⟩, fun o h => ?_⟩
  · rw [List.nodup_append]
    exact ⟨nd.1, nd2.2.1, fun x hx y hy e => nd.2.2 x hx y (List.mem_append_right _ hy) e⟩
  · rcases List.mem_append.1 hm with h | h <;> simp [h]
  · rcases List.mem_append.1 h with h | h <;> simp [h]
end
theorem owR_flat {σ : Store} {k : Nat} : ∀ {A T : List (List V)} {os : List Nat}, (∀ r ∈ A, r.length = k) → (∀ r ∈ T, r.length = k) → A.length = T.length → OwL σ A.flatten T.flatten os → OwR σ A T os
  | [], [], os, _, _, _, h => by
    simp only [List.flatten_nil, OwL] at h
    simp only [OwR]; exact h
  | [], t :: T, _, _, _, h, _ => by simp at h
  | a :: A, [], _, _, _, h, _ => by simp at h
  | a :: A, t :: T, os, ha, ht, hl, h => by
    simp only [List.flatten_cons] at h
    obtain ⟨v1, v2, o1, o2, e, rfl, h1, h2⟩ := owL_split h
    have hlen := h1.len
    have e1 := ha a (by simp)
    have e2 := ht t (by simp)
    obtain ⟨rfl, rfl⟩ := List.append_inj e (by omega)
    simp only [OwR]
    exact ⟨a, A, o1, o2, rfl, rfl, h1, owR_flat (fun r hr => ha r (by simp [hr])) (fun r hr => ht r (by simp [hr])) (by simpa using hl) h2⟩
section
variable {s : Store} {A T : List (List V)} {a c ta tc : List V} {os : List Nat} {L : List (Nat × Obj)} {n p k : Nat}
theorem Ep.close (E : Ep s (A.flatten ++ c) (T.flatten ++ tc) os L) (hp : (p, ⟨n, A⟩) ∈ L) (ha : ∀ r ∈ A, r.length = k) (ht : ∀ r ∈ T, r.length = k) (hl : A.length = T.length) :
    ∃ os', Ep s (.msl p 0 A.length :: c) (.sl n T :: tc) os' (L.filter fun q => q.1 != p) := by
  have hfl : A.flatten.length = T.flatten.length := by
    have e1 : ∀ (X : List (List V)), (∀ r ∈ X, r.length = k) → X.flatten.length = X.length * k := fun X => by
      induction X with
      | nil => intro _; simp
      | cons x X ih =>
        intro h
        rw [List.flatten_cons, List.length_append, ih fun r hr => h r (by simp [hr]), h x (by simp), List.length_cons, Nat.succ_mul]
        omega
    rw [e1 A ha, e1 T ht, hl]
  obtain ⟨v1, v2, o1, o2, e, rfl, h1, h2⟩ := owL_split E.c.ow
  obtain ⟨rfl, rfl⟩ := List.append_inj e (by rw [hfl]; exact h1.len.symm)
  have hR := owR_flat ha ht hl h1
  have hpo := E.l _ hp
  have nd := List.nodup_append.1 E.c.nd
  have hv : OwV s (.msl p 0 A.length) (.sl n T) (p :: o1) := by
    simp only [OwV]
    exact .inr ⟨p, A, o1, by rw [hl], hpo.1, rfl, hR⟩
  refine ⟨(p :: o1) ++ o2, ⟨⟨owL_v hv h2, ?_⟩, fun q hq => ?_⟩⟩
  · simp only [List.cons_append, List.nodup_cons]
    exact ⟨hpo.2, E.c.nd⟩
  · obtain ⟨hq1, hq2⟩ := List.mem_filter.1 hq
    have hne : q.1 ≠ p := by simpa using hq2
    refine ⟨(E.l q hq1).1, fun hm => ?_⟩
    simp only [List.cons_append, List.mem_cons] at hm
    rcases hm with hm | hm
    · exact hne hm
    · exact (E.l q hq1).2 hm
theorem Ep.listRes (E : Ep s (A.flatten ++ c) (T.flatten ++ tc) os L) (hp : (p, ⟨n, A⟩) ∈ L) (ha : ∀ r ∈ A, r.length = k) (ht : ∀ r ∈ T, r.length = k) (hl : A.length = T.length) (m : Nat) (hd : DepLe m (.sl n T)) : resolve s m (.msl p 0 A.length) = some (.sl n T) := by
  obtain ⟨os', E2⟩ := E.close hp ha ht hl
  obtain ⟨v, vs, o1, o2, e, _, h1, h2⟩ := E2.c.ow.inv
  simp only [List.cons.injEq] at e
  obtain ⟨rfl, rfl⟩ := e
  exact ow_res m h1 hd
end
end Go.Ml
end
section
set_option linter.unusedSimpArgs false
set_option linter.unusedVariables false
set_option maxRecDepth 100000
set_option maxHeartbeats 8000000
namespace Go.Ml
def Rd2 (s : Store) (v w : V) (X Y : List R) : Prop :=
  (X = [] ∧ Y = [] ∧ v = .nils ∧ w = .nils) ∨ ∃ p q, p ≠ q ∧ v = .msl p 0 X.length ∧ w = .msl q 0 Y.length ∧ objAt s p = some ⟨3, X.map R.cells⟩ ∧ objAt s q = some ⟨3, Y.map R.cells⟩
theorem Rd2.fr {s s2 : Store} {v w : V} {X Y : List R} (h : Rd2 s v w X Y) (hf : ∀ p, p < s.length → objAt s2 p = objAt s p) : Rd2 s2 v w X Y := by
  rcases h with h | ⟨p, q, h1, h2, h3, h4, h5⟩
  · exact .inl h
  · exact .inr ⟨p, q, h1, h2, h3, (hf p (objAt_lt h4)).trans h4, (hf q (objAt_lt h5)).trans h5⟩
end Go.Ml
end
section
set_option linter.unusedSimpArgs false
set_option linter.unusedVariables false
set_option maxRecDepth 100000
set_option maxHeartbeats 8000000
namespace Go.Ml
def zrow (x : Nat × List R) : List V := [.msl x.1 0 x.2.length]
def MatA (s : Store) (v : V) (Z : List (Nat × List R)) : Prop := ((Z = [] ∧ v = .nils) ∨ ∃ q, v = .msl q 0 Z.length ∧ objAt s q = some ⟨1, Z.map zrow⟩) ∧ ∀ x ∈ Z, objAt s x.1 = some ⟨3, x.2.map R.cells⟩
theorem MatA.fr {s s2 : Store} {v : V} {Z : List (Nat × List R)} (h : MatA s v Z) (hf : ∀ p, p < s.length → objAt s2 p = objAt s p) : MatA s2 v Z :=
  ⟨h.1.imp id fun ⟨q, e, hq⟩ => ⟨q, e, (hf q (objAt_lt hq)).trans hq⟩, fun x hx => (hf _ (objAt_lt (h.2 x hx))).trans (h.2 x hx)⟩
theorem MatA.map {s : Store} {m : Nat} : ∀ {Z : List (Nat × List R)}, (∀ x ∈ Z, objAt s x.1 = some ⟨3, x.2.map R.cells⟩) → ((Z.map zrow).mapM fun r => r.mapM (resolve s (m + 2))) = some ((Z.map (·.2)).map fun r => [ratsV r])
  | [], _ => rfl
  | x :: Z, h => by
    have hx := h x (by simp)
    have e : resolve s (m + 2) (.msl x.1 0 x.2.length) = some (ratsV x.2) := by
      have h2 := st_R x.2
      unfold resolve
      simp only [hx]
      rw [if_pos (by simp), List.drop_zero, List.take_of_length_le (by simp), mapM_stillR (n := m) h2]
      rfl
    have ih := MatA.map (m := m) (Z := Z) fun y hy => h y (by simp [hy])
    rw [List.map_cons, List.mapM_cons, ih]
    have : (zrow x).mapM (resolve s (m + 2)) = some [ratsV x.2] := by
      unfold zrow
      rw [List.mapM_cons, e]
      rfl
    rw [this]
    rfl
theorem MatA.res {s : Store} {q : Nat} {Z : List (Nat × List R)} (h : ∀ x ∈ Z, objAt s x.1 = some ⟨3, x.2.map R.cells⟩) (hq : objAt s q = some ⟨1, Z.map zrow⟩) : resolve s FD (.msl q 0 Z.length) = some (ratssV (Z.map (·.2))) := by
  show resolve s (9 + 2 + 1) _ = _
  unfold resolve
  simp only [hq]
  rw [if_pos (by simp), List.drop_zero, List.take_of_length_le (by simp), MatA.map h]
  rfl
def RowN (s : Store) (n0 : Nat) (v : V) (L : List R) : Prop := (L = [] ∧ v = .nils) ∨ ∃ p, v = .msl p 0 L.length ∧ n0 ≤ p ∧ objAt s p = some ⟨3, L.map R.cells⟩
theorem RowN.fr {s s2 : Store} {v : V} {n0 : Nat} {L : List R} (h : RowN s n0 v L) (hf : ∀ p, p < s.length → objAt s2 p = objAt s p) : RowN s2 n0 v L :=
  h.imp id fun ⟨q, e, hn, hq⟩ => ⟨q, e, hn, (hf q (objAt_lt hq)).trans hq⟩
end Go.Ml
end
section
set_option linter.unusedSimpArgs false
set_option linter.unusedVariables false
set_option maxRecDepth 100000
set_option maxHeartbeats 8000000
namespace Go.Ml
def F_spec_l11Max : Fn := ⟨2, 10, [.tmp 4], (.seq (.reg false 0 [oN 4 (.mov (cI 0))]) (.seq (.seq (.reg false 0 [oN 5 (oV 0), oN 6 (oV 1), oN 7 (.bin .gtr (.t 5) (.t 6))]) (.cond (.t 7) (.seq (.reg false 0 [oN 8 (oV 0), oN 4 (oV 8)]) .ret) .skip)) (.seq (.reg false 0 [oN 9 (oV 1), oN 4 (oV 9)]) .ret)))⟩
structure D_spec_l11Max (T : Nat → Option Fn) : Prop where
  hT : T 396 = some F_spec_l11Max
def F_spec_SolveNet : Fn := ⟨1, 60, [.tmp 2, .tmp 3], (.seq (.reg false 0 [oN 2 (.mov (.c (.nils))), oN 3 (.mov (.c (.bool false)))]) (.seq (.seq (.reg false 0 [oN 11 (oV 0), oN 12 (.call 305 [(.t 11)]), oN 13 (.un .not (.t 12))]) (.cond (.t 13) (.seq (.reg false 0 [oN 2 (.mov (.c (.nils))), oN 3 (.mov (.c (.bool false)))]) .ret) .skip)) (.seq (.reg false 0 [oN 4 (.mov (cI 0))]) (.seq (.seq (.reg false 0 [oN 14 (oV 0), oN 15 (.len (.t 14)), oN 16 (.mov (cI 0))]) (.block 0 (.loop (.seq (.reg false 0 [oN 17 (.bin .lss (.t 16) (.t 15))]) (.seq (.cond (.t 17) .skip (.exit 0)) (.seq (.block 1 (.seq (.reg false 1 [oK 18 1 (.idx 5 (.t 14) (.t 16)), oK 19 1 (.load 5 true (.t 18)), oN 6 (.alloc [.int .i64 0, .bool false, .nils, .nils, .nils]), ⟨none, none, 1, .store 5 (.t 6) (.t 19), []⟩]) (.reg false 0 [oN 20 (oV 4), oN 21 (.fld 0 (.t 6)), oN 22 (.load 1 false (.t 21)), oN 23 (.call 396 [(.t 20), (.t 22)]), oN 4 (oV 23)]))) (.reg false 0 [oN 24 (.bin .add (.t 16) (cI 1)), oN 16 (oV 24)]))))))) (.seq (.reg false 1 [oK 25 1 (oV 4), oK 26 1 (.bin .add (.t 25) (cI 1)), oN 27 (.make [.bool false, .nils, .nils, .bool false, .nils, .nils] 112 (.t 26)), oK 7 1 (oV 27)]) (.seq (.reg false 0 [oN 28 (oV 7), oN 29 (.call 36 [(cI 0)]), oN 30 (.call 36 [(cI 0)]), oN 31 (.build [.bool false, .nils, .nils, .bool false, .nils, .nils] [(0, 3, (.t 29)), (3, 3, (.t 30))]), oN 32 (.idx 6 (.t 28) (cI 0)), oS (.store 6 (.t 32) (.t 31))]) (.seq (.seq (.reg false 0 [oN 33 (oV 0), oN 34 (.len (.t 33)), oN 35 (.bin .sub (.t 34) (cI 1)), oN 8 (oV 35)]) (.block 2 (.loop (.seq (.seq (.reg false 0 [oN 36 (oV 8), oN 37 (.bin .geq (.t 36) (cI 0))]) (.cond (.t 37) .skip (.exit 2))) (.seq (.block 3 (.seq (.reg false 1 [oK 41 1 (oV 0), oK 42 1 (oV 8), oK 43 1 (.idx 5 (.t 41) (.t 42)), oK 44 1 (.load 5 true (.t 43)), oK 45 1 (oV 7), oK 46 1 (.call 366 [(.t 44), (.t 45)]), oK 40 1 (oV 46), oK 47 1 (.extr 0 (.t 40)), oK 48 1 (.extr 1 (.t 40)), oN 9 (.alloc [.bool false, .nils, .nils, .bool false, .nils, .nils]), ⟨none, none, 1, .store 6 (.t 9) (.t 47), []⟩, oK 10 1 (oV 48)]) (.seq (.seq (.reg false 0 [oN 49 (oV 10), oN 50 (.un .not (.t 49))]) (.cond (.t 50) (.seq (.reg false 0 [oN 2 (.mov (.c (.nils))), oN 3 (.mov (.c (.bool false)))]) .ret) .skip)) (.reg true 0 [oN 51 (oV 7), oN 52 (oV 0), oN 53 (oV 8), oA 54 0 (.idx 5 (.t 52) (.t 53)) [1, 2], oA 55 0 (.fld 0 (.t 54)) [3], oA 56 0 (.load 1 false (.t 55)) [4], oN 57 (.load 6 true (.t 9)), oA 58 0 (.idx 6 (.t 51) (.t 56)) [0, 5, 0, 1, 2, 3, 4, 5, 6], ⟨none, none, 0, .store 6 (.t 58) (.t 57), [7, 6, 0, 1, 2, 3, 4, 5, 6]⟩])))) (.reg false 0 [oN 38 (oV 8), oN 39 (.bin .sub (.t 38) (cI 1)), oN 8 (oV 39)])))))) (.seq (.reg false 0 [oN 59 (oV 7), oN 2 (oV 59), oN 3 (.mov (.c (.bool true)))]) .ret))))))))⟩
structure D_spec_SolveNet (T : Nat → Option Fn) : Prop where
  hT : T 384 = some F_spec_SolveNet
  d_spec_RatFromInt : D_spec_RatFromInt T
  d_spec_IsNet : D_spec_IsNet T
  d_spec_ApplyConditional : D_spec_ApplyConditional T
  d_spec_l11Max : D_spec_l11Max T
def F_impl_SolveNet : Fn := ⟨1, 58, [.tmp 2, .tmp 3], (.seq (.reg false 0 [oN 2 (.mov (.c (.nils))), oN 3 (.mov (.c (.bool false)))]) (.seq (.seq (.reg false 0 [oN 11 (oV 0), oN 12 (.call 273 [(.t 11)]), oN 13 (.un .not (.t 12))]) (.cond (.t 13) (.seq (.reg false 0 [oN 2 (.mov (.c (.nils))), oN 3 (.mov (.c (.bool false)))]) .ret) .skip)) (.seq (.reg false 0 [oN 4 (.mov (cI 0))]) (.seq (.seq (.reg false 0 [oN 14 (oV 0), oN 15 (.len (.t 14)), oN 16 (.mov (cI 0))]) (.block 0 (.loop (.seq (.reg false 0 [oN 17 (.bin .lss (.t 16) (.t 15))]) (.seq (.cond (.t 17) .skip (.exit 0)) (.seq (.block 1 (.seq (.reg false 1 [oK 18 1 (.idx 5 (.t 14) (.t 16)), oK 19 1 (.load 5 true (.t 18)), oN 6 (.alloc [.int .i64 0, .bool false, .nils, .nils, .nils]), ⟨none, none, 1, .store 5 (.t 6) (.t 19), []⟩]) (.reg false 0 [oN 20 (oV 4), oN 21 (.fld 0 (.t 6)), oN 22 (.load 1 false (.t 21)), oN 23 (.max (.t 20) (.t 22)), oN 4 (oV 23)]))) (.reg false 0 [oN 24 (.bin .add (.t 16) (cI 1)), oN 16 (oV 24)]))))))) (.seq (.reg false 1 [oK 25 1 (oV 4), oK 26 1 (.bin .add (.t 25) (cI 1)), oN 27 (.make [.bool false, .nils, .nils, .bool false, .nils, .nils] 112 (.t 26)), oK 7 1 (oV 27)]) (.seq (.reg false 0 [oN 28 (oV 7), oN 29 (.call 186 []), oN 30 (.idx 6 (.t 28) (cI 0)), oS (.store 6 (.t 30) (.t 29))]) (.seq (.seq (.reg false 0 [oN 31 (oV 0), oN 32 (.len (.t 31)), oN 33 (.bin .sub (.t 32) (cI 1)), oN 8 (oV 33)]) (.block 2 (.loop (.seq (.seq (.reg false 0 [oN 34 (oV 8), oN 35 (.bin .geq (.t 34) (cI 0))]) (.cond (.t 35) .skip (.exit 2))) (.seq (.block 3 (.seq (.reg false 1 [oK 39 1 (oV 0), oK 40 1 (oV 8), oK 41 1 (.idx 5 (.t 39) (.t 40)), oK 42 1 (.load 5 true (.t 41)), oK 43 1 (oV 7), oK 44 1 (.call 176 [(.t 42), (.t 43)]), oK 38 1 (oV 44), oK 45 1 (.extr 0 (.t 38)), oK 46 1 (.extr 1 (.t 38)), oN 9 (.alloc [.bool false, .nils, .nils, .bool false, .nils, .nils]), ⟨none, none, 1, .store 6 (.t 9) (.t 45), []⟩, oK 10 1 (oV 46)]) (.seq (.seq (.reg false 0 [oN 47 (oV 10), oN 48 (.un .not (.t 47))]) (.cond (.t 48) (.seq (.reg false 0 [oN 2 (.mov (.c (.nils))), oN 3 (.mov (.c (.bool false)))]) .ret) .skip)) (.reg true 0 [oN 49 (oV 7), oN 50 (oV 0), oN 51 (oV 8), oA 52 0 (.idx 5 (.t 50) (.t 51)) [1, 2], oA 53 0 (.fld 0 (.t 52)) [3], oA 54 0 (.load 1 false (.t 53)) [4], oN 55 (.load 6 true (.t 9)), oA 56 0 (.idx 6 (.t 49) (.t 54)) [0, 5, 0, 1, 2, 3, 4, 5, 6], ⟨none, none, 0, .store 6 (.t 56) (.t 55), [7, 6, 0, 1, 2, 3, 4, 5, 6]⟩])))) (.reg false 0 [oN 36 (oV 8), oN 37 (.bin .sub (.t 36) (cI 1)), oN 8 (oV 37)])))))) (.seq (.reg false 0 [oN 57 (oV 7), oN 2 (oV 57), oN 3 (.mov (.c (.bool true)))]) .ret))))))))⟩
structure D_impl_SolveNet (T : Nat → Option Fn) : Prop where
  hT : T 272 = some F_impl_SolveNet
  d_impl_ApplyConditional : D_impl_ApplyConditional T
  d_impl_zeroPoint : D_impl_zeroPoint T
  d_impl_IsNet : D_impl_IsNet T
def svC (l : List Cd) (k : Nat) : Cd := l.getD (l.length - 1 - k) default
def svM (l : List Cd) : Nat → Nat
  | 0 => 0
  | k + 1 => max (svM l k) (l.getD k default).node.toNat
def svP (m : Nat) : List Pt := (List.replicate (m + 1) ⟨R0, R0⟩).set 0 ⟨intR 0, intR 0⟩
def svA (l : List Cd) : Nat → List Pt
  | 0 => svP (svM l l.length)
  | k + 1 => (svA l k).set (svC l k).node.toNat (acV (svC l k) (svA l k))
noncomputable def svG (l : List Cd) : Bool := netOk l && (List.range l.length).all fun k => acOk (svC l k) (svA l k)
noncomputable def svV (l : List Cd) : List Pt := if svG l = true then svA l l.length else []
theorem svG_bad {l : List Cd} (h : svG l = false) : svV l = [] := by unfold svV; rw [h]; rfl
theorem svG_good {l : List Cd} (h : svG l = true) : svV l = svA l l.length := by unfold svV; rw [if_pos h]
theorem svG_net {l : List Cd} (h : netOk l = false) : svG l = false := by unfold svG; rw [h]; rfl
theorem svG_at {l : List Cd} {k : Nat} (hk : k < l.length) (h : acOk (svC l k) (svA l k) = false) : svG l = false := by
  unfold svG
  rw [List.all_eq_false.2 ⟨k, List.mem_range.2 hk, by rw [h]; simp⟩, Bool.and_false]
theorem svG_all {l : List Cd} (hn : netOk l = true) (h : ∀ k, k < l.length → acOk (svC l k) (svA l k) = true) : svG l = true := by
  unfold svG
  rw [hn, Bool.true_and, List.all_eq_true]
  intro k hk
  exact h k (List.mem_range.1 hk)
theorem netOk_node {l : List Cd} (h : netOk l = true) {i : Nat} (hi : i < l.length) : 1 ≤ (l.getD i default).node ∧ (l.getD i default).node ≤ 9 := by
  have h1 := (of_decide_eq_true h i hi).1
  unfold cdOk inB at h1
  simp only [Bool.and_eq_true, decide_eq_true_eq] at h1
  exact h1.1.1.1.2
theorem svM_le {l : List Cd} (h : netOk l = true) : ∀ k, k ≤ l.length → svM l k ≤ 9
  | 0, _ => Nat.zero_le _
  | k + 1, hk => by
    have := svM_le h k (by omega)
    have := netOk_node h (i := k) (by omega)
    unfold svM
    omega
theorem svM_ge {l : List Cd} : ∀ k, ∀ i, i < k → (l.getD i default).node.toNat ≤ svM l k
  | 0, i, hi => by omega
  | k + 1, i, hi => by
    unfold svM
    by_cases e : i = k
    · subst e; omega
    · have := svM_ge (l := l) k i (by omega)
      omega
theorem svA_len (l : List Cd) : ∀ k, (svA l k).length = svM l l.length + 1
  | 0 => by unfold svA svP; simp
  | k + 1 => by unfold svA; rw [List.length_set, svA_len l k]
theorem svA_cn (l : List Cd) : ∀ k, ∀ q ∈ svA l k, q.x.cn ∧ q.y.cn
  | 0, q, hq => by
    unfold svA svP at hq
    rcases List.mem_or_eq_of_mem_set hq with hq | rfl
    · rw [(List.mem_replicate.1 hq).2]; exact ⟨cn_0, cn_0⟩
    · exact ⟨intR_cn (by decide), intR_cn (by decide)⟩
  | k + 1, q, hq => by
    unfold svA at hq
    rcases List.mem_or_eq_of_mem_set hq with hq | rfl
    · exact svA_cn l k q hq
    · exact acV_cn _ _
theorem pts_wf {l : List Pt} (h : ∀ q ∈ l, q.x.cn ∧ q.y.cn) (hl : l.length ≤ 1048576) : wfL Pt.wf l := ⟨by omega, fun q hq => ⟨cn_wf (h q hq).1, cn_wf (h q hq).2⟩⟩
theorem svC_node {l : List Cd} (h : netOk l = true) {k : Nat} (hk : k < l.length) : 1 ≤ (svC l k).node ∧ (svC l k).node.toNat ≤ svM l l.length := by
  unfold svC
  exact ⟨(netOk_node h (by omega)).1, svM_ge l.length _ (by omega)⟩
theorem svV_ok (l : List Cd) : szL Pt.sz (svV l) ≤ 100000 ∧ wfL Pt.wf (svV l) := by
  cases h : svG l
  · rw [svG_bad h]; exact ⟨by simp [szL], by simp [wfL]⟩
  · rw [svG_good h]
    have hn : netOk l = true := by
      cases hn : netOk l
      · rw [svG_net hn] at h; cases h
      · rfl
    have hm := svM_le hn l.length (Nat.le_refl _)
    have hl := svA_len l l.length
    have hc := svA_cn l l.length
    refine ⟨?_, pts_wf hc (by omega)⟩
    have := szL_bd (f := Pt.sz) (k := 200) (l := svA l l.length) fun q hq => by
      have h1 := cn_len (hc q hq).1
      have h2 := cn_len (hc q hq).2
      unfold Pt.sz R.sz; omega
    omega
def ptz : List V := [.bool false, .nils, .nils, .bool false, .nils, .nils]
theorem ptz_can (W : Win) (σ : Store) : CanL W σ ptz (⟨R0, R0⟩ : Pt).cells := by
  simp only [ptz, CanL, CanV, Pt.cells]
  exact ⟨_, _, rfl, rfl, _, _, rfl, .inr ⟨1, rfl⟩, _, _, rfl, .inr ⟨1, rfl⟩, _, _, rfl, rfl, _, _, rfl, .inr ⟨1, rfl⟩, _, _, rfl, .inr ⟨1, rfl⟩, rfl⟩
theorem svP_eq (m : Nat) : (svP m).map Pt.cells = (⟨intR 0, intR 0⟩ : Pt).cells :: (List.replicate m (⟨R0, R0⟩ : Pt).cells) := by
  simp [svP, List.replicate_succ]
theorem svP_can2 {W : Win} {σ : Store} {m : Nat} {c c2 : List V} (hc : CanL W σ c c2) (i : Nat) (r r2 : List V) (h1 : (c :: List.replicate m ptz)[i]? = some r)
    (h2 : (c2 :: List.replicate m (⟨R0, R0⟩ : Pt).cells)[i]? = some r2) : CanL W σ r r2 := by
  cases i with
  | zero =>
    simp at h1 h2
    subst h1; subst h2
    exact hc
  | succ i =>
    simp [List.getElem?_replicate] at h1 h2
    obtain ⟨_, rfl⟩ := h1
    obtain ⟨_, rfl⟩ := h2
    exact ptz_can W σ
end Go.Ml
end
section
set_option linter.unusedSimpArgs false
set_option linter.unusedVariables false
set_option maxRecDepth 100000
set_option maxHeartbeats 8000000
namespace Go.Ml
theorem fin_Bi0 {σ : Store} : Fin σ (.agg [.bool false, .nils]) (biV ⟨false, []⟩) :=
  ⟨.agg [.bool false, .sl 1 []], [], by simp only [LaxV_agg, LaxL_c, LaxL_n, LaxV_bool, LaxV_nil, true_and, and_true], owV_agg (owL_bool (owL_v (o1 := []) owV_ints0 owL_nil)), .nil⟩
theorem fin_Bi {σ : Store} {o : Nat} {l : List Int} {b : Bool} (h : objAt σ o = some ⟨1, irows l⟩) : Fin σ (.agg [.bool b, .msl o 0 l.length]) (biV ⟨b, l⟩) :=
  fin_of (owV_agg (owL_bool (owL_v (owV_ints h) owL_nil))) (by simp)
theorem po_l03Make {T : Nat → Option Fn} (h : D_spec_l03Make T) {neg : Bool} {n : Nat} (hl : (mk n).length ≤ 60 := by first | omega | assumption | (simp; omega)) : PO T 66 [.bool neg, ints (mk n)] (biV (bi (sg neg n))) := by
  have ct := c_l02Cap h.d_spec_l02Cap (n := n) (by omega)
  by_cases n0 : n = 0
  · subst n0
    rw [mk_zero] at *
    rw [sg_zero, bi_zero]
    refine po_end2 (fun _ _ => false) h.hT rfl rfl ?_
    dsimp only [F_spec_l03Make, oN, oS, oG, oK, oA, oH, oV, cI, St.enter, List.length_cons, List.length_nil, Nat.zero_add]
    (refine ew ?_; try with_reducible exact True.intro)
    refine PFK_of ct ?_
    cases neg
    · (refine ew ?_; try with_reducible exact True.intro)
      exact ⟨fun _ => fin_Bi0, fun e => absurd rfl e⟩
    · (refine ew ?_; try with_reducible exact True.intro)
      exact ⟨fun _ => fin_Bi0, fun e => absurd rfl e⟩
  · have hp := ln_pos.2 (Nat.pos_of_ne_zero n0)
    have ne : irows (mk n) ≠ [] := by intro e; rw [← ir_len, e] at hp; simp at hp
    rw [bi_sg neg n (by omega)]
    refine po_end2 (fun _ _ => false) h.hT rfl rfl ?_
    dsimp only [F_spec_l03Make, oN, oS, oG, oK, oA, oH, oV, cI, St.enter, List.length_cons, List.length_nil, Nat.zero_add]
    (refine ew ?_; try with_reducible exact True.intro)
    refine PFK_of ct ?_
    cases neg
    · (refine ew1 @ne ?_; try with_reducible exact True.intro)
      exact ⟨by omega, fin_Bi rfl⟩
    · have c1 : (0 : Int) < ((mk n).length : Nat) := by omega
      (refine ew2 @ne @c1 ?_; try with_reducible exact True.intro)
      exact ⟨by omega, fin_Bi rfl⟩
theorem owL_bi {σ : Store} {cs : List V} {b : Bool} {t : V} {o : List Nat} (h : OwL σ cs [.bool b, t] o) : ∃ z, cs = [.bool b, z] ∧ OwV σ z t o := by
  simp only [OwL] at h
  obtain ⟨v, vs, o1, o2, rfl, rfl, h1, z, vs2, o3, o4, rfl, rfl, h2, rfl, rfl⟩ := h
  simp only [OwV] at h1
  obtain ⟨rfl, rfl⟩ := h1
  exact ⟨z, rfl, by simpa using h2⟩
theorem fin_low {q : Store} {o : List Nat} {z : V} {b : Bool} {X Y : List Int} {x : Obj} (hz : OwV q z (ints X) o) (fr : ∀ p ∈ o, 3 ≤ p) (lq : 3 ≤ q.length) (nd : o.Nodup) :
    Fin ((q.set 2 (some ⟨1, irows Y⟩)).set 0 (some x)) (.agg [.bool b, z, .msl 2 0 Y.length]) (ratV ⟨b, X, Y⟩) := by
  have h1 : OwV ((q.set 2 (some ⟨1, irows Y⟩)).set 0 (some x)) z (ints X) o := hz.frame fun p hp => by
    have := fr p hp
    rw [objAt_setne (by omega), objAt_setne (by omega)]
  have h2 : objAt ((q.set 2 (some ⟨1, irows Y⟩)).set 0 (some x)) 2 = some ⟨1, irows Y⟩ := by
    rw [objAt_setne (by omega)]
    exact objAt_seteq (by omega)
  refine fin_of (owV_rat h1 (owV_ints h2)) ?_
  rw [List.nodup_append]
  refine ⟨nd, by simp, fun a ha c hc e => ?_⟩
  have := fr a ha
  rw [List.mem_singleton.1 hc] at e
  omega
theorem po_l04Low {T : Nat → Option Fn} (h : D_spec_l04Low T) {neg : Bool} {m n : Nat} (la : (mk m).length ≤ 60 := by first | omega | assumption | (simp; omega)) (lb : (mk n).length ≤ 60 := by first | omega | assumption | (simp; omega)) :
    PO T 206 [.bool neg, ints (mk m), ints (mk n)] (ratV (Q.raw (mkQ (sg neg m) n))) := by
  have ct1 := c_l02Trim h.d_spec_l02Trim (l := mk m) (by omega)
  have ct2 := c_l02Trim h.d_spec_l02Trim (l := mk n) (by omega)
  rw [trim_can (can_mk m)] at ct1
  rw [trim_can (can_mk n)] at ct2
  by_cases hn : n = 0
  · subst hn
    have e : mkQ (sg neg m) ((0 : Nat) : Int) = none := rfl
    rw [e]
    have c1 : (((mk 0).length : Nat) : Int) = 0 := by rw [ln_zero]; rfl
    refine po_end2 (fun x d => x == 66) h.hT rfl rfl ?_
    dsimp only [F_spec_l04Low, oN, oS, oG, oK, oA, oH, oV, cI, St.enter, List.length_cons, List.length_nil, Nat.zero_add]
    (refine ew ?_; try with_reducible exact True.intro)
    refine PFK_of ct1 ?_
    (refine ew ?_; try with_reducible exact True.intro)
    refine PFK_of ct2 ?_
    (refine ew1 @c1 ?_; try with_reducible exact True.intro)
    exact fin_R0
  have hd : (n : Int) ≠ 0 := by omega
  rw [mkQ_raw hd]
  have hpos : ¬ ((n : Int) < 0) := by omega
  have e0 : (decide (sg neg m < 0) != decide ((n : Int) < 0)) = decide (sg neg m < 0) := by simp [hpos]
  rw [e0, sg_natAbs, Int.natAbs_natCast]
  have hg : 0 < Nat.gcd m n := Nat.gcd_pos_of_pos_right _ (by omega)
  have c1 : ¬ (((mk n).length : Nat) : Int) = 0 := by have := @ln_z n; omega
  have hz : m = 0 → m / Nat.gcd m n = 0 := fun e => by rw [e]; simp
  rw [bi_sgz neg m _ hz]
  have fin : ∀ (u v : Nat), u = m / Nat.gcd m n → v = n / Nat.gcd m n → (mk u).length ≤ 60 ∧ (mk v).length ≤ 60 := by
    intro u v hu hv
    have l1 := ln_div m (Nat.gcd m n)
    have l2 := ln_div n (Nat.gcd m n)
    rw [hu, hv]
    omega
  have co := c_l04One h.d_spec_l04One (n := n)
  have cg := c_l02Gcd h.d_spec_l02Gcd (m := m) (n := n) (by omega) (by omega)
  have lg : (mk (Nat.gcd m n)).length ≤ 60 := Nat.le_trans (ln_mono (Nat.le_of_dvd (by omega) (Nat.gcd_dvd_right _ _))) lb
  have co2 := c_l04One h.d_spec_l04One (n := Nat.gcd m n)
  have cd1 := c_l02Div h.d_spec_l02Div (m := m) hg (by omega) (by omega)
  have cd2 := c_l02Div h.d_spec_l02Div (m := n) hg (by omega) (by omega)
  obtain ⟨g, hgd⟩ : ∃ g, Nat.gcd m n = g := ⟨_, rfl⟩
  obtain ⟨u, hu⟩ : ∃ u, m / Nat.gcd m n = u := ⟨_, rfl⟩
  obtain ⟨v, hv⟩ : ∃ v, n / Nat.gcd m n = v := ⟨_, rfl⟩
  obtain ⟨lu, lv⟩ := fin u v hu.symm hv.symm
  have cm := po_l03Make h.d_spec_l03Make (neg := neg) (n := u) (by omega)
  have ecm : biV (bi (sg neg u)) = .agg [.bool (bi (sg neg u)).neg, ints (mk u)] := by
    show V.agg [.bool (bi (sg neg u)).neg, ints (mk (sg neg u).natAbs)] = _
    rw [sg_natAbs]
  rw [ecm] at cm
  have un : n = 1 → u = m ∧ v = n := by
    intro e; subst e; rw [Nat.gcd_one_right] at hu hv; simp at hu hv; omega
  have ug : g = 1 → u = m ∧ v = n := by
    intro e; rw [hgd, e] at hu hv; simp at hu hv; omega
  rw [hu, hv]
  rw [hgd] at cg co2
  rw [hu] at cd1
  rw [hv] at cd2
  rw [hgd] at cd1 cd2
  have v0 : v ≠ 0 := by
    rw [← hv]
    exact Nat.ne_of_gt (Nat.div_pos (Nat.le_of_dvd (by omega) (Nat.gcd_dvd_right _ _)) hg)
  have ne : irows (mk v) ≠ [] := by
    have hp := ln_pos.2 (Nat.pos_of_ne_zero v0)
    intro e; rw [← ir_len, e] at hp; simp at hp
  clear fin hz hg e0 hpos hd hgd hu hv
  by_cases n1 : n = 1
  · rw [show decide (n = 1) = true from decide_eq_true n1] at co
    obtain ⟨rfl, rfl⟩ := un n1
    refine po_end2 (fun x d => x == 66) h.hT rfl rfl ?_
    dsimp only [F_spec_l04Low, oN, oS, oG, oK, oA, oH, oV, cI, St.enter, List.length_cons, List.length_nil, Nat.zero_add]
    (refine ew ?_; try with_reducible exact True.intro)
    refine PFK_of ct1 ?_
    (refine ew ?_; try with_reducible exact True.intro)
    refine PFK_of ct2 ?_
    (refine ew1 @c1 ?_; try with_reducible exact True.intro)
    refine PFK_of co ?_
    (refine ew ?_; try with_reducible exact True.intro)
    by_cases k1 : (24 : Int) < ((mk u).length : Nat)
    · (refine ew1 @k1 ?_; try with_reducible exact True.intro)
      rw [if_neg (by omega)]
      exact fin_R0
    by_cases k2 : (24 : Int) < ((mk v).length : Nat)
    · (refine ew2 @k1 @k2 ?_; try with_reducible exact True.intro)
      rw [if_neg (by omega)]
      exact fin_R0
    (refine ew2 @k1 @k2 ?_; try with_reducible exact True.intro)
    refine RefK_got cm (by (refine ew ?_; try with_reducible exact True.intro)) ?_
    intro r q o G
    obtain ⟨cs, rfl, hQ⟩ := G.ow.agg_inv
    obtain ⟨z, rfl, hz⟩ := owL_bi hQ
    have B0 := G.old 0 (by simp)
    have lq : 3 ≤ q.length := G.len
    have fr : ∀ p ∈ o, 3 ≤ p := G.fresh
    have nd := G.nd
    have lz := hz.leaf rfl
    have fz := cells_lf lz
    clear G hQ
    (refine ew5 @B0 @lq @lz @fz @ne ?_; try with_reducible exact True.intro)
    rw [if_pos (by omega)]
    exact ⟨by omega, fin_low hz fr lq nd⟩
  rw [show decide (n = 1) = false from decide_eq_false n1] at co
  by_cases g1 : g = 1
  · rw [show decide (g = 1) = true from decide_eq_true g1] at co2
    obtain ⟨rfl, rfl⟩ := ug g1
    refine po_end2 (fun x d => x == 66) h.hT rfl rfl ?_
    dsimp only [F_spec_l04Low, oN, oS, oG, oK, oA, oH, oV, cI, St.enter, List.length_cons, List.length_nil, Nat.zero_add]
    (refine ew ?_; try with_reducible exact True.intro)
    refine PFK_of ct1 ?_
    (refine ew ?_; try with_reducible exact True.intro)
    refine PFK_of ct2 ?_
    (refine ew1 @c1 ?_; try with_reducible exact True.intro)
    refine PFK_of co ?_
    (refine ew ?_; try with_reducible exact True.intro)
    refine PFK_of cg ?_
    (refine ew ?_; try with_reducible exact True.intro)
    refine PFK_of co2 ?_
    (refine ew ?_; try with_reducible exact True.intro)
    by_cases k1 : (24 : Int) < ((mk u).length : Nat)
    · (refine ew1 @k1 ?_; try with_reducible exact True.intro)
      rw [if_neg (by omega)]
      exact fin_R0
    by_cases k2 : (24 : Int) < ((mk v).length : Nat)
    · (refine ew2 @k1 @k2 ?_; try with_reducible exact True.intro)
      rw [if_neg (by omega)]
      exact fin_R0
    (refine ew2 @k1 @k2 ?_; try with_reducible exact True.intro)
    refine RefK_got cm (by (refine ew ?_; try with_reducible exact True.intro)) ?_
    intro r q o G
    obtain ⟨cs, rfl, hQ⟩ := G.ow.agg_inv
    obtain ⟨z, rfl, hz⟩ := owL_bi hQ
    have B0 := G.old 0 (by simp)
    have lq : 3 ≤ q.length := G.len
    have fr : ∀ p ∈ o, 3 ≤ p := G.fresh
    have nd := G.nd
    have lz := hz.leaf rfl
    have fz := cells_lf lz
    clear G hQ
    (refine ew5 @B0 @lq @lz @fz @ne ?_; try with_reducible exact True.intro)
    rw [if_pos (by omega)]
    exact ⟨by omega, fin_low hz fr lq nd⟩
  rw [show decide (g = 1) = false from decide_eq_false g1] at co2
  refine po_end2 (fun x d => x == 66) h.hT rfl rfl ?_
  dsimp only [F_spec_l04Low, oN, oS, oG, oK, oA, oH, oV, cI, St.enter, List.length_cons, List.length_nil, Nat.zero_add]
  (refine ew ?_; try with_reducible exact True.intro)
  refine PFK_of ct1 ?_
  (refine ew ?_; try with_reducible exact True.intro)
  refine PFK_of ct2 ?_
  (refine ew1 @c1 ?_; try with_reducible exact True.intro)
  refine PFK_of co ?_
  (refine ew ?_; try with_reducible exact True.intro)
  refine PFK_of cg ?_
  (refine ew ?_; try with_reducible exact True.intro)
  refine PFK_of co2 ?_
  (refine ew ?_; try with_reducible exact True.intro)
  refine PFK_of cd1 ?_
  (refine ew ?_; try with_reducible exact True.intro)
  refine PFK_of cd2 ?_
  (refine ew ?_; try with_reducible exact True.intro)
  by_cases k1 : (24 : Int) < ((mk u).length : Nat)
  · (refine ew1 @k1 ?_; try with_reducible exact True.intro)
    rw [if_neg (by omega)]
    exact fin_R0
  by_cases k2 : (24 : Int) < ((mk v).length : Nat)
  · (refine ew2 @k1 @k2 ?_; try with_reducible exact True.intro)
    rw [if_neg (by omega)]
    exact fin_R0
  (refine ew2 @k1 @k2 ?_; try with_reducible exact True.intro)
  refine RefK_got cm (by (refine ew ?_; try with_reducible exact True.intro)) ?_
  intro r q o G
  obtain ⟨cs, rfl, hQ⟩ := G.ow.agg_inv
  obtain ⟨z, rfl, hz⟩ := owL_bi hQ
  have B0 := G.old 0 (by simp)
  have lq : 3 ≤ q.length := G.len
  have fr : ∀ p ∈ o, 3 ≤ p := G.fresh
  have nd := G.nd
  have lz := hz.leaf rfl
  have fz := cells_lf lz
  clear G hQ
  (refine ew5 @B0 @lq @lz @fz @ne ?_; try with_reducible exact True.intro)
  rw [if_pos (by omega)]
  exact ⟨by omega, fin_low hz fr lq nd⟩
end Go.Ml
end
section
set_option linter.unusedSimpArgs false
set_option linter.unusedVariables false
set_option maxRecDepth 100000
set_option maxHeartbeats 8000000
namespace Go.Ml
theorem fin_cs {q : Store} {o : List Nat} {cs ts : List V} {K : Nat} {n : Nat} {x : Option Obj} (hQ : OwL q cs ts o) (fr : ∀ p ∈ o, n ≤ p) (nd : o.Nodup) (hK : K < n) : Fin (q.set K x) (.agg cs) (.agg ts) :=
  fin_of (owV_agg (hQ.frame fun p hp => by
    have := fr p hp
    rw [objAt_setne (by omega)])) nd
theorem po_l04Add {T : Nat → Option Fn} (h : D_spec_l04Add T) {a b : Rat} (ha : Q.ok (some a)) (hb : Q.ok (some b)) : PO T 198 [ratV (Q.raw (some a)), ratV (Q.raw (some b))] (ratV (Q.raw (addQ (some a) (some b)))) := by
  obtain ⟨l1, l2⟩ := q_bd ha
  obtain ⟨l3, l4⟩ := q_bd hb
  have e : addQ (some a) (some b) = mkQ (a.num * b.den + b.num * a.den) (a.den * b.den) := (mkQ_add a b).symm
  rw [e, rawq, rawq]
  have o1 := c_l04One h.d_spec_l04One (n := a.den)
  have o2 := c_l04One h.d_spec_l04One (n := b.den)
  by_cases hd : a.den = 1 ∧ b.den = 1
  · have m1 : mk 1 = [1] := mk_one (by omega) (by omega)
    have c1 := c_l03Add h.d_spec_l03Add (x := a.num) (y := b.num) (by omega) (by omega)
    have t1 := ln_iadd a.num b.num
    have c2 := po_l04Low h.d_spec_l04Low (neg := decide (a.num + b.num < 0)) (m := (a.num + b.num).natAbs) (n := 1) (by omega) (by rw [m1]; simp)
    rw [sg_self, m1] at c2
    have e2 : mkQ (a.num * b.den + b.num * a.den) (a.den * b.den) = mkQ (a.num + b.num) ((1 : Nat) : Int) := by
      rw [hd.1, hd.2]; simp
    rw [e2]
    rw [show decide (a.den = 1) = true from decide_eq_true hd.1] at o1
    rw [show decide (b.den = 1) = true from decide_eq_true hd.2] at o2
    refine po_end2 (fun x d => x == 206) h.hT rfl rfl ?_
    dsimp only [F_spec_l04Add, oN, oS, oG, oK, oA, oH, oV, cI, St.enter, List.length_cons, List.length_nil, Nat.zero_add]
    (refine ew ?_; try with_reducible exact True.intro)
    refine PFK_of o1 ?_
    (refine ew ?_; try with_reducible exact True.intro)
    refine PFK_of o2 ?_
    (refine ew ?_; try with_reducible exact True.intro)
    refine PFK_of c1 ?_
    (refine ew ?_; try with_reducible exact True.intro)
    simp only [irow1]
    (refine ew ?_; try with_reducible exact True.intro)
    refine RefK_got c2 (by (refine ew ?_; try with_reducible exact True.intro)) ?_
    intro r0 q o G
    obtain ⟨cs, rfl, hQ⟩ := G.ow.agg_inv
    obtain ⟨z1, z2, rfl⟩ := hQ.rat
    have B := G.old 2 (by simp)
    have lq : 3 ≤ q.length := by have := G.len; simp at this; omega
    have fr : ∀ p ∈ o, 3 ≤ p := fun p hp => by have := G.fresh p hp; simp at this; omega
    have nd := G.nd
    have lz := OwL.leaf hQ rfl
    simp only [List.all_cons, List.all_nil, Bool.and_true, Bool.and_eq_true] at lz
    clear G
    (refine ew3 @B @lq @lz ?_; try with_reducible exact True.intro)
    exact fin_cs hQ fr nd (by omega)
  · have c1 := c_l02Mul h.d_spec_l02Mul (m := a.num.natAbs) (n := b.den) (by omega) (by omega)
    have c2 := c_l02Mul h.d_spec_l02Mul (m := b.num.natAbs) (n := a.den) (by omega) (by omega)
    have c3 := c_l02Mul h.d_spec_l02Mul (m := a.den) (n := b.den) (by omega) (by omega)
    have t1 := ln_mul a.num.natAbs b.den
    have t2 := ln_mul b.num.natAbs a.den
    have t3 := ln_mul a.den b.den
    have c4 := c_l03Make h.d_spec_l03Make (neg := decide (a.num < 0)) (n := a.num.natAbs * b.den) (by omega)
    have c5 := c_l03Make h.d_spec_l03Make (neg := decide (b.num < 0)) (n := b.num.natAbs * a.den) (by omega)
    have e4 : ∀ (x : Int) (n : Nat), sg (decide (x < 0)) (x.natAbs * n) = x * n := by
      intro x n
      have := sg_mul x n
      rw [show decide ((n : Int) < 0) = false from decide_eq_false (by omega), Bool.bne_false, Int.natAbs_natCast] at this
      exact this
    rw [e4] at c4 c5
    have t4 : (mk (a.num * b.den).natAbs).length ≤ 48 := by rw [Int.natAbs_mul, Int.natAbs_natCast]; omega
    have t5 : (mk (b.num * a.den).natAbs).length ≤ 48 := by rw [Int.natAbs_mul, Int.natAbs_natCast]; omega
    have c6 := c_l03Add h.d_spec_l03Add (x := a.num * b.den) (y := b.num * a.den) (by omega) (by omega)
    have t6 := ln_iadd (a.num * b.den) (b.num * a.den)
    have c7 := po_l04Low h.d_spec_l04Low (neg := decide (a.num * b.den + b.num * a.den < 0)) (m := (a.num * b.den + b.num * a.den).natAbs) (n := a.den * b.den) (by omega) (by omega)
    rw [sg_self, Int.natCast_mul] at c7
    clear t1 t2 t3 t4 t5 t6 e4 e l1 l2 l3 l4
    have fin : ∀ {P : Prop}, (a.den = 1 → ¬ b.den = 1 → P) → (¬ a.den = 1 → P) → P := by
      intro P p1 p2
      by_cases k : a.den = 1
      · exact p1 k fun k2 => hd ⟨k, k2⟩
      · exact p2 k
    refine fin (fun k1 k2 => ?_) (fun k1 => ?_)
    · rw [show decide (a.den = 1) = true from decide_eq_true k1] at o1
      rw [show decide (b.den = 1) = false from decide_eq_false k2] at o2
      refine po_end2 (fun x d => x == 206) h.hT rfl rfl ?_
      dsimp only [F_spec_l04Add, oN, oS, oG, oK, oA, oH, oV, cI, St.enter, List.length_cons, List.length_nil, Nat.zero_add]
      (refine ew ?_; try with_reducible exact True.intro)
      refine PFK_of o1 ?_
      (refine ew ?_; try with_reducible exact True.intro)
      refine PFK_of o2 ?_
      (refine ew ?_; try with_reducible exact True.intro)
      refine PFK_of c1 ?_
      (refine ew ?_; try with_reducible exact True.intro)
      refine PFK_of c4 ?_
      (refine ew ?_; try with_reducible exact True.intro)
      refine ⟨by unfold OkA; decide +kernel, ?_⟩
      refine PFK_of c2 ?_
      (refine ew ?_; try with_reducible exact True.intro)
      refine PFK_of c5 ?_
      (refine ew ?_; try with_reducible exact True.intro)
      refine ⟨by unfold OkA; decide +kernel, ?_⟩
      refine PFK_of c6 ?_
      (refine ew ?_; try with_reducible exact True.intro)
      refine PFK_of c3 ?_
      (refine ew ?_; try with_reducible exact True.intro)
      refine OwnK_got0 c7 (by (refine ew ?_; try with_reducible exact True.intro)) (by (refine ew ?_; try with_reducible exact True.intro)) ?_
      intro r0 q o G
      obtain ⟨cs, rfl, hQ⟩ := G.ow.agg_inv
      obtain ⟨z1, z2, rfl⟩ := hQ.rat
      have B := G.old 2 (by simp)
      have lq : 3 ≤ q.length := by have := G.len; simp at this; omega
      have fr : ∀ p ∈ o, 3 ≤ p := fun p hp => by have := G.fresh p hp; simp at this; omega
      have nd := G.nd
      have lz := OwL.leaf hQ rfl
      simp only [List.all_cons, List.all_nil, Bool.and_true, Bool.and_eq_true] at lz
      clear G
      (refine ew3 @B @lq @lz ?_; try with_reducible exact True.intro)
      exact ⟨by unfold OkA; rfl, fin_cs hQ fr nd (by omega)⟩
    · rw [show decide (a.den = 1) = false from decide_eq_false k1] at o1
      refine po_end2 (fun x d => x == 206) h.hT rfl rfl ?_
      dsimp only [F_spec_l04Add, oN, oS, oG, oK, oA, oH, oV, cI, St.enter, List.length_cons, List.length_nil, Nat.zero_add]
      (refine ew ?_; try with_reducible exact True.intro)
      refine PFK_of o1 ?_
      (refine ew ?_; try with_reducible exact True.intro)
      refine PFK_of c1 ?_
      (refine ew ?_; try with_reducible exact True.intro)
      refine PFK_of c4 ?_
      (refine ew ?_; try with_reducible exact True.intro)
      refine ⟨by unfold OkA; decide +kernel, ?_⟩
      refine PFK_of c2 ?_
      (refine ew ?_; try with_reducible exact True.intro)
      refine PFK_of c5 ?_
      (refine ew ?_; try with_reducible exact True.intro)
      refine ⟨by unfold OkA; decide +kernel, ?_⟩
      refine PFK_of c6 ?_
      (refine ew ?_; try with_reducible exact True.intro)
      refine PFK_of c3 ?_
      (refine ew ?_; try with_reducible exact True.intro)
      refine OwnK_got0 c7 (by (refine ew ?_; try with_reducible exact True.intro)) (by (refine ew ?_; try with_reducible exact True.intro)) ?_
      intro r0 q o G
      obtain ⟨cs, rfl, hQ⟩ := G.ow.agg_inv
      obtain ⟨z1, z2, rfl⟩ := hQ.rat
      have B := G.old 2 (by simp)
      have lq : 3 ≤ q.length := by have := G.len; simp at this; omega
      have fr : ∀ p ∈ o, 3 ≤ p := fun p hp => by have := G.fresh p hp; simp at this; omega
      have nd := G.nd
      have lz := OwL.leaf hQ rfl
      simp only [List.all_cons, List.all_nil, Bool.and_true, Bool.and_eq_true] at lz
      clear G
      (refine ew3 @B @lq @lz ?_; try with_reducible exact True.intro)
      exact ⟨by unfold OkA; rfl, fin_cs hQ fr nd (by omega)⟩
theorem po_sRatAdd {T : Nat → Option Fn} (h : D_spec_RatAdd T) {r s : R} (hr : r.wf := by first | omega | assumption | (simp; omega)) (hs : s.wf := by first | omega | assumption | (simp; omega)) : PO T 189 [ratV r, ratV s] (ratV (addR r s)) := by
  have o1 := c_sRatOk h.d_spec_RatOk hr
  have o2 := c_sRatOk h.d_spec_RatOk hs
  cases hro : r.ok
  · have e : addR r s = R0 := by unfold addR; rw [nok_iff.1 hro]; rfl
    rw [e]; rw [hro] at o1
    refine po_end2 (fun x d => x == 198) h.hT rfl rfl ?_
    dsimp only [F_spec_RatAdd, oN, oS, oG, oK, oA, oH, oV, cI, St.enter, List.length_cons, List.length_nil, Nat.zero_add]
    (refine ew ?_; try with_reducible exact True.intro)
    refine PFK_of o1 ?_
    (refine ew ?_; try with_reducible exact True.intro)
    exact fin_R0
  cases hso : s.ok
  · have e : addR r s = R0 := by unfold addR; rw [nok_iff.1 hso, addQ_none_r]; rfl
    rw [e]; rw [hro] at o1; rw [hso] at o2
    refine po_end2 (fun x d => x == 198) h.hT rfl rfl ?_
    dsimp only [F_spec_RatAdd, oN, oS, oG, oK, oA, oH, oV, cI, St.enter, List.length_cons, List.length_nil, Nat.zero_add]
    (refine ew ?_; try with_reducible exact True.intro)
    refine PFK_of o1 ?_
    (refine ew ?_; try with_reducible exact True.intro)
    refine PFK_of o2 ?_
    (refine ew ?_; try with_reducible exact True.intro)
    exact fin_R0
  rw [hro] at o1; rw [hso] at o2
  obtain ⟨a, ha, rfl⟩ := ok_raw hro
  obtain ⟨b, hb, rfl⟩ := ok_raw hso
  have e : addR (Q.raw (some a)) (Q.raw (some b)) = Q.raw (addQ (some a) (some b)) := by unfold addR; rw [q_raw (q := some a) ha, q_raw (q := some b) hb]
  have c := po_l04Add h.d_spec_l04Add (a := a) (b := b) ha hb
  rw [e]
  refine po_end2 (fun x d => x == 198) h.hT rfl rfl ?_
  dsimp only [F_spec_RatAdd, oN, oS, oG, oK, oA, oH, oV, cI, St.enter, List.length_cons, List.length_nil, Nat.zero_add]
  (refine ew ?_; try with_reducible exact True.intro)
  refine PFK_of o1 ?_
  (refine ew ?_; try with_reducible exact True.intro)
  refine PFK_of o2 ?_
  (refine ew ?_; try with_reducible exact True.intro)
  refine RefK_got c (by (refine ew ?_; try with_reducible exact True.intro)) ?_
  intro r0 q o G
  obtain ⟨cs, rfl, hQ⟩ := G.ow.agg_inv
  obtain ⟨z1, z2, rfl⟩ := hQ.rat
  have B := G.old 2 (by simp)
  have lq : 3 ≤ q.length := by have := G.len; simp at this; omega
  have fr : ∀ p ∈ o, 3 ≤ p := fun p hp => by have := G.fresh p hp; simp at this; omega
  have nd := G.nd
  have lz := OwL.leaf hQ rfl
  simp only [List.all_cons, List.all_nil, Bool.and_true, Bool.and_eq_true] at lz
  clear G
  (refine ew3 @B @lq @lz ?_; try with_reducible exact True.intro)
  exact fin_cs hQ fr nd (by omega)
theorem po_sBigIntOf {T : Nat → Option Fn} (h : D_spec_BigIntOf T) {n : Int} (hn : -1000000000000000000 < n ∧ n < 1000000000000000000 := by first | omega | assumption | (simp; omega)) : PO T 53 [iv n] (biV (bi n)) := by
  have hl : (mk n.natAbs).length ≤ 2 := ln_small (by omega)
  by_cases hneg : n < 0
  · have c1 := c_NatOf h.d_spec_NatOf (n := -n) (by omega)
    have c2 := po_l03Make h.d_spec_l03Make (neg := true) (n := n.natAbs) (by omega)
    rw [show (-n).toNat = n.natAbs by omega] at c1
    rw [show sg true n.natAbs = n by simp only [sg, if_true]; omega] at c2
    have c0 : ¬ n = -9223372036854775808 := by omega
    refine po_end2 (fun x d => x == 66) h.hT rfl rfl ?_
    dsimp only [F_spec_BigIntOf, oN, oS, oG, oK, oA, oH, oV, cI, St.enter, List.length_cons, List.length_nil, Nat.zero_add]
    (refine ew ?_; try with_reducible exact True.intro)
    (refine ew2 @c0 @hneg ?_; try with_reducible exact True.intro)
    rw [show (0 : Int) - n = -n by omega]
    refine PFK_of c1 ?_
    (refine ew ?_; try with_reducible exact True.intro)
    refine RefK_got c2 (by (refine ew ?_; try with_reducible exact True.intro)) ?_
    intro r0 q o G
    obtain ⟨cs, rfl, hQ⟩ := G.ow.agg_inv
    obtain ⟨z1, rfl, _⟩ := owL_bi hQ
    have B := G.old 0 (by simp)
    have lq : 1 ≤ q.length := by have := G.len; simp at this; omega
    have fr : ∀ p ∈ o, 1 ≤ p := fun p hp => by have := G.fresh p hp; simp at this; omega
    have nd := G.nd
    have lz := OwL.leaf hQ rfl
    simp only [List.all_cons, List.all_nil, Bool.and_true, Bool.and_eq_true] at lz
    clear G
    (refine ew3 @B @lq @lz ?_; try with_reducible exact True.intro)
    exact fin_cs hQ fr nd (by omega)
  · have c1 := c_NatOf h.d_spec_NatOf (n := n) (by omega)
    have c2 := po_l03Make h.d_spec_l03Make (neg := false) (n := n.natAbs) (by omega)
    rw [show n.toNat = n.natAbs by omega] at c1
    rw [show sg false n.natAbs = n by simp only [sg, Bool.false_eq_true, if_false]; omega] at c2
    have c0 : ¬ n = -9223372036854775808 := by omega
    refine po_end2 (fun x d => x == 66) h.hT rfl rfl ?_
    dsimp only [F_spec_BigIntOf, oN, oS, oG, oK, oA, oH, oV, cI, St.enter, List.length_cons, List.length_nil, Nat.zero_add]
    (refine ew ?_; try with_reducible exact True.intro)
    (refine ew2 @c0 @hneg ?_; try with_reducible exact True.intro)
    refine PFK_of c1 ?_
    (refine ew ?_; try with_reducible exact True.intro)
    refine RefK_got c2 (by (refine ew ?_; try with_reducible exact True.intro)) ?_
    intro r0 q o G
    obtain ⟨cs, rfl, hQ⟩ := G.ow.agg_inv
    obtain ⟨z1, rfl, _⟩ := owL_bi hQ
    have B := G.old 0 (by simp)
    have lq : 1 ≤ q.length := by have := G.len; simp at this; omega
    have fr : ∀ p ∈ o, 1 ≤ p := fun p hp => by have := G.fresh p hp; simp at this; omega
    have nd := G.nd
    have lz := OwL.leaf hQ rfl
    simp only [List.all_cons, List.all_nil, Bool.and_true, Bool.and_eq_true] at lz
    clear G
    (refine ew3 @B @lq @lz ?_; try with_reducible exact True.intro)
    exact fin_cs hQ fr nd (by omega)
theorem fin_low1 {q : Store} {o : List Nat} {z : V} {b : Bool} {X : List Int} {x : Obj} (hz : OwV q z (ints X) o) (fr : ∀ p ∈ o, 2 ≤ p) (lq : 2 ≤ q.length) (nd : o.Nodup) :
    Fin ((q.set 1 (some ⟨1, [[.int .i64 1]]⟩)).set 0 (some x)) (.agg [.bool b, z, .msl 1 0 1]) (ratV ⟨b, X, [1]⟩) := by
  have h1 : OwV ((q.set 1 (some ⟨1, [[.int .i64 1]]⟩)).set 0 (some x)) z (ints X) o := hz.frame fun p hp => by
    have := fr p hp
    rw [objAt_setne (by omega), objAt_setne (by omega)]
  have h2 : objAt ((q.set 1 (some ⟨1, [[.int .i64 1]]⟩)).set 0 (some x)) 1 = some ⟨1, irows [1]⟩ := by
    rw [objAt_setne (by omega)]
    exact objAt_seteq (by omega)
  refine fin_of (owV_rat h1 (owV_ints h2)) ?_
  rw [List.nodup_append]
  refine ⟨nd, by simp, fun a ha c hc e => ?_⟩
  have := fr a ha
  rw [List.mem_singleton.1 hc] at e
  omega
theorem po_sRatFromInt {T : Nat → Option Fn} (h : D_spec_RatFromInt T) {n : Int} (hn : -1000000000000000000 < n ∧ n < 1000000000000000000 := by first | omega | assumption | (simp; omega)) : PO T 36 [iv n] (ratV (intR n)) := by
  have c := po_sBigIntOf h.d_spec_BigIntOf hn
  rw [intR_raw]
  refine po_end2 (fun x d => x == 53) h.hT rfl rfl ?_
  dsimp only [F_spec_RatFromInt, oN, oS, oG, oK, oA, oH, oV, cI, St.enter, List.length_cons, List.length_nil, Nat.zero_add]
  (refine ew ?_; try with_reducible exact True.intro)
  refine RefK_got c (by (refine ew ?_; try with_reducible exact True.intro)) ?_
  intro r0 q o G
  obtain ⟨cs, rfl, hQ⟩ := G.ow.agg_inv
  obtain ⟨z1, rfl, hz⟩ := owL_bi hQ
  have B := G.old 0 (by simp)
  have lq : 2 ≤ q.length := by have := G.len; simp at this; omega
  have fr : ∀ p ∈ o, 2 ≤ p := fun p hp => by have := G.fresh p hp; simp at this; omega
  have nd := G.nd
  have lz := OwL.leaf hQ rfl
  simp only [List.all_cons, List.all_nil, Bool.and_true, Bool.and_eq_true] at lz
  clear G
  (refine ew3 @B @lq @lz ?_; try with_reducible exact True.intro)
  exact fin_low1 hz fr lq nd
end Go.Ml
end
section
set_option linter.unusedSimpArgs false
set_option linter.unusedVariables false
set_option maxRecDepth 100000
set_option maxHeartbeats 8000000
namespace Go.Ml
theorem po_sApplyConditional {T : Nat → Option Fn} (h : D_spec_ApplyConditional T) {c : Cd} {at' : List Pt} (hw : c.wf := by first | omega | assumption | (simp; omega)) (hp : wfL Pt.wf at' := by first | omega | assumption | (simp; omega)) (hl : c.ps.length ≤ 1048576 := by first | omega | assumption | (simp; omega)) (hl2 : at'.length ≤ 1048576 := by first | omega | assumption | (simp; omega)) : PO T 366 [cdV c, ptsV at'] (.tup [ptV (acV c at'), .bool (acOk c at')]) := by
  have ci := c_sIsValidConditional h.d_spec_IsValidConditional hw
  cases hb : cdOk c
  · rw [hb] at ci
    have e1 : acOk c at' = false := by unfold acOk; rw [hb]; rfl
    rw [ac_bad e1, e1]
    refine po_end2 (fun x d => (x == 36 && d == 13) || (x == 36 && d == 14) || (x == 189 && d == 43) || (x == 189 && d == 59)) h.hT rfl rfl ?_
    dsimp only [F_spec_ApplyConditional, oN, oS, oG, oK, oA, oH, oV, cI, St.enter, List.length_cons, List.length_nil, Nat.zero_add]
    (refine ew ?_; try with_reducible exact True.intro)
    refine PFK_of ci ?_
    (refine ew ?_; try with_reducible exact True.intro)
    exact finP0.tup1
  rw [hb] at ci
  have bad : ∀ k, k < c.ps.length → ¬ (c.ps.getD k default).node < at'.length → ∀ σ, Fin σ (.tup [.agg [.bool false, .nils, .nils, .bool false, .nils, .nils], .bool false]) (.tup [ptV (acV c at'), .bool (acOk c at')]) := fun k hk h σ => by
    have e1 : acOk c at' = false := by unfold acOk; rw [acG_bad hk h, hb]; rfl
    rw [ac_bad e1, e1]
    exact finP0.tup1
  have hpa := fun k hk => cdOk_pa hb (k := k) hk
  refine po_end2 (fun x d => (x == 36 && d == 13) || (x == 36 && d == 14) || (x == 189 && d == 43) || (x == 189 && d == 59)) h.hT rfl rfl ?_
  dsimp only [F_spec_ApplyConditional, oN, oS, oG, oK, oA, oH, oV, cI, St.enter, List.length_cons, List.length_nil, Nat.zero_add]
  (refine ew ?_; try with_reducible exact True.intro)
  refine PFK_of ci ?_
  (refine ew ?_; try with_reducible exact True.intro)
  refine RefK_got (po_sRatFromInt h.d_spec_RatFromInt (n := 0)) (by (refine ew ?_; try with_reducible exact True.intro)) ?_
  intro r q0 o1 G
  have gl0 : 3 ≤ q0.length := by simpa using G.len
  obtain ⟨_, rfl, hQ1⟩ := G.ow.agg_inv
  obtain ⟨x1, x2, rfl⟩ := hQ1.rat
  have E : Ep [some ⟨5, [c.cells]⟩, some ⟨6, [[.bool false, .nils, .nils, .bool false, .nils, .nils]]⟩] [] [] [] [(0, ⟨5, [c.cells]⟩), (1, ⟨6, [[.bool false, .nils, .nils, .bool false, .nils, .nils]]⟩)] := ⟨cs_nil, by simp [objAt]⟩
  have E1 := E.got (s1 := [some ⟨5, [c.cells]⟩, some ⟨6, [[.bool false, .nils, .nils, .bool false, .nils, .nils]]⟩] ++ [none]) (fun q hq => objAt_app_lt hq) (by simp) hQ1 G.nd G.fresh G.old
  have F1 := E.free (s1 := [some ⟨5, [c.cells]⟩, some ⟨6, [[.bool false, .nils, .nils, .bool false, .nils, .nils]]⟩] ++ [none]) (p := 2) G.fresh (by simp) (by simp)
  clear E G
  have L0 := E1.at0 (p := 0) (ob := ⟨5, [c.cells]⟩) (by simp)
  (refine ew1 @L0 ?_; try with_reducible exact True.intro)
  clear L0
  refine RefK_got (po_sRatFromInt h.d_spec_RatFromInt (n := 0)) (by (refine ew ?_; try with_reducible exact True.intro)) ?_
  intro r q1 o2 G
  have gl : 3 ≤ q1.length := Nat.le_trans gl0 G.len
  obtain ⟨_, rfl, hQ2⟩ := G.ow.agg_inv
  obtain ⟨x3, x4, rfl⟩ := hQ2.rat
  have E2 := E1.got (fun q hq => rfl) (Nat.le_refl _) hQ2 G.nd G.fresh G.old
  have F0 : 2 ∉ ([] ++ o1) ++ o2 := fun hm => by
    rcases List.mem_append.1 hm with hm | hm
    · exact F1 hm
    · have := G.fresh 2 hm; omega
  clear E1 G F1
  have E : Ep q1 [.bool (intR 0).neg, x1, x2, .bool (intR 0).neg, x3, x4] [.bool (intR 0).neg, ints (intR 0).mag, ints (intR 0).den, .bool (intR 0).neg, ints (intR 0).mag, ints (intR 0).den] _ [(0, ⟨5, [c.cells]⟩), (1, ⟨6, [[.bool false, .nils, .nils, .bool false, .nils, .nils]]⟩)] := E2
  clear E2
  replace E := E.reloc (p := 2) (ob := ⟨6, [[.bool (intR 0).neg, x1, x2, .bool (intR 0).neg, x3, x4]]⟩) (L' := [(0, ⟨5, [c.cells]⟩), (1, ⟨6, [[.bool false, .nils, .nils, .bool false, .nils, .nils]]⟩), (2, ⟨6, [[.bool (intR 0).neg, x1, x2, .bool (intR 0).neg, x3, x4]]⟩)]) F0 (by omega) (by simp)
  have LF := And.intro (And.intro (E.leaf 1 rfl rfl) (E.leaf 2 rfl rfl)) (And.intro (E.leaf 4 rfl rfl) (E.leaf 5 rfl rfl))
  have L0 := E.at0 (p := 0) (ob := ⟨5, [c.cells]⟩) (by simp)
  have hqe : objAt q1 0 = some ⟨5, [c.cells]⟩ := by have := L0.1; rwa [objAt_setne (by omega)] at this
  (refine ew4 @LF @List.set_set.{0} @hqe @gl ?_; try with_reducible exact True.intro)
  clear LF L0 hqe
  refine loop_at (fun x d => (x == 36 && d == 13) || (x == 36 && d == 14) || (x == 189 && d == 43) || (x == 189 && d == 59)) (α := Nat × Store × V × V × V × V × List Nat) (fun q => ⟨argE [.any, ptsV at', .any, .any, .ptr 1 0 0, .any, .ptr 2 0 0, .any, .any, .any, .any, .any, .any, .any, .any, .any, .any, pasV c.ps, iv (c.ps.length : Nat), iv (q.1 : Nat)], q.2.1, 0, 0, [], []⟩) (fun q => (q.1 ≤ c.ps.length ∧ ∀ k, k < q.1 → (c.ps.getD k default).node < at'.length) ∧ Ep q.2.1 [.bool (acX c at' q.1).neg, q.2.2.1, q.2.2.2.1, .bool (acY c at' q.1).neg, q.2.2.2.2.1, q.2.2.2.2.2.1] [.bool (acX c at' q.1).neg, ints (acX c at' q.1).mag, ints (acX c at' q.1).den, .bool (acY c at' q.1).neg, ints (acY c at' q.1).mag, ints (acY c at' q.1).den] q.2.2.2.2.2.2 [(0, ⟨5, [c.cells]⟩), (1, ⟨6, [[.bool false, .nils, .nils, .bool false, .nils, .nils]]⟩), (2, ⟨6, [[.bool (acX c at' q.1).neg, q.2.2.1, q.2.2.2.1, .bool (acY c at' q.1).neg, q.2.2.2.2.1, q.2.2.2.2.2.1]]⟩)]) (fun q => c.ps.length - q.1) rfl (0, (q1.set 2 (some ⟨6, [[.bool (intR 0).neg, x1, x2, .bool (intR 0).neg, x3, x4]]⟩)), x1, x2, x3, x4, ([] ++ o1) ++ o2) ?_ ?_ ?_
  · exact ⟨⟨by omega, by intro k hk; omega⟩, E⟩
  · (refine Fg_env ?_) <;> (try (refine ew ?_; try with_reducible exact True.intro)) <;> (repeat' (first | refine ⟨?_, ?_⟩ | exact EvV_int (by omega) | exact EvV_of (by simp) | exact EvV_nil _))
  · clear E
    rintro ⟨i, s, x1, x2, x3, x4, os⟩ ⟨⟨hi, hg⟩, E⟩
    dsimp only at hi hg E
    have ex : acX c at' (i + 1) = addR (acX c at' i) (acT (c.ps.getD i default) (at'.getD (c.ps.getD i default).node.toNat default).x (c.ps.getD i default).dx) := rfl
    have ey : acY c at' (i + 1) = addR (acY c at' i) (acT (c.ps.getD i default) (at'.getD (c.ps.getD i default).node.toNat default).y (c.ps.getD i default).dy) := rfl
    have hxc := acX_cn c at' i
    have hyc := acY_cn c at' i
    have hbad := bad i
    have hpa := hpa i
    have hfx : i = c.ps.length → acX c at' c.ps.length = acX c at' i := fun e => by rw [e]
    have hfy : i = c.ps.length → acY c at' c.ps.length = acY c at' i := fun e => by rw [e]
    generalize hX : acX c at' i = X at ex hxc hfx E
    generalize hY : acY c at' i = Y at ey hyc hfy E
    have L1 := E.at0 (p := 1) (ob := ⟨6, [[.bool false, .nils, .nils, .bool false, .nils, .nils]]⟩) (by simp)
    have L2 := E.at0 (p := 2) (ob := ⟨6, [[.bool X.neg, x1, x2, .bool Y.neg, x3, x4]]⟩) (by simp)
    by_cases hc : (i : Int) < (c.ps.length : Nat)
    · have hil : i < c.ps.length := by omega
      have hxw := wfL_at hw.2 hil
      have hbad := hbad hil
      obtain ⟨hp0, hp1⟩ := hpa hil
      have hgs : (c.ps.getD i default).node < at'.length → ∀ k, k < i + 1 → (c.ps.getD k default).node < at'.length := fun h k hk => by
        by_cases e : k = i
        · subst e; exact h
        · exact hg k (by omega)
      have hmx : (c.ps.map Pa.cells).getD i [] = (c.ps.getD i default).cells := mg hil
      generalize c.ps.getD i default = p at ex ey hbad hxw hgs hp0 hp1 hmx
      by_cases hn : p.node < at'.length
      · have hn1 : ¬ p.node ≥ (at'.length : Nat) := by omega
        have hgs := hgs hn
        have wp := wfL_at hp (k := p.node.toNat) (by omega)
        have g1 : (at'.map Pt.cells).getD p.node.toNat [] = (at'.getD p.node.toNat default).cells := mg (by omega)
        generalize at'.getD p.node.toNat default = q at ex ey wp g1
        have hsc := cn_ok hp1
        (refine ew6 @hc @hmx @L1 @L2 @hn1 @g1 ?_; try with_reducible exact True.intro)
        refine PFK_of (c_sRatAdd h.d_spec_RatAdd wp.1 hxw.2.1) ?_
        obtain ⟨pi, hpi⟩ : ∃ pi, s.length = pi := ⟨_, rfl⟩
        obtain ⟨s1, hs1⟩ : ∃ s1, s ++ [some ⟨10, [p.cells]⟩] = s1 := ⟨_, rfl⟩
        have E1 := E.push (ob := ⟨10, [p.cells]⟩)
        rw [hs1, hpi] at E1
        have hl1 : s1.length = pi + 1 := by rw [← hs1, ← hpi]; simp
        have hpi2 : 3 ≤ pi := by have := L2.2; omega
        clear E
        simp only [hs1]
        simp only [hpi]
        have MP := E1.at0 (p := pi) (ob := ⟨10, [p.cells]⟩) (by simp)
        have M1 := E1.at0 (p := 1) (ob := ⟨6, [[.bool false, .nils, .nils, .bool false, .nils, .nils]]⟩) (by simp)
        have M2 := E1.at0 (p := 2) (ob := ⟨6, [[.bool X.neg, x1, x2, .bool Y.neg, x3, x4]]⟩) (by simp)
        have R := And.intro (E1.res1 1 rfl rfl (dep_ints _ _)) (E1.res1 2 rfl rfl (dep_ints _ _))
        (refine ew7 @MP @M1 @M2 @g1 @R @numK_any @or_sc ?_; try with_reducible exact True.intro)
        refine PFK_of (c_sRatMul h.d_spec_RatMul hxw.1 (cn_wf (addR_cn _ _))) ?_
        (refine ew7 @MP @M1 @M2 @g1 @R @numK_any @or_sc ?_; try with_reducible exact True.intro)
        refine OwnK_gotP (fun o => o ∈ os) (show PO T 189 [ratV X, ratV (acT p q.x p.dx)] (ratV (addR X (acT p q.x p.dx))) from po_sRatAdd h.d_spec_RatAdd (cn_wf hxc) (cn_wf (acT_cn _ _ _))) (by (refine ew3 @R @numK_any @or_sc ?_; try with_reducible exact True.intro); rfl) ?_ ?_
        · intro o ho
          have ho : o ∈ reach s1 (11 + 1) (.agg [.bool X.neg, x1, x2]) ++ (reach s1 FD (ratV (acT p q.x p.dx)) ++ []) := ho
          rw [show reach s1 FD (ratV (acT p q.x p.dx)) = [] from by (refine ew ?_; try with_reducible exact True.intro), List.append_nil, List.append_nil] at ho
          obtain ⟨c, hc, ho⟩ := reach_agg.1 ho
          rcases List.mem_cons.1 hc with e | hc
          · rw [e] at ho; simp [reach] at ho
          rcases List.mem_cons.1 hc with e | hc
          · rw [e] at ho; exact E1.reach 1 rfl rfl _ o ho
          · rw [List.mem_singleton.1 hc] at ho; exact E1.reach 2 rfl rfl _ o ho
        intro Rr r q2 oq2 hRr G
        obtain ⟨_, rfl, hQ⟩ := G.ow.agg_inv
        obtain ⟨y1, y2, rfl⟩ := hQ.rat
        obtain ⟨os2, E0, hos⟩ := Ep.renewL (a := [.bool X.neg, x1, x2]) (b := [.bool Y.neg, x3, x4]) (ta := [.bool X.neg, ints X.mag, ints X.den]) (tb := [.bool Y.neg, ints Y.mag, ints Y.den]) E1 rfl (s1 := s1) (fun q hq => rfl) (Nat.le_refl _) hQ G.nd G.fresh G.old
        have gl := G.len
        have n2 : 2 ∉ os2 := fun hm => by
          rcases hos 2 hm with h | h
          · exact (E1.l (2, ⟨6, [[.bool X.neg, x1, x2, .bool Y.neg, x3, x4]]⟩) (by simp)).2 h
          · omega
        clear hos hRr G hQ E1 R MP M1 M2
        rw [← ex] at E0
        have E2 : Ep q2 [.bool (acX c at' (i + 1)).neg, y1, y2, .bool Y.neg, x3, x4] [.bool (acX c at' (i + 1)).neg, ints (acX c at' (i + 1)).mag, ints (acX c at' (i + 1)).den, .bool Y.neg, ints Y.mag, ints Y.den] os2 [(0, ⟨5, [c.cells]⟩), (1, ⟨6, [[.bool false, .nils, .nils, .bool false, .nils, .nils]]⟩), (2, ⟨6, [[.bool X.neg, x1, x2, .bool Y.neg, x3, x4]]⟩), (pi, ⟨10, [p.cells]⟩)] := E0
        clear E0
        have MP := E2.at0 (p := pi) (ob := ⟨10, [p.cells]⟩) (by simp)
        have M1 := E2.at0 (p := 1) (ob := ⟨6, [[.bool false, .nils, .nils, .bool false, .nils, .nils]]⟩) (by simp)
        have M2 := E2.at0 (p := 2) (ob := ⟨6, [[.bool X.neg, x1, x2, .bool Y.neg, x3, x4]]⟩) (by simp)
        have LF := And.intro (And.intro (E2.leaf 1 rfl rfl) (E2.leaf 2 rfl rfl)) (And.intro (E2.leaf 4 rfl rfl) (E2.leaf 5 rfl rfl))
        (refine ew8 @MP @M1 @M2 @g1 @LF @numK_any @or_sc @List.set_set.{0} ?_; try with_reducible exact True.intro)
        refine ⟨by unfold OkA; rfl, ?_⟩
        try rw [← ex]
        obtain ⟨s3, hs⟩ : ∃ s, q2.set 2 (some ⟨6, [[.bool (acX c at' (i + 1)).neg, y1, y2, .bool Y.neg, x3, x4]]⟩) = s := ⟨_, rfl⟩
        have E5 := E2.reloc (p := 2) (ob := ⟨6, [[.bool (acX c at' (i + 1)).neg, y1, y2, .bool Y.neg, x3, x4]]⟩) (L' := [(0, ⟨5, [c.cells]⟩), (1, ⟨6, [[.bool false, .nils, .nils, .bool false, .nils, .nils]]⟩), (2, ⟨6, [[.bool (acX c at' (i + 1)).neg, y1, y2, .bool Y.neg, x3, x4]]⟩), (pi, ⟨10, [p.cells]⟩)]) n2 M2.2 (by simp; try omega)
        have hl2 : q2.length = s3.length := by rw [← hs]; simp
        rw [hs] at E5
        simp only [hs]
        try simp only [hl2]
        rw [hl2] at gl
        clear E2 MP M1 M2 LF hs hl2 n2
        have MP := E5.at0 (p := pi) (ob := ⟨10, [p.cells]⟩) (by simp)
        have M1 := E5.at0 (p := 1) (ob := ⟨6, [[.bool false, .nils, .nils, .bool false, .nils, .nils]]⟩) (by simp)
        have M2 := E5.at0 (p := 2) (ob := ⟨6, [[.bool (acX c at' (i + 1)).neg, y1, y2, .bool Y.neg, x3, x4]]⟩) (by simp)
        have R := And.intro (E5.res1 4 rfl rfl (dep_ints _ _)) (E5.res1 5 rfl rfl (dep_ints _ _))
        refine PFK_of (c_sRatAdd h.d_spec_RatAdd wp.2 hxw.2.2) ?_
        (refine ew7 @MP @M1 @M2 @g1 @R @numK_any @or_sc ?_; try with_reducible exact True.intro)
        refine PFK_of (c_sRatMul h.d_spec_RatMul hxw.1 (cn_wf (addR_cn _ _))) ?_
        (refine ew7 @MP @M1 @M2 @g1 @R @numK_any @or_sc ?_; try with_reducible exact True.intro)
        refine OwnK_gotP (fun o => o ∈ os2) (show PO T 189 [ratV Y, ratV (acT p q.y p.dy)] (ratV (addR Y (acT p q.y p.dy))) from po_sRatAdd h.d_spec_RatAdd (cn_wf hyc) (cn_wf (acT_cn _ _ _))) (by (refine ew3 @R @numK_any @or_sc ?_; try with_reducible exact True.intro); rfl) ?_ ?_
        · intro o ho
          have ho : o ∈ reach s3 (11 + 1) (.agg [.bool Y.neg, x3, x4]) ++ (reach s3 FD (ratV (acT p q.y p.dy)) ++ []) := ho
          rw [show reach s3 FD (ratV (acT p q.y p.dy)) = [] from by (refine ew ?_; try with_reducible exact True.intro), List.append_nil, List.append_nil] at ho
          obtain ⟨c, hc, ho⟩ := reach_agg.1 ho
          rcases List.mem_cons.1 hc with e | hc
          · rw [e] at ho; simp [reach] at ho
          rcases List.mem_cons.1 hc with e | hc
          · rw [e] at ho; exact E5.reach 4 rfl rfl _ o ho
          · rw [List.mem_singleton.1 hc] at ho; exact E5.reach 5 rfl rfl _ o ho
        intro Rr r q4 oq4 hRr G
        obtain ⟨_, rfl, hQ⟩ := G.ow.agg_inv
        obtain ⟨y3, y4, rfl⟩ := hQ.rat
        obtain ⟨os4, E0, hos⟩ := Ep.renewR (a := [.bool (acX c at' (i + 1)).neg, y1, y2]) (b := [.bool Y.neg, x3, x4]) (ta := [.bool (acX c at' (i + 1)).neg, ints (acX c at' (i + 1)).mag, ints (acX c at' (i + 1)).den]) (tb := [.bool Y.neg, ints Y.mag, ints Y.den]) E5 rfl (s1 := s3) (fun q hq => rfl) (Nat.le_refl _) hQ G.nd G.fresh G.old
        have gl := G.len
        have n2 : 2 ∉ os4 := fun hm => by
          rcases hos 2 hm with h | h
          · exact (E5.l (2, ⟨6, [[.bool (acX c at' (i + 1)).neg, y1, y2, .bool Y.neg, x3, x4]]⟩) (by simp)).2 h
          · omega
        clear hos hRr G hQ E5 R MP M1 M2
        rw [← ey] at E0
        have E4 : Ep q4 [.bool (acX c at' (i + 1)).neg, y1, y2, .bool (acY c at' (i + 1)).neg, y3, y4] [.bool (acX c at' (i + 1)).neg, ints (acX c at' (i + 1)).mag, ints (acX c at' (i + 1)).den, .bool (acY c at' (i + 1)).neg, ints (acY c at' (i + 1)).mag, ints (acY c at' (i + 1)).den] os4 [(0, ⟨5, [c.cells]⟩), (1, ⟨6, [[.bool false, .nils, .nils, .bool false, .nils, .nils]]⟩), (2, ⟨6, [[.bool (acX c at' (i + 1)).neg, y1, y2, .bool Y.neg, x3, x4]]⟩), (pi, ⟨10, [p.cells]⟩)] := E0
        clear E0
        have MP := E4.at0 (p := pi) (ob := ⟨10, [p.cells]⟩) (by simp)
        have M1 := E4.at0 (p := 1) (ob := ⟨6, [[.bool false, .nils, .nils, .bool false, .nils, .nils]]⟩) (by simp)
        have M2 := E4.at0 (p := 2) (ob := ⟨6, [[.bool (acX c at' (i + 1)).neg, y1, y2, .bool Y.neg, x3, x4]]⟩) (by simp)
        have LF := And.intro (And.intro (E4.leaf 1 rfl rfl) (E4.leaf 2 rfl rfl)) (And.intro (E4.leaf 4 rfl rfl) (E4.leaf 5 rfl rfl))
        (refine ew8 @MP @M1 @M2 @g1 @LF @numK_any @or_sc @List.set_set.{0} ?_; try with_reducible exact True.intro)
        refine ⟨by unfold OkA; rfl, ?_⟩
        try rw [← ey]
        obtain ⟨s5, hs⟩ : ∃ s, q4.set 2 (some ⟨6, [[.bool (acX c at' (i + 1)).neg, y1, y2, .bool (acY c at' (i + 1)).neg, y3, y4]]⟩) = s := ⟨_, rfl⟩
        have E5 := E4.reloc (p := 2) (ob := ⟨6, [[.bool (acX c at' (i + 1)).neg, y1, y2, .bool (acY c at' (i + 1)).neg, y3, y4]]⟩) (L' := [(0, ⟨5, [c.cells]⟩), (1, ⟨6, [[.bool false, .nils, .nils, .bool false, .nils, .nils]]⟩), (2, ⟨6, [[.bool (acX c at' (i + 1)).neg, y1, y2, .bool (acY c at' (i + 1)).neg, y3, y4]]⟩), (pi, ⟨10, [p.cells]⟩)]) n2 M2.2 (by simp; try omega)
        have hl2 : q4.length = s5.length := by rw [← hs]; simp
        rw [hs] at E5
        simp only [hs]
        try simp only [hl2]
        rw [hl2] at gl
        clear E4 MP M1 M2 LF hs hl2 n2
        refine ⟨(i + 1, s5, y1, y2, y3, y4, os4), by dsimp only; omega, ⟨⟨by dsimp only; omega, hgs⟩, E5.sub (by intro q hq; simp only [List.mem_cons, List.not_mem_nil, or_false] at hq ⊢; rcases hq with h | h | h <;> simp [h])⟩, ?_⟩
        dsimp only
        (refine Fg_env ?_) <;> (try (refine ew ?_; try with_reducible exact True.intro)) <;> (repeat' (first | refine ⟨?_, ?_⟩ | exact EvV_int (by omega) | exact EvV_of (by simp) | exact EvV_nil _))
      · have hn1 : p.node ≥ (at'.length : Nat) := by omega
        (refine ew5 @hc @hmx @L1 @L2 @hn1 ?_; try with_reducible exact True.intro)
        exact hbad hn _
    · have hie : i = c.ps.length := by omega
      have hG := acG_good (c := c) (n := at'.length) fun k hk => hg k (by omega)
      have e1 : acOk c at' = ((acX c at' c.ps.length).ok && (acY c at' c.ps.length).ok) := by unfold acOk; rw [hb, hG, Bool.true_and, Bool.true_and]
      unfold acV
      rw [e1, hfx hie, hfy hie]
      have co := c_l08Point h.d_spec_l08Point (p := ⟨X, Y⟩) ⟨cn_wf hxc, cn_wf hyc⟩
      dsimp only at co
      have LF := And.intro (And.intro (E.leaf 1 rfl rfl) (E.leaf 2 rfl rfl)) (And.intro (E.leaf 4 rfl rfl) (E.leaf 5 rfl rfl))
      have R := And.intro (And.intro (E.res1 1 rfl rfl (dep_ints _ _)) (E.res1 2 rfl rfl (dep_ints _ _))) (And.intro (E.res1 4 rfl rfl (dep_ints _ _)) (E.res1 5 rfl rfl (dep_ints _ _)))
      (refine ew6 @hc @L1 @L2 @R @numK_any @or_sc ?_; try with_reducible exact True.intro)
      refine PFK_of co ?_
      cases hb2 : (X.ok && Y.ok)
      · (refine ew3 @L1 @L2 @LF ?_; try with_reducible exact True.intro)
        exact finP0.tup1
      · (refine ew3 @L1 @L2 @LF ?_; try with_reducible exact True.intro)
        have n1 := (E.l (1, ⟨6, [[.bool false, .nils, .nils, .bool false, .nils, .nils]]⟩) (by simp)).2
        have C := E.c.set (o := 1) (x := some ⟨6, [[.bool X.neg, x1, x2, .bool Y.neg, x3, x4]]⟩) n1
        have hf : Fin (s.set 1 (some ⟨6, [[.bool X.neg, x1, x2, .bool Y.neg, x3, x4]]⟩)) (.agg [.bool X.neg, x1, x2, .bool Y.neg, x3, x4]) (ptV ⟨X, Y⟩) := fin_of (owV_agg C.ow) C.nd
        exact hf.tup1
end Go.Ml
end
section
set_option linter.unusedSimpArgs false
set_option linter.unusedVariables false
set_option maxRecDepth 100000
set_option maxHeartbeats 8000000
namespace Go.Ml
def keepO (σ : Store) (p : Nat) (ob : Obj) (os : List Nat) : Store := (List.range σ.length).map fun k => if k = p then some ob else if k ∈ os then objAt σ k else none
def keepW (σ : Store) (p n : Nat) (os : List Nat) : Win := (List.range σ.length).map fun k => if k = p then some (p, 0, n) else if k ∈ os then (objAt σ k).map (fun ob => (k, 0, ob.rows.length)) else none
theorem keepO_at {σ : Store} {p : Nat} {ob : Obj} {os : List Nat} {k : Nat} (hk : k < σ.length) : objAt (keepO σ p ob os) k = if k = p then some ob else if k ∈ os then objAt σ k else none := by
  simp only [objAt, keepO, List.getElem?_map, List.getElem?_range hk]
  rfl
theorem keepW_at {σ : Store} {p n : Nat} {os : List Nat} {k : Nat} (hk : k < σ.length) : (keepW σ p n os)[k]? = some (if k = p then some (p, 0, n) else if k ∈ os then (objAt σ k).map (fun ob => (k, 0, ob.rows.length)) else none) := by
  unfold keepW
  rw [List.getElem?_map, List.getElem?_range hk]; rfl
theorem keepW_inv {σ : Store} {p n : Nat} {os : List Nat} {k o s l : Nat} (h : (keepW σ p n os)[k]? = some (some (o, s, l))) : k < σ.length ∧ o = k ∧ s = 0 ∧ ((k = p ∧ l = n) ∨ (k ≠ p ∧ k ∈ os ∧ ∃ ob, objAt σ k = some ob ∧ l = ob.rows.length)) := by
  have hk : k < σ.length := by
    have := (List.getElem?_eq_some_iff.1 h).1
    unfold keepW at this; simpa using this
  rw [keepW_at hk] at h
  refine ⟨hk, ?_⟩
  by_cases e : k = p
  · rw [if_pos e] at h
    simp only [Option.some.injEq, Prod.mk.injEq] at h
    exact ⟨by omega, h.2.1.symm, .inl ⟨e, h.2.2.symm⟩⟩
  · rw [if_neg e] at h
    by_cases m : k ∈ os
    · rw [if_pos m] at h
      simp only [Option.some.injEq, Option.map_eq_some_iff] at h
      obtain ⟨ob, h1, h2⟩ := h
      simp only [Prod.mk.injEq] at h2
      exact ⟨h2.1.symm, h2.2.1.symm, .inr ⟨e, m, ob, h1, h2.2.2.symm⟩⟩
    · rw [if_neg m] at h
      cases h
theorem Fg_own {p n : Nat} {vs : List V} {env : Nat → V} {σ : Store} {b1 b2 : Nat} {r1 r2 m1 m2 : List Nat} {A A' : List (List V)} {os : List Nat} (h : objAt σ p = some ⟨n, A⟩) (hl : A'.length = A.length)
    (hs : ∀ o ∈ os, ∀ ob, objAt σ o = some ob → stillR ob.rows)
    (hr : ∀ (i : Nat) (r r2 : List V), A[i]? = some r → A'[i]? = some r2 → CanL (keepW σ p A.length os) σ r r2) (he : EnvCan (keepW σ p A.length os) σ vs 0 env) :
    Fg ⟨argE vs, keepO σ p ⟨n, A'⟩ os, 0, b1, r1, m1⟩ ⟨env, σ, 0, b2, r2, m2⟩ := by
  refine .re (keepW σ p A.length os) ⟨⟨by unfold keepO keepW; simp, ?_, ?_, ?_⟩, rfl, fun i hi => absurd hi (Nat.not_lt_zero _), fun t => by have := he.at_ t; rwa [Nat.zero_add] at this⟩
  · intro i j o s l s' l' hi hj
    rw [← (keepW_inv hi).2.1, ← (keepW_inv hj).2.1]
  · intro k o s l hk
    obtain ⟨hlt, rfl, rfl, hk2⟩ := keepW_inv hk
    rcases hk2 with ⟨rfl, rfl⟩ | ⟨e, m, ob, h1, rfl⟩
    · refine ⟨_, ⟨n, A'⟩, h, by simp, by show objAt (keepO _ _ _ _) _ = _; rw [keepO_at hlt, if_pos rfl], rfl, hl, fun i r r2 h1 h2 => hr i r r2 (by simpa using h1) h2⟩
    · refine ⟨ob, ob, h1, by simp, by show objAt (keepO _ _ _ _) _ = _; rw [keepO_at hlt, if_neg e, if_pos m, h1], rfl, rfl, fun i r r2 h2 h3 => ?_⟩
      rw [Nat.zero_add, h3] at h2
      simp only [Option.some.injEq] at h2
      subst h2
      exact canL_still fun v hv => hs o m ob h1 r2 (List.mem_of_getElem? h3) v hv
  · intro k hk
    have hlt : k < σ.length := by
      have := (List.getElem?_eq_some_iff.1 hk).1
      unfold keepW at this; simpa using this
    rw [keepW_at hlt] at hk
    show objAt (keepO _ _ _ _) _ = _
    rw [keepO_at hlt]
    by_cases e : k = p
    · rw [if_pos e] at hk; cases hk
    · rw [if_neg e] at hk ⊢
      by_cases m : k ∈ os
      · rw [if_pos m] at hk ⊢
        cases ho : objAt σ k
        · rfl
        · rw [ho] at hk; cases hk
      · rw [if_neg m]
theorem owV_ints_can {σ : Store} {v : V} {l : List Int} {os os2 : List Nat} {p n : Nat} (h : OwV σ v (ints l) os) (hm : ∀ o ∈ os, o ∈ os2 ∧ o ≠ p) : CanV (keepW σ p n os2) σ v v := by
  rcases h.ints_inv with ⟨_, rfl, _⟩ | ⟨o, rfl, h1, rfl⟩
  · exact canV_still rfl
  · obtain ⟨m1, m2⟩ := hm o (by simp)
    simp only [CanV]
    refine .inl ⟨o, 0, l.length, ?_, Nat.zero_le _, by omega, by rw [Nat.sub_zero]⟩
    rw [keepW_at (objAt_lt h1), if_neg m2, if_pos m1, h1]
    simp [ir_len]
theorem owL_pt_inv {σ : Store} {b b2 : Bool} {x1 x2 x3 x4 : V} {l1 l2 l3 l4 : List Int} {os : List Nat} (h : OwL σ [.bool b, x1, x2, .bool b2, x3, x4] [.bool b, ints l1, ints l2, .bool b2, ints l3, ints l4] os) :
    ∃ o1 o2 o3 o4, os = o1 ++ (o2 ++ (o3 ++ o4)) ∧ OwV σ x1 (ints l1) o1 ∧ OwV σ x2 (ints l2) o2 ∧ OwV σ x3 (ints l3) o3 ∧ OwV σ x4 (ints l4) o4 := by
  simp only [OwL] at h
  obtain ⟨_, _, _, _, e1, rfl, h1, _, _, _, _, e2, rfl, h2, _, _, _, _, e3, rfl, h3, _, _, _, _, e4, rfl, h4, _, _, _, _, e5, rfl, h5, _, _, _, _, e6, rfl, h6, e7, rfl⟩ := h
  simp only [List.cons.injEq] at e1
  obtain ⟨rfl, rfl⟩ := e1
  simp only [List.cons.injEq] at e2
  obtain ⟨rfl, rfl⟩ := e2
  simp only [List.cons.injEq] at e3
  obtain ⟨rfl, rfl⟩ := e3
  simp only [List.cons.injEq] at e4
  obtain ⟨rfl, rfl⟩ := e4
  simp only [List.cons.injEq] at e5
  obtain ⟨rfl, rfl⟩ := e5
  simp only [List.cons.injEq] at e6
  obtain ⟨rfl, rfl⟩ := e6
  have kb : ∀ {b : Bool} {o : List Nat}, OwV σ (.bool b) (.bool b) o → o = [] := fun h => by simp only [OwV] at h; exact h.2
  obtain rfl := kb h1
  obtain rfl := kb h4
  exact ⟨_, _, _, _, by simp, h2, h3, h5, h6⟩
theorem owV_ints_still {σ : Store} {v : V} {l : List Int} {os : List Nat} (h : OwV σ v (ints l) os) : ∀ o ∈ os, ∀ ob, objAt σ o = some ob → stillR ob.rows := by
  rcases h.ints_inv with ⟨_, _, rfl⟩ | ⟨o, rfl, h1, rfl⟩
  · intro o ho; cases ho
  · intro q hq ob hob
    rw [List.mem_singleton.1 hq, h1] at hob
    cases hob
    exact ir_still _
theorem owL_pt_still {σ : Store} {b b2 : Bool} {x1 x2 x3 x4 : V} {l1 l2 l3 l4 : List Int} {os : List Nat} (h : OwL σ [.bool b, x1, x2, .bool b2, x3, x4] [.bool b, ints l1, ints l2, .bool b2, ints l3, ints l4] os) : ∀ o ∈ os, ∀ ob, objAt σ o = some ob → stillR ob.rows := by
  obtain ⟨o1, o2, o3, o4, rfl, h1, h2, h3, h4⟩ := owL_pt_inv h
  intro o ho
  simp only [List.mem_append] at ho
  rcases ho with ho | ho | ho | ho
  · exact owV_ints_still h1 o ho
  · exact owV_ints_still h2 o ho
  · exact owV_ints_still h3 o ho
  · exact owV_ints_still h4 o ho
theorem owL_pt_can {σ : Store} {b b2 : Bool} {x1 x2 x3 x4 : V} {l1 l2 l3 l4 : List Int} {os os2 : List Nat} {p n : Nat} (h : OwL σ [.bool b, x1, x2, .bool b2, x3, x4] [.bool b, ints l1, ints l2, .bool b2, ints l3, ints l4] os) (hm : ∀ o ∈ os, o ∈ os2 ∧ o ≠ p) :
    CanL (keepW σ p n os2) σ [.bool b, x1, x2, .bool b2, x3, x4] [.bool b, x1, x2, .bool b2, x3, x4] := by
  obtain ⟨o1, o2, o3, o4, rfl, h1, h2, h3, h4⟩ := owL_pt_inv h
  have k1 := owV_ints_can (n := n) h1 fun o ho => hm o (by simp [ho])
  have k2 := owV_ints_can (n := n) h2 fun o ho => hm o (by simp [ho])
  have k3 := owV_ints_can (n := n) h3 fun o ho => hm o (by simp [ho])
  have k4 := owV_ints_can (n := n) h4 fun o ho => hm o (by simp [ho])
  have kb : ∀ b : Bool, CanV (keepW σ p n os2) σ (.bool b) (.bool b) := fun b => canV_still rfl
  simp only [CanL]
  exact ⟨_, _, rfl, kb _, _, _, rfl, k1, _, _, rfl, k2, _, _, rfl, kb _, _, _, rfl, k3, _, _, rfl, k4, rfl⟩
theorem owL_R0 {σ : Store} : OwL σ (⟨R0, R0⟩ : Pt).cells (⟨R0, R0⟩ : Pt).cells [] :=
  owL_bool (owL_v (o1 := []) owV_ints0 (owL_v (o1 := []) owV_ints0 (owL_bool (owL_v (o1 := []) owV_ints0 (owL_v (o1 := []) owV_ints0 owL_nil)))))
theorem owL_rep {σ : Store} : ∀ m : Nat, OwL σ (List.replicate m (⟨R0, R0⟩ : Pt).cells).flatten (List.replicate m (⟨R0, R0⟩ : Pt).cells).flatten []
  | 0 => owL_nil
  | m + 1 => by
    rw [List.replicate_succ, List.flatten_cons]
    exact (owL_append owL_R0 (owL_rep m) : OwL σ _ _ ([] ++ []))
theorem sv_start {σ : Store} {p m : Nat} {x1 x2 x3 x4 : V} {os : List Nat} (h : OwL σ [.bool (intR 0).neg, x1, x2, .bool (intR 0).neg, x3, x4] (⟨intR 0, intR 0⟩ : Pt).cells os) (nd : os.Nodup) (hp : p ∉ os) (hl : p < σ.length) :
    Ep (keepO σ p ⟨6, [.bool (intR 0).neg, x1, x2, .bool (intR 0).neg, x3, x4] :: List.replicate m (⟨R0, R0⟩ : Pt).cells⟩ os)
      ([.bool (intR 0).neg, x1, x2, .bool (intR 0).neg, x3, x4] :: List.replicate m (⟨R0, R0⟩ : Pt).cells).flatten ((svP m).map Pt.cells).flatten os
      [(p, ⟨6, [.bool (intR 0).neg, x1, x2, .bool (intR 0).neg, x3, x4] :: List.replicate m (⟨R0, R0⟩ : Pt).cells⟩)] := by
  have hat : ∀ o ∈ os, objAt (keepO σ p ⟨6, [.bool (intR 0).neg, x1, x2, .bool (intR 0).neg, x3, x4] :: List.replicate m (⟨R0, R0⟩ : Pt).cells⟩ os) o = objAt σ o := fun o ho => by
    rw [keepO_at (h.lt o ho), if_neg (fun e => hp (by rw [← e]; exact ho)), if_pos ho]
  refine ⟨⟨?_, nd⟩, fun q hq => ?_⟩
  · rw [svP_eq, List.flatten_cons, List.flatten_cons]
    have := owL_append (h.frame hat) (owL_rep (σ := keepO σ p ⟨6, [.bool (intR 0).neg, x1, x2, .bool (intR 0).neg, x3, x4] :: List.replicate m (⟨R0, R0⟩ : Pt).cells⟩ os) m)
    rwa [List.append_nil] at this
  · rw [List.mem_singleton.1 hq]
    exact ⟨by rw [keepO_at hl, if_pos rfl], hp⟩
end Go.Ml
end
section
set_option linter.unusedSimpArgs false
set_option linter.unusedVariables false
set_option maxRecDepth 100000
set_option maxHeartbeats 8000000
namespace Go.Ml
theorem get_at {A : List (List V)} {d : Nat} (h : d < A.length) : A[d]? = some (A.getD d []) := by
  rw [List.getD_eq_getElem?_getD, List.getElem?_eq_getElem h]; rfl
theorem flat_set {A : List (List V)} {d : Nat} {r : List V} (h : d < A.length) : (A.set d r).flatten = (A.take d).flatten ++ (r ++ (A.drop (d + 1)).flatten) := by
  rw [List.set_eq_take_append_cons_drop, if_pos h, List.flatten_append, List.flatten_cons]
theorem flat_at {A : List (List V)} {d : Nat} (h : d < A.length) : A.flatten = (A.take d).flatten ++ (A.getD d [] ++ (A.drop (d + 1)).flatten) := by
  rw [← flat_set h]
  congr 1
  have : A.getD d [] = A[d] := by rw [List.getD_eq_getElem?_getD, List.getElem?_eq_getElem h]; rfl
  rw [this, List.set_getElem_self]
theorem flat_lenN {n : Nat} : ∀ {A : List (List V)}, (∀ r ∈ A, r.length = n) → A.flatten.length = A.length * n
  | [], _ => by simp
  | a :: A, h => by
    rw [List.flatten_cons, List.length_append, flat_lenN fun r hr => h r (by simp [hr]), h a (by simp), List.length_cons, Nat.succ_mul, Nat.add_comm]
theorem flat_eq {n : Nat} {A B : List (List V)} (ha : ∀ r ∈ A, r.length = n) (hb : ∀ r ∈ B, r.length = n) (h : A.length = B.length) : A.flatten.length = B.flatten.length := by
  rw [flat_lenN ha, flat_lenN hb, h]
theorem splice_row {row cs : List V} (h : row.length = cs.length) : splice row 0 cs = cs := by
  unfold splice
  simp [h]
theorem c_l11Max {T : Nat → Option Fn} (h : D_spec_l11Max T) {x y : Nat} : PF T 396 [iv (x : Nat), iv (y : Nat)] (iv ((max x y : Nat) : Int)) := by
  refine pf_end (fun _ _ => false) h.hT rfl rfl ?_
  dsimp only [F_spec_l11Max, oN, oS, oG, oK, oA, oH, oV, cI]
  (refine ev ?_; try with_reducible exact True.intro)
  by_cases hc : (y : Int) < (x : Nat)
  · have e : ((max x y : Nat) : Int) = x := by omega
    (refine ev2 @hc @e ?_; try with_reducible exact True.intro)
  · have e : ((max x y : Nat) : Int) = y := by omega
    (refine ev2 @hc @e ?_; try with_reducible exact True.intro)
theorem po_sSolveNet {T : Nat → Option Fn} (h : D_spec_SolveNet T) {l : List Cd} (hw : wfL Cd.wf l) (hps : ∀ c ∈ l, c.ps.length ≤ 1048576) (hl : l.length ≤ 1048576) : PO T 384 [cdsV l] (.tup [ptsV (svV l), .bool (svG l)]) := by
  have ci := c_sIsNet h.d_spec_IsNet hw hl
  cases hn : netOk l
  · rw [hn] at ci
    rw [svG_bad (svG_net hn), svG_net hn]
    refine po_end2 (fun _ _ => false) h.hT rfl rfl ?_
    dsimp only [F_spec_SolveNet, oN, oS, oG, oK, oA, oH, oV, cI, St.enter, List.length_cons, List.length_nil, Nat.zero_add]
    (refine ew ?_; try with_reducible exact True.intro)
    refine PFK_of ci ?_
    (refine ew ?_; try with_reducible exact True.intro)
    exact (fin_nil (sz := 6)).tup1
  rw [hn] at ci
  refine po_end2 (fun x d => (x == 36 && d == 29) || (x == 36 && d == 30) || (x == 366 && d == 46)) h.hT rfl rfl ?_
  dsimp only [F_spec_SolveNet, oN, oS, oG, oK, oA, oH, oV, cI, St.enter, List.length_cons, List.length_nil, Nat.zero_add]
  (refine ew ?_; try with_reducible exact True.intro)
  refine PFK_of ci ?_
  (refine ew ?_; try with_reducible exact True.intro)
  have e0 : svM l 0 = 0 := rfl
  refine loop_at (fun x d => (x == 36 && d == 29) || (x == 36 && d == 30) || (x == 366 && d == 46)) (α := Nat × Store) (fun q => ⟨argE [cdsV l, .any, .any, .any, iv (svM l q.1 : Nat), .any, .any, .any, .any, .any, .any, .any, .any, .any, cdsV l, iv (l.length : Nat), iv (q.1 : Nat)], q.2, 0, 0, [], []⟩) (fun q => q.1 ≤ l.length) (fun q => l.length - q.1) rfl (0, []) ?_ ?_ ?_
  · exact Nat.zero_le _
  · (refine Fg_env ?_) <;> (try (refine ew ?_; try with_reducible exact True.intro)) <;> (repeat' (first | refine ⟨?_, ?_⟩ | exact EvV_int (by omega) | exact EvV_of (by simp) | exact EvV_nil _))
  · rintro ⟨i, s⟩ hi
    dsimp only at hi
    by_cases hc : (i : Int) < (l.length : Nat)
    · have hil : i < l.length := by omega
      have hx : (l.map Cd.cells).getD i [] = (l.getD i default).cells := mg hil
      have hno := netOk_node hn hil
      have es : svM l (i + 1) = max (svM l i) (l.getD i default).node.toNat := rfl
      obtain ⟨d, hd⟩ : ∃ d : Nat, (l.getD i default).node = (d : Nat) := ⟨(l.getD i default).node.toNat, by omega⟩
      have cm := c_l11Max h.d_spec_l11Max (x := svM l i) (y := d)
      have es2 : ((max (svM l i) d : Nat) : Int) = (svM l (i + 1) : Nat) := by rw [es, hd]; simp
      rw [es2] at cm
      (refine ew3 @hc @hx @hd ?_; try with_reducible exact True.intro)
      refine PFK_of cm ?_
      (refine ew ?_; try with_reducible exact True.intro)
      refine ⟨(i + 1, ?st), ?c1, ?c2, ?c3⟩
      case c3 => dsimp only; (refine Fg_env ?_) <;> (try (refine ew ?_; try with_reducible exact True.intro)) <;> (repeat' (first | refine ⟨?_, ?_⟩ | exact EvV_int (by omega) | exact EvV_of (by simp) | exact EvV_nil _))
      case c1 => dsimp only; omega
      case c2 => dsimp only; omega
    · have hie : i = l.length := by omega
      subst hie
      have hm9 := svM_le hn l.length (Nat.le_refl _)
      have hA0 : svA l 0 = svP (svM l l.length) := rfl
      have hlen := svA_len l
      have hcn := svA_cn l
      have hnode : ∀ k, k < l.length → 1 ≤ (svC l k).node ∧ (svC l k).node.toNat ≤ svM l l.length := fun k hk => svC_node hn hk
      dsimp only at *
      generalize svM l l.length = m at *
      have t1 : ((m : Int) + 1).toNat = m + 1 := by omega
      (refine ew2 @hc @t1 ?_; try with_reducible exact True.intro)
      refine ⟨⟨by omega, by omega, by omega⟩, ?_⟩
      generalize hp : s.length = p
      have E : Ep (s ++ [some ⟨6, List.replicate (m + 1) [.bool false, .nils, .nils, .bool false, .nils, .nils]⟩]) [] [] [] [(p, ⟨6, List.replicate (m + 1) [.bool false, .nils, .nils, .bool false, .nils, .nils]⟩)] := ⟨cs_nil, by subst hp; simp [objAt_snoc]⟩
      refine RefK_got (po_sRatFromInt h.d_spec_RatFromInt (n := 0)) (by (refine ew ?_; try with_reducible exact True.intro)) ?_
      intro r q0 o1 G
      obtain ⟨_, rfl, hQ1⟩ := G.ow.agg_inv
      obtain ⟨x1, x2, rfl⟩ := hQ1.rat
      have E1 := E.got (fun q hq => rfl) (Nat.le_refl _) hQ1 G.nd G.fresh G.old
      clear E G
      (refine ew ?_; try with_reducible exact True.intro)
      refine RefK_got (po_sRatFromInt h.d_spec_RatFromInt (n := 0)) (by (refine ew ?_; try with_reducible exact True.intro)) ?_
      intro r q1 o2 G
      obtain ⟨_, rfl, hQ2⟩ := G.ow.agg_inv
      obtain ⟨x3, x4, rfl⟩ := hQ2.rat
      have E2 := E1.got (fun q hq => rfl) (Nat.le_refl _) hQ2 G.nd G.fresh G.old
      clear E1 G
      generalize ([] ++ o1) ++ o2 = ow at E2
      have E2 : Ep q1 [.bool (intR 0).neg, x1, x2, .bool (intR 0).neg, x3, x4] (⟨intR 0, intR 0⟩ : Pt).cells ow [(p, ⟨6, List.replicate (m + 1) [.bool false, .nils, .nils, .bool false, .nils, .nils]⟩)] := E2
      have Lp := E2.at0 (p := p) (ob := ⟨6, List.replicate (m + 1) [.bool false, .nils, .nils, .bool false, .nils, .nils]⟩) (by simp)
      have np := (E2.l _ (List.mem_singleton.2 rfl)).2
      have LF := And.intro (And.intro (E2.leaf 1 rfl rfl) (E2.leaf 2 rfl rfl)) (And.intro (E2.leaf 4 rfl rfl) (E2.leaf 5 rfl rfl))
      (refine ew4 @t1 @Lp @LF @hp ?_; try with_reducible exact True.intro)
      have hq : OwL (q1.set p (some ⟨6, [.bool (intR 0).neg, x1, x2, .bool (intR 0).neg, x3, x4] :: List.replicate m ptz⟩)) [.bool (intR 0).neg, x1, x2, .bool (intR 0).neg, x3, x4] (⟨intR 0, intR 0⟩ : Pt).cells ow := (E2.c.set np).ow
      have hpl : p < (q1.set p (some (⟨6, [.bool (intR 0).neg, x1, x2, .bool (intR 0).neg, x3, x4] :: List.replicate m ptz⟩ : Obj))).length := by rw [List.length_set]; exact Lp.2
      have hpa : objAt (q1.set p (some (⟨6, [.bool (intR 0).neg, x1, x2, .bool (intR 0).neg, x3, x4] :: List.replicate m ptz⟩ : Obj))) p = some ⟨6, [.bool (intR 0).neg, x1, x2, .bool (intR 0).neg, x3, x4] :: List.replicate m ptz⟩ := objAt_seteq Lp.2
      have nd := E2.c.nd
      clear E2 LF Lp
      refine loop_at (fun x d => (x == 36 && d == 29) || (x == 36 && d == 30) || (x == 366 && d == 46)) (α := Nat × Store × List (List V) × List Nat) (fun q => ⟨argE [cdsV l, .any, .any, .any, .any, .any, .any, .msl p 0 (m + 1), iv ((l.length : Int) - 1 - (q.1 : Nat))], q.2.1, 0, 0, [], []⟩) (fun q => (q.1 ≤ l.length ∧ q.2.2.1.length = m + 1 ∧ (∀ r ∈ q.2.2.1, r.length = 6) ∧ ∀ j, j < q.1 → acOk (svC l j) (svA l j) = true) ∧ Ep q.2.1 q.2.2.1.flatten ((svA l q.1).map Pt.cells).flatten q.2.2.2 [(p, ⟨6, q.2.2.1⟩)]) (fun q => l.length - q.1) rfl (0, keepO (q1.set p (some ⟨6, [.bool (intR 0).neg, x1, x2, .bool (intR 0).neg, x3, x4] :: List.replicate m ptz⟩)) p ⟨6, [.bool (intR 0).neg, x1, x2, .bool (intR 0).neg, x3, x4] :: List.replicate m (⟨R0, R0⟩ : Pt).cells⟩ ow, [.bool (intR 0).neg, x1, x2, .bool (intR 0).neg, x3, x4] :: List.replicate m (⟨R0, R0⟩ : Pt).cells, ow) ?_ ?_ ?_
      · refine ⟨⟨Nat.zero_le _, by simp, ?_, fun j hj => absurd hj (Nat.not_lt_zero _)⟩, by rw [hA0]; exact sv_start hq nd np hpl⟩
        intro r hr
        rcases List.mem_cons.1 hr with rfl | hr
        · rfl
        · rw [(List.mem_replicate.1 hr).2]; rfl
      · dsimp only
        refine Fg_own (p := p) (n := 6) (A := [.bool (intR 0).neg, x1, x2, .bool (intR 0).neg, x3, x4] :: List.replicate m ptz) hpa (by simp) (owL_pt_still hq) (fun i r r2 h1 h2 => svP_can2 (owL_pt_can hq fun o ho => ⟨ho, fun e => np (by rw [← e]; exact ho)⟩) i r r2 h1 h2) ?_
        (refine ew ?_; try with_reducible exact True.intro)
        (repeat' (first | exact True.intro | omega | refine ⟨?_, ?_⟩ | exact CanE_of rfl (by simp; done) | exact CanE_of rfl rfl | (refine CanE_msl (n := m + 1) ?_ (Nat.le_refl _) rfl; rw [keepW_at hpl, if_pos rfl]; simp; done)))
      · clear hq hpl hpa nd np
        rintro ⟨k, t, A, os⟩ ⟨⟨hk, hAl, hAr, hok⟩, E⟩
        dsimp only at hk hAl hAr hok E
        have hTr : ∀ r ∈ (svA l k).map Pt.cells, r.length = 6 := fun r hr => by obtain ⟨x, _, rfl⟩ := List.mem_map.1 hr; rfl
        have hTl : A.length = ((svA l k).map Pt.cells).length := by rw [List.length_map, hlen]; omega
        have E' : Ep t (A.flatten ++ []) (((svA l k).map Pt.cells).flatten ++ []) os [(p, ⟨6, A⟩)] := by simpa only [List.append_nil] using E
        have L := E.at0 (p := p) (ob := ⟨6, A⟩) (by simp)
        have Rf := E'.listRes (p := p) (n := 6) (by simp) hAr hTr hTl FD (dep_pts _ _)
        by_cases hc2 : (0 : Int) ≤ (l.length : Int) - 1 - (k : Nat)
        · have hkl : k < l.length := by omega
          have ti : ((l.length : Int) - 1 - (k : Nat)).toNat = l.length - 1 - k := by omega
          have hx : (l.map Cd.cells).getD (l.length - 1 - k) [] = (svC l k).cells := mg (by omega)
          have hno := hnode k hkl
          have hln := hlen k
          have hps : (svC l k).ps.length ≤ 1048576 := hps _ (getD_mem (by omega))
          have hcw : (svC l k).wf := hw.at_ (by omega)
          have ca := po_sApplyConditional h.d_spec_ApplyConditional (c := svC l k) (at' := svA l k) hcw (pts_wf (hcn k) (by omega)) hps (by omega)
          have es : svA l (k + 1) = (svA l k).set (svC l k).node.toNat (acV (svC l k) (svA l k)) := rfl
          have hbad := svG_at hkl
          have hokk : acOk (svC l k) (svA l k) = true → ∀ j, j < k + 1 → acOk (svC l j) (svA l j) = true := fun h j hj => by
            by_cases e : j = k
            · subst e; exact h
            · exact hok j (by omega)
          generalize acV (svC l k) (svA l k) = qv at *
          generalize acOk (svC l k) (svA l k) = b at *
          generalize svA l k = P at *
          generalize svC l k = c at *
          obtain ⟨d, hd⟩ : ∃ d : Nat, c.node = (d : Nat) := ⟨c.node.toNat, by omega⟩
          have hdm : d < m + 1 := by omega
          have hdm' : (d : Int) < ((m + 1 : Nat) : Int) := by omega
          have Rf2 := (E'.snoc (x := none)).listRes (p := p) (n := 6) (by simp) hAr hTr hTl FD (dep_pts _ _)
          rw [hAl] at Rf Rf2
          (refine ew6 (And.intro hc2 ti) @hx @L @Rf @numK_any @or_sc ?_; try with_reducible exact True.intro)
          refine RefK_got ca (by (refine ew1 @Rf2 ?_; try with_reducible exact True.intro)) ?_
          intro r q o G
          obtain ⟨v, rfl, H⟩ := G.tup1
          clear G
          have G := H
          clear H
          obtain ⟨_, rfl, hQ⟩ := G.ow.agg_inv
          obtain ⟨z1, z2, z3, z4, rfl⟩ := hQ.pt
          have lz := OwL.leaf hQ rfl
          simp only [List.all_cons, List.all_nil, Bool.and_true, Bool.and_eq_true] at lz
          have gl : t.length + 1 ≤ q.length := by simpa using G.len
          have K : objAt q p = some ⟨6, A⟩ := (G.old p (by have := L.2; simp; omega)).trans ((objAt_snoc_lt L.2).trans L.1)
          have hbb : b = false ∨ b = true := by cases b <;> simp
          rcases hbb with hbb | hbb
          · rw [svG_bad (hbad hbb), hbad hbb]
            (refine ew6 @hbb @K @gl @lz @numK_any @or_sc ?_; try with_reducible exact True.intro)
            exact (fin_nil (sz := 6)).tup1
          · have Kp : p < q.length := by have := L.2; omega
            have ne : t.length ≠ p := by have := L.2; omega
            obtain ⟨six, hsix⟩ : ∃ six, [V.bool qv.x.neg, z1, z2, .bool qv.y.neg, z3, z4] = six := ⟨_, rfl⟩
            have hdA : d < A.length := by omega
            have hdT : d < (P.map Pt.cells).length := by rw [← hTl]; exact hdA
            have hrow := get_at hdA
            have hrl : (A.getD d []).length = 6 := hAr _ (List.mem_of_getElem? hrow)
            have hspl : splice (A.getD d []) 0 [V.bool qv.x.neg, z1, z2, .bool qv.y.neg, z3, z4] = [V.bool qv.x.neg, z1, z2, .bool qv.y.neg, z3, z4] := splice_row (by rw [hrl]; rfl)
            have htl : ((P.map Pt.cells).getD d []).length = 6 := hTr _ (List.mem_of_getElem? (get_at hdT))
            have EU := E
            rw [flat_at hdA, flat_at hdT] at EU
            obtain ⟨row, hre⟩ : ∃ row, A.getD d [] = row := ⟨_, rfl⟩
            rw [hre] at hrow hrl hspl EU
            have hh6 : [V.bool qv.x.neg, z1, z2, .bool qv.y.neg, z3, z4].length = 6 := rfl
            obtain ⟨os', E9⟩ := Ep.upd (p := p) (ob := ⟨6, A.set d [V.bool qv.x.neg, z1, z2, .bool qv.y.neg, z3, z4]⟩) (ob0 := ⟨6, A⟩) (L' := [(p, ⟨6, A.set d [V.bool qv.x.neg, z1, z2, .bool qv.y.neg, z3, z4]⟩)]) (s1 := t ++ [some ⟨6, [[V.bool qv.x.neg, z1, z2, .bool qv.y.neg, z3, z4]]⟩]) (σ2 := q.set t.length (some ⟨6, [[V.bool qv.x.neg, z1, z2, .bool qv.y.neg, z3, z4]]⟩)) EU (by simp)
              (flat_eq (fun r hr => hAr r (List.mem_of_mem_take hr)) (fun r hr => hTr r (List.mem_of_mem_take hr)) (by simp only [List.length_take]; omega)) (by rw [hrl, htl]) (fun o ho => objAt_snoc_lt ho) (by simp)
              (hQ.frame fun o ho => by
                have := G.fresh o ho
                simp at this
                rw [objAt_setne (by omega)]) G.nd (fun o ho => by have := G.fresh o ho; simpa using this) (fun o ho => by
                by_cases e : o = t.length
                · subst e
                  rw [objAt_seteq (by omega), objAt_snoc]
                · have ho' : o < t.length := by simp at ho; omega
                  rw [objAt_setne e, G.old o (by simp; omega), objAt_snoc_lt ho', objAt_snoc_lt ho'])
              (by intro x hx; exact .inr (List.mem_singleton.1 hx)) (by simp; omega)
            clear hsix EU
            (refine ew8 @hbb (And.intro K Kp) (And.intro gl lz) (And.intro hx ti) (And.intro hd hdm') (And.intro hrow (And.intro hrl hspl)) @numK_any @or_sc ?_; try with_reducible exact True.intro)
            refine ⟨by unfold OkA; rfl, ?_⟩
            refine ⟨(k + 1, ?st9, A.set d [V.bool qv.x.neg, z1, z2, .bool qv.y.neg, z3, z4], os'), ?c1, ⟨⟨?c2, by simp [hAl], ?c4, hokk hbb⟩, ?c5⟩, ?c3⟩
            case c3 => dsimp only; (refine Fg_env ?_) <;> (try (refine ew ?_; try with_reducible exact True.intro)) <;> (repeat' (first | refine ⟨?_, ?_⟩ | exact EvV_int (by omega) | exact EvV_of (by simp) | exact EvV_nil _))
            case c1 => dsimp only; omega
            case c2 => dsimp only; omega
            case c4 =>
              dsimp only
              intro r hr
              rcases List.mem_or_eq_of_mem_set hr with hr | rfl
              · exact hAr r hr
              · rfl
            case c5 =>
              dsimp only
              have ed : c.node.toNat = d := by omega
              have hdr : List.drop 6 row = [] := List.drop_eq_nil_of_le (by omega)
              rw [es, ed, List.map_set, flat_set hdA, flat_set hdT, List.set_set, hdr]
              exact E9
        · have hke : k = l.length := by omega
          subst hke
          have hG := svG_all hn hok
          rw [svG_good hG, hG]
          (refine ew1 @hc2 ?_; try with_reducible exact True.intro)
          obtain ⟨os1, E1⟩ := E'.close (p := p) (n := 6) (by simp) hAr hTr hTl
          obtain ⟨v, vs, o1, o2, e, rfl, k1, k2⟩ := E1.c.ow.inv
          simp only [List.cons.injEq] at e
          obtain ⟨rfl, rfl⟩ := e
          obtain ⟨_, rfl⟩ := k2.nil_inv
          rw [hAl] at k1
          have hf : Fin t (.msl p 0 (m + 1)) (ptsV (svA l l.length)) := fin_of k1 (by have := E1.c.nd; simpa using this)
          exact hf.tup1
theorem po_iSolveNet {T : Nat → Option Fn} (h : D_impl_SolveNet T) {l : List Cd} (hw : wfL Cd.wf l) (hps : ∀ c ∈ l, c.ps.length ≤ 1048576) (hl : l.length ≤ 1048576) : PO T 272 [cdsV l] (.tup [ptsV (svV l), .bool (svG l)]) := by
  have ci := c_iIsNet h.d_impl_IsNet hw hl
  cases hn : netOk l
  · rw [hn] at ci
    rw [svG_bad (svG_net hn), svG_net hn]
    refine po_end2 (fun _ _ => false) h.hT rfl rfl ?_
    dsimp only [F_impl_SolveNet, oN, oS, oG, oK, oA, oH, oV, cI, St.enter, List.length_cons, List.length_nil, Nat.zero_add]
    (refine ew ?_; try with_reducible exact True.intro)
    refine PFK_of ci ?_
    (refine ew ?_; try with_reducible exact True.intro)
    exact (fin_nil (sz := 6)).tup1
  rw [hn] at ci
  refine po_end2 (fun x d => (x == 186 && d == 29) || (x == 176 && d == 44)) h.hT rfl rfl ?_
  dsimp only [F_impl_SolveNet, oN, oS, oG, oK, oA, oH, oV, cI, St.enter, List.length_cons, List.length_nil, Nat.zero_add]
  (refine ew ?_; try with_reducible exact True.intro)
  refine PFK_of ci ?_
  (refine ew ?_; try with_reducible exact True.intro)
  have e0 : svM l 0 = 0 := rfl
  refine loop_at (fun x d => (x == 186 && d == 29) || (x == 176 && d == 44)) (α := Nat × Store) (fun q => ⟨argE [cdsV l, .any, .any, .any, iv (svM l q.1 : Nat), .any, .any, .any, .any, .any, .any, .any, .any, .any, cdsV l, iv (l.length : Nat), iv (q.1 : Nat)], q.2, 0, 0, [], []⟩) (fun q => q.1 ≤ l.length) (fun q => l.length - q.1) rfl (0, []) ?_ ?_ ?_
  · exact Nat.zero_le _
  · (refine Fg_env ?_) <;> (try (refine ew ?_; try with_reducible exact True.intro)) <;> (repeat' (first | refine ⟨?_, ?_⟩ | exact EvV_int (by omega) | exact EvV_of (by simp) | exact EvV_nil _))
  · rintro ⟨i, s⟩ hi
    dsimp only at hi
    by_cases hc : (i : Int) < (l.length : Nat)
    · have hil : i < l.length := by omega
      have hx : (l.map Cd.cells).getD i [] = (l.getD i default).cells := mg hil
      have hno := netOk_node hn hil
      have es : svM l (i + 1) = max (svM l i) (l.getD i default).node.toNat := rfl
      obtain ⟨d, hd⟩ : ∃ d : Nat, (l.getD i default).node = (d : Nat) := ⟨(l.getD i default).node.toNat, by omega⟩
      have es2 : (svM l (i + 1) : Int) = max (svM l i : Int) (d : Int) := by rw [es, hd]; simp <;> omega
      (refine ew3 @hc @hx @hd ?_; try with_reducible exact True.intro)
      refine ⟨(i + 1, ?st), ?c1, ?c2, ?c3⟩
      case c3 => dsimp only; (refine Fg_env ?_) <;> (try (refine ew ?_; try with_reducible exact True.intro)) <;> (repeat' (first | refine ⟨?_, ?_⟩ | exact EvV_int (by omega) | exact EvV_of (by simp) | exact EvV_nil _))
      case c1 => dsimp only; omega
      case c2 => dsimp only; omega
    · have hie : i = l.length := by omega
      subst hie
      have hm9 := svM_le hn l.length (Nat.le_refl _)
      have hA0 : svA l 0 = svP (svM l l.length) := rfl
      have hlen := svA_len l
      have hcn := svA_cn l
      have hnode : ∀ k, k < l.length → 1 ≤ (svC l k).node ∧ (svC l k).node.toNat ≤ svM l l.length := fun k hk => svC_node hn hk
      dsimp only at *
      generalize svM l l.length = m at *
      have t1 : ((m : Int) + 1).toNat = m + 1 := by omega
      (refine ew2 @hc @t1 ?_; try with_reducible exact True.intro)
      refine ⟨⟨by omega, by omega, by omega⟩, ?_⟩
      generalize hp : s.length = p
      have E : Ep (s ++ [some ⟨6, List.replicate (m + 1) [.bool false, .nils, .nils, .bool false, .nils, .nils]⟩]) [] [] [] [(p, ⟨6, List.replicate (m + 1) [.bool false, .nils, .nils, .bool false, .nils, .nils]⟩)] := ⟨cs_nil, by subst hp; simp [objAt_snoc]⟩
      refine RefK_got (po_zeroPoint h.d_impl_zeroPoint) (by (refine ew ?_; try with_reducible exact True.intro)) ?_
      intro r q1 o1 G
      obtain ⟨_, rfl, hQ1⟩ := G.ow.agg_inv
      obtain ⟨x1, x2, x3, x4, rfl⟩ := hQ1.pt
      have E2 := E.got (fun q hq => rfl) (Nat.le_refl _) hQ1 G.nd G.fresh G.old
      clear E G
      generalize [] ++ o1 = ow at E2
      have E2 : Ep q1 [.bool (intR 0).neg, x1, x2, .bool (intR 0).neg, x3, x4] (⟨intR 0, intR 0⟩ : Pt).cells ow [(p, ⟨6, List.replicate (m + 1) [.bool false, .nils, .nils, .bool false, .nils, .nils]⟩)] := E2
      have Lp := E2.at0 (p := p) (ob := ⟨6, List.replicate (m + 1) [.bool false, .nils, .nils, .bool false, .nils, .nils]⟩) (by simp)
      have np := (E2.l _ (List.mem_singleton.2 rfl)).2
      have LF := And.intro (And.intro (E2.leaf 1 rfl rfl) (E2.leaf 2 rfl rfl)) (And.intro (E2.leaf 4 rfl rfl) (E2.leaf 5 rfl rfl))
      (refine ew4 @t1 @Lp @LF @hp ?_; try with_reducible exact True.intro)
      have hq : OwL (q1.set p (some ⟨6, [.bool (intR 0).neg, x1, x2, .bool (intR 0).neg, x3, x4] :: List.replicate m ptz⟩)) [.bool (intR 0).neg, x1, x2, .bool (intR 0).neg, x3, x4] (⟨intR 0, intR 0⟩ : Pt).cells ow := (E2.c.set np).ow
      have hpl : p < (q1.set p (some (⟨6, [.bool (intR 0).neg, x1, x2, .bool (intR 0).neg, x3, x4] :: List.replicate m ptz⟩ : Obj))).length := by rw [List.length_set]; exact Lp.2
      have hpa : objAt (q1.set p (some (⟨6, [.bool (intR 0).neg, x1, x2, .bool (intR 0).neg, x3, x4] :: List.replicate m ptz⟩ : Obj))) p = some ⟨6, [.bool (intR 0).neg, x1, x2, .bool (intR 0).neg, x3, x4] :: List.replicate m ptz⟩ := objAt_seteq Lp.2
      have nd := E2.c.nd
      clear E2 LF Lp
      refine loop_at (fun x d => (x == 186 && d == 29) || (x == 176 && d == 44)) (α := Nat × Store × List (List V) × List Nat) (fun q => ⟨argE [cdsV l, .any, .any, .any, .any, .any, .any, .msl p 0 (m + 1), iv ((l.length : Int) - 1 - (q.1 : Nat))], q.2.1, 0, 0, [], []⟩) (fun q => (q.1 ≤ l.length ∧ q.2.2.1.length = m + 1 ∧ (∀ r ∈ q.2.2.1, r.length = 6) ∧ ∀ j, j < q.1 → acOk (svC l j) (svA l j) = true) ∧ Ep q.2.1 q.2.2.1.flatten ((svA l q.1).map Pt.cells).flatten q.2.2.2 [(p, ⟨6, q.2.2.1⟩)]) (fun q => l.length - q.1) rfl (0, keepO (q1.set p (some ⟨6, [.bool (intR 0).neg, x1, x2, .bool (intR 0).neg, x3, x4] :: List.replicate m ptz⟩)) p ⟨6, [.bool (intR 0).neg, x1, x2, .bool (intR 0).neg, x3, x4] :: List.replicate m (⟨R0, R0⟩ : Pt).cells⟩ ow, [.bool (intR 0).neg, x1, x2, .bool (intR 0).neg, x3, x4] :: List.replicate m (⟨R0, R0⟩ : Pt).cells, ow) ?_ ?_ ?_
      · refine ⟨⟨Nat.zero_le _, by simp, ?_, fun j hj => absurd hj (Nat.not_lt_zero _)⟩, by rw [hA0]; exact sv_start hq nd np hpl⟩
        intro r hr
        rcases List.mem_cons.1 hr with rfl | hr
        · rfl
        · rw [(List.mem_replicate.1 hr).2]; rfl
      · dsimp only
        refine Fg_own (p := p) (n := 6) (A := [.bool (intR 0).neg, x1, x2, .bool (intR 0).neg, x3, x4] :: List.replicate m ptz) hpa (by simp) (owL_pt_still hq) (fun i r r2 h1 h2 => svP_can2 (owL_pt_can hq fun o ho => ⟨ho, fun e => np (by rw [← e]; exact ho)⟩) i r r2 h1 h2) ?_
        (refine ew ?_; try with_reducible exact True.intro)
        (repeat' (first | exact True.intro | omega | refine ⟨?_, ?_⟩ | exact CanE_of rfl (by simp; done) | exact CanE_of rfl rfl | (refine CanE_msl (n := m + 1) ?_ (Nat.le_refl _) rfl; rw [keepW_at hpl, if_pos rfl]; simp; done)))
      · clear hq hpl hpa nd np
        rintro ⟨k, t, A, os⟩ ⟨⟨hk, hAl, hAr, hok⟩, E⟩
        dsimp only at hk hAl hAr hok E
        have hTr : ∀ r ∈ (svA l k).map Pt.cells, r.length = 6 := fun r hr => by obtain ⟨x, _, rfl⟩ := List.mem_map.1 hr; rfl
        have hTl : A.length = ((svA l k).map Pt.cells).length := by rw [List.length_map, hlen]; omega
        have E' : Ep t (A.flatten ++ []) (((svA l k).map Pt.cells).flatten ++ []) os [(p, ⟨6, A⟩)] := by simpa only [List.append_nil] using E
        have L := E.at0 (p := p) (ob := ⟨6, A⟩) (by simp)
        have Rf := E'.listRes (p := p) (n := 6) (by simp) hAr hTr hTl FD (dep_pts _ _)
        by_cases hc2 : (0 : Int) ≤ (l.length : Int) - 1 - (k : Nat)
        · have hkl : k < l.length := by omega
          have ti : ((l.length : Int) - 1 - (k : Nat)).toNat = l.length - 1 - k := by omega
          have hx : (l.map Cd.cells).getD (l.length - 1 - k) [] = (svC l k).cells := mg (by omega)
          have hno := hnode k hkl
          have hln := hlen k
          have hps : (svC l k).ps.length ≤ 1048576 := hps _ (getD_mem (by omega))
          have hcw : (svC l k).wf := hw.at_ (by omega)
          have ca := po_iApplyConditional h.d_impl_ApplyConditional (c := svC l k) (at' := svA l k) hcw (pts_wf (hcn k) (by omega)) hps (by omega)
          have es : svA l (k + 1) = (svA l k).set (svC l k).node.toNat (acV (svC l k) (svA l k)) := rfl
          have hbad := svG_at hkl
          have hokk : acOk (svC l k) (svA l k) = true → ∀ j, j < k + 1 → acOk (svC l j) (svA l j) = true := fun h j hj => by
            by_cases e : j = k
            · subst e; exact h
            · exact hok j (by omega)
          generalize acV (svC l k) (svA l k) = qv at *
          generalize acOk (svC l k) (svA l k) = b at *
          generalize svA l k = P at *
          generalize svC l k = c at *
          obtain ⟨d, hd⟩ : ∃ d : Nat, c.node = (d : Nat) := ⟨c.node.toNat, by omega⟩
          have hdm : d < m + 1 := by omega
          have hdm' : (d : Int) < ((m + 1 : Nat) : Int) := by omega
          have Rf2 := (E'.snoc (x := none)).listRes (p := p) (n := 6) (by simp) hAr hTr hTl FD (dep_pts _ _)
          rw [hAl] at Rf Rf2
          (refine ew6 (And.intro hc2 ti) @hx @L @Rf @numK_any @or_sc ?_; try with_reducible exact True.intro)
          refine RefK_got ca (by (refine ew1 @Rf2 ?_; try with_reducible exact True.intro)) ?_
          intro r q o G
          obtain ⟨v, rfl, H⟩ := G.tup1
          clear G
          have G := H
          clear H
          obtain ⟨_, rfl, hQ⟩ := G.ow.agg_inv
          obtain ⟨z1, z2, z3, z4, rfl⟩ := hQ.pt
          have lz := OwL.leaf hQ rfl
          simp only [List.all_cons, List.all_nil, Bool.and_true, Bool.and_eq_true] at lz
          have gl : t.length + 1 ≤ q.length := by simpa using G.len
          have K : objAt q p = some ⟨6, A⟩ := (G.old p (by have := L.2; simp; omega)).trans ((objAt_snoc_lt L.2).trans L.1)
          have hbb : b = false ∨ b = true := by cases b <;> simp
          rcases hbb with hbb | hbb
          · rw [svG_bad (hbad hbb), hbad hbb]
            (refine ew6 @hbb @K @gl @lz @numK_any @or_sc ?_; try with_reducible exact True.intro)
            exact (fin_nil (sz := 6)).tup1
          · have Kp : p < q.length := by have := L.2; omega
            have ne : t.length ≠ p := by have := L.2; omega
            obtain ⟨six, hsix⟩ : ∃ six, [V.bool qv.x.neg, z1, z2, .bool qv.y.neg, z3, z4] = six := ⟨_, rfl⟩
            have hdA : d < A.length := by omega
            have hdT : d < (P.map Pt.cells).length := by rw [← hTl]; exact hdA
            have hrow := get_at hdA
            have hrl : (A.getD d []).length = 6 := hAr _ (List.mem_of_getElem? hrow)
            have hspl : splice (A.getD d []) 0 [V.bool qv.x.neg, z1, z2, .bool qv.y.neg, z3, z4] = [V.bool qv.x.neg, z1, z2, .bool qv.y.neg, z3, z4] := splice_row (by rw [hrl]; rfl)
            have htl : ((P.map Pt.cells).getD d []).length = 6 := hTr _ (List.mem_of_getElem? (get_at hdT))
            have EU := E
            rw [flat_at hdA, flat_at hdT] at EU
            obtain ⟨row, hre⟩ : ∃ row, A.getD d [] = row := ⟨_, rfl⟩
            rw [hre] at hrow hrl hspl EU
            have hh6 : [V.bool qv.x.neg, z1, z2, .bool qv.y.neg, z3, z4].length = 6 := rfl
            obtain ⟨os', E9⟩ := Ep.upd (p := p) (ob := ⟨6, A.set d [V.bool qv.x.neg, z1, z2, .bool qv.y.neg, z3, z4]⟩) (ob0 := ⟨6, A⟩) (L' := [(p, ⟨6, A.set d [V.bool qv.x.neg, z1, z2, .bool qv.y.neg, z3, z4]⟩)]) (s1 := t ++ [some ⟨6, [[V.bool qv.x.neg, z1, z2, .bool qv.y.neg, z3, z4]]⟩]) (σ2 := q.set t.length (some ⟨6, [[V.bool qv.x.neg, z1, z2, .bool qv.y.neg, z3, z4]]⟩)) EU (by simp)
              (flat_eq (fun r hr => hAr r (List.mem_of_mem_take hr)) (fun r hr => hTr r (List.mem_of_mem_take hr)) (by simp only [List.length_take]; omega)) (by rw [hrl, htl]) (fun o ho => objAt_snoc_lt ho) (by simp)
              (hQ.frame fun o ho => by
                have := G.fresh o ho
                simp at this
                rw [objAt_setne (by omega)]) G.nd (fun o ho => by have := G.fresh o ho; simpa using this) (fun o ho => by
                by_cases e : o = t.length
                · subst e
                  rw [objAt_seteq (by omega), objAt_snoc]
                · have ho' : o < t.length := by simp at ho; omega
                  rw [objAt_setne e, G.old o (by simp; omega), objAt_snoc_lt ho', objAt_snoc_lt ho'])
              (by intro x hx; exact .inr (List.mem_singleton.1 hx)) (by simp; omega)
            clear hsix EU
            (refine ew8 @hbb (And.intro K Kp) (And.intro gl lz) (And.intro hx ti) (And.intro hd hdm') (And.intro hrow (And.intro hrl hspl)) @numK_any @or_sc ?_; try with_reducible exact True.intro)
            refine ⟨by unfold OkA; rfl, ?_⟩
            refine ⟨(k + 1, ?st9, A.set d [V.bool qv.x.neg, z1, z2, .bool qv.y.neg, z3, z4], os'), ?c1, ⟨⟨?c2, by simp [hAl], ?c4, hokk hbb⟩, ?c5⟩, ?c3⟩
            case c3 => dsimp only; (refine Fg_env ?_) <;> (try (refine ew ?_; try with_reducible exact True.intro)) <;> (repeat' (first | refine ⟨?_, ?_⟩ | exact EvV_int (by omega) | exact EvV_of (by simp) | exact EvV_nil _))
            case c1 => dsimp only; omega
            case c2 => dsimp only; omega
            case c4 =>
              dsimp only
              intro r hr
              rcases List.mem_or_eq_of_mem_set hr with hr | rfl
              · exact hAr r hr
              · rfl
            case c5 =>
              dsimp only
              have ed : c.node.toNat = d := by omega
              have hdr : List.drop 6 row = [] := List.drop_eq_nil_of_le (by omega)
              rw [es, ed, List.map_set, flat_set hdA, flat_set hdT, List.set_set, hdr]
              exact E9
        · have hke : k = l.length := by omega
          subst hke
          have hG := svG_all hn hok
          rw [svG_good hG, hG]
          (refine ew1 @hc2 ?_; try with_reducible exact True.intro)
          obtain ⟨os1, E1⟩ := E'.close (p := p) (n := 6) (by simp) hAr hTr hTl
          obtain ⟨v, vs, o1, o2, e, rfl, k1, k2⟩ := E1.c.ow.inv
          simp only [List.cons.injEq] at e
          obtain ⟨rfl, rfl⟩ := e
          obtain ⟨_, rfl⟩ := k2.nil_inv
          rw [hAl] at k1
          have hf : Fin t (.msl p 0 (m + 1)) (ptsV (svA l l.length)) := fin_of k1 (by have := E1.c.nd; simpa using this)
          exact hf.tup1
end Go.Ml
end
section
set_option linter.unusedSimpArgs false
set_option linter.unusedVariables false
set_option maxRecDepth 100000
set_option maxHeartbeats 4000000
namespace Go.Ml
def F_laws_heldPointS : Fn := ⟨2, 81, [.tmp 4], (.seq (.reg false 0 [oN 4 (.mov (cI 0))]) (.seq (.seq (.reg false 0 [oN 5 (.mov (cI 0))]) (.block 0 (.loop (.seq (.seq (.reg false 0 [oN 6 (oV 5), oN 7 (oV 0), oN 8 (.len (.t 7)), oN 9 (.bin .lss (.t 6) (.t 8))]) (.cond (.t 9) .skip (.exit 0))) (.seq (.block 1 (.seq (.seq (.reg false 0 [oN 12 (oV 0), oN 13 (oV 5), oN 14 (.idx 6 (.t 12) (.t 13)), oN 15 (.fld 0 (.t 14)), oN 16 (.fld 0 (.t 15)), oN 17 (.fld 0 (.t 16)), oN 18 (.load 1 false (.t 17)), oN 19 (oV 1), oN 20 (.bin .rem (.t 19) (cI 3)), oN 21 (.bin .eql (.t 20) (cI 0)), oN 22 (.beq true (.t 18) (.t 21))]) (.cond (.t 22) (.seq (.reg false 0 [oN 4 (.mov (cI (-1)))]) .ret) .skip)) (.seq (.reg false 0 [oN 23 (oV 1), oN 24 (.bin .add (.t 23) (cI 1)), oN 1 (oV 24)]) (.seq (.reg false 0 [oN 25 (oV 0), oN 26 (oV 5), oN 27 (.idx 6 (.t 25) (.t 26)), oN 28 (.fld 0 (.t 27)), oN 29 (.fld 0 (.t 28)), oN 30 (.fld 1 (.t 29)), oN 31 (.load 1 false (.t 30)), oN 32 (oV 1), oN 33 (.call 59 [(.t 31), (.t 32)]), oN 1 (oV 33)]) (.seq (.seq (.reg false 0 [oN 34 (oV 1), oN 35 (.bin .lss (.t 34) (cI 0))]) (.cond (.t 35) (.seq (.reg false 0 [oN 4 (.mov (cI (-1)))]) .ret) .skip)) (.seq (.reg false 0 [oN 36 (oV 0), oN 37 (oV 5), oN 38 (.idx 6 (.t 36) (.t 37)), oN 39 (.fld 0 (.t 38)), oN 40 (.fld 2 (.t 39)), oN 41 (.load 1 false (.t 40)), oN 42 (oV 1), oN 43 (.call 59 [(.t 41), (.t 42)]), oN 1 (oV 43)]) (.seq (.seq (.reg false 0 [oN 44 (oV 1), oN 45 (.bin .lss (.t 44) (cI 0))]) (.cond (.t 45) (.seq (.reg false 0 [oN 4 (.mov (cI (-1)))]) .ret) .skip)) (.seq (.seq (.reg false 0 [oN 46 (oV 0), oN 47 (oV 5), oN 48 (.idx 6 (.t 46) (.t 47)), oN 49 (.fld 3 (.t 48)), oN 50 (.fld 0 (.t 49)), oN 51 (.fld 0 (.t 50)), oN 52 (.load 1 false (.t 51)), oN 53 (oV 1), oN 54 (.bin .rem (.t 53) (cI 3)), oN 55 (.bin .eql (.t 54) (cI 0)), oN 56 (.beq true (.t 52) (.t 55))]) (.cond (.t 56) (.seq (.reg false 0 [oN 4 (.mov (cI (-1)))]) .ret) .skip)) (.seq (.reg false 0 [oN 57 (oV 1), oN 58 (.bin .add (.t 57) (cI 1)), oN 1 (oV 58)]) (.seq (.reg false 0 [oN 59 (oV 0), oN 60 (oV 5), oN 61 (.idx 6 (.t 59) (.t 60)), oN 62 (.fld 3 (.t 61)), oN 63 (.fld 0 (.t 62)), oN 64 (.fld 1 (.t 63)), oN 65 (.load 1 false (.t 64)), oN 66 (oV 1), oN 67 (.call 59 [(.t 65), (.t 66)]), oN 1 (oV 67)]) (.seq (.seq (.reg false 0 [oN 68 (oV 1), oN 69 (.bin .lss (.t 68) (cI 0))]) (.cond (.t 69) (.seq (.reg false 0 [oN 4 (.mov (cI (-1)))]) .ret) .skip)) (.seq (.reg false 0 [oN 70 (oV 0), oN 71 (oV 5), oN 72 (.idx 6 (.t 70) (.t 71)), oN 73 (.fld 3 (.t 72)), oN 74 (.fld 2 (.t 73)), oN 75 (.load 1 false (.t 74)), oN 76 (oV 1), oN 77 (.call 59 [(.t 75), (.t 76)]), oN 1 (oV 77)]) (.seq (.reg false 0 [oN 78 (oV 1), oN 79 (.bin .lss (.t 78) (cI 0))]) (.cond (.t 79) (.seq (.reg false 0 [oN 4 (.mov (cI (-1)))]) .ret) .skip)))))))))))))) (.reg false 0 [oN 10 (oV 5), oN 11 (.bin .add (.t 10) (cI 1)), oN 5 (oV 11)])))))) (.seq (.reg false 0 [oN 80 (oV 1), oN 4 (oV 80)]) .ret)))⟩
structure D_laws_heldPointS (T : Nat → Option Fn) : Prop where
  hT : T 386 = some F_laws_heldPointS
  d_laws_heldIntS : D_laws_heldIntS T
theorem c_heldPointS {T : Nat → Option Fn} (h : D_laws_heldPointS T) {l : List Pt} {k : Int} (hl : szL Pt.sz l ≤ 1000000000 := by first | omega | assumption | (simp; omega)) (hk : 0 ≤ k ∧ k + cnL Pt.ct l l.length ≤ 1000000000000 := by first | omega | assumption | (simp; omega)) :
    PF T 386 [ptsV (mkL Pt.mk3 Pt.ct k l), iv k] (iv (k + cnL Pt.ct l l.length)) := by
  have hll : l.length ≤ 1000000000 := by unfold szL at hl; omega
  have hml := mkL_len Pt.mk3 Pt.ct k l
  refine pf_end (fun _ _ => false) h.hT rfl rfl ?_
  dsimp only [F_laws_heldPointS, oN, oS, oG, oK, oA, oH, oV, cI]
  (refine ev ?_; try with_reducible exact True.intro)
  refine loop_at (fun _ _ => false) (α := Nat) (fun i => ⟨argE [ptsV (mkL Pt.mk3 Pt.ct k l), iv (k + cnL Pt.ct l i), .any, .any, .any, iv (i : Nat)], [], 0, 0, [], []⟩) (fun i => i ≤ l.length) (fun i => l.length - i) rfl 0 ?_ ?_ ?_
  · omega
  · (refine Fg_env ?_) <;> (try (refine ev1 @cnL_0 ?_; try with_reducible exact True.intro)) <;> (repeat' (first | refine ⟨?_, ?_⟩ | exact EvV_int (by omega) | exact EvV_of (by simp) | exact EvV_nil _))
  · intro i hi
    (refine ev1 @hml ?_; try with_reducible exact True.intro)
    refine brK_dec (fun hc => ?_) fun hc => ?_
    · have hil : i < l.length := by omega
      have hrow := (mg (f := Pt.cells) (show i < (mkL Pt.mk3 Pt.ct k l).length by omega)).trans (congrArg Pt.cells (mkL_at Pt.mk3 Pt.ct k l i hil))
      obtain ⟨x, hx⟩ : ∃ x, l.getD i default = x := ⟨_, rfl⟩
      have hcn := cnL_s Pt.ct l hil
      have hcl := cnL_le Pt.ct l (i := i + 1) hil
      have hxs : Pt.sz x ≤ 1000000000 := by
        have := szL_at Pt.sz hil
        rw [hx] at this
        omega
      rw [hx] at hcn hrow
      rw [hcn] at hcl
      have hct : Pt.ct x = 1 + x.x.mag.length + x.x.den.length + 1 + x.y.mag.length + x.y.den.length := rfl
      obtain ⟨kk, hkk⟩ : ∃ kk, k + (cnL Pt.ct l i : Int) = kk := ⟨_, rfl⟩
      rw [hkk] at hrow
      have hrow : (List.map Pt.cells (mkL Pt.mk3 Pt.ct k l)).getD i [] = [.bool (decide ((kk).tmod 3 = 0)), ints (cnt x.x.mag.length (kk + 1)), ints (cnt x.x.den.length (kk + 1 + x.x.mag.length)), .bool (decide ((kk + 1 + x.x.mag.length + x.x.den.length).tmod 3 = 0)), ints (cnt x.y.mag.length (kk + 1 + x.x.mag.length + x.x.den.length + 1)), ints (cnt x.y.den.length (kk + 1 + x.x.mag.length + x.x.den.length + 1 + x.y.mag.length))] := hrow
      simp only [Pt.sz, R.sz] at hxs
      (refine ev4 @hc @hrow @hkk @hml ?_; try with_reducible exact True.intro)
      refine PFK_of (c_heldIntS h.d_laws_heldIntS (n := x.x.mag.length) (k := kk + 1) (by omega) (by omega)) ?_
      (refine ev2 @hrow @hml ?_; try with_reducible exact True.intro)
      refine brK_dec (fun hc => absurd hc (by omega)) fun _ => ?_
      (refine ev2 @hrow @hml ?_; try with_reducible exact True.intro)
      refine PFK_of (c_heldIntS h.d_laws_heldIntS (n := x.x.den.length) (k := kk + 1 + x.x.mag.length) (by omega) (by omega)) ?_
      (refine ev2 @hrow @hml ?_; try with_reducible exact True.intro)
      refine brK_dec (fun hc => absurd hc (by omega)) fun _ => ?_
      (refine ev2 @hrow @hml ?_; try with_reducible exact True.intro)
      refine PFK_of (c_heldIntS h.d_laws_heldIntS (n := x.y.mag.length) (k := kk + 1 + x.x.mag.length + x.x.den.length + 1) (by omega) (by omega)) ?_
      (refine ev2 @hrow @hml ?_; try with_reducible exact True.intro)
      refine brK_dec (fun hc => absurd hc (by omega)) fun _ => ?_
      (refine ev2 @hrow @hml ?_; try with_reducible exact True.intro)
      refine PFK_of (c_heldIntS h.d_laws_heldIntS (n := x.y.den.length) (k := kk + 1 + x.x.mag.length + x.x.den.length + 1 + x.y.mag.length) (by omega) (by omega)) ?_
      (refine ev2 @hrow @hml ?_; try with_reducible exact True.intro)
      refine brK_dec (fun hc => absurd hc (by omega)) fun _ => ?_
      (refine ev2 @hrow @hml ?_; try with_reducible exact True.intro)
      exact ⟨i + 1, by omega, by omega, by (refine Fg_env ?_) <;> (try (refine ev ?_; try with_reducible exact True.intro)) <;> (repeat' (first | refine ⟨?_, ?_⟩ | exact EvV_int (by omega) | exact EvV_of (by simp) | exact EvV_nil _))⟩
    · have : i = l.length := by omega
      subst this
      (refine ev1 @hc ?_; try with_reducible exact True.intro)
end Go.Ml
end
section
set_option linter.unusedSimpArgs false
set_option linter.unusedVariables false
namespace Go.Ml
theorem cnL_bd {α : Type} {c f : α → Nat} {K : Nat} (h : ∀ x, c x ≤ K * (1 + f x)) (l : List α) : cnL c l l.length ≤ K * szL f l := by
  unfold cnL szL
  rw [List.take_length]
  induction l with
  | nil => simp
  | cons x l ih =>
    rw [List.map_cons, List.sum_cons, List.map_cons, List.sum_cons, List.length_cons]
    have := h x
    rw [show l.length + 1 + (f x + (l.map f).sum) = (1 + f x) + (l.length + (l.map f).sum) by omega, Nat.mul_add]
    omega
theorem cb_Pt (x : Pt) : Pt.ct x ≤ 5 * (1 + x.sz) := by unfold Pt.ct Pt.sz R.sz; omega
theorem cb_Pa (x : Pa) : Pa.ct x ≤ 5 * (1 + x.sz) := by unfold Pa.ct Pa.sz R.sz; omega
theorem cb_PointS (l : List Pt) : cnL Pt.ct l l.length ≤ 5 * szL Pt.sz l := cnL_bd cb_Pt l
theorem cb_ParentS (l : List Pa) : cnL Pa.ct l l.length ≤ 5 * szL Pa.sz l := cnL_bd cb_Pa l
theorem cb_Cd (x : Cd) : Cd.ct x ≤ 5 * (1 + x.sz) := by have := cb_ParentS x.ps; unfold Cd.ct Cd.sz R.sz; omega
theorem cb_ConditionalS (l : List Cd) : cnL Cd.ct l l.length ≤ 5 * szL Cd.sz l := cnL_bd cb_Cd l
end Go.Ml
end
section
set_option linter.unusedSimpArgs false
set_option linter.unusedVariables false
set_option maxRecDepth 100000
set_option maxHeartbeats 16000000
namespace Go.Ml
def F_laws_FnExactSolveNet : Fn := ⟨1, 96, [.tmp 2], (.seq (.reg false 0 [oN 2 (.mov (.c (.bool false)))]) (.seq (.reg false 0 [oN 3 (.mov (cI 1048576))]) (.seq (.reg false 0 [oN 14 (oV 0), oN 15 (oV 3), oN 16 (.call 304 [(.t 14), (.t 15)]), oN 3 (oV 16)]) (.seq (.seq (.reg false 0 [oN 17 (oV 3), oN 18 (.bin .lss (.t 17) (cI 0))]) (.cond (.t 18) (.seq (.reg false 0 [oN 2 (.mov (.c (.bool true)))]) .ret) .skip)) (.seq (.reg false 0 [oN 20 (oV 0), oN 21 (.call 306 [(.t 20)]), oN 22 (.call 384 [(.t 21)]), oN 19 (oV 22), oN 23 (.extr 0 (.t 19)), oN 24 (.extr 1 (.t 19)), oN 4 (oV 23), oN 5 (oV 24)]) (.seq (.reg false 0 [oN 25 (oV 0), oN 26 (.call 306 [(.t 25)]), oN 6 (oV 26)]) (.seq (.reg false 0 [oN 28 (oV 6), oN 29 (.call 272 [(.t 28)]), oN 27 (oV 29), oN 30 (.extr 0 (.t 27)), oN 31 (.extr 1 (.t 27)), oN 7 (oV 30), oN 8 (oV 31)]) (.seq (.seq (.reg false 0 [oN 32 (oV 7), oN 33 (oV 4), oN 34 (.call 13 [(.t 32), (.t 33)]), oN 35 (.un .not (.t 34)), oN 36 (oV 35), oG 36 false 37 (oV 8), oG 36 false 38 (oV 5), oG 36 false 39 (.beq true (.t 37) (.t 38)), oN 40 (.pick (.t 36) (.c (.bool true)) (.t 39))]) (.cond (.t 40) (.seq (.reg false 0 [oN 2 (.mov (.c (.bool false)))]) .ret) .skip)) (.seq (.seq (.reg false 0 [oN 41 (oV 6), oN 42 (oV 0), oN 43 (.call 306 [(.t 42)]), oN 44 (.call 307 [(.t 41), (.t 43)]), oN 45 (.un .not (.t 44))]) (.cond (.t 45) (.seq (.reg false 0 [oN 2 (.mov (.c (.bool false)))]) .ret) .skip)) (.seq (.reg false 0 [oN 9 (.mov (cI 1))]) (.seq (.reg false 0 [oN 46 (oV 6), oN 47 (oV 9), oN 48 (.call 385 [(.t 46), (.t 47)]), oN 9 (oV 48)]) (.seq (.seq (.reg false 0 [oN 49 (oV 9), oN 50 (.bin .lss (.t 49) (cI 0)), oN 51 (oV 50), oG 51 false 52 (oV 7), oG 51 false 53 (oV 4), oG 51 false 54 (.call 13 [(.t 52), (.t 53)]), oG 51 false 55 (.un .not (.t 54)), oN 56 (.pick (.t 51) (.c (.bool true)) (.t 55)), oN 57 (oV 56), oG 57 false 58 (oV 8), oG 57 false 59 (oV 5), oG 57 false 60 (.beq true (.t 58) (.t 59)), oN 61 (.pick (.t 57) (.c (.bool true)) (.t 60))]) (.cond (.t 61) (.seq (.reg false 0 [oN 2 (.mov (.c (.bool false)))]) .ret) .skip)) (.seq (.reg false 0 [oN 10 (.mov (cI 1))]) (.seq (.reg false 0 [oN 62 (oV 7), oN 63 (oV 10), oN 64 (.call 334 [(.t 62), (.t 63)]), oN 10 (oV 64)]) (.seq (.reg false 0 [oN 11 (.mov (cI 1))]) (.seq (.reg false 0 [oN 65 (oV 7), oN 66 (oV 11), oN 67 (.call 386 [(.t 65), (.t 66)]), oN 11 (oV 67)]) (.seq (.seq (.reg false 0 [oN 68 (oV 11), oN 69 (.bin .lss (.t 68) (cI 0))]) (.cond (.t 69) (.seq (.reg false 0 [oN 2 (.mov (.c (.bool false)))]) .ret) .skip)) (.seq (.seq (.reg false 0 [oN 70 (oV 11), oN 71 (oV 10), oN 72 (.bin .neq (.t 70) (.t 71))]) (.cond (.t 72) (.seq (.reg false 0 [oN 2 (.mov (.c (.bool false)))]) .ret) .skip)) (.seq (.reg false 0 [oN 74 (oV 0), oN 75 (.call 306 [(.t 74)]), oN 76 (.call 272 [(.t 75)]), oN 73 (oV 76), oN 77 (.extr 0 (.t 73)), oN 78 (.extr 1 (.t 73)), oN 12 (oV 77), oN 13 (oV 78)]) (.seq (.seq (.reg false 0 [oN 79 (oV 12), oN 80 (oV 4), oN 81 (.call 13 [(.t 79), (.t 80)]), oN 82 (.un .not (.t 81)), oN 83 (oV 82), oG 83 false 84 (oV 13), oG 83 false 85 (oV 5), oG 83 false 86 (.beq true (.t 84) (.t 85)), oN 87 (.pick (.t 83) (.c (.bool true)) (.t 86))]) (.cond (.t 87) (.seq (.reg false 0 [oN 2 (.mov (.c (.bool false)))]) .ret) .skip)) (.seq (.reg false 0 [oN 11 (.mov (cI 1))]) (.seq (.reg false 0 [oN 88 (oV 7), oN 89 (oV 11), oN 90 (.call 386 [(.t 88), (.t 89)]), oN 11 (oV 90)]) (.seq (.seq (.reg false 0 [oN 91 (oV 11), oN 92 (.bin .lss (.t 91) (cI 0))]) (.cond (.t 92) (.seq (.reg false 0 [oN 2 (.mov (.c (.bool false)))]) .ret) .skip)) (.seq (.seq (.reg false 0 [oN 93 (oV 11), oN 94 (oV 10), oN 95 (.bin .neq (.t 93) (.t 94))]) (.cond (.t 95) (.seq (.reg false 0 [oN 2 (.mov (.c (.bool false)))]) .ret) .skip)) (.seq (.reg false 0 [oN 2 (.mov (.c (.bool true)))]) .ret)))))))))))))))))))))))))⟩
structure D_laws_FnExactSolveNet (T : Nat → Option Fn) : Prop where
  hT : T 376 = some F_laws_FnExactSolveNet
  d_laws_eqPointS : D_laws_eqPointS T
  d_impl_SolveNet : D_impl_SolveNet T
  d_laws_szConditionalS : D_laws_szConditionalS T
  d_laws_toConditionalS : D_laws_toConditionalS T
  d_laws_eqConditionalS : D_laws_eqConditionalS T
  d_laws_markPointS : D_laws_markPointS T
  d_spec_SolveNet : D_spec_SolveNet T
  d_laws_markConditionalS : D_laws_markConditionalS T
  d_laws_heldPointS : D_laws_heldPointS T
theorem c_lawFnExactSolveNet {T : Nat → Option Fn} (h : D_laws_FnExactSolveNet T) (a : List Cd) (wa : (wfL Cd.wf) a) : PF T 376 [cdsV a] (.bool true) := by
  refine PO.frz ?_ (dep_bool 11 _)
  refine po_end2 (fun x d => (x == 306 && d == 26) || (x == 272 && d == 29) || (x == 385 && d == 48) || (x == 334 && d == 64)) h.hT rfl rfl ?_
  dsimp only [F_laws_FnExactSolveNet, oN, oS, oG, oK, oA, oH, oV, cI, St.enter, List.length_cons, List.length_nil, Nat.zero_add]
  (refine ew ?_; try with_reducible exact True.intro)
  refine PFK_of (c_szConditionalS h.d_laws_szConditionalS (l := a) wa ⟨by omega, by omega⟩) ?_
  (refine ew ?_; try with_reducible exact True.intro)
  have ka := @szr_le (1048576) (szL Cd.sz a)
  refine brK_dec (fun hba => ?_) fun hba => ?_
  · (refine ew ?_; try with_reducible exact True.intro)
    exact fin_bool
  have sa := szr_nlt hba
  (refine ew ?_; try with_reducible exact True.intro)
  have za : szL Cd.sz a ≤ 1048576 := by omega
  have sl : a.length ≤ 1048576 := by have := szL_eq Cd.sz a; omega
  have sps : ∀ c ∈ a, c.ps.length ≤ 1048576 := fun c hc => by
    have h1 := szL_eq Pa.sz c.ps
    have h2 := szL_memb (f := Cd.sz) za hc
    unfold Cd.sz at h2
    omega
  have hcn := svV_ok a
  have zr := hcn.1
  have wr := hcn.2
  have := cb_ConditionalS a
  have := cb_PointS (svV a)
  have PI := po_iSolveNet h.d_impl_SolveNet wa sps sl
  refine PFK_of (c_toConditionalS h.d_laws_toConditionalS (l := a) za) ?_
  (refine ew ?_; try with_reducible exact True.intro)
  refine PFK_of ((po_sSolveNet h.d_spec_SolveNet wa sps sl).frz (dep_tup2 (dep_pts _ _) (dep_bool _ _))) ?_
  (refine ew ?_; try with_reducible exact True.intro)
  refine RefK_got (po_toConditionalS h.d_laws_toConditionalS (l := a) za) (by (refine ew ?_; try with_reducible exact True.intro)) ?_
  intro x0 q1 o1 G
  have hO := G.ow
  have gn := G.nd
  have gf := G.fresh
  have go := G.old
  have gl := G.len
  clear G
  have E : Ep ([] : Store) [] [] [] [] := ⟨cs_nil, by simp [objAt]⟩
  have E2 := E.got (s1 := ([] : Store)) (fun _ _ => rfl) (by simp) (owL_1 hO) (by first | exact gn | simpa using gn) (by first | exact gf | simpa using gf) (by first | exact go | simpa using go)
  have hq : ([] : Store).length + 0 ≤ q1.length := by first | exact gl | simpa using gl
  clear E gn gf go gl
  have E : Ep q1 [x0] [cdsV a] _ [] := E2
  clear E2
  have Rf := And.intro (E.res 0 rfl rfl (dep_cds _ _)) (fun x => (E.snoc (x := x)).res 0 rfl rfl (dep_cds _ _))
  have LF := E.leaf 0 rfl rfl
  (refine ew4 @Rf @LF @numK_any @or_sc ?_; try with_reducible exact True.intro)
  refine RefK_got (PI) (by (refine ew4 @Rf @LF @numK_any @or_sc ?_; try with_reducible exact True.intro)) ?_
  intro r q2 o2 G
  have hO := G.ow
  have gn := G.nd
  have gf := G.fresh
  have go := G.old
  have gl := G.len
  clear G
  obtain ⟨_, rfl, hO0⟩ := hO.tup_inv
  obtain ⟨g0, _, u2_1, v2_1, rfl, rfl, hP2_1, hO2_1⟩ := hO0.inv
  obtain ⟨_, rfl, hO2_2⟩ := hO2_1.bool_inv
  obtain ⟨rfl, rfl⟩ := hO2_2.nil_inv
  simp only [List.append_nil, List.nil_append] at gn gf
  have E2 := E.got (s1 := q1) (fun _ _ => rfl) (by simp) (owL_1 hP2_1) (by first | exact gn | simpa using gn) (by first | exact gf | simpa using gf) (by first | exact go | simpa using go)
  have hq : q1.length + 0 ≤ q2.length := by first | exact gl | simpa using gl
  clear E gn gf go gl
  have E : Ep q2 [x0, g0] [cdsV a, ptsV (svV a)] _ [] := E2
  clear E2
  replace Rf := And.intro (E.res 0 rfl rfl (dep_cds _ _)) (And.intro (fun x => (E.snoc (x := x)).res 0 rfl rfl (dep_cds _ _)) (And.intro (E.res 1 rfl rfl (dep_pts _ _)) (fun x => (E.snoc (x := x)).res 1 rfl rfl (dep_pts _ _))))
  replace LF := And.intro (E.leaf 0 rfl rfl) (E.leaf 1 rfl rfl)
  (refine ew4 @Rf @LF @numK_any @or_sc ?_; try with_reducible exact True.intro)
  refine PFK_of (c_eqPointS h.d_laws_eqPointS (a := (svV a)) (b := (svV a)) wr wr) ?_
  (refine ew4 @Rf @LF @numK_any @or_sc ?_; try with_reducible exact True.intro)
  refine PFK_of (c_toConditionalS h.d_laws_toConditionalS (l := a) za) ?_
  (refine ew4 @Rf @LF @numK_any @or_sc ?_; try with_reducible exact True.intro)
  refine PFK_of (c_eqConditionalS h.d_laws_eqConditionalS (a := a) (b := a) wa wa) ?_
  (refine ew4 @Rf @LF @numK_any @or_sc ?_; try with_reducible exact True.intro)
  have hk0 : ¬ ((1 + cnL Cd.ct a a.length : Int) < 0) := by omega
  obtain ⟨s3, hr, E2, hl⟩ := E.call 0 (mk_markConditionalS h.d_laws_markConditionalS (l := a) (k := 1) (by first | omega | (constructor <;> omega)) (by first | omega | (constructor <;> omega))) rfl rfl
  refine RefK_mk hr rfl hl (by simp) ?_
  clear hr hl E Rf LF
  have E : Ep s3 [x0, g0] [cdsV (mkL Cd.mk3 Cd.ct 1 a), ptsV (svV a)] _ [] := E2
  clear E2
  have Rf := And.intro (E.res 0 rfl rfl (dep_cds _ _)) (And.intro (fun x => (E.snoc (x := x)).res 0 rfl rfl (dep_cds _ _)) (And.intro (E.res 1 rfl rfl (dep_pts _ _)) (fun x => (E.snoc (x := x)).res 1 rfl rfl (dep_pts _ _))))
  have LF := And.intro (E.leaf 0 rfl rfl) (E.leaf 1 rfl rfl)
  (refine ew5 @Rf @LF @numK_any @or_sc @hk0 ?_; try with_reducible exact True.intro)
  refine PFK_of (c_eqPointS h.d_laws_eqPointS (a := (svV a)) (b := (svV a)) wr wr) ?_
  (refine ew5 @Rf @LF @numK_any @or_sc @hk0 ?_; try with_reducible exact True.intro)
  obtain ⟨s4, hr, E2, hl⟩ := E.call 1 (mk_markPointS h.d_laws_markPointS (l := (svV a)) (k := 1) (by first | omega | (constructor <;> omega)) (by first | omega | (constructor <;> omega))) rfl rfl
  refine RefK_mk hr rfl hl (by simp) ?_
  clear hr hl E Rf LF
  have E : Ep s4 [x0, g0] [cdsV (mkL Cd.mk3 Cd.ct 1 a), ptsV (mkL Pt.mk3 Pt.ct 1 (svV a))] _ [] := E2
  clear E2
  have Rf := And.intro (E.res 0 rfl rfl (dep_cds _ _)) (And.intro (fun x => (E.snoc (x := x)).res 0 rfl rfl (dep_cds _ _)) (And.intro (E.res 1 rfl rfl (dep_pts _ _)) (fun x => (E.snoc (x := x)).res 1 rfl rfl (dep_pts _ _))))
  have LF := And.intro (E.leaf 0 rfl rfl) (E.leaf 1 rfl rfl)
  (refine ew4 @Rf @LF @numK_any @or_sc ?_; try with_reducible exact True.intro)
  refine PFK_of (c_heldPointS h.d_laws_heldPointS (l := (svV a)) (k := 1) (by first | omega | (constructor <;> omega)) (by first | omega | (constructor <;> omega))) ?_
  (refine ew4 @Rf @LF @numK_any @or_sc ?_; try with_reducible exact True.intro)
  refine brK_dec (fun hc => absurd hc (by first | omega | (constructor <;> omega))) fun _ => ?_
  (refine ew4 @Rf @LF @numK_any @or_sc ?_; try with_reducible exact True.intro)
  refine PFK_of (c_toConditionalS h.d_laws_toConditionalS (l := a) za) ?_
  (refine ew4 @Rf @LF @numK_any @or_sc ?_; try with_reducible exact True.intro)
  refine PFK_of (PI.frz (by exact dep_tup2 (dep_pts _ _) (dep_bool _ _))) ?_
  (refine ew4 @Rf @LF @numK_any @or_sc ?_; try with_reducible exact True.intro)
  refine PFK_of (c_eqPointS h.d_laws_eqPointS (a := (svV a)) (b := (svV a)) wr wr) ?_
  (refine ew4 @Rf @LF @numK_any @or_sc ?_; try with_reducible exact True.intro)
  refine PFK_of (c_heldPointS h.d_laws_heldPointS (l := (svV a)) (k := 1) (by first | omega | (constructor <;> omega)) (by first | omega | (constructor <;> omega))) ?_
  (refine ew4 @Rf @LF @numK_any @or_sc ?_; try with_reducible exact True.intro)
  refine brK_dec (fun hc => absurd hc (by first | omega | (constructor <;> omega))) fun _ => ?_
  (refine ew4 @Rf @LF @numK_any @or_sc ?_; try with_reducible exact True.intro)
  exact fin_bool
end Go.Ml
end
section
set_option linter.unusedSimpArgs false
namespace Go.Ml
def OutOk (P : Program) (fid : Nat) (o : OutF) : Prop :=
  ∀ args σ r σ', o.sem args σ r σ' → ∀ w M D (vals : Array Value), rdL w D (XS M D) args vals.toList → SRel w D M σ → Calls P fid vals w (Post M D w σ.length r σ')
def Fits (P : Program) (ν : Nat → Option Nat) (T : Nat → Option Fn) : Prop :=
  ∀ fid f F, ν fid = some f → T f = some F → (∃ fn, P.funcs[fid]? = some fn ∧ trFn P ν fn = some F) ∨ ∃ o, F.body = .lib o ∧ OutOk P fid o
theorem no_lib {T : Nat → Option Fn} {j : Job} {x : Out} (h : Run T j x) : ∀ o st, j ≠ .code (.lib o) st := by
  induction h with
  | gc ρ hn hρ h ih => intro o st e; cases e; exact ih o _ rfl
  | forget he ho hk h ih => intro o st e; cases e; exact ih o _ rfl
  | re W h h' ih => intro o st e; cases e; exact ih o _ rfl
  | _ => intro o st e; cases e
theorem trC_lib {P : Program} {ν : Nat → Option Nat} {nt : Nat} {o : OutF} : ∀ c : Code, trC P ν nt c ≠ some (.lib o) := by
  intro c h
  unfold trC at h
  cases c <;> simp at h
  all_goals (try (split at h <;> simp at h))
theorem trFn_lib {P : Program} {ν : Nat → Option Nat} {fn : Func} {F : Fn} {o : OutF} (h : trFn P ν fn = some F) (hb : F.body = .lib o) : False := by
  unfold trFn at h
  split at h <;> first | (cases h; done) | skip
  split at h <;> first | (cases h; done) | skip
  rename_i b rs' hb' hrs'
  split at h <;> first | (cases h; done) | skip
  simp only [Option.some.injEq] at h
  subst h
  simp only [] at hb
  subst hb
  exact trC_lib _ hb'
section
variable {P : Program} {ν : Nat → Option Nat} {T : Nat → Option Fn}
theorem okK_cons {m : Nat} {x : OpI} {l : List OpI} (h : okK m (x :: l) = true) : okK m l = true ∧ ∀ y ∈ l, y.i.makes = true → y.k ≠ x.k ∧ y.k < m := by
  have hm : ∀ (l : List OpI), okK m l = true → ∀ y ∈ l, y.i.makes = true → y.k < m := by
    intro l
    induction l with
    | nil => intro _ y hy; cases hy
    | cons z l ih =>
      intro h y hy hmk
      simp only [okK, Bool.and_eq_true] at h
      rcases List.mem_cons.1 hy with rfl | hy
      · have := h.1
        rw [if_pos hmk] at this
        simp only [Bool.and_eq_true, decide_eq_true_eq] at this
        exact this.1
      · exact ih h.2 y hy hmk
  simp only [okK, Bool.and_eq_true] at h
  refine ⟨h.2, fun y hy hmk => ⟨?_, hm l h.2 y hy hmk⟩⟩
  by_cases hx : x.i.makes = true
  · have := h.1
    rw [if_pos hx] at this
    simp only [Bool.and_eq_true, decide_eq_true_eq, List.all_eq_true] at this
    have := this.2 y hy
    simpa [hmk] using this
  · have := h.1
    rw [if_neg hx] at this
    simp only [beq_iff_eq] at this
    have := hm l h.2 y hy hmk
    omega
theorem okK_lt {m : Nat} : ∀ (l : List OpI), okK m l = true → ∀ x ∈ l, x.i.makes = true → x.k < m
  | [], _, y, hy, _ => by cases hy
  | z :: l, h, y, hy, hmk => by
    simp only [okK, Bool.and_eq_true] at h
    rcases List.mem_cons.1 hy with rfl | hy
    · have := h.1
      rw [if_pos hmk] at this
      simp only [Bool.and_eq_true, decide_eq_true_eq] at this
      exact this.1
    · exact okK_lt l h.2 y hy hmk
theorem okK_ne {m : Nat} : ∀ (l : List OpI), okK m l = true → ∀ (i j : Nat) (x y : OpI), l[i]? = some x → l[j]? = some y → i ≠ j → x.i.makes = true → x.k ≠ y.k
  | [], _, i, j, x, y, hx, _, _, _ => by simp at hx
  | z :: l, h, i, j, x, y, hx, hy, hij, hmk => by
    obtain ⟨k1, k2⟩ := okK_cons h
    cases i with
    | zero =>
      simp at hx; subst hx
      cases j with
      | zero => exact absurd rfl hij
      | succ j =>
        have hy' : y ∈ l := List.mem_of_getElem? (by simpa using hy)
        by_cases hmy : y.i.makes = true
        · exact fun e => (k2 y hy' hmy).1 e.symm
        · -- one that makes none has the number m
          have hm : ∀ (l : List OpI), okK m l = true → ∀ y ∈ l, y.i.makes ≠ true → y.k = m := by
            intro l
            induction l with
            | nil => intro _ y hy; cases hy
            | cons z l ih =>
              intro h y hy hn
              simp only [okK, Bool.and_eq_true] at h
              rcases List.mem_cons.1 hy with rfl | hy
              · have := h.1
                rw [if_neg hn] at this
                simpa using this
              · exact ih h.2 y hy hn
          have := hm l k1 y hy' hmy
          have h3 := okK_lt _ h z (by simp) hmk
          omega
    | succ i =>
      have hx' : x ∈ l := List.mem_of_getElem? (by simpa using hx)
      cases j with
      | zero =>
        simp at hy; subst hy
        exact (k2 x hx' hmk).1
      | succ j => exact okK_ne l k1 i j x y (by simpa using hx) (by simpa using hy) (by omega) hmk
theorem opsOk_cons {o : OpI} {l : List OpI} {st st1 st2 : St} (h1 : OpOk P ν o st st1) (h2 : OpsOk P ν l st1 st2) : OpsOk P ν (o :: l) st st2 := by
  obtain ⟨a1, a2, a3, a4⟩ := h1
  obtain ⟨b1, b2, b3, b4⟩ := h2
  refine ⟨b1.trans a1, b2.trans a2, Nat.le_trans a3 b3, ?_⟩
  intro ops dr nt m k rest htr hk M w0 D0 D a w hs hid Q hQ
  cases rest with
  | nil => simp [trOps] at htr
  | cons r rest =>
    simp only [trOps] at htr
    split at htr <;> first | (cases htr; done) | skip
    rename_i x hx
    split at htr <;> first | (cases htr; done) | skip
    rename_i l' hl'
    simp only [Option.some.injEq, List.cons.injEq] at htr
    obtain ⟨rfl, rfl⟩ := htr
    obtain ⟨k1, k2⟩ := okK_cons hk
    have key := a4 ops dr nt m k r hx M w0 D0 D a w hs (hid x (by simp)) (wpList P ops Q rest) Q (fun D' a' w' hs' hun => by
      refine b4 ops dr nt m _ rest hl' k1 M w0 D0 D' a' w' hs' (fun y hy hmk => ?_) Q hQ
      rw [a1]
      obtain ⟨e1, e2⟩ := hid y (by simp [hy]) hmk
      exact ⟨Nat.lt_of_lt_of_le e1 a3, hun _ (Nat.le_add_right _ _) e1 e2 (fun h => (k2 y hy hmk).1 (by omega))⟩)
    unfold wpList
    split
    · rename_i hw; rw [if_pos hw] at key; exact .inl key
    · rename_i hw; rw [if_neg hw] at key; exact key
theorem trC_inv {nt : Nat} {cc : Code} {c : C} (h : trC P ν nt cc = some c) : match c with
    | .skip => cc = .skip
    | .reg d m l => ∃ id ops, cc = .region id ops d ∧ trOps P ν ops d nt m 0 ops.toList = some l
    | .seq x y => ∃ a b, cc = .seq a b ∧ trC P ν nt a = some x ∧ trC P ν nt b = some y
    | .cond s x y => ∃ o a b, cc = .cond o a b ∧ trS o = some s ∧ trC P ν nt a = some x ∧ trC P ν nt b = some y
    | .block id x => ∃ a, cc = .block id a ∧ trC P ν nt a = some x
    | .loop x => ∃ a, cc = .loop a ∧ trC P ν nt a = some x
    | .exit id => cc = .exit id
    | .ret => cc = .ret
    | .lib _ => False := by
  cases cc with
  | skip => simp only [trC, Option.some.injEq] at h; subst h; rfl
  | region id ops d =>
    simp only [trC, Option.map_eq_some_iff] at h
    obtain ⟨l, h1, rfl⟩ := h
    exact ⟨id, ops, rfl, h1⟩
  | seq a b =>
    simp only [trC] at h
    split at h <;> first | (cases h; done) | skip
    rename_i x y h1 h2
    simp only [Option.some.injEq] at h; subst h
    exact ⟨a, b, rfl, h1, h2⟩
  | cond o a b =>
    simp only [trC] at h
    split at h <;> first | (cases h; done) | skip
    rename_i s x y h1 h2 h3
    simp only [Option.some.injEq] at h; subst h
    exact ⟨o, a, b, rfl, h1, h2, h3⟩
  | block id a =>
    simp only [trC, Option.map_eq_some_iff] at h
    obtain ⟨x, h1, rfl⟩ := h
    exact ⟨a, rfl, h1⟩
  | loop a =>
    simp only [trC, Option.map_eq_some_iff] at h
    obtain ⟨x, h1, rfl⟩ := h
    exact ⟨a, rfl, h1⟩
  | exit id => simp only [trC, Option.some.injEq] at h; subst h; rfl
  | ret => simp only [trC, Option.some.injEq] at h; subst h; rfl
  | _ => simp [trC] at h
theorem loop_of {c : C} {e : Ex} {st st' : St} (hk : st'.keep = st.keep) (h : LoopOk P ν c e st st') : CodeOk P ν (.loop c) e st st' := by
  refine ⟨hk, ?_⟩
  intro nt cc htr M w0 D0 D a w hs Q hQ
  obtain ⟨cb, rfl, hb⟩ := trC_inv htr
  intro b k cs
  obtain ⟨x, a', w', q, harr⟩ := h nt cb hb M w0 D0 D a w hs Q hQ b k cs
  exact ⟨x, a', w', q, .of_steps (.one step_loop) harr⟩
theorem exOf_ne {e : Ex} (h : e ≠ .normal) : exOf e ≠ .normal := by cases e <;> simp [exOf] at h ⊢
theorem then_of {next : Act → World → Prop} {Q : Exit → Act → World → Prop} {e : Ex} (h : e ≠ .normal) {a : Act} {w : World} (hq : Q (exOf e) a w) : Exit.then next Q (exOf e) a w := by
  cases e <;> first | (simp at h; done) | exact hq
def getRes (tmps : Array Value) : ResultVar → Sem Value
  | .tmp t => pure (tmps.getD t undef)
  | .cell q t => do loadVar t (← asAddr (tmps.getD q undef))
theorem results_eq (fn : Func) (tmps : Array Value) : results fn tmps = (do let vs ← fn.results.mapM (getRes tmps); pure (if h : vs.size = 1 then vs[0] else .tuple vs)) := rfl
theorem fnOk_lib (hT : Fits P ν T) {f : Nat} {args : List V} {σ : Store} {F : Fn} {o : OutF} {r : V} {σ' : Store} (hf : T f = some F) (hb : F.body = .lib o) (h : o.sem args σ r σ') : FnOk P ν f args σ r σ' := by
  intro fid hfid w M D vals hv hS
  rcases hT fid f F hfid hf with ⟨fn, hfn, htr⟩ | ⟨o', e, hO⟩
  · exact (trFn_lib htr hb).elim
  · rw [hb] at e
    cases e
    exact hO args σ r σ' h w M D vals hv hS
theorem fnOk_fn (hT : Fits P ν T) {f : Nat} {args : List V} {σ : Store} {F : Fn} {e : Ex} {st' : St} {rs : List V} (hf : T f = some F) (hl : args.length = F.nargs) (hnl : ∀ o, F.body ≠ .lib o)
    (ih : CodeOk P ν F.body e (St.enter args σ) st') (he : e = .normal ∨ e = .ret) (hr : F.res.mapM (Res.get st') = some rs) : FnOk P ν f args σ (packRes rs) st'.objs := by
  intro fid hfid w M D vals hv hS
  rcases hT fid f F hfid hf with ⟨fn, hfn, htr⟩ | ⟨o, e, _⟩
  case inr => exact (hnl o e).elim
  unfold trFn at htr
  split at htr <;> first | (cases htr; done) | skip
  rename_i body hbody
  split at htr <;> first | (cases htr; done) | skip
  rename_i b rs' hb hrs'
  split at htr <;> first | (cases htr; done) | skip
  rename_i hle
  simp only [Option.some.injEq] at htr; subst htr
  have hvl : vals.size = args.length := by simpa using (rdL_length _ _ hv).symm
  refine calls_of_wp hfn hbody ?_
  have hs0 : SR fn.ntmps M w D (St.enter args σ) D { tmps := vals ++ Array.replicate (fn.ntmps - vals.size) undef, defers := [] } w := by
    refine ⟨?_, ?_, rfl, hS, Gr.refl _ _, fun o d h => .inl ⟨o, d, h, rfl⟩, fun o _ => DSle.refl _⟩
    · intro t
      simp only [St.enter]
      by_cases ht : t < args.length
      · obtain ⟨y, h1, h2⟩ := rdL_get _ _ hv t args[t] (by simp [ht])
        have e1 : argE args t = args[t] := by simp [argE, ht]
        rw [e1]
        have e2 : (vals ++ Array.replicate (fn.ntmps - vals.size) undef).getD t undef = y := by
          rw [Array.getD_eq_getD_getElem?, Array.getElem?_append_left (by omega)]
          rw [← Array.getElem?_toList, h1]; rfl
        rw [e2]; exact h2
      · have e1 : argE args t = .any := by simp [argE, List.getD, List.getElem?_eq_none (Nat.le_of_not_lt ht)]
        rw [e1]; simp only [rd]
    · simp only [Array.size_append, Array.size_replicate]; simp only [] at hl; omega
  refine ih.2 fn.ntmps body hb M w D D _ w hs0 _ ?_
  intro D' a' w' hs'
  have hres : ∃ v, (results fn a'.tmps).run P w' = .ok v w' ∧ rd w' D' (XS M D') (packRes rs) v := by
    have hlist : ∀ (vars : List ResultVar) (rl : List Res) (vl : List V), vars.mapM (trRes P) = some rl → rl.mapM (Res.get st') = some vl →
        ∃ ys : List Value, (vars.mapM (getRes a'.tmps)).run P w' = .ok ys w' ∧ rdL w' D' (XS M D') vl ys := by
      intro vars
      induction vars with
      | nil => intro rl vl h1 h2; simp at h1; subst h1; simp at h2; subst h2; exact ⟨[], by simp, by simp [rdL]⟩
      | cons x vars ihv =>
        intro rl vl h1 h2
        simp only [List.mapM_cons, Option.pure_def, Option.bind_eq_bind, Option.bind_eq_some_iff, Option.some.injEq] at h1
        obtain ⟨r, hr1, rl', hr2, rfl⟩ := h1
        simp only [List.mapM_cons, Option.pure_def, Option.bind_eq_bind, Option.bind_eq_some_iff, Option.some.injEq] at h2
        obtain ⟨z, hz1, vl', hz2, rfl⟩ := h2
        obtain ⟨ys, k1, k2⟩ := ihv rl' vl' hr2 hz2
        cases x with
        | tmp t =>
          simp only [trRes, Option.some.injEq] at hr1; subst hr1
          simp only [Res.get, Option.some.injEq] at hz1; subst hz1
          refine ⟨a'.tmps.getD t undef :: ys, ?_, by simp only [rdL]; exact ⟨_, _, rfl, hs'.env t, k2⟩⟩
          have hg : (getRes a'.tmps (.tmp t)).run P w' = .ok (a'.tmps.getD t undef) w' := rfl
          simp only [List.mapM_cons, Sem.run_bind, Sem.run_pure, Result.andThen_ok, k1, hg]
        | cell q t =>
          simp only [trRes, Option.map_eq_some_iff] at hr1
          obtain ⟨⟨n, g⟩, hg, rfl⟩ := hr1
          simp only [Res.get] at hz1
          split at hz1 <;> first | (cases hz1; done) | skip
          rename_i row off hrow
          obtain ⟨u, j1, j2⟩ := run_load_agg hs'.store hg hrow (hs'.env q) hz1
          obtain ⟨bl, oo, hptr, _⟩ := rowAt_rd hs'.store hrow (hs'.env q)
          refine ⟨u :: ys, ?_, by simp only [rdL]; exact ⟨_, _, rfl, j2, k2⟩⟩
          have j1' : (loadVar t ⟨bl, oo + off, none⟩).run P w' = .ok u w' := by
            rw [hptr] at j1
            simpa [Instr.loadAt, Instr.sureAddr] using j1
          have hg : (getRes a'.tmps (.cell q t)).run P w' = .ok u w' := by
            simp only [getRes, hptr, asAddr, Sem.run_bind, Sem.run_pure, Result.andThen_ok, j1']
          simp only [List.mapM_cons, Sem.run_bind, Sem.run_pure, Result.andThen_ok, k1, hg]
    obtain ⟨ys, k1, k2⟩ := hlist fn.results.toList rs' rs hrs' hr
    refine ⟨if h : ys.toArray.size = 1 then ys.toArray[0] else .tuple ys.toArray, ?_, ?_⟩
    · have : (fn.results.mapM (getRes a'.tmps)).run P w' = .ok ys.toArray w' := by
        rw [← Array.toArray_toList (xs := fn.results), List.mapM_toArray, Sem.run_map, k1]; rfl
      rw [results_eq]
      simp only [Sem.run_bind, this, Result.andThen_ok, Sem.run_pure]
    · have hlen := rdL_length _ _ k2
      have gen : ∀ (rs : List V) (ys : List Value), rdL w' D' (XS M D') rs ys → rs.length = ys.length → rd w' D' (XS M D') (packRes rs) (if h : ys.toArray.size = 1 then ys.toArray[0] else .tuple ys.toArray) := by
        intro rs ys h hl
        cases rs with
        | nil =>
          cases ys with
          | nil => simp only [packRes]; rw [dif_neg (by simp)]; simp only [rd]; exact ⟨_, rfl, h⟩
          | cons y ys => simp at hl
        | cons x xs =>
          cases ys with
          | nil => simp at hl
          | cons y ys =>
            cases xs with
            | nil =>
              cases ys with
              | nil =>
                simp only [rdL] at h
                obtain ⟨y', ys', h0, h1, h2⟩ := h
                cases h0
                simpa [packRes] using h1
              | cons y' ys => simp at hl
            | cons x' xs =>
              cases ys with
              | nil => simp at hl
              | cons y' ys =>
                simp only [packRes]
                rw [dif_neg (by simp)]
                simp only [rd]
                exact ⟨_, rfl, h⟩
      exact gen rs ys k2 hlen
  obtain ⟨v, hv1, hv2⟩ := hres
  have hfin : bodyPost P fn (Post M D w σ.length (packRes rs) st'.objs) .ret a' w' :=
    ⟨hs'.df, v, hv1, v, D', rfl, hv2, hs'.store, hs'.gr, hs'.fr, fun o ho => hs'.kp o (by rw [ih.1]; exact ho)⟩
  rcases he with rfl | rfl <;> exact hfin
theorem trOps_get {ops : Array Oper} {dr : Bool} {nt m : Nat} : ∀ {k : Nat} {rest : List Oper} {l : List OpI}, trOps P ν ops dr nt m k rest = some l →
    l.length = rest.length ∧ ∀ (i : Nat) (x : OpI), l[i]? = some x → ∃ o k', rest[i]? = some o ∧ trOp P ν ops dr nt m k' o = some x
  | k, [], l, h => by simp only [trOps, Option.some.injEq] at h; subst h; simp
  | k, o :: rest, l, h => by
    simp only [trOps] at h
    split at h <;> first | (cases h; done) | skip
    rename_i x hx
    split at h <;> first | (cases h; done) | skip
    rename_i l' hl'
    simp only [Option.some.injEq] at h; subst h
    obtain ⟨e1, e2⟩ := trOps_get hl'
    refine ⟨by simp [e1], fun i y hi => ?_⟩
    cases i with
    | zero => simp at hi; subst hi; exact ⟨o, k, rfl, hx⟩
    | succ i => simpa using e2 i y (by simpa using hi)
theorem trOp_aft {ops : Array Oper} {nt m k : Nat} {o : Oper} {x : OpI} (h : trOp P ν ops true nt m k o = some x) : x.aft = trAft o := by
  unfold trOp at h
  split at h <;> first | (cases h; done) | skip
  split at h <;> first | (cases h; done) | skip
  simp only [Option.some.injEq] at h; subst h
  rfl
theorem ready_iff {ops : Array Oper} {nt m : Nat} {l : List OpI} (h : trOps P ν ops true nt m 0 ops.toList = some l) {done : List Nat} {listed : Array Bool} (hs : listed.size = ops.size)
    (hl : ∀ i, listed.getD i false = true ↔ i ∈ done) {i : Nat} : i ∈ Region.ready .any ops listed ↔ readyB l done i = true := by
  obtain ⟨e1, e2⟩ := trOps_get h
  rw [mem_ready]
  have hlt : ∀ {i : Nat}, i < ops.size → (listed.getD i true = false ↔ i ∉ done) := by
    intro i hi
    have : listed.getD i true = listed.getD i false := by
      rw [Array.getD_eq_getD_getElem?, Array.getD_eq_getD_getElem?, Array.getElem?_eq_getElem (by omega)]; rfl
    rw [this]
    constructor
    · intro h1 h2; rw [(hl i).2 h2] at h1; cases h1
    · intro h1
      cases hb : listed.getD i false with
      | false => rfl
      | true => exact absurd ((hl i).1 hb) h1
  constructor
  · rintro ⟨h1, o, ho, h2⟩
    have hi := (Array.getElem?_eq_some_iff.1 ho).1
    have hil : i < l.length := by rw [e1]; simpa using hi
    obtain ⟨o', k', ho', hx⟩ := e2 i l[i] (by simp [hil])
    have : o' = o := by rw [Array.getElem?_toList] at ho'; rw [ho] at ho'; exact (Option.some.inj ho').symm
    subst this
    unfold readyB
    rw [List.getElem?_eq_getElem hil]
    simp only [Bool.and_eq_true, Bool.not_eq_true', List.all_eq_true]
    refine ⟨?_, ?_⟩
    · have := (hlt hi).1 h1
      simpa using this
    · intro e he
      rw [trOp_aft hx] at he
      simp only [trAft, List.mem_map, List.mem_filter] at he
      obtain ⟨ed, ⟨h3, h4⟩, rfl⟩ := he
      have := h2 ed (by simpa using h3) h4
      simpa using (hl _).1 this
  · intro hr
    unfold readyB at hr
    split at hr <;> first | (cases hr; done) | skip
    rename_i x hx
    simp only [Bool.and_eq_true, Bool.not_eq_true', List.all_eq_true] at hr
    obtain ⟨o, k', ho, htr⟩ := e2 i x hx
    have ho' : ops[i]? = some o := by rwa [Array.getElem?_toList] at ho
    have hi := (Array.getElem?_eq_some_iff.1 ho').1
    refine ⟨(hlt hi).2 (by simpa using hr.1), o, ho', ?_⟩
    intro e he hb
    refine (hl _).2 ?_
    have := hr.2 e.on (by rw [trOp_aft htr]; simp only [trAft, List.mem_map, List.mem_filter]; exact ⟨e, ⟨by simpa using he, hb⟩, rfl⟩)
    simpa using this
theorem sound (hm : P.follows .mixedOrders = true) (hT : Fits P ν T) {j : Job} {o : Out} (h : Run T j o) : Sound P ν j o := by
  induction h with
  | skip st =>
    refine ⟨⟨rfl, ?_⟩, fun x h => by cases h⟩
    intro nt cc htr M w0 D0 D a w hs Q hQ
    have hc : cc = .skip := trC_inv htr
    subst hc
    exact Go.wp_skip (hQ D a w hs)
  | @reg m l st st' hk h ih =>
    obtain ⟨_, i1, i2, i3, i4⟩ := ih
    refine ⟨⟨i2, ?_⟩, fun x h => by cases h⟩
    intro nt cc htr M w0 D0 D a w hs Q hQ
    obtain ⟨id, ops, rfl, hops⟩ := trC_inv htr
    refine wp_region_list ?_
    refine i4 ops false nt m 0 ops.toList hops hk M w0 D0 D a w ⟨hs.env, hs.tm, hs.df, hs.mem m, hs.gr, hs.fr, hs.kp⟩ (fun x hx hmk => ?_) Q (fun D' a' w' h => hQ D' a' w' h)
    have hkm : x.k < m := by
      have : ∀ (l : List OpI), okK m l = true → ∀ x ∈ l, x.i.makes = true → x.k < m := by
        intro l
        induction l with
        | nil => intro _ y hy; cases hy
        | cons z l ih =>
          intro h y hy hmk
          simp only [okK, Bool.and_eq_true] at h
          rcases List.mem_cons.1 hy with rfl | hy
          · have := h.1
            rw [if_pos hmk] at this
            simp only [Bool.and_eq_true, decide_eq_true_eq] at this
            exact this.1
          · exact ih h.2 y hy hmk
      exact this l hk x hx hmk
    simp only [List.length_append, List.length_replicate]
    exact ⟨by omega, hs.store.far _ (by omega)⟩
  | @regD m l st st' hk h ih =>
    obtain ⟨_, i1, i2, i3, i4⟩ := ih
    refine ⟨⟨i2, ?_⟩, fun x h => by cases h⟩
    intro nt cc htr M w0 D0 D a w hs Q hQ
    obtain ⟨id, ops, rfl, hops⟩ := trC_inv htr
    refine wp_region_any hm ?_
    have hsd : SR nt M w0 D0 st D a { w with drawn := w.drawn + 1 } := by
      have hE : Ext w D (XS M D) { w with drawn := w.drawn + 1 } D (XS M D) := ⟨Nat.le_refl _, fun _ _ _ => rfl, fun _ _ h => h, fun _ => DSle.refl _⟩
      refine ⟨fun t => rd_mono _ _ hE (hs.env t), hs.tm, hs.df, ?_, ⟨hs.gr.size, hs.gr.os, hs.gr.tape, hs.gr.output, hs.gr.block⟩, hs.fr, hs.kp⟩
      refine ⟨fun o d ho => ?_, hs.store.alive, hs.store.inj, hs.store.far, hs.store.mlt⟩
      obtain ⟨ob, c, e, g1, g2, g3, g4, g5, g6, g7, g8, g9, g10, g11⟩ := hs.store.live o d ho
      refine ⟨ob, c, e, g1, g2, g3, g4, g5, g6, g7, g8, g9, g10, fun i x hi => ?_⟩
      obtain ⟨k0, y, k1, k2⟩ := g11 i x hi
      exact ⟨k0, y, k1, rd_mono _ _ hE k2⟩
    refine i4 ops nt m hops hk M w0 D0 D a _ ⟨hsd.env, hsd.tm, hsd.df, hsd.mem m, hsd.gr, hsd.fr, hsd.kp⟩ (fun i x hx _ hmk => ?_) Q (fun D' a' w' h => hQ D' a' w' h) _ _ (by simp) (fun i => ?_) ?_
    · have hkm : x.k < m := okK_lt l hk x (List.mem_of_getElem? hx) hmk
      simp only [List.length_append, List.length_replicate]
      exact ⟨by omega, hsd.store.far _ (by omega)⟩
    · simp only [Array.getD_eq_getD_getElem?, Array.getElem?_replicate]
      split <;> simp
    · simp
  | @anyN l done st h =>
    refine ⟨rfl, rfl, rfl, Nat.le_refl _, ?_⟩
    intro ops nt m htr hk M w0 D0 D a w hs hid Q hQ fuel listed h1 h2 h3
    refine wpAny_done ?_ (hQ D a w hs) fuel
    apply List.eq_nil_iff_forall_not_mem.2
    intro i hi
    rw [ready_iff htr h1 h2, h i] at hi
    cases hi
  | @anyC l done st st' i0 h0 f h h' ih ih' =>
    obtain ⟨_, b1, b2, b3, _⟩ := ih' i0 h0
    obtain ⟨x0, hx0⟩ : ∃ x0, l[i0]? = some x0 := by
      unfold readyB at h0
      split at h0 <;> first | (cases h0; done) | skip
      exact ⟨_, by assumption⟩
    obtain ⟨_, a1, a2, a3, _⟩ := ih i0 x0 hx0 h0
    refine ⟨rfl, b1.trans a1, b2.trans a2, Nat.le_trans a3 b3, ?_⟩
    intro ops nt m htr hk M w0 D0 D a w hs hid Q hQ fuel listed h1 h2 h3
    have hready : ∀ i, i ∈ Region.ready .any ops listed ↔ readyB l done i = true := fun i => ready_iff htr h1 h2
    have hpos : fuel ≠ 0 := by
      rintro rfl
      have hi := (hready i0).2 h0
      have := (mem_ready.1 hi).1
      obtain ⟨_, o, ho, _⟩ := mem_ready.1 hi
      have hlt := (Array.getElem?_eq_some_iff.1 ho).1
      have hmem : false ∈ listed.toList := by
        have : listed[i0]'(by omega) = false := by
          rw [Array.getD_eq_getD_getElem?, Array.getElem?_eq_getElem (by omega)] at this
          simpa using this
        rw [← this]; simp
      have := List.count_pos_iff.2 hmem
      omega
    obtain ⟨fuel, rfl⟩ := Nat.exists_eq_succ_of_ne_zero hpos
    refine ⟨fun hnil => ?_, fun i hi => ?_⟩
    · have := (hready i0).2 h0
      rw [hnil] at this; cases this
    · have hr := (hready i).1 hi
      obtain ⟨e1, e2⟩ := trOps_get htr
      obtain ⟨_, o, ho, _⟩ := mem_ready.1 hi
      have hlt := (Array.getElem?_eq_some_iff.1 ho).1
      have hil : i < l.length := by rw [e1]; simpa using hlt
      obtain ⟨o', k', ho', hx⟩ := e2 i l[i] (by simp [hil])
      have : o' = o := by rw [Array.getElem?_toList] at ho'; rw [ho] at ho'; exact (Option.some.inj ho').symm
      subst this
      have hli : l[i]? = some l[i] := by simp [hil]
      have hnd : i ∉ done := by
        unfold readyB at hr
        rw [hli] at hr
        simp only [Bool.and_eq_true, Bool.not_eq_true'] at hr
        simpa using hr.1
      obtain ⟨_, c1, c2, c3, c4⟩ := ih i l[i] hli hr
      obtain ⟨_, d1, d2, d3, d4⟩ := ih' i hr
      have key := c4 ops true nt m k' o' hx M w0 D0 D a w hs (fun hmk => hid i l[i] hli hnd hmk) (wpAny P .any ops Q fuel (listed.setIfInBounds i true)) Q (fun D' a' w' hs' hun => by
        refine d4 ops nt m htr hk M w0 D0 D' a' w' hs' (fun j y hy hj hmk => ?_) Q hQ fuel _ (by simpa using h1) (fun j => ?_) ?_
        · simp only [List.mem_cons, not_or] at hj
          rw [c1]
          obtain ⟨g1, g2⟩ := hid j y hy hj.2 hmk
          refine ⟨Nat.lt_of_lt_of_le g1 c3, hun _ (Nat.le_add_right _ _) g1 g2 ?_⟩
          intro he
          have hne := okK_ne l hk j i y l[i] hy hli hj.1 hmk
          omega
        · rw [Array.getD_eq_getD_getElem?, Array.getElem?_setIfInBounds]
          by_cases hij : i = j
          · subst hij
            simp [h1, hlt]
          · rw [if_neg hij, ← Array.getD_eq_getD_getElem?, h2 j]
            simp only [List.mem_cons]
            constructor
            · exact .inr
            · rintro (h | h)
              · exact absurd h.symm hij
              · exact h
        · have hfi : listed[i]'(by omega) = false := by
            have := (mem_ready.1 hi).1
            rw [Array.getD_eq_getD_getElem?, Array.getElem?_eq_getElem (by omega)] at this
            simpa using this
          rw [Array.toList_setIfInBounds, List.count_set (by simpa using (by omega : i < listed.size))]
          have h4 : listed.toList[i]'(by simpa using (by omega : i < listed.size)) = false := by simpa using hfi
          have h5 : 0 < listed.toList.count false := List.count_pos_iff.2 (by rw [← h4]; exact List.getElem_mem _)
          simp only [h4, beq_self_eq_true, if_true]
          have : (true == false) = false := rfl
          simp only [this, Bool.false_eq_true, if_false]
          omega)
      unfold wpOp
      simp only [ho]
      split
      · rename_i hw; rw [if_pos hw] at key; exact .inl key
      · rename_i hw; rw [if_neg hw] at key; exact key
  | @seqN a b st st1 o h h' ih ih' =>
    cases o with
    | fn r σ => trivial
    | code e st2 =>
    obtain ⟨⟨i1, i2⟩, _⟩ := ih
    obtain ⟨⟨j1, j2⟩, _⟩ := ih'
    refine ⟨⟨j1.trans i1, ?_⟩, fun x h => by cases h⟩
    intro nt cc htr M w0 D0 D a w hs Q hQ
    obtain ⟨ca, cb, rfl, ha, hb⟩ := trC_inv htr
    refine Go.wp_seq (i2 nt ca ha M w0 D0 D a w hs _ fun D' a' w' hs' => ?_)
    exact j2 nt cb hb M w0 D0 D' a' w' hs' Q hQ
  | @seqE a b st e st1 he h ih =>
    obtain ⟨⟨i1, i2⟩, _⟩ := ih
    refine ⟨⟨i1, ?_⟩, fun x h => by cases h⟩
    intro nt cc htr M w0 D0 D a w hs Q hQ
    obtain ⟨ca, cb, rfl, ha, hb⟩ := trC_inv htr
    exact Go.wp_seq (i2 nt ca ha M w0 D0 D a w hs _ fun D' a' w' hs' => then_of he (hQ D' a' w' hs'))
  | @cond x a b st t o hx h ih =>
    cases o with
    | fn r σ => trivial
    | code e st2 =>
    obtain ⟨⟨i1, i2⟩, _⟩ := ih
    refine ⟨⟨i1, ?_⟩, fun x h => by cases h⟩
    intro nt cc htr M w0 D0 D a w hs Q hQ
    obtain ⟨oc, ca, cb, rfl, h1, ha, hb⟩ := trC_inv htr
    have hv := rd_src hs.env h1
    rw [hx] at hv
    simp only [rd] at hv
    refine Go.wp_cond hv (i2 nt _ ?_ M w0 D0 D _ w hs Q hQ)
    cases t
    · exact hb
    · exact ha
  | @block id c st e st1 h ih =>
    obtain ⟨⟨i1, i2⟩, _⟩ := ih
    refine ⟨⟨i1, ?_⟩, fun x h => by cases h⟩
    intro nt cc htr M w0 D0 D a w hs Q hQ
    obtain ⟨ca, rfl, ha⟩ := trC_inv htr
    refine Go.wp_block (i2 nt ca ha M w0 D0 D a w hs _ fun D' a' w' hs' => ?_)
    have := hQ D' a' w' hs'
    cases e with
    | normal => exact this
    | ret => exact this
    | exit id' =>
      simp only [exOf, exIn, Exit.inBlock] at this ⊢
      by_cases hid : id' = id
      · simp only [hid, if_true] at this ⊢; exact this
      · simp only [hid, if_false] at this ⊢; exact this
  | @loopN c st st1 o h h' ih ih' =>
    cases o with
    | fn r σ => trivial
    | code e st2 =>
    obtain ⟨⟨i1, i2⟩, _⟩ := ih
    obtain ⟨⟨j1, _⟩, j2⟩ := ih'
    have key : LoopOk P ν c e st st2 := by
      intro nt cc htr M w0 D0 D a w hs Q hQ b k cs
      obtain ⟨x, a1, w1, ⟨D1, hx, hs1⟩, harr⟩ := i2 nt cc htr M w0 D0 D a w hs (fun x a' w' => ∃ D', x = .normal ∧ SR nt M w0 D0 st1 D' a' w') (fun D' a' w' h => ⟨D', rfl, h⟩) b (.inLoop cc :: k) cs
      subst hx
      obtain ⟨x2, a2, w2, q2, harr2⟩ := j2 c rfl nt cc htr M w0 D0 D1 a1 w1 hs1 Q hQ b k cs
      exact ⟨x2, a2, w2, q2, .of_steps (Steps.trans harr (.one step_inLoop)) harr2⟩
    exact ⟨loop_of (j1.trans i1) key, fun x hx => by cases hx; exact key⟩
  | @loopE c st e st1 he h ih =>
    obtain ⟨⟨i1, i2⟩, _⟩ := ih
    have key : LoopOk P ν c e st st1 := by
      intro nt cc htr M w0 D0 D a w hs Q hQ b k cs
      obtain ⟨x, a1, w1, ⟨D1, hx, hs1⟩, harr⟩ := i2 nt cc htr M w0 D0 D a w hs (fun x a' w' => ∃ D', x = exOf e ∧ SR nt M w0 D0 st1 D' a' w') (fun D' a' w' h => ⟨D', rfl, h⟩) b (.inLoop cc :: k) cs
      subst hx
      exact ⟨_, a1, w1, hQ D1 a1 w1 hs1, .pass (x := .inLoop cc) rfl (fun _ _ => .inl (exOf_ne he)) harr⟩
    exact ⟨loop_of i1 key, fun x hx => by cases hx; exact key⟩
  | exit id st =>
    refine ⟨⟨rfl, ?_⟩, fun x h => by cases h⟩
    intro nt cc htr M w0 D0 D a w hs Q hQ
    have hc : cc = .exit id := trC_inv htr
    subst hc
    exact Go.wp_exit (hQ D a w hs)
  | ret st =>
    refine ⟨⟨rfl, ?_⟩, fun x h => by cases h⟩
    intro nt cc htr M w0 D0 D a w hs Q hQ
    have hc : cc = .ret := trC_inv htr
    subst hc
    exact Go.wp_ret (hQ D a w hs)
  | @gc c st o ρ hn hρ h ih =>
    cases o with
    | fn r σ => trivial
    | code e st2 =>
    obtain ⟨⟨i1, i2⟩, i3⟩ := ih
    refine ⟨⟨i1, ?_⟩, ?_⟩
    · intro nt cc htr M w0 D0 D a w hs Q hQ
      exact i2 nt cc htr M w0 D0 _ a w (hs.gc hn hρ) Q hQ
    · intro x hx nt cc htr M w0 D0 D a w hs Q hQ
      exact i3 x hx nt cc htr M w0 D0 _ a w (hs.gc hn hρ) Q hQ
  | nil st =>
    refine ⟨rfl, rfl, rfl, Nat.le_refl _, ?_⟩
    intro ops dr nt m k rest htr hk M w0 D0 D a w hs hid Q hQ
    cases rest with
    | nil => exact hQ D a w hs
    | cons r rest =>
      simp only [trOps] at htr
      split at htr <;> first | (cases htr; done) | skip
      split at htr <;> first | (cases htr; done) | skip
  | @cons o l st st1 out h h' ih ih' =>
    cases out with
    | fn r σ => trivial
    | code e st2 => exact ⟨ih'.1, opsOk_cons ih.2 ih'.2⟩
  | off hg he => exact ⟨rfl, opOk_off hg he⟩
  | op hg h => exact ⟨rfl, opOk_op hg h⟩
  | callP hg hi ha h hR ih => exact ⟨rfl, opOk_callP hg hi ha ih hR⟩
  | callR ρ hn hρ hg hi h ih => exact ⟨rfl, opOk_callR hn hρ hg hi ih⟩
  | callG hg hi ha h hR ih => exact ⟨rfl, opOk_callG hg hi ha ih hR⟩
  | callI hg hi h hl hb ih => exact ⟨rfl, opOk_callI hg hi ih hl hb⟩
  | @fn f args σ F e st' rs hf hl h he hr ih => exact fnOk_fn hT hf hl (fun o e => no_lib h o (St.enter args σ) (by rw [e])) ih.1 he hr
  | lib hf hb h => exact fnOk_lib hT hf hb h
  | frz h hr ih => exact fnOk_frz hr ih
  | gcF ρ hn hρ h ih => exact fnOk_gcF hn hρ ih
  | @forget c st st2 o he ho hk h' ih =>
    cases o with
    | fn r σ => trivial
    | code e st3 =>
    obtain ⟨⟨i1, i2⟩, i3⟩ := ih
    refine ⟨⟨i1.trans hk, ?_⟩, ?_⟩
    · intro nt cc htr M w0 D0 D a w hs Q hQ
      exact i2 nt cc htr M w0 D0 _ a w (hs.forget he ho hk) Q hQ
    · intro x hx nt cc htr M w0 D0 D a w hs Q hQ
      exact i3 x hx nt cc htr M w0 D0 _ a w (hs.forget he ho hk) Q hQ
  | @re c st st2 o W h h' ih =>
    cases o with
    | fn r σ => trivial
    | code e st3 =>
    obtain ⟨⟨i1, i2⟩, i3⟩ := ih
    refine ⟨⟨i1.trans h.keep, ?_⟩, ?_⟩
    · intro nt cc htr M w0 D0 D a w hs Q hQ
      exact i2 nt cc htr M w0 D0 _ a w (hs.re h) Q hQ
    · intro x hx nt cc htr M w0 D0 D a w hs Q hQ
      exact i3 x hx nt cc htr M w0 D0 _ a w (hs.re h) Q hQ
  | reF W ha h hs hr ih => exact fnOk_reF ha hs hr ih
  | laxF ha h hr ih => exact fnOk_laxF ha hr ih
end
end Go.Ml
end
section
set_option linter.unusedSimpArgs false
set_option linter.unusedVariables false
namespace Go.Ml
open Go.ChangeShapes Go.WideShapes Go.ChangeAt Go.RowKit
def nuOf : List (Nat × Nat × Fn) → Nat → Option Nat
  | [], _ => none
  | x :: l, i => if x.1 = i then some x.2.1 else nuOf l i
def tbOf : List (Nat × Nat × Fn) → Nat → Option Fn
  | [], _ => none
  | x :: l, k => if x.2.1 = k then some x.2.2 else tbOf l k
theorem nuOf_mem : ∀ {l : List (Nat × Nat × Fn)} {i k : Nat}, nuOf l i = some k → ∃ x ∈ l, x.1 = i ∧ x.2.1 = k
  | [], _, _, h => by simp [nuOf] at h
  | x :: l, i, k, h => by
    simp only [nuOf] at h
    split at h
    · rename_i e; exact ⟨x, by simp, e, by simpa using h⟩
    · obtain ⟨y, hy, e⟩ := nuOf_mem h; exact ⟨y, by simp [hy], e⟩
theorem tbOf_mem : ∀ {l : List (Nat × Nat × Fn)} {k : Nat} {F : Fn}, tbOf l k = some F → ∃ x ∈ l, x.2.1 = k ∧ x.2.2 = F
  | [], _, _, h => by simp [tbOf] at h
  | x :: l, i, k, h => by
    simp only [tbOf] at h
    split at h
    · rename_i e; exact ⟨x, by simp, e, by simpa using h⟩
    · obtain ⟨y, hy, e⟩ := tbOf_mem h; exact ⟨y, by simp [hy], e⟩
theorem eq_of_nodup_map {α β : Type} {f : α → β} : ∀ {l : List α}, (l.map f).Nodup → ∀ {x y}, x ∈ l → y ∈ l → f x = f y → x = y
  | [], _, _, _, h, _, _ => by cases h
  | a :: l, hn, x, y, hx, hy, e => by
    simp only [List.map_cons, List.nodup_cons] at hn
    rcases List.mem_cons.1 hx with rfl | hx' <;> rcases List.mem_cons.1 hy with rfl | hy'
    · rfl
    · exact absurd (e ▸ List.mem_map_of_mem hy') hn.1
    · exact absurd (e ▸ List.mem_map_of_mem hx') hn.1
    · exact eq_of_nodup_map hn.2 hx' hy' e
theorem fits_of {P : Program} {l : List (Nat × Nat × Fn)} (hnd : (l.map (·.2.1)).Nodup) (h : ∀ x ∈ l, (∃ fn, P.funcs[x.1]? = some fn ∧ trFn P (nuOf l) fn = some x.2.2) ∨ ∃ o, x.2.2.body = .lib o ∧ OutOk P x.1 o) : Fits P (nuOf l) (tbOf l) := by
  intro fid f F h1 h2
  obtain ⟨x, hx, e1, e2⟩ := nuOf_mem h1
  obtain ⟨y, hy, e3, e4⟩ := tbOf_mem h2
  have : x = y := eq_of_nodup_map hnd hx hy (e2.trans e3.symm)
  subst this
  rw [← e1, ← e4]
  exact h x hx
theorem calls_of {P : Program} {l : List (Nat × Nat × Fn)} (hm : P.follows .mixedOrders = true) (hT : Fits P (nuOf l) (tbOf l)) {f fid : Nat} {args : List V} {r : V} (h : PF (tbOf l) f args r) (hf : nuOf l fid = some f)
    {w : World} {vals : Array Value} (hr : rdL w DM.none (fun _ => False) args vals.toList) :
    Calls P fid vals w fun e w' => (∃ v D X, e = .returned v ∧ rd w' D X r v) ∧ Below w.heap.size w w' := by
  have hs := sound hm hT h
  have hX : XS (fun _ => False) DM.none = fun _ => False := by
    funext b; simp [XS, DM.none]
  refine (hs fid hf w (fun _ => False) DM.none vals (by rw [hX]; exact hr) ⟨?_, ?_, ?_, ?_, ?_⟩).mono fun e w' hp => ?_
  · intro o d h; cases h
  · intro o ob h; simp [objAt] at h
  · intro o o' d d' h; cases h
  · intro o _; rfl
  · intro b h; exact h.elim
  · obtain ⟨v, D', e1, e2, e3, e4, _⟩ := hp
    refine ⟨⟨v, D', _, e1, e2⟩, ⟨e4.os, e4.tape, e4.output, e4.size, fun k hk => e4.block k hk ?_⟩⟩
    rintro ⟨o, d, h, _⟩; cases h
theorem calls_true {P : Program} {l : List (Nat × Nat × Fn)} (hm : P.follows .mixedOrders = true) (hT : Fits P (nuOf l) (tbOf l)) {f fid : Nat} {args : List V} (h : PF (tbOf l) f args (.bool true)) (hf : nuOf l fid = some f)
    {w : World} {vals : Array Value} (hr : rdL w DM.none (fun _ => False) args vals.toList) :
    Calls P fid vals w fun e w' => e = .returned (.bool true) ∧ Below w.heap.size w w' :=
  (calls_of hm hT h hf hr).mono fun e w' hp => by
    obtain ⟨⟨v, D, X, rfl, e2⟩, hb⟩ := hp
    have : v = .bool true := by simpa [rd] using e2
    exact ⟨by rw [this], hb⟩
end Go.Ml
end
section
set_option linter.unusedSimpArgs false
set_option linter.unusedVariables false
namespace Go.Ml
open Go.ChangeShapes Go.WideShapes Go.ChangeAt Go.RowKit
inductive Lf where
  | int (k : IntKind)
  | bool
  | str
  | sl (row : List Lf)
mutual
def Mt : Lf → V → Prop
  | .int k, v => ∃ n, v = .int k n ∧ (Lit.int k n).wf = true
  | .bool, v => ∃ b, v = .bool b
  | .str, v => ∃ s, v = .str s ∧ s.length ≤ maxLen
  | .sl row, v => ∃ rows : List (List V), v = .sl row.length rows ∧ rows.length ≤ maxLen ∧ ∀ r ∈ rows, MtL row r
def MtL : List Lf → List V → Prop
  | [], vs => vs = []
  | l :: ls, vs => ∃ v vs', vs = v :: vs' ∧ Mt l v ∧ MtL ls vs'
end
def shFs (P : Program) (sh : TypeId → Option (List Lf)) : List Field → Nat → Option (List Lf)
  | [], _ => some []
  | f :: fs, off => match sh f.type, shFs P sh fs (off + P.cellsOf f.type) with
    | some r, some rs => if f.offset = off ∧ r.length = P.cellsOf f.type then some (r ++ rs) else none
    | _, _ => none
def shapeOf (P : Program) : Nat → TypeId → Option (List Lf)
  | 0, _ => none
  | n + 1, t => match P.underlying t with
    | some (.int k) => some [.int k]
    | some .bool => some [.bool]
    | some .string => some [.str]
    | some (.slice e) => match shapeOf P n e with
      | some r => if r.length = P.cellsOf e ∧ 0 < r.length then some [.sl r] else none
      | none => none
    | some (.struct fs) => match shFs P (shapeOf P n) fs.toList 0 with
      | some r => if r.length = P.cellsOf t then some r else none
      | none => none
    | _ => none
theorem mtL_append {l1 l2 : List Lf} {v1 v2 : List V} (h1 : MtL l1 v1) (h2 : MtL l2 v2) : MtL (l1 ++ l2) (v1 ++ v2) := by
  induction l1 generalizing v1 with
  | nil => simp only [MtL] at h1; subst h1; simpa using h2
  | cons l l1 ih =>
    simp only [MtL] at h1
    obtain ⟨v, vs, rfl, a, b⟩ := h1
    simp only [List.cons_append, MtL]
    exact ⟨v, vs ++ v2, rfl, a, ih b⟩
theorem mtL_len {l : List Lf} {v : List V} (h : MtL l v) : v.length = l.length := by
  induction l generalizing v with
  | nil => simp only [MtL] at h; subst h; rfl
  | cons x l ih =>
    simp only [MtL] at h
    obtain ⟨v, vs, rfl, a, b⟩ := h
    simp [ih b]
theorem mt_leaf : ∀ {l : Lf} {v : V}, Mt l v → v.leaf = true := by
  intro l v h
  cases l <;> simp only [Mt] at h
  · obtain ⟨n, rfl, _⟩ := h; rfl
  · obtain ⟨b, rfl⟩ := h; rfl
  · obtain ⟨s, rfl, _⟩ := h; rfl
  · obtain ⟨rows, rfl, _⟩ := h; rfl
theorem mtL_leaf {l : List Lf} {v : List V} (h : MtL l v) : ∀ x ∈ v, x.leaf = true := by
  induction l generalizing v with
  | nil => simp only [MtL] at h; subst h; intro x hx; cases hx
  | cons y l ih =>
    simp only [MtL] at h
    obtain ⟨v, vs, rfl, a, b⟩ := h
    intro x hx
    rcases List.mem_cons.1 hx with rfl | hx
    · exact mt_leaf a
    · exact ih b x hx
theorem rdRows_of {w : World} {D : DM} {X : Nat → Prop} {b sz : Nat} : ∀ (off : Nat) (rows : List (List V)),
    (∀ i r, rows[i]? = some r → r.length = sz ∧ rdCells w D X b (off + i * sz) r) → rdRows w D X b sz off rows
  | _, [], _ => by simp [rdRows]
  | off, r :: rows, h => by
    simp only [rdRows]
    have h0 := h 0 r rfl
    refine ⟨h0.1, by simpa using h0.2, rdRows_of (off + sz) rows fun i r' hi => ?_⟩
    have := h (i + 1) r' (by simpa using hi)
    rwa [show off + (i + 1) * sz = off + sz + i * sz by rw [Nat.succ_mul]; omega] at this
theorem rdCells_of_rdL {w : World} {D : DM} {X : Nat → Prop} {b : Nat} : ∀ (off : Nat) (vs : List V) (cs : List Value), rdL w D X vs cs → (∀ x ∈ vs, x.leaf = true) →
    (∀ i, i < cs.length → w.cell? ⟨b, off + i, none⟩ = cs[i]?) → rdCells w D X b off vs
  | _, [], _, _, _, _ => by simp [rdCells]
  | off, v :: vs, cs, h, hl, hc => by
    simp only [rdL] at h
    obtain ⟨y, ys, rfl, h1, h2⟩ := h
    simp only [rdCells]
    refine ⟨hl v (by simp), ⟨y, by simpa using hc 0 (by simp), h1⟩, rdCells_of_rdL (off + 1) vs ys h2 (fun x hx => hl x (by simp [hx])) fun i hi => ?_⟩
    have := hc (i + 1) (by simpa using hi)
    rw [show off + 1 + i = off + (i + 1) by omega, this]
    simp
section
variable {H : Type} {enc : TypeId × Value → H} {P : Program} {w : World}
theorem shape_rd : ∀ (n : Nat) {t : TypeId} {L : List Lf} {fuel : Nat} {cs : List Value} {x : DataW H × List MemPlace}, shapeOf P n t = some L →
    DataW.trod enc P w 0 (fun _ => true) true fuel t cs = some x → ∃ vs, MtL L vs ∧ rdL w DM.none (fun _ => False) vs cs
  | 0, t, L, fuel, cs, x, h, _ => by simp [shapeOf] at h
  | n + 1, t, L, fuel, cs, x, h, hx => by
    cases fuel with
    | zero => simp [DataW.trod] at hx
    | succ fuel =>
    simp only [shapeOf] at h
    split at h
    · rename_i k hu
      simp only [Option.some.injEq] at h; subst h
      obtain ⟨m, rfl, _, hw⟩ := DataW.trod_int hu hx
      exact ⟨[.int k m], by simp [MtL, Mt, hw], by simp [rdL, rd]⟩
    · rename_i hu
      simp only [Option.some.injEq] at h; subst h
      rw [DataW.trod_step] at hx
      unfold DataW.trodStep at hx
      rw [hu] at hx
      split at hx <;> simp_all
      rename_i b
      exact ⟨[.bool b], by simp [MtL, Mt], by simp [rdL, rd]⟩
    · rename_i hu
      simp only [Option.some.injEq] at h; subst h
      rw [DataW.trod_step] at hx
      unfold DataW.trodStep at hx
      rw [hu] at hx
      split at hx <;> simp_all
      rename_i s
      exact ⟨[.str s.data.toList], by simp [MtL, Mt]; exact hx.1, by simp [rdL, rd]⟩
    · rename_i e hu
      split at h <;> first | (cases h; done) | skip
      rename_i r hr
      split at h <;> first | (cases h; done) | skip
      rename_i hsz
      simp only [Option.some.injEq] at h; subst h
      rcases DataW.trod_slice hu hx with ⟨rfl, _⟩ | ⟨a, len, cap, elems, rest, m, _, rfl, _, hb, hl, hm, hlen, hel, _, _⟩
      · exact ⟨[.sl r.length []], by simp [MtL, Mt], by simp only [rdL, rd]; exact ⟨_, [], rfl, ⟨none, 0, rfl, Nat.le_refl _, .inl (by trivial)⟩, rfl⟩⟩
      · have hel' : ∀ i, i < len → ∃ cs', w.cells? 0 (a.add (i * P.cellsOf e)) (P.cellsOf e) = some cs' ∧ ∃ vs, MtL r vs ∧ rdL w DM.none (fun _ => False) vs cs' := by
          intro i hi
          have h1 := hel i hi
          have h2 : elems[i]? = some (elems[i]'(by omega)) := List.getElem?_eq_getElem (by omega)
          rw [h2, Option.bind_eq_some_iff] at h1
          obtain ⟨cs', k1, k2⟩ := h1
          exact ⟨cs', k1, shape_rd n hr k2⟩
        have hch : ∀ i, ∃ p : List Value × List V, i < len → w.cells? 0 (a.add (i * P.cellsOf e)) (P.cellsOf e) = some p.1 ∧ MtL r p.2 ∧ rdL w DM.none (fun _ => False) p.2 p.1 := by
          intro i
          by_cases hi : i < len
          · obtain ⟨cs', k1, vs, k2, k3⟩ := hel' i hi
            exact ⟨(cs', vs), fun _ => ⟨k1, k2, k3⟩⟩
          · exact ⟨([], []), fun h => absurd h hi⟩
        obtain ⟨f, hf⟩ := Classical.axiomOfChoice hch
        have hrow : ∀ i vs, ((List.range len).map fun i => (f i).2)[i]? = some vs → i < len ∧ vs = (f i).2 := by
          intro i vs hi
          rw [List.getElem?_map, Option.map_eq_some_iff] at hi
          obtain ⟨j, h1, h2⟩ := hi
          obtain ⟨h3, h4⟩ := List.getElem?_eq_some_iff.1 h1
          rw [List.getElem_range] at h4
          subst h4
          exact ⟨by simpa using h3, h2.symm⟩
        refine ⟨[.sl r.length ((List.range len).map fun i => (f i).2)], ?_, ?_⟩
        · simp only [MtL, Mt]
          refine ⟨_, [], rfl, ⟨_, rfl, by simp; exact Nat.le_trans hl hm, fun rr hrr => ?_⟩, rfl⟩
          obtain ⟨i, hi⟩ := List.mem_iff_getElem?.1 hrr
          obtain ⟨h1, rfl⟩ := hrow i rr hi
          exact (hf i h1).2.1
        · simp only [rdL, rd]
          refine ⟨_, [], rfl, ⟨some a, cap, by simp, by simpa using hl, ?_⟩, rfl⟩
          by_cases h0 : len = 0
          · left; subst h0; rfl
          · right
            obtain ⟨b, off, spot⟩ := a
            have hspot : spot = none := by
              obtain ⟨_, _, hc⟩ := World.cells?_some (hf 0 (by omega)).1
              have hlen0 := (World.cells?_some (hf 0 (by omega)).1).2.1
              have hc0 := hc 0 (by omega)
              have hlt0 : 0 < (f 0).1.length := by omega
              rw [List.getElem?_eq_getElem hlt0] at hc0
              simpa [Addr.add] using World.cell?_spot hc0
            subst hspot
            have hb' : b < w.heap.size := by
              have := World.cells?_block (hf 0 (by omega)).1 (by omega)
              simpa [Addr.add] using this
            refine ⟨b, off, rfl, hb', fun h => h, rdRows_of _ _ fun i rr hi => ?_⟩
            obtain ⟨h1, rfl⟩ := hrow i rr hi
            obtain ⟨g1, g2, g3⟩ := hf i h1
            obtain ⟨_, hl2, hc⟩ := World.cells?_some g1
            refine ⟨mtL_len g2, rdCells_of_rdL _ _ _ g3 (mtL_leaf g2) fun j hj => ?_⟩
            have := hc j (by omega)
            rw [← this, hsz.1]
            congr 1
            simp only [addr_add]
    · rename_i fs hu
      split at h <;> first | (cases h; done) | skip
      rename_i r hr
      split at h <;> first | (cases h; done) | skip
      rename_i hsz
      simp only [Option.some.injEq] at h; subst h
      rw [DataW.trod_step] at hx
      unfold DataW.trodStep at hx
      rw [hu] at hx
      simp only [] at hx
      split at hx <;> first | (cases hx; done) | skip
      rename_i hlen
      rw [Option.map_eq_some_iff] at hx
      obtain ⟨xs, hxs, _⟩ := hx
      have key : ∀ (fl : List Field) (off : Nat) (r : List Lf) (xs : List (DataW H × List MemPlace)), shFs P (shapeOf P n) fl off = some r →
          (fl.mapM fun f => DataW.trod enc P w 0 (fun _ => true) true fuel f.type ((cs.drop f.offset).take (P.cellsOf f.type))) = some xs →
          ∃ vs, MtL r vs ∧ rdL w DM.none (fun _ => False) vs ((cs.drop off).take r.length) := by
        intro fl
        induction fl with
        | nil =>
          intro off r xs h _
          simp only [shFs, Option.some.injEq] at h; subst h
          exact ⟨[], by simp [MtL], by simp [rdL]⟩
        | cons f fl ih =>
          intro off r xs h hm
          simp only [shFs] at h
          split at h <;> first | (cases h; done) | skip
          rename_i r1 rs h1 h2
          split at h <;> first | (cases h; done) | skip
          rename_i hc
          simp only [Option.some.injEq] at h; subst h
          simp only [List.mapM_cons, Option.pure_def, Option.bind_eq_bind, Option.bind_eq_some_iff, Option.some.injEq] at hm
          obtain ⟨y, hy, ys, hys, rfl⟩ := hm
          obtain ⟨v1, a1, a2⟩ := shape_rd n h1 hy
          obtain ⟨v2, b1, b2⟩ := ih _ rs ys h2 hys
          refine ⟨v1 ++ v2, mtL_append a1 b1, ?_⟩
          have e : (cs.drop off).take (r1 ++ rs).length = (cs.drop off).take r1.length ++ (cs.drop (off + P.cellsOf f.type)).take rs.length := by
            rw [List.length_append, List.take_add, List.drop_drop, hc.2]
          rw [e]
          rw [hc.1, ← hc.2] at a2
          exact rdL_append _ _ _ _ a2 b2
      obtain ⟨vs, a1, a2⟩ := key fs.toList 0 r xs hr hxs
      refine ⟨vs, a1, ?_⟩
      rw [List.drop_zero, List.take_of_length_le (by omega)] at a2
      exact a2
    · cases h
theorem shape_in (n : Nat) {t : TypeId} {L : List Lf} {v : Value} {d : DataW H} {ps : List MemPlace} (hs : shapeOf P n t = some L) (h : DataW.Trod enc P w 0 (fun _ => true) true t v d ps) :
    ∃ vs, MtL L vs ∧ rdL w DM.none (fun _ => False) vs v.cells.toList := by
  obtain ⟨fuel, hf⟩ := h
  exact shape_rd n hs hf
end
end Go.Ml
namespace Go.Ml
open Go.ChangeShapes Go.WideShapes Go.ChangeAt Go.RowKit
def argV (g : Bool) (vs : List V) : V := if g = true then .agg vs else vs.headD .any
def ArgsMt : List (Bool × List Lf) → List V → Prop
  | [], vs => vs = []
  | s :: ss, vs => ∃ cs rest, vs = argV s.1 cs :: rest ∧ MtL s.2 cs ∧ ArgsMt ss rest
def argOk (P : Program) (t : TypeId) (s : Bool × List Lf) : Bool :=
  match P.underlying t with
  | some (.struct _) => s.1
  | some (.int _) | some .bool | some .string | some (.slice _) => !s.1
  | _ => false
def argsOk (P : Program) : List TypeId → List (Bool × List Lf) → Prop
  | [], ss => ss = []
  | t :: ts, ss => ∃ s rest, ss = s :: rest ∧ shapeOf P 20 t = some s.2 ∧ argOk P t s = true ∧ argsOk P ts rest
theorem args_in {H : Type} {enc : TypeId × Value → H} {P : Program} {w : World} {r : Reach} {b : Nat} : ∀ {ts : List TypeId} {ss : List (Bool × List Lf)} {vs : List Value} {ds : List (DataW H)} {ps : List MemPlace},
    argsOk P ts ss → (∀ (j : Nat) t v, ts[j]? = some t → vs[j]? = some v → Value.okWide P w r b t v) → DataW.TrodAll enc P w 0 (fun _ => true) true ts vs ds ps →
    ∃ Vs, ArgsMt ss Vs ∧ rdL w DM.none (fun _ => False) Vs vs
  | [], ss, [], ds, ps, h, _, _ => by simp only [argsOk] at h; subst h; exact ⟨[], rfl, by simp [rdL]⟩
  | [], _, _ :: _, ds, ps, _, _, ht => by cases ds <;> exact ht.elim
  | _ :: _, _, [], ds, ps, _, _, ht => by cases ds <;> exact ht.elim
  | t :: ts, ss, v :: vs, [], ps, _, _, ht => ht.elim
  | t :: ts, ss, v :: vs, d :: ds, ps, h, hw, ht => by
    simp only [argsOk] at h
    obtain ⟨s, rest, rfl, h1, h2, h3⟩ := h
    obtain ⟨p, q, k1, k2, _⟩ := ht
    obtain ⟨Vs, a1, a2⟩ := args_in h3 (fun j t' v' hj hv => hw (j + 1) t' v' (by simpa using hj) (by simpa using hv)) k2
    obtain ⟨cs, c1, c2⟩ := shape_in 20 h1 k1
    have hok := hw 0 t v rfl rfl
    refine ⟨argV s.1 cs :: Vs, ⟨cs, Vs, rfl, c1, a1⟩, ?_⟩
    simp only [rdL]
    refine ⟨v, vs, rfl, ?_, a2⟩
    unfold argOk at h2
    have one : (∀ cs', v ≠ .agg cs') → s.1 = false → s.2.length = 1 → rd w DM.none (fun _ => False) (argV s.1 cs) v := by
      intro hv hs hl
      have hvc : v.cells.toList = [v] := by cases v <;> first | rfl | (exact absurd rfl (hv _))
      rw [hvc] at c2
      have := mtL_len c1
      rw [hl] at this
      cases cs with
      | nil => simp at this
      | cons x xs =>
        simp only [rdL] at c2
        obtain ⟨y, ys, e, e2, _⟩ := c2
        simp only [List.cons.injEq] at e
        rw [hs]
        simp only [argV, Bool.false_eq_true, if_false, List.headD_cons]
        rw [e.1]; exact e2
    unfold shapeOf at h1
    split at h2
    · rename_i fs hu
      rw [h2]
      simp only [Value.okWide, hu] at hok
      obtain ⟨cs', rfl, _⟩ := hok
      simp only [argV, if_true, rd]
      exact ⟨cs', rfl, c2⟩
    · rename_i k hu
      rw [hu] at h1
      simp only [Option.some.injEq] at h1
      obtain ⟨n, rfl⟩ := okWide_int hu hok
      exact one (by intro cs' e; cases e) (by simpa using h2) (by rw [← h1]; rfl)
    · rename_i hu
      rw [hu] at h1
      simp only [Option.some.injEq] at h1
      obtain ⟨n, rfl⟩ := okWide_bool hu hok
      exact one (by intro cs' e; cases e) (by simpa using h2) (by rw [← h1]; rfl)
    · rename_i hu
      rw [hu] at h1
      simp only [Option.some.injEq] at h1
      obtain ⟨n, rfl⟩ := okWide_string hu hok
      exact one (by intro cs' e; cases e) (by simpa using h2) (by rw [← h1]; rfl)
    · rename_i e hu
      rw [hu] at h1
      simp only [] at h1
      obtain ⟨a0, l0, c0, rfl⟩ := okWide_slice hu hok
      refine one (by intro cs' e; cases e) (by simpa using h2) ?_
      split at h1 <;> first | (cases h1; done) | skip
      split at h1 <;> first | (cases h1; done) | skip
      simp only [Option.some.injEq] at h1
      rw [← h1]; rfl
    · cases h2
theorem trodAll_below {H : Type} {enc : TypeId × Value → H} {P : Program} (hl : laidOutB P = true) {W W' : World} (hb : Below W.heap.size W W') : ∀ {ts : List TypeId} {vs : List Value} {ds : List (DataW H)} {ps : List MemPlace},
    (ts.all fun t => P.readableRec t && decide (t < P.types.size)) = true → DataW.TrodAll enc P W 0 (fun _ => true) true ts vs ds ps → (∀ x ∈ ps, x.block < W.heap.size) →
    DataW.TrodAll enc P W' 0 (fun b => decide (b < W.heap.size)) true ts vs ds ps
  | [], [], [], ps, _, h, _ => h
  | [], _ :: _, ds, ps, _, ht, _ => by cases ds <;> exact ht.elim
  | [], [], _ :: _, ps, _, ht, _ => ht.elim
  | _ :: _, [], ds, ps, _, ht, _ => by cases ds <;> exact ht.elim
  | t :: ts, v :: vs, [], ps, _, ht, _ => ht.elim
  | t :: ts, v :: vs, d :: ds, ps, h, ht, hlt => by
    simp only [List.all_cons, Bool.and_eq_true, decide_eq_true_eq] at h
    obtain ⟨p, q, k1, k2, rfl⟩ := ht
    exact ⟨p, q, Below.trod hl h.1.1 h.1.2 k1 hb fun x hx => hlt x (by simp [hx]), trodAll_below hl hb (by simpa using h.2) k2 fun x hx => hlt x (by simp [hx]), rfl⟩
end Go.Ml
end
section
set_option linter.unusedSimpArgs false
set_option linter.unusedVariables false
namespace Go.Ml
theorem mtL_split : ∀ {a b : List Lf} {vs : List V}, MtL (a ++ b) vs → ∃ v1 v2, vs = v1 ++ v2 ∧ MtL a v1 ∧ MtL b v2
  | [], b, vs, h => ⟨[], vs, rfl, by simp [MtL], h⟩
  | x :: a, b, vs, h => by
    simp only [List.cons_append, MtL] at h
    obtain ⟨v, vs', rfl, h1, h2⟩ := h
    obtain ⟨v1, v2, rfl, h3, h4⟩ := mtL_split h2
    refine ⟨v :: v1, v2, rfl, ?_, h4⟩
    simp only [MtL]; exact ⟨v, v1, rfl, h1, h3⟩
theorem dec_list {α : Type} {row : List Lf} {f : α → List V} {W : α → Prop} (h : ∀ r, MtL row r → ∃ x, r = f x ∧ W x) {v : V} (hv : Mt (.sl row) v) : ∃ l : List α, v = .sl row.length (l.map f) ∧ wfL W l := by
  simp only [Mt] at hv
  obtain ⟨rows, rfl, hl, hr⟩ := hv
  have key : ∀ rows : List (List V), (∀ r ∈ rows, MtL row r) → ∃ l : List α, rows = l.map f ∧ ∀ x ∈ l, W x := by
    intro rows
    induction rows with
    | nil => intro _; exact ⟨[], rfl, by simp⟩
    | cons r rows ih =>
      intro hr
      obtain ⟨x, rfl, hx⟩ := h r (hr r (by simp))
      obtain ⟨l, rfl, hl⟩ := ih fun r hr' => hr r (by simp [hr'])
      exact ⟨x :: l, rfl, by simpa using ⟨hx, hl⟩⟩
  obtain ⟨l, rfl, hw⟩ := key rows hr
  exact ⟨l, rfl, by simpa [maxLen] using hl, hw⟩
theorem dec_intv {v : V} (h : Mt (.int .i64) v) : ∃ n, v = iv n ∧ (Lit.int .i64 n).wf = true := by simpa only [Mt] using h
theorem dec_bool {v : V} (h : Mt .bool v) : ∃ b, v = .bool b := by simpa only [Mt] using h
theorem dec_one {l : Lf} {r : List V} (h : MtL [l] r) : ∃ v, r = [v] ∧ Mt l v := by
  simp only [MtL] at h
  obtain ⟨v, vs, rfl, h1, rfl⟩ := h
  exact ⟨v, rfl, h1⟩
abbrev shI : Lf := .sl [.int .i64]
abbrev shR : List Lf := [.bool, shI, shI]
abbrev shPa : List Lf := [.int .i64] ++ (shR ++ (shR ++ shR))
abbrev shCd : List Lf := [.int .i64] ++ (shR ++ [.sl shPa])
theorem dec_ints {v : V} (h : Mt shI v) : ∃ l : List Int, v = ints l ∧ l.length ≤ 9223372036854775807 := by
  obtain ⟨l, rfl, hl⟩ := dec_list (f := fun n => [iv n]) (W := fun _ => True) (fun r hr => by
    obtain ⟨v, rfl, g⟩ := dec_one hr
    obtain ⟨n, rfl, _⟩ := dec_intv g
    exact ⟨n, rfl, trivial⟩) h
  exact ⟨l, rfl, hl.1⟩
theorem dec_R {vs : List V} (h : MtL shR vs) : ∃ r : R, vs = r.cells ∧ r.wf := by
  simp only [MtL] at h
  obtain ⟨v1, _, rfl, h1, v2, _, rfl, h2, v3, _, rfl, h3, rfl⟩ := h
  obtain ⟨b, rfl⟩ := dec_bool h1
  obtain ⟨m, rfl, hm⟩ := dec_ints h2
  obtain ⟨d, rfl, hd⟩ := dec_ints h3
  exact ⟨⟨b, m, d⟩, rfl, hm, hd⟩
theorem dec_int1 {vs : List V} (h : MtL [.int .i64] vs) : ∃ n, vs = [iv n] := by
  obtain ⟨v, rfl, g⟩ := dec_one h
  obtain ⟨n, rfl, _⟩ := dec_intv g
  exact ⟨n, rfl⟩
theorem dec_Pa {vs : List V} (h : MtL shPa vs) : ∃ p : Pa, vs = p.cells ∧ p.wf := by
  obtain ⟨v1, v2, rfl, h1, h⟩ := mtL_split h
  obtain ⟨v3, v4, rfl, h3, h⟩ := mtL_split h
  obtain ⟨v4, v5, rfl, h4, h5⟩ := mtL_split h
  obtain ⟨a, rfl⟩ := dec_int1 h1
  obtain ⟨x, rfl, hx⟩ := dec_R h3
  obtain ⟨y, rfl, hy⟩ := dec_R h4
  obtain ⟨z, rfl, hz⟩ := dec_R h5
  exact ⟨⟨a, x, y, z⟩, rfl, hx, hy, hz⟩
theorem dec_Pas {v : V} (h : Mt (.sl shPa) v) : ∃ l, v = pasV l ∧ wfL Pa.wf l := dec_list (fun _ hr => dec_Pa hr) h
theorem dec_Cd {vs : List V} (h : MtL shCd vs) : ∃ p : Cd, vs = p.cells ∧ p.wf := by
  obtain ⟨v1, v2, rfl, h1, h⟩ := mtL_split h
  obtain ⟨v3, v4, rfl, h3, h4⟩ := mtL_split h
  obtain ⟨a, rfl⟩ := dec_int1 h1
  obtain ⟨x, rfl, hx⟩ := dec_R h3
  obtain ⟨v, rfl, g4⟩ := dec_one h4
  obtain ⟨l, rfl, hl⟩ := dec_Pas g4
  exact ⟨⟨a, x, l⟩, rfl, hx, hl⟩
theorem dec_Cds {v : V} (h : Mt (.sl shCd) v) : ∃ l, v = cdsV l ∧ wfL Cd.wf l := dec_list (fun _ hr => dec_Cd hr) h
def AllP {α : Type} (P : α → Prop) : List α → Prop
  | [] => True
  | x :: l => P x ∧ AllP P l
theorem AllP.mem {α : Type} {P : α → Prop} : ∀ {l : List α}, AllP P l → ∀ x ∈ l, P x
  | [], _, x, hx => by cases hx
  | y :: l, h, x, hx => by
    rcases List.mem_cons.1 hx with rfl | hx
    · exact h.1
    · exact AllP.mem h.2 x hx
end Go.Ml
namespace Go.Ml
theorem trod_len {H : Type} {enc : TypeId × Value → H} {P : Program} {w : World} {b : Nat} {sp : Nat → Bool} {hd : Bool} : ∀ {ts : List TypeId} {vs : List Value} {ds : List (DataW H)} {ps : List MemPlace},
    DataW.TrodAll enc P w b sp hd ts vs ds ps → ds.length = ts.length
  | [], [], [], _, _ => rfl
  | [], [], _ :: _, _, h => h.elim
  | [], _ :: _, ds, _, h => by cases ds <;> exact h.elim
  | _ :: _, [], ds, _, h => by cases ds <;> exact h.elim
  | _ :: _, _ :: _, [], _, h => h.elim
  | t :: ts, v :: vs, d :: ds, ps, h => by
    obtain ⟨p, q, _, h2, _⟩ := h
    simp [trod_len h2]
end Go.Ml
end
