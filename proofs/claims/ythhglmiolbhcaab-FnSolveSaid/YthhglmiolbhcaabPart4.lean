/- A small language for the functions of this claim, its soundness, contracts. -/
import Derived.Test.YthhglmiolbhcaabPart3
section
set_option linter.unusedSimpArgs false
set_option linter.unusedVariables false
set_option maxRecDepth 100000
set_option maxHeartbeats 8000000
namespace Go.Ml
abbrev MQ := Nat → Nat → Rat
def rsum (f : Nat → Rat) : Nat → Rat
  | 0 => 0
  | n + 1 => rsum f n + f n
theorem rsum_ext {f g : Nat → Rat} : ∀ {n : Nat}, (∀ i, i < n → f i = g i) → rsum f n = rsum g n
  | 0, _ => rfl
  | n + 1, h => by
    show rsum f n + f n = rsum g n + g n
    rw [rsum_ext fun i hi => h i (by omega), h n (by omega)]
theorem rsum_sub (f g : Nat → Rat) (c : Rat) : ∀ n, rsum (fun j => f j - g j * c) n = rsum f n - rsum g n * c
  | 0 => by show (0 : Rat) = 0 - 0 * c; grind
  | n + 1 => by
    show rsum (fun j => f j - g j * c) n + (f n - g n * c) = rsum f n + f n - (rsum g n + g n) * c
    rw [rsum_sub f g c n]; grind
theorem rsum_div (f : Nat → Rat) (c : Rat) : ∀ n, rsum (fun j => f j / c) n = rsum f n / c
  | 0 => by show (0 : Rat) = 0 / c; grind
  | n + 1 => by
    show rsum (fun j => f j / c) n + f n / c = (rsum f n + f n) / c
    rw [rsum_div f c n]; grind
theorem rsum_delta (f : Nat → Rat) (i : Nat) : ∀ n, rsum (fun j => (if i = j then (1 : Rat) else 0) * f j) n = if i < n then f i else 0
  | 0 => rfl
  | n + 1 => by
    show rsum (fun j => (if i = j then (1 : Rat) else 0) * f j) n + (if i = n then (1 : Rat) else 0) * f n = _
    rw [rsum_delta f i n]
    by_cases h : i = n
    · subst h
      rw [if_neg (Nat.lt_irrefl _), if_pos rfl, if_pos (Nat.lt_succ_self _)]; grind
    · rw [if_neg h]
      by_cases h2 : i < n
      · rw [if_pos h2, if_pos (by omega)]; grind
      · rw [if_neg h2, if_neg (by omega)]; grind
def mqSw (A : MQ) (k p : Nat) : MQ := fun i => if i = p then A k else if i = k then A p else A i
def mqDv (A : MQ) (k : Nat) : MQ := fun i j => if i = k then A k j / A k k else A i j
def mqTr (A : MQ) (k : Nat) : MQ := fun i j => if i = k then A k j else A i j - A k j * A i k
def mqSt (A : MQ) (k p : Nat) : MQ := mqTr (mqDv (mqSw A k p) k) k
def mqP (A : MQ) (k : Nat) : Nat → Nat → Nat
  | 0, p => p
  | f + 1, p => if A p k = 0 then mqP A k f (p + 1) else p
theorem mqP_at (A : MQ) (k : Nat) : ∀ f p, (p ≤ mqP A k f p ∧ mqP A k f p ≤ p + f) ∧ (mqP A k f p < p + f → A (mqP A k f p) k ≠ 0)
  | 0, p => ⟨⟨Nat.le_refl _, Nat.le_refl _⟩, fun h => absurd h (Nat.lt_irrefl _)⟩
  | f + 1, p => by
    unfold mqP
    have := mqP_at A k f (p + 1)
    split
    · exact ⟨by omega, fun h => this.2 (by omega)⟩
    · rename_i h0
      exact ⟨by omega, fun _ => h0⟩
def mqPv (n : Nat) (A : MQ) (k : Nat) : Nat := mqP A k (n - k) k
theorem mqPv_at {n : Nat} {A : MQ} {k : Nat} (hk : k < n) (h : mqPv n A k < n) : k ≤ mqPv n A k ∧ A (mqPv n A k) k ≠ 0 := by
  have := mqP_at A k (n - k) k
  unfold mqPv at *
  exact ⟨this.1.1, this.2 (by omega)⟩
def mqIt (n : Nat) (A : MQ) : Nat → Option MQ
  | 0 => some A
  | k + 1 => (mqIt n A k).bind fun B => if mqPv n B k < n then some (mqSt B k (mqPv n B k)) else none
def MqE (n : Nat) (A B : MQ) : Prop := ∀ i, i < n → ∀ j, j < n → A i j = B i j
theorem mqP_eq {n k : Nat} {A B : MQ} (h : MqE n A B) (hk : k < n) : ∀ f p, p + f ≤ n → mqP A k f p = mqP B k f p
  | 0, _, _ => rfl
  | f + 1, p, hp => by
    unfold mqP
    rw [h p (by omega) k hk, mqP_eq h hk f (p + 1) (by omega)]
theorem mqPv_eq {n k : Nat} {A B : MQ} (h : MqE n A B) (hk : k < n) : mqPv n A k = mqPv n B k := mqP_eq h hk _ _ (by omega)
theorem mqSt_eq {n k p : Nat} {A B : MQ} (h : MqE n A B) (hk : k < n) (hp : p < n) : MqE n (mqSt A k p) (mqSt B k p) := by
  have h1 : MqE n (mqSw A k p) (mqSw B k p) := fun i hi j hj => by
    unfold mqSw
    by_cases e1 : i = p
    · rw [if_pos e1, if_pos e1]; exact h k hk j hj
    · rw [if_neg e1, if_neg e1]
      by_cases e2 : i = k
      · rw [if_pos e2, if_pos e2]; exact h p hp j hj
      · rw [if_neg e2, if_neg e2]; exact h i hi j hj
  have h2 : MqE n (mqDv (mqSw A k p) k) (mqDv (mqSw B k p) k) := fun i hi j hj => by
    unfold mqDv
    rw [h1 k hk j hj, h1 k hk k hk, h1 i hi j hj]
  intro i hi j hj
  unfold mqSt mqTr
  rw [h2 k hk j hj, h2 i hi j hj, h2 i hi k hk]
theorem mqIt_eq {n : Nat} {A B : MQ} (h : MqE n A B) : ∀ k, k ≤ n → (mqIt n A k = none ∧ mqIt n B k = none) ∨ ∃ A' B', mqIt n A k = some A' ∧ mqIt n B k = some B' ∧ MqE n A' B'
  | 0, _ => .inr ⟨A, B, rfl, rfl, h⟩
  | k + 1, hk => by
    unfold mqIt
    rcases mqIt_eq h k (by omega) with ⟨e1, e2⟩ | ⟨A', B', e1, e2, h'⟩
    · rw [e1, e2]; exact .inl ⟨rfl, rfl⟩
    · rw [e1, e2]
      show ((if mqPv n A' k < n then some (mqSt A' k (mqPv n A' k)) else none) = none ∧ (if mqPv n B' k < n then some (mqSt B' k (mqPv n B' k)) else none) = none) ∨ ∃ X Y, (if mqPv n A' k < n then some (mqSt A' k (mqPv n A' k)) else none) = some X ∧ (if mqPv n B' k < n then some (mqSt B' k (mqPv n B' k)) else none) = some Y ∧ MqE n X Y
      rw [mqPv_eq h' (by omega)]
      by_cases hp : mqPv n B' k < n
      · rw [if_pos hp, if_pos hp]; exact .inr ⟨_, _, rfl, rfl, mqSt_eq h' (by omega) hp⟩
      · rw [if_neg hp, if_neg hp]; exact .inl ⟨rfl, rfl⟩
def mqRes (A : MQ) (n : Nat) (y : Nat → Rat) (c i : Nat) : Rat := rsum (fun j => A i j * y j) n - A i c
theorem mqRes_st {A : MQ} {n k p : Nat} {y : Nat → Rat} {c : Nat} (hk : k < n) (hp : p < n) (h0 : A p k ≠ 0) (h : ∀ i, i < n → mqRes (mqSt A k p) n y c i = 0) : ∀ i, i < n → mqRes A n y c i = 0 := by
  have hd : mqSw A k p k k ≠ 0 := by
    unfold mqSw
    by_cases e : k = p
    · subst e; rw [if_pos rfl]; exact h0
    · rw [if_neg e, if_pos rfl]; exact h0
  generalize hS : mqSw A k p = S at hd
  have hT : mqSt A k p = mqTr (mqDv S k) k := by unfold mqSt; rw [hS]
  have rk : mqRes (mqDv S k) n y c k = mqRes S n y c k / S k k := by
    unfold mqRes mqDv
    simp only [if_true]
    rw [rsum_ext (g := fun j => S k j * y j / S k k) fun j _ => by grind, rsum_div]
    grind
  have tk : mqRes (mqSt A k p) n y c k = mqRes (mqDv S k) n y c k := by
    rw [hT]
    unfold mqRes mqTr
    simp only [if_true]
  have zk : mqRes (mqDv S k) n y c k = 0 := by rw [← tk]; exact h k hk
  have sk : mqRes S n y c k = 0 := by
    rw [rk] at zk
    generalize mqRes S n y c k = a at zk ⊢
    generalize S k k = b at zk hd
    grind
  have si : ∀ i, i < n → mqRes S n y c i = 0 := by
    intro i hi
    by_cases e : i = k
    · rw [e]; exact sk
    · have ti : mqRes (mqSt A k p) n y c i = mqRes S n y c i - mqRes (mqDv S k) n y c k * S i k := by
        rw [hT]
        unfold mqRes mqTr mqDv
        simp only [if_true, if_neg e]
        rw [rsum_ext (g := fun j => S i j * y j - S k j / S k k * y j * S i k) fun j _ => by grind, rsum_sub]
        grind
      have := h i hi
      rw [ti, zk] at this
      grind
  intro i hi
  by_cases e1 : i = k
  · subst e1
    have := si p hp
    rw [← hS] at this
    unfold mqRes mqSw at this
    simp only [if_true] at this
    exact this
  · by_cases e2 : i = p
    · subst e2
      have := si k hk
      rw [← hS] at this
      unfold mqRes mqSw at this
      simp only [if_neg (fun e => e1 (Eq.symm e)), if_true] at this
      exact this
    · have := si i hi
      rw [← hS] at this
      unfold mqRes mqSw at this
      simp only [if_neg e1, if_neg e2] at this
      exact this
theorem mqIt_res {n : Nat} {A : MQ} {y : Nat → Rat} {c : Nat} : ∀ k {B : MQ}, k ≤ n → mqIt n A k = some B → (∀ i, i < n → mqRes B n y c i = 0) → ∀ i, i < n → mqRes A n y c i = 0
  | 0, B, _, e, h => by cases e; exact h
  | k + 1, B, hk, e, h => by
    unfold mqIt at e
    cases e1 : mqIt n A k with
    | none => rw [e1] at e; cases e
    | some C =>
      rw [e1] at e
      have e : (if mqPv n C k < n then some (mqSt C k (mqPv n C k)) else none) = some B := e
      split at e
      · rename_i hp
        cases e
        exact mqIt_res k (by omega) e1 (mqRes_st (by omega) hp (mqPv_at (by omega) hp).2 h)
      · cases e
def MqU (n k : Nat) (A : MQ) : Prop := ∀ i, i < n → ∀ j, j < k → A i j = if i = j then 1 else 0
theorem mqU_st {A : MQ} {n k p : Nat} (hk : k < n) (hp : p < n) (hkp : k ≤ p) (h0 : A p k ≠ 0) (h : MqU n k A) : MqU n (k + 1) (mqSt A k p) := by
  have hd : mqSw A k p k k ≠ 0 := by
    unfold mqSw
    by_cases e : k = p
    · subst e; rw [if_pos rfl]; exact h0
    · rw [if_neg e, if_pos rfl]; exact h0
  have hS : MqU n k (mqSw A k p) := fun i hi j hj => by
    unfold mqSw
    by_cases e1 : i = p
    · rw [if_pos e1, h k hk j hj, if_neg (by omega), if_neg (by omega)]
    · rw [if_neg e1]
      by_cases e2 : i = k
      · rw [if_pos e2, h p hp j hj, if_neg (by omega), if_neg (by omega)]
      · rw [if_neg e2]; exact h i hi j hj
  unfold mqSt
  generalize mqSw A k p = S at hd hS
  intro i hi j hj
  unfold mqTr mqDv
  simp only [if_true]
  by_cases ek : i = k
  · subst ek
    rw [if_pos rfl]
    by_cases ej : j = i
    · subst ej; rw [if_pos rfl]; grind
    · rw [hS i hi j (by omega), if_neg (show ¬ i = j by omega)]; grind
  · rw [if_neg ek, if_neg ek, if_neg ek]
    by_cases ej : j = k
    · subst ej; rw [if_neg ek]; grind
    · rw [hS k hk j (by omega), if_neg (by omega), hS i hi j (by omega)]; grind
theorem mqIt_U {n : Nat} {A : MQ} : ∀ k {B : MQ}, k ≤ n → mqIt n A k = some B → MqU n k B
  | 0, _, _, _ => fun _ _ _ hj => absurd hj (Nat.not_lt_zero _)
  | k + 1, B, hk, e => by
    unfold mqIt at e
    cases e1 : mqIt n A k with
    | none => rw [e1] at e; cases e
    | some C =>
      rw [e1] at e
      have e : (if mqPv n C k < n then some (mqSt C k (mqPv n C k)) else none) = some B := e
      split at e
      · rename_i hp
        cases e
        have := mqPv_at (by omega) hp
        exact mqU_st (by omega) hp this.1 this.2 (mqIt_U k (by omega) e1)
      · cases e
theorem mq_solve {n : Nat} {A B : MQ} (h : mqIt n A n = some B) (c i : Nat) (hi : i < n) : rsum (fun j => A i j * B j c) n = A i c := by
  have hU := mqIt_U n (Nat.le_refl _) h
  have := mqIt_res (y := fun j => B j c) (c := c) n (Nat.le_refl _) h (fun i hi => by
    unfold mqRes
    rw [rsum_ext (g := fun j => (if i = j then (1 : Rat) else 0) * B j c) fun j hj => by rw [hU i hi j hj], rsum_delta, if_pos hi]
    grind) i hi
  unfold mqRes at this
  grind
structure RvM (n c : Nat) (M : MF) (A : MQ) (N : Nat) : Prop where
  len : ∀ i, i < n → (M i).length = c
  rv : ∀ i, i < n → ∀ j, j < c → Rv (elF M i j) (A i j) N
theorem Rv.mono {r : R} {a : Rat} {M N : Nat} (h : Rv r a M) (hl : M ≤ N) : Rv r a N := ⟨h.q, h.h.mono hl⟩
theorem rv_sgn {r : R} {a : Rat} {N : Nat} (h : Rv r a N) : sgnR r = 0 ↔ a = 0 := by
  unfold sgnR
  rw [h.q]
  show sgn a.num = 0 ↔ _
  rw [← Rat.num_eq_zero]
  unfold sgn
  split
  · omega
  · split <;> omega
theorem rrP_mq {n c k N : Nat} {M : MF} {A : MQ} (h : RvM n c M A N) (hk : k < c) : ∀ f p, p + f ≤ n → rrP M k f p = mqP A k f p
  | 0, _, _ => rfl
  | f + 1, p, hp => by
    unfold rrP mqP
    rw [rrP_mq h hk f (p + 1) (by omega)]
    have := rv_sgn (h.rv p (by omega) k hk)
    by_cases e : A p k = 0
    · rw [if_pos e, if_pos (this.2 e)]
    · rw [if_neg e, if_neg fun z => e (this.1 z)]
theorem RvM.sw {n c k p N : Nat} {M : MF} {A : MQ} (h : RvM n c M A N) (hk : k < n) (hp : p < n) : RvM n c (rrSwap M k p) (mqSw A k p) N := by
  refine ⟨fun i hi => ?_, fun i hi j hj => ?_⟩
  · unfold rrSwap
    split
    · exact h.len k hk
    · split
      · exact h.len p hp
      · exact h.len i hi
  · unfold elF rrSwap mqSw
    by_cases e1 : i = p
    · rw [if_pos e1, if_pos e1]; exact h.rv k hk j hj
    · rw [if_neg e1, if_neg e1]
      by_cases e2 : i = k
      · rw [if_pos e2, if_pos e2]; exact h.rv p hp j hj
      · rw [if_neg e2, if_neg e2]; exact h.rv i hi j hj
theorem RvM.allOk {n c N : Nat} {M : MF} {A : MQ} (h : RvM n c M A N) : allOk n M = true := by
  refine allOk_iff.2 fun i hi => List.all_eq_true.2 fun x hx => ?_
  obtain ⟨j, hj⟩ := List.mem_iff_getElem?.1 hx
  have hl := (List.getElem?_eq_some_iff.1 hj).1
  rw [h.len i hi] at hl
  have := (h.rv i hi j hl).ok
  unfold elF at this
  rwa [List.getD_eq_getElem?_getD, hj] at this
theorem rv_step {n c k N : Nat} {M : MF} {A : MQ} (h : RvM n c M A N) (hk : k < n) (hc : n ≤ c) (hN : 2 * (N * (N * N * N)) < 1000000000 ^ 24) :
    (¬ mqPv n A k < n ∧ rrStep n M k = none) ∨ (mqPv n A k < n ∧ ∃ M', rrStep n M k = some M' ∧ RvM n c M' (mqSt A k (mqPv n A k)) (2 * (N * (N * N * N)))) := by
  have e : rrPv n M k = mqPv n A k := rrP_mq h (by omega) _ _ (by omega)
  by_cases hp : mqPv n A k < n
  · refine .inr ⟨hp, ?_⟩
    have h0 := (mqPv_at hk hp).2
    have h1 : RvM n c (rrOne n M k) (mqSw A k (mqPv n A k)) N := by unfold rrOne; rw [e]; exact h.sw hk hp
    have hd : mqSw A k (mqPv n A k) k k ≠ 0 := by
      unfold mqSw
      by_cases e : k = mqPv n A k
      · rw [if_pos e]; rw [← e] at h0; exact h0
      · rw [if_neg e, if_pos rfl]; exact h0
    have hp' : rrPv n M k < n := by rw [e]; exact hp
    have hN1 : 1 ≤ N := ht_pos (h.rv k hk k (by omega)).h
    have hNN : N * N ≤ N * N * N := Nat.le_mul_of_pos_right _ hN1
    have hN4 : N * N * N ≤ N * (N * N * N) := Nat.le_mul_of_pos_left _ hN1
    have hN2 : N ≤ N * N := Nat.le_mul_of_pos_right _ hN1
    unfold mqSt
    generalize mqSw A k (mqPv n A k) = S at h1 hd
    have h3 : RvM n c (rrTri (rrTwo n M k) k) (mqTr (mqDv S k) k) (2 * (N * (N * N * N))) := by
      have t2 : rrTwo n M k k = rrDiv (rrOne n M k k) k := if_pos rfl
      have dk : ∀ j, j < c → Rv (elF (rrTwo n M k) k j) (S k j / S k k) (N * N) := fun j hj => by
        unfold elF
        rw [t2, rrDiv_at _ _ (by rw [h1.len k hk]; exact hj)]
        exact (h1.rv k hk j hj).div (h1.rv k hk k (by omega)) hd (by omega)
      refine ⟨fun i hi => ?_, fun i hi j hj => ?_⟩
      · unfold rrTri
        split
        · rw [t2, rrDiv_len]; exact h1.len k hk
        · rename_i e
          rw [rrSub_len]
          unfold rrTwo
          rw [if_neg e]; exact h1.len i hi
      · by_cases e : i = k
        · subst e
          have e1 : elF (rrTri (rrTwo n M i) i) i j = elF (rrTwo n M i) i j := by unfold elF rrTri; rw [if_pos rfl]
          have e2 : mqTr (mqDv S i) i i j = S i j / S i i := by unfold mqTr mqDv; simp only [if_true]
          rw [e1, e2]
          exact (dk j hj).mono (by omega)
        · have t3 : rrTwo n M k i = rrOne n M k i := if_neg e
          have e1 : elF (rrTri (rrTwo n M k) k) i j = subR (elF (rrOne n M k) i j) (mulR (elF (rrTwo n M k) k j) (elF (rrOne n M k) i k)) := by
            unfold elF rrTri
            rw [if_neg e, t3, rrSub_at _ _ _ (by rw [h1.len i hi]; exact hj)]
            unfold elF
            rw [t3]
          have e2 : mqTr (mqDv S k) k i j = S i j - S k j / S k k * S i k := by unfold mqTr mqDv; simp only [if_true, if_neg e]
          rw [e1, e2]
          exact (h1.rv i hi j hj).sub ((dk j hj).mul (h1.rv i hi k (by omega)) (by omega)) hN
    exact ⟨_, rrStep_t hp' h3.allOk, h3⟩
  · exact .inl ⟨hp, rrStep_p (by rw [e]; exact hp)⟩
def HB : Nat → Nat
  | 0 => 10
  | k + 1 => 2 * (HB k * (HB k * HB k * HB k))
theorem HB_fits : ∀ {k : Nat}, k ≤ 3 → HB k ≤ HB 3 ∧ 2 * (2 * (2 * (10 * HB 3) * (10 * HB 3)) * (10 * HB 3)) < 1000000000 ^ 24 := by
  intro k hk
  refine ⟨?_, by decide +kernel⟩
  have : k = 0 ∨ k = 1 ∨ k = 2 ∨ k = 3 := by omega
  rcases this with rfl | rfl | rfl | rfl <;> decide +kernel
theorem rv_it {n c : Nat} {m : MF} {A : MQ} (h : RvM n c m A 10) (hn : n ≤ 3) (hc : n ≤ c) : ∀ k, k ≤ n →
    (rrIt n m k = none ∧ mqIt n A k = none) ∨ ∃ M B, rrIt n m k = some M ∧ mqIt n A k = some B ∧ RvM n c M B (HB k)
  | 0, _ => .inr ⟨m, A, rfl, rfl, h⟩
  | k + 1, hk => by
    rcases rv_it h hn hc k (by omega) with ⟨e1, e2⟩ | ⟨M, B, e1, e2, h'⟩
    · exact .inl ⟨by unfold rrIt; rw [e1]; rfl, by unfold mqIt; rw [e2]; rfl⟩
    · have hb := HB_fits (k := k + 1) (by omega)
      have hN : 2 * (HB k * (HB k * HB k * HB k)) < 1000000000 ^ 24 := Nat.lt_of_le_of_lt (show 2 * (HB k * (HB k * HB k * HB k)) ≤ HB 3 from hb.1) (by decide +kernel)
      have s1 := rrIt_s e1
      have s2 : mqIt n A (k + 1) = if mqPv n B k < n then some (mqSt B k (mqPv n B k)) else none := by
        show (mqIt n A k).bind _ = _
        rw [e2]; rfl
      rcases rv_step (k := k) h' (by omega) hc hN with ⟨hp, e3⟩ | ⟨hp, M', e3, h3⟩
      · exact .inl ⟨by rw [s1, e3], by rw [s2, if_neg hp]⟩
      · exact .inr ⟨M', _, by rw [s1, e3], by rw [s2, if_pos hp], h3⟩
end Go.Ml
end
section
set_option linter.unusedSimpArgs false
set_option linter.unusedVariables false
set_option maxRecDepth 100000
set_option maxHeartbeats 8000000
namespace Go.Ml
structure FewM (n : Nat) (m : List (List R)) (a : MQ) : Prop where
  len : m.length = n
  row : ∀ i, i < n → (m.getD i default).length = n
  rv : ∀ i, i < n → ∀ j, j < n → Rv (mEl m i j) (a i j) 10
theorem matOk_rv {n c N : Nat} {w : List (List R)} {A : MQ} {ci : Int} (hl : w.length = n) (hr : ∀ i, i < n → (w.getD i default).length = c) (hv : ∀ i, i < n → ∀ j, j < c → Rv (mEl w i j) (A i j) N) (hn : n ≤ 10) (hci : ci = c) : matOk w ci = true := by
  rw [matOk_t, decide_eq_true (by omega)]
  intro i hi
  unfold matAt
  rw [decide_eq_true (by rw [hr i (by omega)]; omega), Bool.true_and]
  exact allB_t fun j hj => (hv i (by omega) j (by rw [← hr i (by omega)]; exact hj)).ok
theorem FewM.ok {n : Nat} {m : List (List R)} {a : MQ} (h : FewM n m a) (hn : n ≤ 10) : matOk m m.length = true := matOk_rv h.len h.row h.rv hn (by rw [h.len])
theorem rr_plain {n c : Nat} {w : List (List R)} {A : MQ} {ci : Int} (h : RvM n c (mF w) A 10) (hl : w.length = n) (hn : n ≤ 3) (hc : n ≤ c) (hci : ci = c) :
    (rrB w ci = false ∧ mqIt n A n = none) ∨ (rrB w ci = true ∧ ∃ M B, rrM w ci = (List.range n).map M ∧ mqIt n A n = some B ∧ RvM n c M B (HB 3)) := by
  have hC : rrC w ci = true := by
    unfold rrC
    rw [matOk_rv hl h.len h.rv (by omega) hci, decide_eq_true (by omega)]; rfl
  subst hl
  rcases rv_it h hn hc _ (Nat.le_refl _) with ⟨e1, e2⟩ | ⟨M, B, e1, e2, h3⟩
  · exact .inl ⟨(rrV_none hC e1 (Nat.le_refl _)).2, e2⟩
  · have := rrV_some hC e1
    exact .inr ⟨this.2, M, B, this.1, e2, h3.len, fun i hi j hj => (h3.rv i hi j hj).mono (HB_fits hn).1⟩
theorem getD_app_l {α : Type} {a b : List α} {d : α} {j : Nat} (h : j < a.length) : (a ++ b).getD j d = a.getD j d := by
  rw [List.getD_eq_getElem?_getD, List.getD_eq_getElem?_getD, List.getElem?_append_left h]
theorem getD_app_r {α : Type} {a b : List α} {d : α} {j : Nat} (h : a.length ≤ j) : (a ++ b).getD j d = b.getD (j - a.length) d := by
  rw [List.getD_eq_getElem?_getD, List.getD_eq_getElem?_getD, List.getElem?_append_right h]
theorem getD_rmap {α : Type} {f : Nat → α} {d : α} {n j : Nat} (h : j < n) : ((List.range n).map f).getD j d = f j := by
  rw [List.getD_eq_getElem?_getD, List.getElem?_map, List.getElem?_range h]; rfl
theorem ss_plain {n : Nat} {m : List (List R)} {a : MQ} {b : List R} {v : Nat → Rat} (hm : FewM n m a) (hb : b.length = n) (hv : ∀ i, i < n → Rv (b.getD i default) (v i) 10) (hn : n ≤ 3) :
    (ssB m b = false ∧ mqIt n a n = none) ∨ (ssB m b = true ∧ mqIt n a n ≠ none ∧ (ssX m b).length = n ∧ ∃ y : Nat → Rat, (∀ i, i < n → Rv ((ssX m b).getD i default) (y i) (HB 3)) ∧ ∀ i, i < n → rsum (fun j => a i j * y j) n = v i) := by
  have hC : ssC m b = true := by unfold ssC; rw [hm.ok (by omega), decide_eq_true (by rw [hb, hm.len])]; rfl
  have hw : RvM n (n + 1) (mF (ssL m b)) (fun i j => if j < n then a i j else v i) 10 := by
    refine ⟨fun i hi => ?_, fun i hi j hj => ?_⟩
    · unfold ssL
      rw [wideL_at (by rw [hm.len]; exact hi)]
      unfold ssW
      rw [List.length_append, hm.row i hi]; rfl
    · unfold elF ssL
      rw [wideL_at (by rw [hm.len]; exact hi)]
      unfold ssW
      by_cases hj2 : j < n
      · rw [getD_app_l (by rw [hm.row i hi]; exact hj2)]
        simp only [if_pos hj2]
        exact hm.rv i hi j hj2
      · rw [getD_app_r (by rw [hm.row i hi]; omega), hm.row i hi, show j - n = 0 by omega]
        simp only [if_neg hj2]
        exact hv i hi
  have hE : MqE n a fun i j => if j < n then a i j else v i := fun i hi j hj => by simp only [if_pos hj]
  rcases rr_plain (ci := (m.length : Nat) + 1) hw (by unfold ssL; rw [wideL_len, hm.len]) hn (by omega) (by rw [hm.len]; omega) with ⟨e1, e2⟩ | ⟨e1, M, B, e2, e3, h3⟩
  · refine .inl ⟨(ssB_r e1).2, ?_⟩
    rcases mqIt_eq hE n (Nat.le_refl _) with k | ⟨A', B', _, k2, _⟩
    · exact k.1
    · rw [e2] at k2; cases k2
  · obtain ⟨eX, eB⟩ := ssB_t hC e1
    refine .inr ⟨eB, ?_, ?_, fun i => B i n, fun i hi => ?_, fun i hi => ?_⟩
    · rcases mqIt_eq hE n (Nat.le_refl _) with k | ⟨A', B', k1, _, _⟩
      · rw [e3] at k; cases k.2
      · rw [k1]; simp
    · rw [eX, e2]; simp
    · rw [eX, e2, List.map_map, getD_rmap hi, hm.len]
      exact h3.rv i hi n (by omega)
    · have := mq_solve e3 n i hi
      simp only [if_neg (Nat.lt_irrefl n)] at this
      rw [← this]
      exact rsum_ext fun j hj => by simp only [if_pos hj]
theorem ivm_plain {n : Nat} {m : List (List R)} {a : MQ} (hm : FewM n m a) (hn : n ≤ 3) :
    (ivmB m = false ∧ mqIt n a n = none) ∨ (ivmB m = true ∧ mqIt n a n ≠ none ∧ (ivmX m).length = n ∧ (∀ i, i < n → ((ivmX m).getD i default).length = n) ∧ ∃ y : MQ, (∀ i, i < n → ∀ j, j < n → Rv (mEl (ivmX m) i j) (y i j) (HB 3)) ∧ ∀ i, i < n → ∀ j, j < n → rsum (fun k => a i k * y k j) n = if i = j then 1 else 0) := by
  have hC := hm.ok (by omega)
  have hw : RvM n (2 * n) (mF (ivmL m)) (fun i j => if j < n then a i j else if i = j - n then 1 else 0) 10 := by
    refine ⟨fun i hi => ?_, fun i hi j hj => ?_⟩
    · unfold ivmL
      rw [wideL_at (by rw [hm.len]; exact hi)]
      unfold ivmW
      rw [List.length_append, hm.row i hi, ivmU_len, hm.len]; omega
    · unfold elF ivmL
      rw [wideL_at (by rw [hm.len]; exact hi)]
      unfold ivmW
      by_cases hj2 : j < n
      · rw [getD_app_l (by rw [hm.row i hi]; exact hj2)]
        simp only [if_pos hj2]
        exact hm.rv i hi j hj2
      · rw [getD_app_r (by rw [hm.row i hi]; omega), hm.row i hi]
        simp only [if_neg hj2]
        unfold ivmU
        rw [hm.len, getD_rmap (by omega)]
        by_cases e : i = j - n
        · rw [if_pos e, if_pos e]; exact rv_int (n := 1) (N := 10) (by decide) (by decide)
        · rw [if_neg e, if_neg e]; exact rv_int (n := 0) (N := 10) (by decide) (by decide)
  have hE : MqE n a fun i j => if j < n then a i j else if i = j - n then 1 else 0 := fun i hi j hj => by simp only [if_pos hj]
  rcases rr_plain (ci := 2 * (m.length : Nat)) hw (by unfold ivmL; rw [wideL_len, hm.len]) hn (by omega) (by rw [hm.len]; omega) with ⟨e1, e2⟩ | ⟨e1, M, B, e2, e3, h3⟩
  · refine .inl ⟨(ivmB_r e1).2, ?_⟩
    rcases mqIt_eq hE n (Nat.le_refl _) with k | ⟨A', B', _, k2, _⟩
    · exact k.1
    · rw [e2] at k2; cases k2
  · obtain ⟨eX, eB⟩ := ivmB_t hC e1
    have eR : ∀ i, i < n → (ivmX m).getD i default = (M i).drop n := fun i hi => by
      rw [eX, e2, List.map_map, getD_rmap hi, hm.len]; rfl
    refine .inr ⟨eB, ?_, ?_, fun i hi => ?_, fun i j => B i (n + j), fun i hi j hj => ?_, fun i hi j hj => ?_⟩
    · rcases mqIt_eq hE n (Nat.le_refl _) with k | ⟨A', B', k1, _, _⟩
      · rw [e3] at k; cases k.2
      · rw [k1]; simp
    · rw [eX, e2]; simp
    · rw [eR i hi, List.length_drop, h3.len i hi]; omega
    · have := h3.rv i hi (n + j) (by omega)
      unfold mEl
      rw [eR i hi]
      unfold elF at this
      rw [List.getD_eq_getElem?_getD] at this ⊢
      rw [List.getElem?_drop]; exact this
    · have := mq_solve e3 (n + j) i hi
      simp only [if_neg (show ¬ n + j < n by omega), show n + j - n = j by omega] at this
      rw [← this]
      exact rsum_ext fun k hk => by simp only [if_pos hk]
def accR (f g : Nat → R) : Nat → R
  | 0 => intR 0
  | k + 1 => addR (accR f g k) (mulR (f k) (g k))
theorem accR_cn (f g : Nat → R) : ∀ k, (accR f g k).cn
  | 0 => intR_cn (by decide)
  | k + 1 => addR_cn _ _
theorem mmE_acc (a b : List (List R)) (i j : Nat) : ∀ k, mmE a b i j k = accR (fun k => mEl a i k) (fun k => mEl b k j) k
  | 0 => rfl
  | k + 1 => by unfold mmE accR; rw [mmE_acc a b i j k]
def SB : Nat → Nat
  | 0 => 1
  | k + 1 => 2 * (SB k * (10 * HB 3))
theorem SB_fits {k : Nat} (h : k ≤ 3) : SB k < 1000000000 ^ 24 := by
  have : k = 0 ∨ k = 1 ∨ k = 2 ∨ k = 3 := by omega
  rcases this with rfl | rfl | rfl | rfl <;> decide +kernel
theorem acc_rv {f g : Nat → R} {fa ga : Nat → Rat} {n : Nat} (hf : ∀ k, k < n → Rv (f k) (fa k) 10) (hg : ∀ k, k < n → Rv (g k) (ga k) (HB 3)) (hn : n ≤ 3) : ∀ k, k ≤ n → Rv (accR f g k) (rsum (fun k => fa k * ga k) k) (SB k)
  | 0, _ => rv_int (n := 0) (N := 1) (by decide) (by decide)
  | k + 1, hk => (acc_rv hf hg hn k (by omega)).add ((hf k (by omega)).mul (hg k (by omega)) (by decide +kernel)) (SB_fits (k := k + 1) (by omega))
theorem solve_plain {n : Nat} {m : List (List R)} {a : MQ} {b : List R} {v : Nat → Rat} (hm : FewM n m a) (hb : b.length = n) (hv : ∀ i, i < n → Rv (b.getD i default) (v i) 10) (hn : n ≤ 3) :
    (ssB m b = false ∧ ivmB m = false) ∨ (ssB m b = true ∧ ivmB m = true ∧ (ssX m b).length = n ∧ (mmV m (ivmX m)).length = n ∧ (∀ i, i < n → ((mmV m (ivmX m)).getD i default).length = n) ∧
      (∀ i, i < n → accR (fun j => mEl m i j) (fun j => (ssX m b).getD j default) n = b.getD i default) ∧ ∀ i, i < n → ∀ j, j < n → mEl (mmV m (ivmX m)) i j = intR (if i = j then 1 else 0)) := by
  rcases ss_plain hm hb hv hn with ⟨e1, e2⟩ | ⟨e1, e2, eL, y, hy, hs⟩
  · rcases ivm_plain hm hn with ⟨f1, f2⟩ | ⟨f1, f2, _⟩
    · exact .inl ⟨e1, f1⟩
    · exact absurd e2 f2
  · rcases ivm_plain hm hn with ⟨f1, f2⟩ | ⟨f1, f2, fL, fR, z, hz, ht⟩
    · exact absurd f2 e2
    · have he : ∀ i, i < n → ∀ j, j < n → mmE m (ivmX m) i j n = intR (if i = j then 1 else 0) := fun i hi j hj => by
        have h1 := acc_rv (f := fun k => mEl m i k) (g := fun k => mEl (ivmX m) k j) (fa := fun k => a i k) (ga := fun k => z k j) (fun k hk => hm.rv i hi k hk) (fun k hk => hz k hk j hj) hn n (Nat.le_refl _)
        rw [ht i hi j hj, ← mmE_acc] at h1
        by_cases e : i = j
        · rw [if_pos e] at h1 ⊢
          exact h1.eq (rv_int (n := 1) (N := 1) (by decide) (by decide)) (mmE_cn _ _ _ _ _) (intR_cn (by decide)) rfl
        · rw [if_neg e] at h1 ⊢
          exact h1.eq (rv_int (n := 0) (N := 1) (by decide) (by decide)) (mmE_cn _ _ _ _ _) (intR_cn (by decide)) rfl
      have hC : mmC m (ivmX m) = true := by
        unfold mmC
        rw [hm.ok (by omega), matOk_rv fL fR hz (by omega) (by rw [hm.len]), decide_eq_true (by rw [fL, hm.len])]; rfl
      have hG : mmG m (ivmX m) = true := mmG_all hC fun i hi => by
        rw [hm.len] at hi ⊢
        refine List.all_eq_true.2 fun x hx => ?_
        unfold mmRow at hx
        obtain ⟨j, hj, rfl⟩ := List.mem_map.1 hx
        rw [he i hi j (List.mem_range.1 hj)]
        split
        · exact (rv_int (n := 1) (N := 1) (by decide) (by decide)).ok
        · exact (rv_int (n := 0) (N := 1) (by decide) (by decide)).ok
      have hV := mmV_good hG
      rw [hm.len] at hV
      have hr : ∀ i, i < n → (mmV m (ivmX m)).getD i default = mmRow m (ivmX m) n i n := fun i hi => by
        rw [hV]; unfold mmM; exact getD_rmap hi
      refine .inr ⟨e1, f1, eL, by rw [hV, mmM_len], fun i hi => by rw [hr i hi, mmRow_len], fun i hi => ?_, fun i hi j hj => ?_⟩
      · have h1 := acc_rv (f := fun k => mEl m i k) (g := fun k => (ssX m b).getD k default) (fa := fun k => a i k) (ga := y) (fun k hk => hm.rv i hi k hk) hy hn n (Nat.le_refl _)
        rw [hs i hi] at h1
        exact h1.eq (hv i hi) (accR_cn _ _ _) (cn_ok (hv i hi).ok) rfl
      · unfold mEl
        rw [hr i hi]
        unfold mmRow
        rw [getD_rmap hj]
        exact he i hi j hj
end Go.Ml
end
section
set_option linter.unusedSimpArgs false
set_option linter.unusedVariables false
set_option maxRecDepth 100000
set_option maxHeartbeats 8000000
namespace Go.Ml
structure SmN (n : Int) (l : Lk) : Prop where
  ab : 0 ≤ l.a ∧ l.a < l.b ∧ l.b ≤ n
  w : ∃ n : Int, (1 ≤ n ∧ n ≤ 9) ∧ l.w = intR n
  dx : ∃ n : Int, (-20 ≤ n ∧ n ≤ 20) ∧ l.dx = intR n
  dy : ∃ n : Int, (-20 ≤ n ∧ n ≤ 20) ∧ l.dy = intR n
theorem SmN.mono {n m : Int} {l : Lk} (h : SmN n l) (hm : n ≤ m) : SmN m l := ⟨⟨h.ab.1, h.ab.2.1, by have := h.ab.2.2; omega⟩, h.w, h.dx, h.dy⟩
end Go.Ml
end
section
set_option linter.unusedSimpArgs false
set_option linter.unusedVariables false
set_option maxRecDepth 100000
set_option maxHeartbeats 8000000
namespace Go.Ml
structure DrawL (n : Nat) (L : List Lk) : Prop where
  rn : 1 ≤ n ∧ n ≤ 4
  len : n ≤ L.length ∧ L.length ≤ n + 3
  sm : ∀ l ∈ L, SmN ((n : Int) + 1) l
  base : ∀ k, k < n → (L.getD k default).b = (k : Int) + 1
def LsAt (s : Store) (v : V) (xs : List Lk) : Prop := (xs = [] ∧ v = .nils) ∨ ∃ p, v = .msl p 0 xs.length ∧ objAt s p = some ⟨11, xs.map Lk.cells⟩ ∧ p ≠ 0
theorem LsAt.fr {s s2 : Store} {v : V} {xs : List Lk} (h : LsAt s v xs) (hf : ∀ p, p ≠ 0 → p < s.length → objAt s2 p = objAt s p) : LsAt s2 v xs := by
  rcases h with h | ⟨p, h1, h2, h3⟩
  · exact .inl h
  · exact .inr ⟨p, h1, (hf p h3 (objAt_lt h2)).trans h2, h3⟩
theorem CurP.fr {s s2 : Store} {x : List UInt8} (h : CurP s 0 x) (hf : objAt s2 0 = objAt s 0) : CurP s2 0 x := by
  obtain ⟨i, hh, h1, h2⟩ := h
  exact ⟨i, hh, hf.trans h1, h2⟩
theorem CurP.lt {s : Store} {x : List UInt8} (h : CurP s 0 x) : 0 < s.length := by obtain ⟨i, hh, h1, h2⟩ := h; exact objAt_lt h1
end Go.Ml
end
section
set_option linter.unusedSimpArgs false
set_option linter.unusedVariables false
set_option maxRecDepth 100000
set_option maxHeartbeats 8000000
namespace Go.Ml
theorem addS_cur (x : List UInt8) (i h : Int) : addS [] (cur x i h) = cur x i h := by
  show [] ++ [some (mapO (shiftN 0) (cob x i h))] = _
  rw [mapO_cob]; rfl
end Go.Ml
end
section
set_option linter.unusedSimpArgs false
set_option linter.unusedVariables false
set_option maxRecDepth 100000
set_option maxHeartbeats 16000000
namespace Go.Ml
def F_spec_l09Draw : Fn := ⟨3, 33, [.tmp 6], (.seq (.reg false 0 [oN 6 (.mov (.c (.nils)))]) (.seq (.reg false 1 [oN 11 (.mkSl 1 [.nils] 0 []), oK 7 1 (oV 11)]) (.seq (.seq (.reg false 0 [oN 8 (.mov (cI 0))]) (.block 0 (.loop (.seq (.seq (.reg false 0 [oN 12 (oV 8), oN 13 (oV 1), oN 14 (.bin .lss (.t 12) (.t 13))]) (.cond (.t 14) .skip (.exit 0))) (.seq (.block 1 (.seq (.reg false 1 [oN 17 (.mkSl 3 [.bool false, .nils, .nils] 0 []), oK 9 1 (oV 17)]) (.seq (.seq (.reg false 0 [oN 10 (.mov (cI 0))]) (.block 2 (.loop (.seq (.seq (.reg false 0 [oN 18 (oV 10), oN 19 (oV 2), oN 20 (.bin .lss (.t 18) (.t 19))]) (.cond (.t 20) .skip (.exit 2))) (.seq (.block 3 (.reg false 2 [oK 23 2 (oV 9), oK 24 2 (oV 0), oK 25 2 (.call 184 [(.t 24)]), oN 26 (.mkSl 3 [.bool false, .nils, .nils] 1 [(0, (.t 25))]), oK 27 1 (.app 3 56 (.t 23) (.t 26)), oK 9 2 (oV 27)])) (.reg false 0 [oN 21 (oV 10), oN 22 (.bin .add (.t 21) (cI 1)), oN 10 (oV 22)])))))) (.reg false 2 [oK 28 2 (oV 7), oK 29 2 (oV 9), oN 30 (.mkSl 1 [.nils] 1 [(0, (.t 29))]), oK 31 1 (.app 1 24 (.t 28) (.t 30)), oK 7 2 (oV 31)])))) (.reg false 0 [oN 15 (oV 8), oN 16 (.bin .add (.t 15) (cI 1)), oN 8 (oV 16)])))))) (.seq (.reg false 0 [oN 32 (oV 7), oN 6 (oV 32)]) .ret))))⟩
structure D_spec_l09Draw (T : Nat → Option Fn) : Prop where
  hT : T 242 = some F_spec_l09Draw
  d_spec_l04Few : D_spec_l04Few T
def F_spec_MakeMatrix : Fn := ⟨1, 14, [.tmp 2], (.seq (.reg false 0 [oN 2 (.mov (.c (.nils)))]) (.seq (.reg false 0 [oN 5 (oV 0), oN 6 (.call 105 [(.t 5)]), oN 3 (oV 6)]) (.seq (.reg false 0 [oN 7 (oV 3), oN 8 (.call 107 [(.t 7), (cI 3)]), oN 9 (.bin .add (cI 1) (.t 8)), oN 4 (oV 9)]) (.seq (.reg false 0 [oN 10 (oV 3), oN 11 (oV 4), oN 12 (oV 4), oN 13 (.call 242 [(.t 10), (.t 11), (.t 12)]), oN 2 (oV 13)]) .ret))))⟩
structure D_spec_MakeMatrix (T : Nat → Option Fn) : Prop where
  hT : T 230 = some F_spec_MakeMatrix
  d_spec_l01New : D_spec_l01New T
  d_spec_l01Below : D_spec_l01Below T
  d_spec_l09Draw : D_spec_l09Draw T
def FewR (r : R) : Prop := ∃ n d : Int, (-10 ≤ n ∧ n ≤ 10) ∧ (1 ≤ d ∧ d ≤ 3) ∧ r = fewR n d
def RwA (b : Nat) (s : Store) (v : V) (r : List R) : Prop := (r = [] ∧ v = .nils) ∨ ∃ p, v = .msl p 0 r.length ∧ objAt s p = some ⟨3, r.map R.cells⟩ ∧ b ≤ p
def MwA (s : Store) (v : V) (i c : Nat) (M : MF) : Prop := (i = 0 ∧ v = .nils) ∨ (0 < i ∧ ∃ q rp, v = .msl q 0 i ∧ q ≠ 0 ∧ (∀ x, x < i → rp x ≠ 0) ∧ Mat s q i c rp (fun x => (M x).map R.cells) M)
theorem MwA.fr {s s2 : Store} {v : V} {i c : Nat} {M : MF} (h : MwA s v i c M) (hf : ∀ p, p ≠ 0 → p < s.length → objAt s2 p = objAt s p) : MwA s2 v i c M := by
  rcases h with h | ⟨h0, q, rp, h1, h2, h3, h4⟩
  · exact .inl h
  · exact .inr ⟨h0, q, rp, h1, h2, h3, h4.inj, (hf q h2 h4.lt.1).trans h4.out, fun x hx => (hf _ (h3 x hx) (h4.lt.2 x hx)).trans (h4.row x hx), fun x hx => row_frz _⟩
theorem objAt_take {s : Store} {b o : Nat} (h : o < b) : objAt (s.take b) o = objAt s o := by
  unfold objAt; rw [List.getElem?_take, if_pos h]
theorem r_l09Draw {T : Nat → Option Fn} (h : D_spec_l09Draw T) {x : List UInt8} (hx : x.length ≤ 1048576) {n : Nat} (hn : 1 ≤ n ∧ n ≤ 3) {i hh : Int} (hi : 0 ≤ i ∧ i ≤ x.length) :
    ∃ r σ', Run T (.fn 242 [.ptr 0 0 0, iv n, iv n] (cur x i hh)) (.fn r σ') ∧ (∃ M : MF, (∀ i, i < n → (M i).length = n ∧ ∀ e ∈ M i, FewR e) ∧ resolve σ' FD r = some (ratssV ((List.range n).map M))) ∧ 1 ≤ σ'.length := by
  have hP : CurP (cur x i hh) 0 x := ⟨i, hh, rfl, hi⟩
  generalize cur x i hh = s0 at hP ⊢
  have hP0 := hP.lt
  refine run_end (fun x d => x == 184) h.hT rfl rfl ?_
  dsimp only [F_spec_l09Draw, oN, oS, oG, oK, oA, oH, oV, cI, St.enter, List.length_cons, List.length_nil, Nat.zero_add]
  (refine ew ?_; try with_reducible exact True.intro)
  refine loop_at (fun x d => x == 184) (α := Nat × Store × V × MF) (fun q => ⟨argE [.ptr 0 0 0, iv n, iv n, .any, .any, .any, .any, q.2.2.1, iv (q.1 : Nat)], q.2.1, s0.length, 0, [], []⟩) (fun q => (q.1 ≤ n ∧ CurP q.2.1 0 x) ∧ MwA q.2.1 q.2.2.1 q.1 n q.2.2.2 ∧ ∀ i, i < q.1 → (q.2.2.2 i).length = n ∧ ∀ e ∈ q.2.2.2 i, FewR e) (fun q => n - q.1) rfl (0, s0 ++ [none], .nils, fun _ => []) ?_ ?_ ?_
  · exact ⟨⟨by omega, hP.fr (objAt_snoc_lt hP0)⟩, .inl ⟨rfl, rfl⟩, fun i hi => absurd hi (Nat.not_lt_zero _)⟩
  · (refine Fg_env ?_) <;> (try (refine ew ?_; try with_reducible exact True.intro)) <;> (repeat' (first | refine ⟨?_, ?_⟩ | exact EvV_int (by omega) | exact EvV_of (by simp) | exact EvV_nil _))
  · generalize s0.length = kp
    clear hP hP0
    rintro ⟨k, s, v, M⟩ ⟨⟨hk, hP⟩, hM, hfe⟩
    dsimp only at hk hP hM hfe
    by_cases hc : (k : Int) < (n : Int)
    · (refine ew1 @hc ?_; try with_reducible exact True.intro)
      have hP2 : CurP (s ++ [none]) 0 x := hP.fr (objAt_snoc_lt hP.lt)
      have hM2 : MwA (s ++ [none]) v k n M := hM.fr fun p _ hp => objAt_snoc_lt hp
      generalize s ++ [none] = s1 at hP2 hM2 ⊢
      clear hP hM
      obtain ⟨b, hbl⟩ : ∃ b, s1.length = b := ⟨_, rfl⟩
      have hb0 : 0 < b := by rw [← hbl]; exact hP2.lt
      refine loop_at (fun x d => x == 184) (α := Nat × Store × V × List R) (fun q => ⟨argE [.ptr 0 0 0, iv n, iv n, .any, .any, .any, .any, v, iv (k : Nat), q.2.2.1, iv (q.1 : Nat)], q.2.1, kp, 0, [], []⟩) (fun q => (q.1 ≤ n ∧ CurP q.2.1 0 x) ∧ ((∀ p, p ≠ 0 → p < b → objAt q.2.1 p = objAt s1 p) ∧ b ≤ q.2.1.length) ∧ RwA b q.2.1 q.2.2.1 q.2.2.2 ∧ q.2.2.2.length = q.1 ∧ ∀ e ∈ q.2.2.2, FewR e) (fun q => n - q.1) rfl (0, s1, .nils, []) ?_ ?_ ?_
      · exact ⟨⟨by omega, hP2⟩, ⟨fun p _ _ => rfl, by dsimp only; omega⟩, .inl ⟨rfl, rfl⟩, rfl, fun e he => by cases he⟩
      · (refine Fg_env ?_) <;> (try (refine ew ?_; try with_reducible exact True.intro)) <;> (repeat' (first | refine ⟨?_, ?_⟩ | exact EvV_int (by omega) | exact EvV_of (by simp) | exact EvV_nil _))
      · clear hP2
        rintro ⟨j, s, w, r⟩ ⟨⟨hj, hP⟩, ⟨hold, hbs⟩, hR, hrl, hre⟩
        dsimp only at hj hP hold hbs hR hrl hre
        have hP0 := hP.lt
        by_cases hc2 : (j : Int) < (n : Int)
        · (refine ew1 @hc2 ?_; try with_reducible exact True.intro)
          refine RefK_curF (b := 0) (rest := []) (hP.fr (by rw [List.append_assoc, objAt_app_lt hP.lt])) (f_l04Few h.d_spec_l04Few hx) rfl (fun _ => rfl) ?_
          rintro _ i1 h1 ⟨a, d, rfl, ha, hd⟩ hi1
          have hFe : FewR (fewR a d) := ⟨a, d, ha, hd, rfl⟩
          generalize fewR a d = e at hFe
          obtain ⟨S, hSe⟩ : ∃ S, (s ++ [none] ++ [none]).set 0 (some (cob x i1 h1)) = S := ⟨_, rfl⟩
          have hPS : objAt S 0 = some (cob x i1 h1) := by rw [← hSe]; exact objAt_seteq (by simp)
          have hSo : ∀ p, p ≠ 0 → p < s.length → objAt S p = objAt s p := fun p h0 hp => by rw [← hSe, objAt_setne h0, List.append_assoc, objAt_app_lt hp]
          have hSl : S.length = s.length + 2 := by rw [← hSe]; simp
          rw [hSe]
          clear hSe hP
          have hre2 : ∀ e' ∈ r ++ [e], FewR e' := fun e' he' => by
            rcases List.mem_append.1 he' with he' | he'
            · exact hre e' he'
            · rw [List.mem_singleton.1 he']; exact hFe
          rcases hR with ⟨rfl, rfl⟩ | ⟨p, rfl, hp, hbp⟩
          · (refine ew1 @hSl ?_; try with_reducible exact True.intro)
            refine ⟨by omega, (j + 1, ?st1, .msl (s.length + 1) 0 1, [] ++ [e]), ?c1, ⟨⟨?c2, i1, h1, ?c5, hi1⟩, ⟨?c6, ?c7⟩, .inr ⟨_, rfl, ?c4, by omega⟩, by simp at hrl ⊢; try omega, hre2⟩, ?c3⟩
            case c3 => dsimp only; (refine Fg_env ?_) <;> (try (refine ew ?_; try with_reducible exact True.intro)) <;> (repeat' (first | refine ⟨?_, ?_⟩ | exact EvV_int (by omega) | exact EvV_of (by simp) | exact EvV_nil _))
            case c1 => dsimp only; omega
            case c2 => dsimp only; omega
            case c4 => exact objAt_seteq (by simp; omega)
            case c5 => exact (show objAt _ 0 = objAt S 0 by simp (disch := first | omega | (simp only [List.length_append, List.length_set, List.length_cons, List.length_nil]; omega)) only [EVs]).trans hPS
            case c6 => exact fun q h0 hq => ((show objAt _ q = objAt S q by simp (disch := first | omega | (simp only [List.length_append, List.length_set, List.length_cons, List.length_nil]; omega)) only [EVs]).trans (hSo q h0 (by omega))).trans (hold q h0 hq)
            case c7 => dsimp only; simp; omega
          · have hpl := objAt_lt hp
            have hpS := (hSo p (by omega) hpl).trans hp
            (refine ew2 @hpS @hSl ?_; try with_reducible exact True.intro)
            refine ⟨by omega, (j + 1, ?st2, .msl (s.length + 1) 0 (r.length + 1), r ++ [e]), ?d1, ⟨⟨?d2, i1, h1, ?d5, hi1⟩, ⟨?d6, ?d7⟩, .inr ⟨_, by rw [List.length_append]; rfl, ?d4, by omega⟩, by simp at hrl ⊢; omega, hre2⟩, ?d3⟩
            case d3 => dsimp only; (refine Fg_env ?_) <;> (try (refine ew ?_; try with_reducible exact True.intro)) <;> (repeat' (first | refine ⟨?_, ?_⟩ | exact EvV_int (by omega) | exact EvV_of (by simp) | exact EvV_nil _))
            case d1 => dsimp only; omega
            case d2 => dsimp only; omega
            case d4 => dsimp only; rw [List.map_append]; exact objAt_seteq (by simp; omega)
            case d5 => exact (show objAt _ 0 = objAt S 0 by simp (disch := first | omega | (simp only [List.length_append, List.length_set, List.length_cons, List.length_nil]; omega)) only [EVs]).trans hPS
            case d6 => exact fun q h0 hq => ((show objAt _ q = objAt S q by simp (disch := first | omega | (simp only [List.length_append, List.length_set, List.length_cons, List.length_nil]; omega)) only [EVs]).trans (hSo q h0 (by omega))).trans (hold q h0 hq)
            case d7 => dsimp only; simp; omega
        · have hjn : j = n := by omega
          subst hjn
          (refine ew1 @hc2 ?_; try with_reducible exact True.intro)
          rcases hR with ⟨rfl, rfl⟩ | ⟨p, rfl, hp, hbp⟩
          · simp at hrl; omega
          have hpl := objAt_lt hp
          have hrow : ∀ i, i < k + 1 → ((fun x => if x = k then r else M x) i).length = j ∧ ∀ e ∈ (fun x => if x = k then r else M x) i, FewR e := fun i hi => by
            dsimp only
            by_cases e : i = k
            · rw [if_pos e]; exact ⟨hrl, hre⟩
            · rw [if_neg e]; exact hfe i (by omega)
          rcases hM2 with ⟨rfl, rfl⟩ | ⟨hk0, q, rp, rfl, hq0, hrp, hM1⟩
          · (refine ew ?_; try with_reducible exact True.intro)
            refine ⟨by omega, (0 + 1, ?st3, .msl (s.length + 1) 0 1, fun x => if x = 0 then r else M x), ?e1, ⟨⟨?e2, hP.fr ?e5⟩, .inr ⟨by dsimp only; omega, s.length + 1, fun x => if x = 0 then p else 0, rfl, by omega, ?e7, matF_snoc (s := []) (q := 0) (rp := fun _ => 0) (.inl rfl) ?e6 ?e8 (Nat.zero_le _) fun o ho => absurd ho (Nat.not_lt_zero _)⟩, hrow⟩, ?e3⟩
            case e3 => dsimp only; (refine Fg_env ?_) <;> (try (refine ew ?_; try with_reducible exact True.intro)) <;> (repeat' (first | refine ⟨?_, ?_⟩ | exact EvV_int (by omega) | exact EvV_of (by simp) | exact EvV_nil _))
            case e1 => dsimp only; omega
            case e2 => dsimp only; omega
            case e5 => simp (disch := first | omega | (simp only [List.length_append, List.length_set, List.length_cons, List.length_nil]; omega)) only [EVs]
            case e7 =>
              intro y hy
              have hy : y < 0 + 1 := hy
              dsimp only
              rw [if_pos (by omega)]; omega
            case e6 =>
              dsimp only
              rw [objAt_seteq (by simp)]
              rw [hrl]; rfl
            case e8 =>
              dsimp only
              rw [if_pos rfl]
              exact (show objAt _ p = objAt s p by simp (disch := first | omega | (simp only [List.length_append, List.length_set, List.length_cons, List.length_nil]; omega)) only [EVs]).trans hp
          · have hqb : q < b := by have := hM1.lt.1; omega
            have hrb : ∀ y, y < k → rp y < b := fun y hy => by have := hM1.lt.2 y hy; omega
            have hM : Mat s q k j rp (fun x => (M x).map R.cells) M := ⟨hM1.inj, (hold q hq0 hqb).trans hM1.out, fun y hy => (hold _ (hrp y hy) (hrb y hy)).trans (hM1.row y hy), fun y hy => row_frz _⟩
            have hql := hM.lt.1
            have hqp : q ≠ p := fun e => by have := hM.out; rw [e, hp] at this; cases this
            have hto : (orow k j rp).take k = orow k j rp := List.take_of_length_le (by rw [orow_len]; omega)
            have hkl : k ≤ (orow k j rp).length := by rw [orow_len]; omega
            (refine ew4 @hM.out @hto @hkl @orow_len ?_; try with_reducible exact True.intro)
            refine ⟨by omega, (k + 1, ?st4, .msl (s.length + 1) 0 (k + 1), fun x => if x = k then r else M x), ?f1, ⟨⟨?f2, hP.fr ?f5⟩, .inr ⟨by dsimp only; omega, s.length + 1, fun x => if x = k then p else rp x, rfl, by omega, ?f7, matF_snoc (s := s.take b) (q := q) (rp := rp) (.inr ?f9) ?f6 ?f8 ?f10 ?f11⟩, hrow⟩, ?f3⟩
            case f3 => dsimp only; (refine Fg_env ?_) <;> (try (refine ew ?_; try with_reducible exact True.intro)) <;> (repeat' (first | refine ⟨?_, ?_⟩ | exact EvV_int (by omega) | exact EvV_of (by simp) | exact EvV_nil _))
            case f1 => dsimp only; omega
            case f2 => dsimp only; omega
            case f5 => simp (disch := first | omega | (simp only [List.length_append, List.length_set, List.length_cons, List.length_nil]; omega)) only [EVs]
            case f7 =>
              intro y hy
              have hy : y < k + 1 := hy
              dsimp only
              by_cases e : y = k
              · rw [if_pos e]; omega
              · rw [if_neg e]; exact hrp y (by omega)
            case f9 => exact ⟨hM.inj, (objAt_take hqb).trans hM.out, fun y hy => by dsimp only; rw [if_neg (by omega), objAt_take (hrb y hy)]; exact hM.row y hy, fun y hy => row_frz _⟩
            case f6 =>
              dsimp only
              rw [objAt_seteq (by simp)]
              rw [hrl]
            case f8 =>
              dsimp only
              rw [if_pos rfl]
              exact (show objAt _ p = objAt s p by simp (disch := first | omega | (simp only [List.length_append, List.length_set, List.length_cons, List.length_nil]; omega)) only [EVs]).trans hp
            case f10 => rw [List.length_take]; omega
            case f11 =>
              intro o ho hne
              rw [List.length_take] at ho
              rw [objAt_take (by omega)]
              simp (disch := first | omega | (simp only [List.length_append, List.length_set, List.length_cons, List.length_nil]; omega)) only [EVs]
    · have hkn : k = n := by omega
      subst hkn
      (refine ew1 @hc ?_; try with_reducible exact True.intro)
      rcases hM with ⟨rfl, rfl⟩ | ⟨hk0, q, rp, rfl, hq0, hrp, hM⟩
      · omega
      · exact ⟨⟨M, hfe, hM.res fun i hi => (hfe i hi).1⟩, hP.lt⟩
theorem c_MakeMatrix {T : Nat → Option Fn} (h : D_spec_MakeMatrix T) {x : List UInt8} (hx : x.length ≤ 1048576) : ∃ (n : Nat) (M : MF), (1 ≤ n ∧ n ≤ 3) ∧ (∀ i, i < n → (M i).length = n ∧ ∀ e ∈ M i, FewR e) ∧ PF T 230 [bytesV x] (ratssV ((List.range n).map M)) := by
  obtain ⟨h0, rn⟩ := r_l01New h.d_spec_l01New hx
  have : ∃ r σ', Run T (.fn 230 [bytesV x] []) (.fn r σ') ∧ ∃ (n : Nat) (M : MF), (1 ≤ n ∧ n ≤ 3) ∧ (∀ i, i < n → (M i).length = n ∧ ∀ e ∈ M i, FewR e) ∧ resolve σ' FD r = some (ratssV ((List.range n).map M)) := by
    refine run_end (fun x d => x == 105 || x == 107 || x == 242) h.hT rfl rfl ?_
    dsimp only [F_spec_MakeMatrix, oN, oS, oG, oK, oA, oH, oV, cI, St.enter, List.length_cons, List.length_nil, Nat.zero_add]
    (refine ew ?_; try with_reducible exact True.intro)
    refine RefK_run0 rn (by (refine ew ?_; try with_reducible exact True.intro)) (by (refine ew ?_; try with_reducible exact True.intro)) ?_
    rw [show mapV (shiftN ([] : Store).length) (.ptr 0 0 0) = .ptr 0 0 0 from rfl, addS_cur]
    (refine ew ?_; try with_reducible exact True.intro)
    refine RefK_curF (b := 0) (rest := [iv 3]) ⟨0, h0, rfl, by omega⟩ (f_l01Below h.d_spec_l01Below (n := 3) (by omega) hx) rfl (fun _ => rfl) ?_
    rintro _ i1 h1 ⟨m, rfl, hm⟩ hi1
    rw [show (cur x 0 h0).set 0 (some (cob x i1 h1)) = cur x i1 h1 from rfl]
    obtain ⟨r, σ', h2, ⟨M, h3, h4⟩, h5⟩ := r_l09Draw h.d_spec_l09Draw hx (n := (1 + m).toNat) (by omega) (hh := h1) hi1
    rw [show (((1 + m).toNat : Nat) : Int) = 1 + m by omega] at h2
    (refine ew ?_; try with_reducible exact True.intro)
    refine RefK_mk h2 rfl h5 (Nat.le_refl _) ?_
    (refine ew ?_; try with_reducible exact True.intro)
    exact ⟨_, M, by omega, h3, h4⟩
  obtain ⟨r, σ', h1, n, M, h2, h3, h4⟩ := this
  exact ⟨n, M, h2, h3, .frz h1 h4⟩
end Go.Ml
end
section
set_option linter.unusedSimpArgs false
set_option linter.unusedVariables false
set_option maxRecDepth 100000
set_option maxHeartbeats 16000000
namespace Go.Ml
theorem rrE {m : List (List R)} {c : Int} (h0 : m.length = 0) (hc : 0 ≤ c) : rrM m c = [] ∧ rrB m c = true := by
  have em : m = [] := List.eq_nil_of_length_eq_zero h0
  subst em
  have hC : rrC [] c = true := by
    unfold rrC
    rw [decide_eq_true (by simpa using hc), Bool.and_true]
    rfl
  obtain ⟨e1, e2⟩ := rrV_some hC (M := mF []) rfl
  exact ⟨e1, e2⟩
theorem OkA_lst {ops : List OpI} {L : Nat} {acc : List Acc} (l : List Nat) (l0 : List Acc) (hn : l.Nodup) (hl : ∀ o ∈ l, o < L) (he : acc = l0.map (renA (gN l L))) (h : OkA l.length ops l0) : OkA L ops acc := OkA_ren (gN_inj hl hn) (gN_lt hl) he h
theorem po_iSolveSystem {T : Nat → Option Fn} (h : D_impl_SolveSystem T) {m : List (List R)} {b : List R} (wm : wfL (wfL R.wf) m) (wb : wfL R.wf b) : PO T 231 [ratssV m, ratsV b] (.tup [ratsV (ssX m b), .bool (ssB m b)]) := by
  have lm := wm.1
  have lb := wb.1
  have c1 := c_iIsMatrix h.d_impl_IsMatrix (m := m) (cols := (m.length : Nat)) wm (by omega)
  cases hc : ssC m b
  · obtain ⟨e1, e2⟩ := ssB_c hc
    rw [e1, e2]
    unfold ssC at hc
    generalize matOk m (m.length : Nat) = x at c1 hc
    have hx : x = false ∨ x = true := by cases x <;> simp
    refine po_end2 (fun _ _ => false) h.hT rfl rfl ?_
    dsimp only [F_impl_SolveSystem, oN, oS, oG, oK, oA, oH, oV, cI, St.enter, List.length_cons, List.length_nil, Nat.zero_add]
    (refine ew ?_; try with_reducible exact True.intro)
    refine PFK_of c1 ?_
    rcases hx with hx | hx
    · (refine ew1 @hx ?_; try with_reducible exact True.intro)
      exact (fin_nil (sz := 3)).tup1
    · have hlt : (((b.length : Nat) : Int) = (m.length : Nat)) = False := eq_false fun e => by
        rw [hx, Bool.true_and, decide_eq_false_iff_not] at hc; omega
      (refine ew2 @hx @hlt ?_; try with_reducible exact True.intro)
      exact (fin_nil (sz := 3)).tup1
  obtain ⟨h10, hbl, hmo, hml⟩ := ssC_ok hc
  rw [hmo] at c1
  have hlt : (((b.length : Nat) : Int) = (m.length : Nat)) = True := eq_true (by omega)
  have wW := ssL_wf wm wb hml hbl h10
  have hWl : (ssL m b).length = m.length := wideL_len _ _
  have PR := po_iReduceRows h.d_impl_ReduceRows (m := ssL m b) (c := (m.length : Nat) + 1) wW (fun hc => rrC_sz (by omega) hc) (by omega)
  clear lm lb wm wb
  rcases Nat.eq_zero_or_pos m.length with h0 | h0
  · obtain ⟨e1, e2⟩ := rrE (m := ssL m b) (c := (m.length : Nat) + 1) (by omega) (by omega)
    obtain ⟨e3, e4⟩ := ssB_t hc e2
    rw [e3, e4, e1]
    rw [e1, e2] at PR
    have PR0 := po_lax (as' := [.nils, iv ((m.length : Nat) + 1)]) PR (by
      rw [show ssL m b = [] from List.eq_nil_of_length_eq_zero (by omega)]
      simp only [LaxL, LaxV]
      exact ⟨_, _, rfl, .inl ⟨rfl, .inl rfl⟩, _, _, rfl, rfl, rfl⟩)
    refine po_end2 (fun x d => x == 243) h.hT rfl rfl ?_
    dsimp only [F_impl_SolveSystem, oN, oS, oG, oK, oA, oH, oV, cI, St.enter, List.length_cons, List.length_nil, Nat.zero_add]
    (refine ew ?_; try with_reducible exact True.intro)
    refine PFK_of c1 ?_
    (refine ew1 @hlt ?_; try with_reducible exact True.intro)
    refine loop_at (fun x d => x == 243) (α := Nat) (fun i => ⟨argE [.any, .any, .any, .any, .any, .any, iv (m.length : Nat), .nils, .any, .any, .any, .any, .any, .any, .any, .any, .any, .any, .any, .any, .any, .any, .any, .any, .any, .any, .any, .any, ratssV m, iv (m.length : Nat), iv (i : Nat)], [none], 0, 0, [], []⟩) (fun i => i = 0) (fun i => i) rfl 0 ?_ ?_ ?_
    · rfl
    · (refine Fg_env ?_) <;> (try (refine ew ?_; try with_reducible exact True.intro)) <;> (repeat' (first | refine ⟨?_, ?_⟩ | exact EvV_int (by omega) | exact EvV_of (by simp) | exact EvV_nil _))
    · rintro i hi
      have hcc : ¬ ((i : Int) < (m.length : Nat)) := by omega
      (refine ew1 @hcc ?_; try with_reducible exact True.intro)
      refine RefK_got PR0 (by (refine ew ?_; try with_reducible exact True.intro)) ?_
      intro r s1 o1 G
      obtain ⟨v, rfl, G1⟩ := G.tup1
      have hv := G1.ow
      rcases hv.sl_inv with ⟨_, rfl, _⟩ | ⟨p, R0, os, rfl, hp, _⟩
      · (refine ew ?_; try with_reducible exact True.intro)
        refine loop_at (fun x d => x == 243) (α := Nat) (fun k => ⟨argE [.any, .any, .any, .any, .any, .any, .any, .any, .any, .any, .any, .any, .nils, .any, .any, .any, .any, .any, .any, .any, .any, .any, .any, .any, .any, .any, .any, .any, .any, .any, .any, .any, .any, .any, .any, .any, .any, .any, .any, .any, .any, .any, .any, .any, .any, .any, .any, .any, .any, .any, .any, .any, .any, .any, .any, .any, .any, .any, .sl 1 [], iv 0, iv (k : Nat)], s1 ++ [none], 0, 0, [], []⟩) (fun k => k = 0) (fun k => k) rfl 0 ?_ ?_ ?_
        · rfl
        · (refine Fg_env ?_) <;> (try (refine ew ?_; try with_reducible exact True.intro)) <;> (repeat' (first | refine ⟨?_, ?_⟩ | exact EvV_int (by omega) | exact EvV_of (by simp) | exact EvV_nil _))
        · rintro k hk
          have hcc : ¬ ((k : Int) < 0) := by omega
          (refine ew1 @hcc ?_; try with_reducible exact True.intro)
          exact (fin_nil (sz := 3)).tup1
      · (refine ew1 @hp ?_; try with_reducible exact True.intro)
        refine loop_at (fun x d => x == 243) (α := Nat) (fun k => ⟨argE [.any, .any, .any, .any, .any, .any, .any, .any, .any, .any, .any, .any, .nils, .any, .any, .any, .any, .any, .any, .any, .any, .any, .any, .any, .any, .any, .any, .any, .any, .any, .any, .any, .any, .any, .any, .any, .any, .any, .any, .any, .any, .any, .any, .any, .any, .any, .any, .any, .any, .any, .any, .any, .any, .any, .any, .any, .any, .any, .msl p 0 0, iv 0, iv (k : Nat)], s1 ++ [none], 0, 0, [], []⟩) (fun k => k = 0) (fun k => k) rfl 0 ?_ ?_ ?_
        · rfl
        · (refine Fg_env ?_) <;> (try (refine ew ?_; try with_reducible exact True.intro)) <;> (repeat' (first | refine ⟨?_, ?_⟩ | exact EvV_int (by omega) | exact EvV_of (by simp) | exact EvV_nil _))
        · rintro k hk
          have hcc : ¬ ((k : Int) < 0) := by omega
          (refine ew1 @hcc ?_; try with_reducible exact True.intro)
          exact (fin_nil (sz := 3)).tup1
  refine po_end2 (fun x d => x == 243) h.hT rfl rfl ?_
  dsimp only [F_impl_SolveSystem, oN, oS, oG, oK, oA, oH, oV, cI, St.enter, List.length_cons, List.length_nil, Nat.zero_add]
  (refine ew ?_; try with_reducible exact True.intro)
  refine PFK_of c1 ?_
  (refine ew1 @hlt ?_; try with_reducible exact True.intro)
  refine loop_at (fun x d => x == 243) (α := Nat × Store × V × Nat × (Nat → Nat)) (fun q => ⟨argE [.any, ratsV b, .any, .any, .any, .any, iv (m.length : Nat), q.2.2.1, .any, .any, .any, .any, .any, .any, .any, .any, .any, .any, .any, .any, .any, .any, .any, .any, .any, .any, .any, .any, ratssV m, iv (m.length : Nat), iv (q.1 : Nat)], q.2.1, 0, 0, [], []⟩) (fun q => q.1 ≤ m.length ∧ ((q.1 = 0 ∧ q.2.2.1 = .nils) ∨ (0 < q.1 ∧ q.2.2.1 = .msl q.2.2.2.1 0 q.1 ∧ Mat q.2.1 q.2.2.2.1 q.1 (m.length + 1) q.2.2.2.2 (fun x => (ssW m b x).map R.cells) (ssW m b)))) (fun q => m.length - q.1) rfl (0, [none], .nils, 0, fun _ => 0) ?_ ?_ ?_
  · exact ⟨by omega, .inl ⟨rfl, rfl⟩⟩
  · (refine Fg_env ?_) <;> (try (refine ew ?_; try with_reducible exact True.intro)) <;> (repeat' (first | refine ⟨?_, ?_⟩ | exact EvV_int (by omega) | exact EvV_of (by simp) | exact EvV_nil _))
  · rintro ⟨i, s, v7, qo, rp⟩ ⟨hi, hM⟩
    dsimp only at hi hM
    by_cases hcc : (i : Int) < (m.length : Nat)
    · have hil : i < m.length := by omega
      have hib : (i : Int) < (b.length : Nat) := by omega
      have hai : (m.map fun r => [ratsV r]).getD i [] = [ratsV (m.getD i default)] := mg (f := fun r : List R => [ratsV r]) hil
      have hbi : (b.map R.cells).getD i [] = (b.getD i default).cells := mg (by omega)
      have hri := hml i hil
      have emf : (ssW m b i).map R.cells = (m.getD i default).map R.cells ++ [(b.getD i default).cells] := by unfold ssW; rw [List.map_append]; rfl
      generalize m.getD i default = r at *
      generalize b.getD i default = y at *
      have hne : (r.map R.cells = []) = False := eq_false fun e => by
        have := congrArg List.length e
        simp at this
        subst this
        simp at hri; omega
      rcases hM with ⟨rfl, rfl⟩ | ⟨hi0, rfl, hM⟩
      · (refine ew3 @hcc (And.intro hai hbi) @hne ?_; try with_reducible exact True.intro)
        refine ⟨⟨by omega, by omega⟩, ⟨by omega, by omega⟩, by decide, ?_, ?_⟩
        · have hn0 : 0 ≤ List.length s := Nat.zero_le _
          generalize List.length s = z at hn0 ⊢
          revert z
          refine OkA_allN _ _ 0 (fun n hn => ?_) (fun n hn => ?_) ?_
          · simp only [sh]; split <;> omega
          · simp [shA, sh]; try omega
          · unfold OkA; decide +kernel
        refine ⟨(0 + 1, ?st, .msl (s.length + 5) 0 1, s.length + 5, fun x => if x = 0 then s.length + 3 else rp x), ?c1, ⟨?c2, .inr ⟨by omega, rfl, ?c4⟩⟩, ?c3⟩
        case c3 => dsimp only; (refine Fg_env ?_) <;> (try (refine ew ?_; try with_reducible exact True.intro)) <;> (repeat' (first | refine ⟨?_, ?_⟩ | exact EvV_int (by omega) | exact EvV_of (by simp) | exact EvV_nil _))
        case c1 => dsimp only; omega
        case c2 => dsimp only; omega
        case c4 =>
          dsimp only
          refine matF_snoc (s := s) (q := 0) (.inl rfl) ?_ ?_ (by omega) (fun o ho _ => ?_)
          · rw [objAt_seteq (by simp)]
            rw [hri]; rfl
          · rw [emf]
            simp (disch := first | omega | (simp only [List.length_append, List.length_set, List.length_cons, List.length_nil]; omega)) only [EVs]
          · simp (disch := first | omega | (simp only [List.length_append, List.length_set, List.length_cons, List.length_nil]; omega)) only [EVs]
      · have hq := hM.out
        have hql := hM.lt.1
        have hoc := orow_len i (m.length + 1) rp
        (refine ew5 @hcc (And.intro hai hbi) @hne @hq @hoc ?_; try with_reducible exact True.intro)
        refine ⟨⟨by omega, by omega⟩, ⟨by omega, by omega⟩, ⟨by omega, by omega⟩, ?_, ?_⟩
        · refine OkA_lst [qo, s.length + 1, s.length + 2, s.length + 3, s.length + 4, s.length + 5] [⟨12, [], [], false⟩, ⟨11, [0, 4], [0, 5], false⟩, ⟨10, [], [4], false⟩, ⟨9, [1, 2], [1, 3], false⟩, ⟨8, [], [2], false⟩, ⟨7, [], [], false⟩, ⟨6, [], [], false⟩, ⟨5, [], [], false⟩, ⟨4, [], [], false⟩, ⟨3, [], [1], false⟩, ⟨2, [], [], false⟩, ⟨1, [], [], false⟩, ⟨0, [], [], false⟩] ?_ ?_ rfl ?_
          · simp; omega
          · simp; omega
          · show OkA 6 _ _
            unfold OkA; decide +kernel
        refine ⟨(i + 1, ?st2, .msl (s.length + 5) 0 (i + 1), s.length + 5, fun x => if x = i then s.length + 3 else rp x), ?c1, ⟨?c2, .inr ⟨by omega, rfl, ?c4⟩⟩, ?c3⟩
        case c3 => dsimp only; (refine Fg_env ?_) <;> (try (refine ew ?_; try with_reducible exact True.intro)) <;> (repeat' (first | refine ⟨?_, ?_⟩ | exact EvV_int (by omega) | exact EvV_of (by simp) | exact EvV_nil _))
        case c1 => dsimp only; omega
        case c2 => dsimp only; omega
        case c4 =>
          dsimp only
          refine matF_snoc (s := s) (q := qo) (.inr hM) ?_ ?_ (by omega) (fun o ho hne => ?_)
          · rw [objAt_seteq (by simp)]
            rw [hri]
          · rw [emf]
            have : s.length + 3 ≠ qo := by omega
            simp (disch := first | omega | (simp only [List.length_append, List.length_set, List.length_cons, List.length_nil]; omega)) only [EVs]
          · simp (disch := first | omega | (simp only [List.length_append, List.length_set, List.length_cons, List.length_nil]; omega)) only [EVs]
    · have hie : i = m.length := by omega
      subst hie
      rcases hM with ⟨h1, _⟩ | ⟨_, rfl, hM⟩
      · omega
      have Rf := hM.res fun i hi => by unfold ssW; rw [List.length_append, hml i hi]; rfl
      have Rf : resolve s FD (.msl qo 0 m.length) = some (ratssV (ssL m b)) := Rf
      (refine ew2 @hcc @Rf ?_; try with_reducible exact True.intro)
      refine RefK_got PR (by (refine ew1 @Rf ?_; try with_reducible exact True.intro)) ?_
      intro r s1 o1 G
      cases hb : rrB (ssL m b) ((m.length : Nat) + 1)
      · obtain ⟨e1, e2⟩ := ssB_r hb
        rw [e1, e2]
        rw [hb] at G
        obtain ⟨v, rfl, G1⟩ := G.tup1
        (refine ew ?_; try with_reducible exact True.intro)
        exact (fin_nil (sz := 3)).tup1
      obtain ⟨e1, e2⟩ := ssB_t hc hb
      rw [e1, e2]
      rw [hb] at G
      obtain ⟨v, rfl, G1⟩ := G.tup1
      obtain ⟨M, eM, hOM, _⟩ := rrV_ok hb
      rw [hWl] at eM hOM
      have hlM : ∀ i, i < m.length → (M i).length = m.length + 1 := fun i hi => by have := (hOM i hi).1; omega
      have hRl : (rrM (ssL m b) ((m.length : Nat) + 1)).length = m.length := by rw [eM]; simp
      obtain ⟨q2, rp2, A, f, rfl, hM2, hO, hfo⟩ := owV_mat (c := m.length + 1) (by omega) G1.ow G1.nd (fun r hr => by
        rw [eM] at hr
        obtain ⟨i, hi, rfl⟩ := List.mem_map.1 hr
        exact hlM i (List.mem_range.1 hi)) (by omega)
      rw [hRl] at hM2 hO hfo ⊢
      have hmf : ∀ i, i < m.length → mF (rrM (ssL m b) ((m.length : Nat) + 1)) i = M i := fun i hi => by rw [eM]; exact wideL_at hi
      have hM2 := hM2.ext hmf
      have hO := hO.ext (M2 := M) (S2 := fun i => i < m.length) fun i hi => ⟨hi, hmf i hi⟩
      have hq2 := hM2.out
      have hql2 := hM2.lt.1
      rw [eM, List.map_map]
      clear hM Rf eM hmf PR
      (refine ew1 @hq2 ?_; try with_reducible exact True.intro)
      refine loop_at (fun x d => x == 243) (α := Nat × Store × V × Nat) (fun q => ⟨argE [.any, .any, .any, .any, .any, .any, iv (m.length : Nat), .any, .any, .any, .any, .any, q.2.2.1, .any, .any, .any, .any, .any, .any, .any, .any, .any, .any, .any, .any, .any, .any, .any, .any, .any, .any, .any, .any, .any, .any, .any, .any, .any, .any, .any, .any, .any, .any, .any, .any, .any, .any, .any, .any, .any, .any, .any, .any, .any, .any, .any, .any, .any, .msl q2 0 m.length, iv (m.length : Nat), iv (q.1 : Nat)], q.2.1, 0, 0, [], []⟩) (fun q => q.1 ≤ m.length ∧ ((q.1 = 0 ∧ q.2.2.1 = .nils) ∨ (0 < q.1 ∧ q.2.2.1 = .msl q.2.2.2 0 q.1 ∧ objAt q.2.1 q.2.2.2 = some ⟨3, (List.range q.1).map fun x => (A x).getD m.length []⟩ ∧ s1.length ≤ q.2.2.2)) ∧ (∀ o, o < s1.length → objAt q.2.1 o = objAt s1 o) ∧ s1.length ≤ q.2.1.length) (fun q => m.length - q.1) rfl (0, s1 ++ [none], .nils, 0) ?_ ?_ ?_
      · exact ⟨Nat.zero_le _, .inl ⟨rfl, rfl⟩, fun o ho => objAt_snoc_lt ho, by simp⟩
      · (refine Fg_env ?_) <;> (try (refine ew ?_; try with_reducible exact True.intro)) <;> (repeat' (first | refine ⟨?_, ?_⟩ | exact EvV_int (by omega) | exact EvV_of (by simp) | exact EvV_nil _))
      · rintro ⟨i, u, v12, p⟩ ⟨hi, hL, huo, hul⟩
        dsimp only at hi hL huo hul
        by_cases hci : (i : Int) < (m.length : Nat)
        · have hil : i < m.length := by omega
          obtain ⟨a1, a2, gA, ka1, ka2⟩ := hM2.cell hlM hil (j := m.length) (by omega)
          have gA2 : (A i)[m.length]? = some ((A i).getD m.length []) := getQ (by rw [(hM2.cel i hil).1, hlM i hil]; omega)
          have eA : (A i).getD m.length [] = [.bool (elF M i m.length).neg, a1, a2] := by
            rw [gA] at gA2; exact (Option.some.inj gA2).symm
          have hqu := (huo q2 hql2).trans hq2
          have hru := (huo _ (hM2.lt.2 i hil)).trans (hM2.row i hil)
          have gi := orow_at (c := m.length + 1) (rp := rp2) hil
          have lx := And.intro ka1.leaf ka2.leaf
          have es : ((List.range (i + 1)).map fun x => (A x).getD m.length []) = ((List.range i).map fun x => (A x).getD m.length []) ++ [[.bool (elF M i m.length).neg, a1, a2]] := by
            rw [List.range_succ, List.map_append, List.map_cons, List.map_nil, eA]
          generalize elF M i m.length = x at *
          have hnn : (m.length : Int) < (m.length : Nat) + 1 := by omega
          rcases hL with ⟨rfl, rfl⟩ | ⟨hi0, rfl, hp, hpl⟩
          · (refine ew4 @hci (And.intro hqu hru) (And.intro gi gA) @lx ?_; try with_reducible exact True.intro)
            refine ⟨by omega, ?_⟩
            refine ⟨(0 + 1, ?st3, .msl (u.length + 1) 0 1, u.length + 1), ?c1, ⟨?c2, .inr ⟨by omega, rfl, ?c4, ?c5⟩, ?c6, ?c7⟩, ?c3⟩
            case c3 => dsimp only; (refine Fg_env ?_) <;> (try (refine ew ?_; try with_reducible exact True.intro)) <;> (repeat' (first | refine ⟨?_, ?_⟩ | exact EvV_int (by omega) | exact EvV_of (by simp) | exact EvV_nil _))
            case c1 => dsimp only; omega
            case c2 => dsimp only; omega
            case c4 =>
              dsimp only
              rw [es]
              exact objAt_seteq (by simp <;> omega)
            case c5 => dsimp only; omega
            case c6 =>
              dsimp only
              intro o ho
              rw [← huo o ho]
              simp (disch := first | omega | (simp only [List.length_append, List.length_set, List.length_cons, List.length_nil]; omega)) only [EVs]
            case c7 => simp; omega
          · have hpu := objAt_lt hp
            have hrl : ((List.range i).map fun x => (A x).getD m.length []).length = i := by simp
            (refine ew6 @hci (And.intro hqu hru) (And.intro gi gA) @lx @hp @hrl ?_; try with_reducible exact True.intro)
            refine ⟨by omega, ?_⟩
            refine ⟨(i + 1, ?st4, .msl (u.length + 1) 0 (i + 1), u.length + 1), ?c1, ⟨?c2, .inr ⟨by omega, rfl, ?c4, ?c5⟩, ?c6, ?c7⟩, ?c3⟩
            case c3 => dsimp only; (refine Fg_env ?_) <;> (try (refine ew ?_; try with_reducible exact True.intro)) <;> (repeat' (first | refine ⟨?_, ?_⟩ | exact EvV_int (by omega) | exact EvV_of (by simp) | exact EvV_nil _))
            case c1 => dsimp only; omega
            case c2 => dsimp only; omega
            case c4 =>
              dsimp only
              rw [es]
              exact objAt_seteq (by simp <;> omega)
            case c5 => dsimp only; omega
            case c6 =>
              dsimp only
              intro o ho
              have : o ≠ p := by omega
              rw [← huo o ho]
              simp (disch := first | omega | (simp only [List.length_append, List.length_set, List.length_cons, List.length_nil]; omega)) only [EVs]
            case c7 => simp; omega
        · have hie : i = m.length := by omega
          rcases hL with ⟨h1, _⟩ | ⟨_, rfl, hp, hpl⟩
          · omega
          obtain ⟨os, k1, k2, k3⟩ := hO.col hlM (j := m.length) (by omega) m.length (Nat.le_refl _)
          have hlt : ∀ o ∈ os, o < s1.length := fun o ho => k1.lt o ho
          subst hie
          (refine ew1 @hci ?_; try with_reducible exact True.intro)
          refine Fin.tup1 (fin_of (os := p :: os) ?_ (List.nodup_cons.2 ⟨fun hm => by have := hlt p hm; omega, k2⟩))
          unfold ratsV
          simp only [OwV]
          refine .inr ⟨p, _, os, by simp, hp, rfl, ?_⟩
          exact k1.frame fun o ho => huo o (hlt o ho)
end Go.Ml
end
section
set_option linter.unusedSimpArgs false
set_option linter.unusedVariables false
set_option maxRecDepth 100000
set_option maxHeartbeats 16000000
namespace Go.Ml
def lrow (n : Nat) (rp : Nat → Nat) (M : MF) : List (List V) := (List.range n).map fun x => [.msl (rp x) 0 (M x).length]
theorem lrow_len (n : Nat) (rp : Nat → Nat) (M : MF) : (lrow n rp M).length = n := by simp [lrow]
theorem lrow_set {n : Nat} {rp : Nat → Nat} {M : MF} {i p : Nat} {r : List R} : (lrow n rp M).set i [.msl p 0 r.length] = lrow n (fun x => if x = i then p else rp x) (setR M i r) := by
  apply List.ext_getElem?
  intro x
  unfold lrow setR
  rw [List.getElem?_set]
  simp only [List.length_map, List.length_range, List.getElem?_map]
  by_cases h : i = x
  · subst h
    by_cases hn : i < n
    · simp [hn]
    · rw [if_pos rfl, if_neg hn, List.getElem?_eq_none (by simpa using hn)]; rfl
  · rw [if_neg h]
    by_cases hn : x < n
    · rw [List.getElem?_range hn]; simp only [Option.map_some]; rw [if_neg (fun e : x = i => h e.symm), if_neg fun e : x = i => h e.symm]
    · rw [List.getElem?_eq_none (by simpa using hn)]; rfl
structure MatL (s : Store) (q n : Nat) (rp : Nat → Nat) (M : MF) : Prop where
  inj : ∀ i j, i < n → j < n → rp i = rp j → i = j
  out : objAt s q = some ⟨1, lrow n rp M⟩
  row : ∀ i, i < n → objAt s (rp i) = some ⟨3, (M i).map R.cells⟩
theorem MatL.lt {s : Store} {q n : Nat} {rp : Nat → Nat} {M : MF} (h : MatL s q n rp M) : q < s.length ∧ ∀ i, i < n → rp i < s.length := ⟨objAt_lt h.out, fun i hi => objAt_lt (h.row i hi)⟩
theorem MatL.ne {s : Store} {q n : Nat} {rp : Nat → Nat} {M : MF} (h : MatL s q n rp M) {i : Nat} (hi : i < n) : rp i ≠ q := fun e => by
  have := h.row i hi
  rw [e, h.out] at this; cases this
theorem MatL.ext {s : Store} {q n : Nat} {rp : Nat → Nat} {M M2 : MF} (h : MatL s q n rp M) (e : ∀ i, M i = M2 i) : MatL s q n rp M2 := by
  have : M = M2 := funext e
  subst this; exact h
theorem MatL.res {s : Store} {q n : Nat} {rp : Nat → Nat} {M : MF} (h : MatL s q n rp M) : resolve s FD (.msl q 0 n) = some (ratssV ((List.range n).map M)) := by
  show resolve s (11 + 1) _ = _
  rw [resolve]
  simp only [h.out]
  rw [if_pos (by rw [lrow_len]; omega), List.drop_zero, List.take_of_length_le (by rw [lrow_len]; omega)]
  have : ((lrow n rp M).mapM fun (r : List V) => r.mapM (resolve s 11)) = some ((List.range n).map fun i => [ratsV (M i)]) := by
    unfold lrow
    rw [List.mapM_map]
    refine mapM_some fun i hi => ?_
    have hi := List.mem_range.1 hi
    have h1 := (row_frz (s := s) (M i)).resN (h.row i hi) 7
    simp only [Function.comp, List.mapM_cons, List.mapM_nil]
    rw [h1]; rfl
  rw [this, Option.map_some]
  unfold ratssV
  rw [List.map_map]
  rfl
theorem MatL.put {s s2 : Store} {q n i p : Nat} {rp : Nat → Nat} {M : MF} {r : List R} (h : MatL s q n rp M) (hi : i < n) (hq : objAt s2 q = some ⟨1, (lrow n rp M).set i [.msl p 0 r.length]⟩) (hp : objAt s2 p = some ⟨3, r.map R.cells⟩) (hpl : s.length ≤ p)
    (ho : ∀ o, o < s.length → o ≠ q → o ≠ rp i → objAt s2 o = objAt s o) : MatL s2 q n (fun x => if x = i then p else rp x) (setR M i r) := by
  refine ⟨fun x y hx hy e => ?_, by rw [hq, lrow_set], fun x hx => ?_⟩
  · by_cases h1 : x = i <;> by_cases h2 : y = i
    · omega
    · rw [if_pos h1, if_neg h2] at e
      have := h.lt.2 y hy; omega
    · rw [if_neg h1, if_pos h2] at e
      have := h.lt.2 x hx; omega
    · rw [if_neg h1, if_neg h2] at e
      exact h.inj x y hx hy e
  · by_cases h1 : x = i
    · subst h1; rw [if_pos rfl, setR_eq]; exact hp
    · rw [if_neg h1, setR_ne h1, ho _ (h.lt.2 x hx) (h.ne hx) fun e => h1 (h.inj x i hx hi e)]
      exact h.row x hx
end Go.Ml
end
section
set_option linter.unusedSimpArgs false
set_option linter.unusedVariables false
set_option maxRecDepth 100000
set_option maxHeartbeats 16000000
namespace Go.Ml
theorem Mat.snoc {s s2 : Store} {q q2 p2 i c : Nat} {rp : Nat → Nat} {A : Nat → List (List V)} {M : MF} (h : i = 0 ∨ (0 < i ∧ Mat s q i c rp A M)) (hq : objAt s2 q2 = some ⟨1, orow i c rp ++ [[.msl p2 0 c]]⟩) (hp : objAt s2 p2 = some ⟨3, A i⟩) (hok : RowOk s2 (A i) (M i)) (hpl : s.length ≤ p2)
    (old : ∀ o, o < s.length → o ≠ q → objAt s2 o = objAt s o) : Mat s2 q2 (i + 1) c (fun x => if x = i then p2 else rp x) A M := by
  have hlt : ∀ x, x < i → rp x < s.length ∧ rp x ≠ q := fun x hx => by
    rcases h with h | ⟨_, h⟩
    · omega
    · exact ⟨h.lt.2 x hx, h.ne hx⟩
  refine ⟨fun x y hx hy e => ?_, ?_, fun x hx => ?_, fun x hx => ?_⟩
  · by_cases h1 : x = i
    · by_cases h2 : y = i
      · omega
      · rw [if_pos h1, if_neg h2] at e
        have := (hlt y (by omega)).1
        omega
    · by_cases h2 : y = i
      · rw [if_neg h1, if_pos h2] at e
        have := (hlt x (by omega)).1
        omega
      · rw [if_neg h1, if_neg h2] at e
        rcases h with h | ⟨_, h⟩
        · omega
        · exact h.inj x y (by omega) (by omega) e
  · rw [hq]
    unfold orow
    rw [List.range_succ, List.map_append]
    congr 2
    congr 1
    · refine List.map_congr_left fun x hx => ?_
      have := List.mem_range.1 hx
      show [V.msl (rp x) 0 c] = [V.msl (if x = i then p2 else rp x) 0 c]
      rw [if_neg (by omega)]
    · simp
  · by_cases h1 : x = i
    · subst h1; rw [if_pos rfl]; exact hp
    · rw [if_neg h1]
      have hxi : x < i := by omega
      rcases h with h | ⟨_, h⟩
      · omega
      · exact (old _ (hlt x hxi).1 (hlt x hxi).2).trans (h.row x hxi)
  · by_cases h1 : x = i
    · subst h1; exact hok
    · rcases h with h | ⟨hi0, h⟩
      · omega
      · exact (h.cel x (by omega)).fr (h.kpq hi0 fun o h1 h2 => old o h2 h1)
theorem RowOk.drop {s : Store} {A : List (List V)} {r : List R} (h : RowOk s A r) (d : Nat) : RowOk s (A.drop d) (r.drop d) := by
  refine ⟨by rw [List.length_drop, List.length_drop, h.1], fun j hj => ?_⟩
  rw [List.length_drop] at hj
  have := h.2 (d + j) (by omega)
  rw [List.getD_eq_getElem?_getD, List.getElem?_drop, List.getD_eq_getElem?_getD, List.getElem?_drop, ← List.getD_eq_getElem?_getD, ← List.getD_eq_getElem?_getD]
  exact this
def ivmT (i j : Nat) : List R := (List.range j).map fun j => intR (if i = j then 1 else 0)
theorem ivmT_s (i j : Nat) : ivmT i (j + 1) = ivmT i j ++ [intR (if i = j then 1 else 0)] := by unfold ivmT; rw [List.range_succ, List.map_append]; rfl
theorem ivmT_len (i j : Nat) : (ivmT i j).length = j := by simp [ivmT]
theorem po_iInvertMatrix {T : Nat → Option Fn} (h : D_impl_InvertMatrix T) {m : List (List R)} (wm : wfL (wfL R.wf) m) : PO T 232 [ratssV m] (.tup [ratssV (ivmX m), .bool (ivmB m)]) := by
  have lm := wm.1
  have c1 := c_iIsMatrix h.d_impl_IsMatrix (m := m) (cols := (m.length : Nat)) wm (by omega)
  cases hc : matOk m (m.length : Nat)
  · obtain ⟨e1, e2⟩ := ivmB_c hc
    rw [e1, e2]
    rw [hc] at c1
    refine po_end2 (fun _ _ => false) h.hT rfl rfl ?_
    dsimp only [F_impl_InvertMatrix, oN, oS, oG, oK, oA, oH, oV, cI, St.enter, List.length_cons, List.length_nil, Nat.zero_add]
    (refine ew ?_; try with_reducible exact True.intro)
    refine PFK_of c1 ?_
    (refine ew ?_; try with_reducible exact True.intro)
    exact (fin_nil (sz := 1)).tup1
  rw [hc] at c1
  obtain ⟨h10, hml⟩ := ivm_ok hc
  have hWl : (ivmL m).length = m.length := wideL_len _ _
  have wW : wfL (wfL R.wf) (ivmL m) := (mat_ok (fun r hr => ivmL_ok hc r hr) (Nat.le_refl _) (by omega)).2
  have PR := po_iReduceRows h.d_impl_ReduceRows (m := ivmL m) (c := 2 * (m.length : Nat)) wW (fun hc => rrC_sz (by omega) hc) (by omega)
  clear lm wm
  rcases Nat.eq_zero_or_pos m.length with h0 | h0
  · obtain ⟨e1, e2⟩ := rrE (m := ivmL m) (c := 2 * (m.length : Nat)) (by omega) (by omega)
    obtain ⟨e3, e4⟩ := ivmB_t hc e2
    rw [e3, e4, e1]
    rw [e1, e2] at PR
    have PR0 := po_lax (as' := [.nils, iv (2 * (m.length : Nat))]) PR (by
      rw [show ivmL m = [] from List.eq_nil_of_length_eq_zero (by omega)]
      simp only [LaxL, LaxV]
      exact ⟨_, _, rfl, .inl ⟨rfl, .inl rfl⟩, _, _, rfl, rfl, rfl⟩)
    refine po_end2 (fun x d => x == 243) h.hT rfl rfl ?_
    dsimp only [F_impl_InvertMatrix, oN, oS, oG, oK, oA, oH, oV, cI, St.enter, List.length_cons, List.length_nil, Nat.zero_add]
    (refine ew ?_; try with_reducible exact True.intro)
    refine PFK_of c1 ?_
    (refine ew ?_; try with_reducible exact True.intro)
    refine loop_at (fun x d => x == 243) (α := Nat) (fun i => ⟨argE [.any, .any, .any, .any, iv (m.length : Nat), .nils, .any, .any, .any, .any, .any, .any, .any, .any, .any, .any, .any, .any, .any, .any, .any, .any, ratssV m, iv (m.length : Nat), iv (i : Nat)], [none], 0, 0, [], []⟩) (fun i => i = 0) (fun i => i) rfl 0 ?_ ?_ ?_
    · rfl
    · (refine Fg_env ?_) <;> (try (refine ew ?_; try with_reducible exact True.intro)) <;> (repeat' (first | refine ⟨?_, ?_⟩ | exact EvV_int (by omega) | exact EvV_of (by simp) | exact EvV_nil _))
    · rintro i hi
      have hcc : ¬ ((i : Int) < (m.length : Nat)) := by omega
      (refine ew1 @hcc ?_; try with_reducible exact True.intro)
      refine RefK_got PR0 (by (refine ew ?_; try with_reducible exact True.intro)) ?_
      intro r s1 o1 G
      obtain ⟨v, rfl, G1⟩ := G.tup1
      have hv := G1.ow
      rcases hv.sl_inv with ⟨_, rfl, _⟩ | ⟨p, R0, os, rfl, hp, _⟩
      · (refine ew ?_; try with_reducible exact True.intro)
        refine loop_at (fun x d => x == 243) (α := Nat) (fun k => ⟨argE [.any, .any, .any, .any, .any, .any, .any, .any, .any, .any, .any, .any, .nils, .any, .any, .any, .any, .any, .any, .any, .any, .any, .any, .any, .any, .any, .any, .any, .any, .any, .any, .any, .any, .any, .any, .any, .any, .any, .any, .any, .any, .any, .any, .any, .any, .any, .any, .any, .any, .any, .any, .any, .any, .any, .any, .any, .any, .any, .any, .any, .any, .any, .any, .sl 1 [], iv 0, iv (k : Nat)], s1 ++ [none], 0, 0, [], []⟩) (fun k => k = 0) (fun k => k) rfl 0 ?_ ?_ ?_
        · rfl
        · (refine Fg_env ?_) <;> (try (refine ew ?_; try with_reducible exact True.intro)) <;> (repeat' (first | refine ⟨?_, ?_⟩ | exact EvV_int (by omega) | exact EvV_of (by simp) | exact EvV_nil _))
        · rintro k hk
          have hcc : ¬ ((k : Int) < 0) := by omega
          (refine ew1 @hcc ?_; try with_reducible exact True.intro)
          exact (fin_nil (sz := 1)).tup1
      · (refine ew1 @hp ?_; try with_reducible exact True.intro)
        refine loop_at (fun x d => x == 243) (α := Nat) (fun k => ⟨argE [.any, .any, .any, .any, .any, .any, .any, .any, .any, .any, .any, .any, .nils, .any, .any, .any, .any, .any, .any, .any, .any, .any, .any, .any, .any, .any, .any, .any, .any, .any, .any, .any, .any, .any, .any, .any, .any, .any, .any, .any, .any, .any, .any, .any, .any, .any, .any, .any, .any, .any, .any, .any, .any, .any, .any, .any, .any, .any, .any, .any, .any, .any, .any, .msl p 0 0, iv 0, iv (k : Nat)], s1 ++ [none], 0, 0, [], []⟩) (fun k => k = 0) (fun k => k) rfl 0 ?_ ?_ ?_
        · rfl
        · (refine Fg_env ?_) <;> (try (refine ew ?_; try with_reducible exact True.intro)) <;> (repeat' (first | refine ⟨?_, ?_⟩ | exact EvV_int (by omega) | exact EvV_of (by simp) | exact EvV_nil _))
        · rintro k hk
          have hcc : ¬ ((k : Int) < 0) := by omega
          (refine ew1 @hcc ?_; try with_reducible exact True.intro)
          exact (fin_nil (sz := 1)).tup1
  have cf := fun (n : Int) (hn : -1000000000000000000 < n ∧ n < 1000000000000000000) => (po_RatFromInt h.d_impl_RatFromInt hn).frz (dep_rat _ _)
  have cf0 := cf 0 (by omega)
  have cf1 := cf 1 (by omega)
  clear cf
  refine po_end2 (fun x d => x == 243) h.hT rfl rfl ?_
  dsimp only [F_impl_InvertMatrix, oN, oS, oG, oK, oA, oH, oV, cI, St.enter, List.length_cons, List.length_nil, Nat.zero_add]
  (refine ew ?_; try with_reducible exact True.intro)
  refine PFK_of c1 ?_
  (refine ew ?_; try with_reducible exact True.intro)
  refine loop_at (fun x d => x == 243) (α := Nat × Store × V × Nat × (Nat → Nat)) (fun q => ⟨argE [.any, .any, .any, .any, iv (m.length : Nat), q.2.2.1, .any, .any, .any, .any, .any, .any, .any, .any, .any, .any, .any, .any, .any, .any, .any, .any, ratssV m, iv (m.length : Nat), iv (q.1 : Nat)], q.2.1, 0, 0, [], []⟩) (fun q => q.1 ≤ m.length ∧ ((q.1 = 0 ∧ q.2.2.1 = .nils) ∨ (0 < q.1 ∧ q.2.2.1 = .msl q.2.2.2.1 0 q.1 ∧ Mat q.2.1 q.2.2.2.1 q.1 (2 * m.length) q.2.2.2.2 (fun x => (ivmW m x).map R.cells) (ivmW m)))) (fun q => m.length - q.1) rfl (0, [none], .nils, 0, fun _ => 0) ?_ ?_ ?_
  · exact ⟨by omega, .inl ⟨rfl, rfl⟩⟩
  · (refine Fg_env ?_) <;> (try (refine ew ?_; try with_reducible exact True.intro)) <;> (repeat' (first | refine ⟨?_, ?_⟩ | exact EvV_int (by omega) | exact EvV_of (by simp) | exact EvV_nil _))
  · rintro ⟨i, s, v5, qo, rp⟩ ⟨hi, hM⟩
    dsimp only at hi hM
    by_cases hcc : (i : Int) < (m.length : Nat)
    · have hil : i < m.length := by omega
      have hai : (m.map fun r => [ratsV r]).getD i [] = [ratsV (m.getD i default)] := mg (f := fun r : List R => [ratsV r]) hil
      have hri := (hml i hil).1
      have emf : ivmW m i = m.getD i default ++ ivmT i m.length := rfl
      generalize m.getD i default = r at *
      have hne : (r.map R.cells = []) = False := eq_false fun e => by
        have := congrArg List.length e
        simp at this
        subst this
        simp at hri; omega
      (refine ew3 @hcc @hai @hne ?_; try with_reducible exact True.intro)
      refine ⟨⟨by omega, by omega⟩, ?_⟩
      have hnil : ∀ j, j = 0 → r ++ ivmT i j = r := fun j e => by rw [e]; exact List.append_nil r
      refine loop_at (fun x d => x == 243) (α := Nat × Store × Nat × Nat) (fun q => ⟨argE [.any, .any, .any, .any, iv (m.length : Nat), v5, iv (i : Nat), .any, .msl q.2.2.1 0 q.2.2.2, iv (q.1 : Nat), .any, .any, .any, .any, .any, .any, .any, .any, .any, .any, .any, .any, ratssV m, iv (m.length : Nat), iv (i : Nat)], q.2.1, 0, 0, [], []⟩) (fun q => q.1 ≤ m.length ∧ q.2.2.2 = r.length + q.1 ∧ objAt q.2.1 q.2.2.1 = some ⟨3, (r ++ ivmT i q.1).map R.cells⟩ ∧ s.length ≤ q.2.2.1 ∧ (∀ o, o < s.length → objAt q.2.1 o = objAt s o) ∧ s.length ≤ q.2.1.length) (fun q => m.length - q.1) rfl (0, ((s ++ [none]) ++ [none]).set (s.length + 1) (some ⟨3, r.map R.cells⟩), s.length + 1, r.length) ?_ ?_ ?_
      · refine ⟨Nat.zero_le _, rfl, ?_, by dsimp only; omega, fun o ho => ?_, by simp⟩
        · rw [hnil 0 rfl]
          exact objAt_seteq (by simp)
        · dsimp only
          simp (disch := first | omega | (simp only [List.length_append, List.length_set, List.length_cons, List.length_nil]; omega)) only [EVs]
      · (refine Fg_env ?_) <;> (try (refine ew ?_; try with_reducible exact True.intro)) <;> (repeat' (first | refine ⟨?_, ?_⟩ | exact EvV_int (by omega) | exact EvV_of (by simp) | exact EvV_nil _))
      · rintro ⟨j, t, p, l⟩ ⟨hj, hl, hp, hsp, hto, hst⟩
        dsimp only at hj hl hp hsp hto hst
        have hpl := objAt_lt hp
        have hrl : ((r ++ ivmT i j).map R.cells).length = l := by rw [List.length_map, List.length_append, ivmT_len, hl]
        by_cases hcj : (j : Int) < (m.length : Nat)
        · have es : r ++ ivmT i (j + 1) = (r ++ ivmT i j) ++ [intR (if i = j then 1 else 0)] := by rw [ivmT_s, List.append_assoc]
          generalize r ++ ivmT i j = L at *
          by_cases hij : i = j
          · have hij' : ((i : Int) = (j : Nat)) = True := eq_true (by omega)
            (refine ew4 @hcj @hij' @hp @hrl ?_; try with_reducible exact True.intro)
            refine PFK_of cf1 ?_
            (refine ew2 @hp @hrl ?_; try with_reducible exact True.intro)
            refine ⟨⟨by omega, by omega⟩, ?_⟩
            refine ⟨(j + 1, ?st1, t.length + 1, l + 1), ?c1, ⟨?c2, by dsimp only; omega, ?c4, ?c5, ?c6, ?c7⟩, ?c3⟩
            case c3 => dsimp only; (refine Fg_env ?_) <;> (try (refine ew ?_; try with_reducible exact True.intro)) <;> (repeat' (first | refine ⟨?_, ?_⟩ | exact EvV_int (by omega) | exact EvV_of (by simp) | exact EvV_nil _))
            case c1 => dsimp only; omega
            case c2 => dsimp only; omega
            case c4 =>
              dsimp only
              rw [es, if_pos hij, List.map_append]
              exact objAt_seteq (by simp <;> omega)
            case c5 => dsimp only; omega
            case c6 =>
              dsimp only
              intro o ho
              have : o ≠ p := by omega
              rw [← hto o ho]
              simp (disch := first | omega | (simp only [List.length_append, List.length_set, List.length_cons, List.length_nil]; omega)) only [EVs]
            case c7 => simp; omega
          · have hij' : ((i : Int) = (j : Nat)) = False := eq_false (by omega)
            (refine ew4 @hcj @hij' @hp @hrl ?_; try with_reducible exact True.intro)
            refine PFK_of cf0 ?_
            (refine ew2 @hp @hrl ?_; try with_reducible exact True.intro)
            refine ⟨⟨by omega, by omega⟩, ?_⟩
            refine ⟨(j + 1, ?st2, t.length + 1, l + 1), ?c1, ⟨?c2, by dsimp only; omega, ?c4, ?c5, ?c6, ?c7⟩, ?c3⟩
            case c3 => dsimp only; (refine Fg_env ?_) <;> (try (refine ew ?_; try with_reducible exact True.intro)) <;> (repeat' (first | refine ⟨?_, ?_⟩ | exact EvV_int (by omega) | exact EvV_of (by simp) | exact EvV_nil _))
            case c1 => dsimp only; omega
            case c2 => dsimp only; omega
            case c4 =>
              dsimp only
              rw [es, if_neg hij, List.map_append]
              exact objAt_seteq (by simp <;> omega)
            case c5 => dsimp only; omega
            case c6 =>
              dsimp only
              intro o ho
              have : o ≠ p := by omega
              rw [← hto o ho]
              simp (disch := first | omega | (simp only [List.length_append, List.length_set, List.length_cons, List.length_nil]; omega)) only [EVs]
            case c7 => simp; omega
        · have hje : j = m.length := by omega
          rw [hje, ← emf] at hp
          rw [hje, ← emf] at hrl
          have hr2 : l = 2 * m.length := by omega
          subst hr2
          rcases hM with ⟨rfl, rfl⟩ | ⟨hi0, rfl, hM⟩
          · (refine ew2 @hcj @hp ?_; try with_reducible exact True.intro)
            refine ⟨by decide, ?_⟩
            refine ⟨(0 + 1, ?st3, .msl (t.length + 1) 0 1, t.length + 1, fun x => if x = 0 then p else rp x), ?c1, ⟨?c2, .inr ⟨by omega, rfl, ?c4⟩⟩, ?c3⟩
            case c3 => dsimp only; (refine Fg_env ?_) <;> (try (refine ew ?_; try with_reducible exact True.intro)) <;> (repeat' (first | refine ⟨?_, ?_⟩ | exact EvV_int (by omega) | exact EvV_of (by simp) | exact EvV_nil _))
            case c1 => dsimp only; omega
            case c2 => dsimp only; omega
            case c4 =>
              dsimp only
              refine matF_snoc (s := s) (q := 0) (.inl rfl) ?_ ?_ hsp (fun o ho _ => ?_)
              · rw [objAt_seteq (by simp)]
                rfl
              · rw [← hp]
                simp (disch := first | omega | (simp only [List.length_append, List.length_set, List.length_cons, List.length_nil]; omega)) only [EVs]
              · rw [← hto o ho]
                simp (disch := first | omega | (simp only [List.length_append, List.length_set, List.length_cons, List.length_nil]; omega)) only [EVs]
          · have hq := hM.out
            have hql := hM.lt.1
            have hqt := (hto qo hql).trans hq
            have hoc := orow_len i (2 * m.length) rp
            (refine ew4 @hcj @hp @hqt @hoc ?_; try with_reducible exact True.intro)
            refine ⟨by omega, ?_⟩
            refine ⟨(i + 1, ?st4, .msl (t.length + 1) 0 (i + 1), t.length + 1, fun x => if x = i then p else rp x), ?c1, ⟨?c2, .inr ⟨by omega, rfl, ?c4⟩⟩, ?c3⟩
            case c3 => dsimp only; (refine Fg_env ?_) <;> (try (refine ew ?_; try with_reducible exact True.intro)) <;> (repeat' (first | refine ⟨?_, ?_⟩ | exact EvV_int (by omega) | exact EvV_of (by simp) | exact EvV_nil _))
            case c1 => dsimp only; omega
            case c2 => dsimp only; omega
            case c4 =>
              dsimp only
              refine matF_snoc (s := s) (q := qo) (.inr hM) ?_ ?_ hsp (fun o ho hne => ?_)
              · rw [objAt_seteq (by simp)]
              · have : p ≠ qo := by omega
                rw [← hp]
                simp (disch := first | omega | (simp only [List.length_append, List.length_set, List.length_cons, List.length_nil]; omega)) only [EVs]
              · rw [← hto o ho]
                simp (disch := first | omega | (simp only [List.length_append, List.length_set, List.length_cons, List.length_nil]; omega)) only [EVs]
    · have hie : i = m.length := by omega
      subst hie
      rcases hM with ⟨h1, _⟩ | ⟨_, rfl, hM⟩
      · omega
      have Rf : resolve s FD (.msl qo 0 m.length) = some (ratssV (ivmL m)) := hM.res fun i hi => by
        have := (hml i hi).1
        unfold ivmW
        rw [List.length_append, ivmU_len]; omega
      (refine ew2 @hcc @Rf ?_; try with_reducible exact True.intro)
      refine RefK_got PR (by (refine ew1 @Rf ?_; try with_reducible exact True.intro)) ?_
      intro r s1 o1 G
      cases hb : rrB (ivmL m) (2 * (m.length : Nat))
      · obtain ⟨e1, e2⟩ := ivmB_r hb
        rw [e1, e2]
        rw [hb] at G
        obtain ⟨v, rfl, G1⟩ := G.tup1
        (refine ew ?_; try with_reducible exact True.intro)
        exact (fin_nil (sz := 1)).tup1
      obtain ⟨e1, e2⟩ := ivmB_t hc hb
      rw [e1, e2]
      rw [hb] at G
      obtain ⟨v, rfl, G1⟩ := G.tup1
      obtain ⟨M, eM, hOM, _⟩ := rrV_ok hb
      rw [hWl] at eM hOM
      have hlM : ∀ i, i < m.length → (M i).length = 2 * m.length := fun i hi => by have := (hOM i hi).1; omega
      have hRl : (rrM (ivmL m) (2 * (m.length : Nat))).length = m.length := by rw [eM]; simp
      obtain ⟨q2, rp2, A, f, rfl, hM2, hO, hfo⟩ := owV_mat (c := 2 * m.length) (by omega) G1.ow G1.nd (fun r hr => by
        rw [eM] at hr
        obtain ⟨i, hi, rfl⟩ := List.mem_map.1 hr
        exact hlM i (List.mem_range.1 hi)) (by omega)
      rw [hRl] at hM2 hO hfo ⊢
      have hmf : ∀ i, i < m.length → mF (rrM (ivmL m) (2 * (m.length : Nat))) i = M i := fun i hi => by rw [eM]; exact wideL_at hi
      have hM2 := hM2.ext hmf
      have hO := hO.ext (M2 := M) (S2 := fun i => i < m.length) fun i hi => ⟨hi, hmf i hi⟩
      have hq2 := hM2.out
      have hql2 := hM2.lt.1
      rw [eM, List.map_map]
      clear hM Rf eM hmf PR
      (refine ew1 @hq2 ?_; try with_reducible exact True.intro)
      refine loop_at (fun x d => x == 243) (α := Nat × Store × V × Nat × (Nat → Nat)) (fun q => ⟨argE [.any, .any, .any, .any, iv (m.length : Nat), .any, .any, .any, .any, .any, .any, .any, q.2.2.1, .any, .any, .any, .any, .any, .any, .any, .any, .any, .any, .any, .any, .any, .any, .any, .any, .any, .any, .any, .any, .any, .any, .any, .any, .any, .any, .any, .any, .any, .any, .any, .any, .any, .any, .any, .any, .any, .any, .any, .any, .any, .any, .any, .any, .any, .any, .any, .any, .any, .any, .msl q2 0 m.length, iv (m.length : Nat), iv (q.1 : Nat)], q.2.1, 0, 0, [], []⟩) (fun q => q.1 ≤ m.length ∧ ((q.1 = 0 ∧ q.2.2.1 = .nils) ∨ (0 < q.1 ∧ q.2.2.1 = .msl q.2.2.2.1 0 q.1 ∧ Mat q.2.1 q.2.2.2.1 q.1 m.length q.2.2.2.2 (fun x => (A x).drop m.length) (fun x => (M x).drop m.length) ∧ s1.length ≤ q.2.2.2.1)) ∧ (∀ o, o < s1.length → objAt q.2.1 o = objAt s1 o) ∧ s1.length ≤ q.2.1.length) (fun q => m.length - q.1) rfl (0, s1 ++ [none], .nils, 0, fun _ => 0) ?_ ?_ ?_
      · exact ⟨Nat.zero_le _, .inl ⟨rfl, rfl⟩, fun o ho => objAt_snoc_lt ho, by simp⟩
      · (refine Fg_env ?_) <;> (try (refine ew ?_; try with_reducible exact True.intro)) <;> (repeat' (first | refine ⟨?_, ?_⟩ | exact EvV_int (by omega) | exact EvV_of (by simp) | exact EvV_nil _))
      · rintro ⟨i, u, v12, p, rp3⟩ ⟨hi, hL, huo, hul⟩
        dsimp only at hi hL huo hul
        by_cases hci : (i : Int) < (m.length : Nat)
        · have hil : i < m.length := by omega
          have hqu := (huo q2 hql2).trans hq2
          have hru := (huo _ (hM2.lt.2 i hil)).trans (hM2.row i hil)
          have gi := orow_at (c := 2 * m.length) (rp := rp2) hil
          have hAl : (A i).length = 2 * m.length := by rw [(hM2.cel i hil).1, hlM i hil]
          have hdl : ((A i).drop m.length).length = m.length := by rw [List.length_drop, hAl]; omega
          have hok := ((hM2.cel i hil).drop m.length).fr (.old huo)
          have hne : ((A i).drop m.length = []) = False := eq_false fun e => by rw [e] at hdl; simp at hdl; omega
          have hsub : 2 * m.length - m.length = m.length := by omega
          have htk : List.take m.length (List.drop m.length (A i)) = List.drop m.length (A i) := List.take_of_length_le (by omega)
          have hn2 : (m.length : Int) ≤ ((2 * m.length : Nat) : Int) := by omega
          rcases hL with ⟨rfl, rfl⟩ | ⟨hi0, rfl, hp, hpl⟩
          · (refine ew5 @hci (And.intro hqu hru) (And.intro gi hAl) (And.intro hsub htk) (And.intro hne hdl) ?_; try with_reducible exact True.intro)
            refine ⟨⟨by omega, by omega⟩, by decide, ?_⟩
            refine ⟨(0 + 1, ?st5, .msl (u.length + 3) 0 (0 + 1), u.length + 3, fun x => if x = 0 then u.length + 1 else rp3 x), ?c1, ⟨?c2, .inr ⟨by omega, rfl, ?c4, ?c5⟩, ?c6, ?c7⟩, ?c3⟩
            case c3 => dsimp only; (refine Fg_env ?_) <;> (try (refine ew ?_; try with_reducible exact True.intro)) <;> (repeat' (first | refine ⟨?_, ?_⟩ | exact EvV_int (by omega) | exact EvV_of (by simp) | exact EvV_nil _))
            case c1 => dsimp only; omega
            case c2 => dsimp only; omega
            case c4 =>
              dsimp only
              refine Mat.snoc (s := u) (q := 0) (.inl rfl) ?_ ?_ (((hM2.cel _ hil).drop m.length).fr (.old fun o ho => ?_)) (by omega) (fun o ho h2 => ?_)
              · rw [objAt_seteq (by simp <;> omega)]
                try rfl
              · simp (disch := first | omega | (simp only [List.length_append, List.length_set, List.length_cons, List.length_nil]; omega)) only [EVs]
              · skip
                rw [← huo o ho]
                simp (disch := first | omega | (simp only [List.length_append, List.length_set, List.length_cons, List.length_nil]; omega)) only [EVs]
              · simp (disch := first | omega | (simp only [List.length_append, List.length_set, List.length_cons, List.length_nil]; omega)) only [EVs]
            case c5 => dsimp only; omega
            case c6 =>
              dsimp only
              intro o ho
              skip
              rw [← huo o ho]
              simp (disch := first | omega | (simp only [List.length_append, List.length_set, List.length_cons, List.length_nil]; omega)) only [EVs]
            case c7 => simp; omega
          · have hpq := hp.out
            have hpl2 := hp.lt.1
            have hoc := orow_len i m.length rp3
            (refine ew7 @hci (And.intro hqu hru) (And.intro gi hAl) (And.intro hsub htk) (And.intro hne hdl) @hpq @hoc ?_; try with_reducible exact True.intro)
            refine ⟨⟨by omega, by omega⟩, ⟨by omega, by omega⟩, ?_⟩
            refine ⟨(i + 1, ?st6, .msl (u.length + 3) 0 (i + 1), u.length + 3, fun x => if x = i then u.length + 1 else rp3 x), ?c1, ⟨?c2, .inr ⟨by omega, rfl, ?c4, ?c5⟩, ?c6, ?c7⟩, ?c3⟩
            case c3 => dsimp only; (refine Fg_env ?_) <;> (try (refine ew ?_; try with_reducible exact True.intro)) <;> (repeat' (first | refine ⟨?_, ?_⟩ | exact EvV_int (by omega) | exact EvV_of (by simp) | exact EvV_nil _))
            case c1 => dsimp only; omega
            case c2 => dsimp only; omega
            case c4 =>
              dsimp only
              refine Mat.snoc (s := u) (q := p) (.inr ⟨hi0, hp⟩) ?_ ?_ (((hM2.cel _ hil).drop m.length).fr (.old fun o ho => ?_)) (by omega) (fun o ho h2 => ?_)
              · rw [objAt_seteq (by simp <;> omega)]
                try rfl
              · simp (disch := first | omega | (simp only [List.length_append, List.length_set, List.length_cons, List.length_nil]; omega)) only [EVs]
              · have : o ≠ p := by omega
                rw [← huo o ho]
                simp (disch := first | omega | (simp only [List.length_append, List.length_set, List.length_cons, List.length_nil]; omega)) only [EVs]
              · simp (disch := first | omega | (simp only [List.length_append, List.length_set, List.length_cons, List.length_nil]; omega)) only [EVs]
            case c5 => dsimp only; omega
            case c6 =>
              dsimp only
              intro o ho
              have : o ≠ p := by omega
              rw [← huo o ho]
              simp (disch := first | omega | (simp only [List.length_append, List.length_set, List.length_cons, List.length_nil]; omega)) only [EVs]
            case c7 => simp; omega
        · have hie : i = m.length := by omega
          subst hie
          rcases hL with ⟨h1, _⟩ | ⟨_, rfl, hp, hpl⟩
          · omega
          obtain ⟨f', hO', hf'⟩ := hO.drop m.length
          (refine ew1 @hci ?_; try with_reducible exact True.intro)
          exact (OwF.fin hp (hO'.kp (.old huo)) h0 fun i hi => by rw [List.length_drop, hlM i hi]; omega).tup1
end Go.Ml
end
section
set_option linter.unusedSimpArgs false
set_option linter.unusedVariables false
set_option maxRecDepth 100000
set_option maxHeartbeats 16000000
namespace Go.Ml
def F_impl_RatMul : Fn := ⟨2, 17, [.cell 4 3 true], (.seq (.reg false 3 [oN 2 (.box (.t 0)), oK 3 1 (.box (.t 1)), oK 4 2 (.alloc [.bool false, .nils, .nils])]) (.seq (.seq (.reg false 0 [oN 5 (.load 3 true (.t 2)), oN 6 (.call 102 [(.t 5)]), oN 7 (.un .not (.t 6)), oN 8 (oV 7), oG 8 false 9 (.load 3 true (.t 3)), oG 8 false 10 (.call 102 [(.t 9)]), oG 8 false 11 (.un .not (.t 10)), oN 12 (.pick (.t 8) (.c (.bool true)) (.t 11))]) (.cond (.t 12) (.seq (.reg false 0 [oN 13 (.build [.bool false, .nils, .nils] []), oS (.store 3 (.t 4) (.t 13))]) .ret) .skip)) (.seq (.reg false 0 [oN 14 (.load 3 true (.t 2)), oN 15 (.load 3 true (.t 3)), oN 16 (.call 157 [(.t 14), (.t 15)]), oS (.store 3 (.t 4) (.t 16))]) .ret)))⟩
structure D_impl_RatMul (T : Nat → Option Fn) : Prop where
  hT : T 234 = some F_impl_RatMul
  d_impl_RatOk : D_impl_RatOk T
  d_impl_ratMul : D_impl_ratMul T
def F_laws_FnSolve : Fn := ⟨1, 136, [.tmp 2], (.seq (.reg false 0 [oN 2 (.mov (.c (.bool false)))]) (.seq (.seq (.reg false 0 [oN 15 (oV 0), oN 16 (.len (.t 15)), oN 17 (.bin .gtr (.t 16) (cI 1048576))]) (.cond (.t 17) (.seq (.reg false 0 [oN 2 (.mov (.c (.bool true)))]) .ret) .skip)) (.seq (.reg false 0 [oN 18 (oV 0), oN 19 (.call 230 [(.t 18)]), oN 3 (oV 19)]) (.seq (.reg false 1 [oN 20 (.mkSl 3 [.bool false, .nils, .nils] 0 []), oK 4 1 (oV 20)]) (.seq (.seq (.reg false 0 [oN 21 (oV 3), oN 22 (.len (.t 21)), oN 23 (.mov (cI 0))]) (.block 0 (.loop (.seq (.reg false 0 [oN 24 (.bin .lss (.t 23) (.t 22))]) (.seq (.cond (.t 24) .skip (.exit 0)) (.seq (.block 1 (.seq (.reg false 0 [oN 25 (oV 23), oN 5 (oV 25)]) (.reg false 2 [oK 26 2 (oV 4), oK 27 2 (oV 0), oK 28 2 (oV 5), oK 29 2 (.bin .add (cI 30) (.t 28)), oK 30 2 (.call 175 [(.t 27), (.t 29)]), oN 31 (.mkSl 3 [.bool false, .nils, .nils] 1 [(0, (.t 30))]), oK 32 1 (.app 3 56 (.t 26) (.t 31)), oK 4 2 (oV 32)]))) (.reg false 0 [oN 33 (.bin .add (.t 23) (cI 1)), oN 23 (oV 33)]))))))) (.seq (.reg false 0 [oN 35 (oV 3), oN 36 (oV 4), oN 37 (.call 231 [(.t 35), (.t 36)]), oN 34 (oV 37), oN 38 (.extr 0 (.t 34)), oN 39 (.extr 1 (.t 34)), oN 6 (oV 38), oN 7 (oV 39)]) (.seq (.reg false 0 [oN 41 (oV 3), oN 42 (.call 232 [(.t 41)]), oN 40 (oV 42), oN 43 (.extr 0 (.t 40)), oN 44 (.extr 1 (.t 40)), oN 8 (oV 43), oN 9 (oV 44)]) (.seq (.seq (.reg false 0 [oN 45 (oV 7), oN 46 (.un .not (.t 45)), oN 47 (oV 46), oG 47 false 48 (oV 9), oG 47 false 49 (.un .not (.t 48)), oN 50 (.pick (.t 47) (.c (.bool true)) (.t 49))]) (.cond (.t 50) (.seq (.reg false 0 [oN 51 (oV 7), oN 52 (.un .not (.t 51)), oN 53 (oV 52), oG 53 true 54 (oV 9), oG 53 true 55 (.un .not (.t 54)), oN 56 (.pick (.t 53) (.t 55) (.c (.bool false))), oN 57 (oV 56), oG 57 true 58 (oV 3), oG 57 true 59 (oV 3), oG 57 true 60 (.len (.t 59)), oG 57 true 61 (.call 93 [(.t 58), (.t 60)]), oN 62 (.pick (.t 57) (.t 61) (.c (.bool false))), oN 2 (oV 62)]) .ret) .skip)) (.seq (.reg false 0 [oN 63 (oV 3), oN 64 (oV 8), oN 65 (.call 233 [(.t 63), (.t 64)]), oN 10 (oV 65)]) (.seq (.seq (.reg false 0 [oN 66 (oV 6), oN 67 (.len (.t 66)), oN 68 (oV 3), oN 69 (.len (.t 68)), oN 70 (.bin .neq (.t 67) (.t 69)), oN 71 (oV 70), oG 71 false 72 (oV 10), oG 71 false 73 (.len (.t 72)), oG 71 false 74 (oV 3), oG 71 false 75 (.len (.t 74)), oG 71 false 76 (.bin .neq (.t 73) (.t 75)), oN 77 (.pick (.t 71) (.c (.bool true)) (.t 76))]) (.cond (.t 77) (.seq (.reg false 0 [oN 2 (.mov (.c (.bool false)))]) .ret) .skip)) (.seq (.seq (.reg false 0 [oN 78 (oV 3), oN 79 (.len (.t 78)), oN 80 (.mov (cI 0))]) (.block 2 (.loop (.seq (.reg false 0 [oN 81 (.bin .lss (.t 80) (.t 79))]) (.seq (.cond (.t 81) .skip (.exit 2)) (.seq (.block 3 (.seq (.reg false 0 [oN 82 (oV 80), oN 11 (oV 82)]) (.seq (.reg false 1 [oK 83 1 (.call 39 [(cI 0)]), oN 12 (.alloc [.bool false, .nils, .nils]), ⟨none, none, 1, .store 3 (.t 12) (.t 83), []⟩]) (.seq (.seq (.reg false 0 [oN 84 (oV 3), oN 85 (.len (.t 84)), oN 86 (.mov (cI 0))]) (.block 4 (.loop (.seq (.reg false 0 [oN 87 (.bin .lss (.t 86) (.t 85))]) (.seq (.cond (.t 87) .skip (.exit 4)) (.seq (.block 5 (.seq (.reg false 0 [oN 88 (oV 86), oN 13 (oV 88)]) (.seq (.reg true 0 [oN 89 (.load 3 true (.t 12)), oN 90 (oV 3), oN 91 (oV 11), oA 92 0 (.idx 1 (.t 90) (.t 91)) [1, 2], oA 93 0 (.load 1 false (.t 92)) [3], oN 94 (oV 13), oA 95 0 (.idx 3 (.t 93) (.t 94)) [4, 5], oA 96 0 (.load 3 true (.t 95)) [6], oN 97 (oV 6), oN 98 (oV 13), oA 99 0 (.idx 3 (.t 97) (.t 98)) [8, 9], oA 100 0 (.load 3 true (.t 99)) [10], oA 101 0 (.call 234 [(.t 96), (.t 100)]) [7, 11], oA 102 0 (.call 178 [(.t 89), (.t 101)]) [0, 12, 12], ⟨none, none, 0, .store 3 (.t 12) (.t 102), [13, 13, 0, 1, 2, 3, 4, 5, 6, 7, 8, 9, 10, 11, 12, 13]⟩]) (.seq (.reg false 0 [oN 14 (.mov (cI 0))]) (.seq (.seq (.reg false 0 [oN 103 (oV 11), oN 104 (oV 13), oN 105 (.bin .eql (.t 103) (.t 104))]) (.cond (.t 105) (.reg false 0 [oN 14 (.mov (cI 1))]) .skip)) (.seq (.reg true 0 [oN 106 (oV 10), oN 107 (oV 11), oA 108 0 (.idx 1 (.t 106) (.t 107)) [0, 1], oA 109 0 (.load 1 false (.t 108)) [2], oA 110 0 (.len (.t 109)) [3], oN 111 (oV 3), oA 112 0 (.len (.t 111)) [5], oA 113 0 (.bin .neq (.t 110) (.t 112)) [4, 6], oA 114 0 (oV 113) [7], oH 114 false 115 0 (oV 10) [8], oH 114 false 116 0 (oV 11) [8], oH 114 false 117 0 (.idx 1 (.t 115) (.t 116)) [9, 10, 8], oH 114 false 118 0 (.load 1 false (.t 117)) [11, 8], oH 114 false 119 0 (oV 13) [8], oH 114 false 120 0 (.idx 3 (.t 118) (.t 119)) [12, 13, 8], oH 114 false 121 0 (.load 3 true (.t 120)) [14, 8], oH 114 false 122 0 (oV 14) [8], oH 114 false 123 0 (.call 39 [(.t 122)]) [16, 8, 8], oH 114 false 124 0 (.call 32 [(.t 121), (.t 123)]) [15, 17, 17, 8], oH 114 false 125 0 (.un .not (.t 124)) [18, 8], oA 126 0 (.pick (.t 114) (.c (.bool true)) (.t 125)) [8, 19]]) (.cond (.t 126) (.seq (.reg false 0 [oN 2 (.mov (.c (.bool false)))]) .ret) .skip))))))) (.reg false 0 [oN 127 (.bin .add (.t 86) (cI 1)), oN 86 (oV 127)]))))))) (.seq (.reg true 0 [oN 128 (.load 3 true (.t 12)), oN 129 (oV 4), oN 130 (oV 11), oA 131 0 (.idx 3 (.t 129) (.t 130)) [1, 2], oA 132 0 (.load 3 true (.t 131)) [3], oA 133 0 (.call 32 [(.t 128), (.t 132)]) [0, 4], oA 134 0 (.un .not (.t 133)) [5]]) (.cond (.t 134) (.seq (.reg false 0 [oN 2 (.mov (.c (.bool false)))]) .ret) .skip)))))) (.reg false 0 [oN 135 (.bin .add (.t 80) (cI 1)), oN 80 (oV 135)]))))))) (.seq (.reg false 0 [oN 2 (.mov (.c (.bool true)))]) .ret))))))))))))⟩
structure D_laws_FnSolve (T : Nat → Option Fn) : Prop where
  hT : T 217 = some F_laws_FnSolve
  d_impl_RatEqual : D_impl_RatEqual T
  d_impl_RatFromInt : D_impl_RatFromInt T
  d_impl_IsMatrix : D_impl_IsMatrix T
  d_spec_MakeRat : D_spec_MakeRat T
  d_impl_RatAdd : D_impl_RatAdd T
  d_spec_MakeMatrix : D_spec_MakeMatrix T
  d_impl_SolveSystem : D_impl_SolveSystem T
  d_impl_InvertMatrix : D_impl_InvertMatrix T
  d_impl_MultiplyMatrices : D_impl_MultiplyMatrices T
  d_impl_RatMul : D_impl_RatMul T
def qv (r : R) : Rat := r.q.getD 0
theorem FewR.rv {r : R} (h : FewR r) : Rv r (qv r) 10 := by
  obtain ⟨n, d, h1, h2, rfl⟩ := h
  have := rv_few h1 h2
  unfold qv; rw [this.q]; exact this
theorem fewM_of {n : Nat} {M : MF} (h : ∀ i, i < n → (M i).length = n ∧ ∀ e ∈ M i, FewR e) : FewM n ((List.range n).map M) fun i j => qv (mEl ((List.range n).map M) i j) := by
  refine ⟨by simp, fun i hi => by rw [getD_rmap hi]; exact (h i hi).1, fun i hi j hj => ?_⟩
  refine FewR.rv ?_
  unfold mEl
  rw [getD_rmap hi]
  exact (h i hi).2 _ (getD_mem (by rw [(h i hi).1]; exact hj))
theorem c_iRatMul {T : Nat → Option Fn} (h : D_impl_RatMul T) {r s : R} (hr : r.wf := by first | omega | assumption | (simp; omega)) (hs : s.wf := by first | omega | assumption | (simp; omega)) : PF T 234 [ratV r, ratV s] (ratV (mulR r s)) := by
  have o1 := c_RatOk h.d_impl_RatOk hr
  have o2 := c_RatOk h.d_impl_RatOk hs
  cases hro : r.ok
  · have e : mulR r s = R0 := by unfold mulR; rw [nok_iff.1 hro]; rfl
    rw [e]; rw [hro] at o1
    refine pf_endL (fun _ _ => false) h.hT rfl rfl ?_
    dsimp only [F_impl_RatMul, oN, oS, oG, oK, oA, oH, oV, cI]
    (refine ev ?_; try with_reducible exact True.intro)
    refine PFK_of o1 ?_
    (refine ev ?_; try with_reducible exact True.intro)
    exact laxR0
  cases hso : s.ok
  · have e : mulR r s = R0 := by unfold mulR; rw [nok_iff.1 hso, mulQ_none_r]; rfl
    rw [e]; rw [hro] at o1; rw [hso] at o2
    refine pf_endL (fun _ _ => false) h.hT rfl rfl ?_
    dsimp only [F_impl_RatMul, oN, oS, oG, oK, oA, oH, oV, cI]
    (refine ev ?_; try with_reducible exact True.intro)
    refine PFK_of o1 ?_
    (refine ev ?_; try with_reducible exact True.intro)
    refine PFK_of o2 ?_
    (refine ev ?_; try with_reducible exact True.intro)
    exact laxR0
  rw [hro] at o1; rw [hso] at o2
  have c := c_ratMulR h.d_impl_ratMul (cn_ok hro) (cn_ok hso)
  refine pf_endL (fun _ _ => false) h.hT rfl rfl ?_
  dsimp only [F_impl_RatMul, oN, oS, oG, oK, oA, oH, oV, cI]
  (refine ev ?_; try with_reducible exact True.intro)
  refine PFK_of o1 ?_
  (refine ev ?_; try with_reducible exact True.intro)
  refine PFK_of o2 ?_
  (refine ev ?_; try with_reducible exact True.intro)
  refine PFK_of c ?_
  (refine ev ?_; try with_reducible exact True.intro)
  exact laxV_refl _
theorem CanE_frzR {W : Win} {σ : Store} {q n : Nat} {L : List R} (h : objAt σ q = some ⟨3, L.map R.cells⟩) (hq : ∀ (k s0 l0 : Nat), W[k]? ≠ some (some (q, s0, l0))) (hn : n = L.length) : CanE W σ (ratsV L) (.msl q 0 n) := by
  subst hn
  refine CanE_frz ?_ fun p hp k s0 l0 => ?_
  · have := res_mslS (n := 10) h (st_R L)
    rw [List.length_map] at this
    exact this
  · have hp : p ∈ reach σ (11 + 1) (.msl q 0 L.length) := hp
    have e : p = q := by
      unfold reach at hp
      rcases List.mem_cons.1 hp with e | hp
      · exact e
      · exfalso
        dsimp only at hp
        rw [h] at hp
        obtain ⟨r, hr, hp⟩ := List.mem_flatMap.1 hp
        obtain ⟨v, hv, hp⟩ := List.mem_flatMap.1 hp
        rw [show reach σ 11 v = [] from reach_still (st_R L r hr v hv)] at hp
        cases hp
    rw [e]; exact hq k s0 l0
theorem c_lawFnSolve {T : Nat → Option Fn} (h : D_laws_FnSolve T) (x : List UInt8) (wx : x.length ≤ 9223372036854775807) : PF T 217 [bytesV x] (.bool true) := by
  refine pf_endL (fun _ _ => false) h.hT rfl rfl ?_
  dsimp only [F_laws_FnSolve, oN, oS, oG, oK, oA, oH, oV, cI]
  (refine ev ?_; try with_reducible exact True.intro)
  refine brK_dec (fun hb => ?_) fun hb => ?_
  · (refine ev ?_; try with_reducible exact True.intro)
    exact laxV_refl _
  have hx : x.length ≤ 1048576 := by omega
  obtain ⟨n, M, hn, hM, cm⟩ := c_MakeMatrix h.d_spec_MakeMatrix hx
  have hF := fewM_of hM
  have hml := hF.len
  have hrow := hF.row
  have hcel : ∀ i, i < n → ∀ j, j < n → (mEl ((List.range n).map M) i j).cn := fun i hi j hj => cn_ok (hF.rv i hi j hj).ok
  have hmok := hF.ok (by omega)
  generalize (List.range n).map M = m at *
  clear hM
  obtain ⟨f, hf⟩ : ∃ f : Nat → R, ∀ i, i < n → FewR (f i) ∧ PF T 175 [bytesV x, iv (30 + (i : Nat))] (ratV (f i)) := by
    have : ∀ i : Nat, ∃ r : R, i < n → FewR r ∧ PF T 175 [bytesV x, iv (30 + (i : Nat))] (ratV r) := fun i => by
      by_cases hi : i < n
      · obtain ⟨a, d, h1, h2, c⟩ := c_MakeRat h.d_spec_MakeRat (n := 30 + (i : Nat)) (by omega) hx
        exact ⟨fewR a d, fun _ => ⟨⟨a, d, h1, h2, rfl⟩, c⟩⟩
      · exact ⟨default, fun k => absurd k hi⟩
    exact ⟨fun i => Classical.choose (this i), fun i hi => Classical.choose_spec (this i) hi⟩
  have hbv : ∀ i, i < n → Rv (((List.range n).map f).getD i default) (qv (f i)) 10 := fun i hi => by rw [getD_rmap hi]; exact (hf i hi).1.rv
  have hbl : ((List.range n).map f).length = n := by simp
  have hP := solve_plain hF hbl hbv (by omega)
  have wm : wfL (wfL R.wf) m := ⟨by omega, fun r hr => by
    obtain ⟨i, hi⟩ := List.mem_iff_getElem?.1 hr
    have hil := (List.getElem?_eq_some_iff.1 hi).1
    have e : m.getD i default = r := by rw [List.getD_eq_getElem?_getD, hi]; rfl
    have hrl := hrow i (by omega)
    rw [e] at hrl
    refine ⟨by omega, fun y hy => ?_⟩
    obtain ⟨j, hj⟩ := List.mem_iff_getElem?.1 hy
    have hjl := (List.getElem?_eq_some_iff.1 hj).1
    have := hcel i (by omega) j (by omega)
    unfold mEl at this
    rw [e, List.getD_eq_getElem?_getD, hj] at this
    exact cn_wf this⟩
  have hbc : ∀ i, i < n → (((List.range n).map f).getD i default).cn := fun i hi => cn_ok (hbv i hi).ok
  have wb : wfL R.wf ((List.range n).map f) := ⟨by omega, fun r hr => by
    obtain ⟨i, hi, rfl⟩ := List.mem_map.1 hr
    have := hbc i (List.mem_range.1 hi)
    rw [getD_rmap (List.mem_range.1 hi)] at this
    exact cn_wf this⟩
  have cS := (po_iSolveSystem h.d_impl_SolveSystem wm wb).frz (dep_tup2 (dep_rats _ _) (dep_bool _ _))
  have cI := (po_iInvertMatrix h.d_impl_InvertMatrix wm).frz (dep_tup2 (dep_ratss _ _) (dep_bool _ _))
  have hXc := (ssX_cn m ((List.range n).map f)).1
  have wi := (ivmX_ok m).2
  have cO := (po_iMultiplyMatrices h.d_impl_MultiplyMatrices wm wi).frz (dep_ratss _ _)
  have wo := (mmV_ok m (ivmX m)).2
  (refine ev ?_; try with_reducible exact True.intro)
  refine PFK_of cm ?_
  (refine ev ?_; try with_reducible exact True.intro)
  generalize hB : (List.range n).map f = B at *
  refine loop_at (fun _ _ => false) (α := Nat × List R) (fun q => ⟨argE [bytesV x, .any, .any, ratssV m, (if q.1 < n then slV q.2.length else ratsV q.2), .any, .any, .any, .any, .any, .any, .any, .any, .any, .any, .any, .any, .any, .any, .any, .any, ratssV m, iv (n : Nat), iv (q.1 : Nat)], (if q.1 < n then slS 3 (q.2.map R.cells) else []), 0, 0, [], []⟩) (fun q => q.1 ≤ n ∧ q.2 = (List.range q.1).map f) (fun q => n - q.1) rfl (0, []) ?_ ?_ ?_
  · exact ⟨Nat.zero_le _, rfl⟩
  · dsimp only
    rw [hml, if_pos (by omega), if_pos (by omega)]
    (refine Fg_re [] (by simp) (by intro p hp; cases hp) rfl ?_) <;> (try (refine ev ?_; try with_reducible exact True.intro)) <;> (repeat' (first | exact True.intro | omega | exact CanE_ptr rfl (by simp) | refine ⟨?_, ?_⟩ | exact of_eq_true (CanE_nil _ _ _) | exact CanE_of rfl (by simp; done) | exact CanE_of rfl rfl | (refine CanE_msl rfl ?_ rfl; simp [irows]; done) | (refine CanE_msl rfl ?_ rfl; simp [irows]; omega) | (refine CanE_frz ?_ ?_; (focus ((refine ev ?_; try with_reducible exact True.intro); done)); (intro q hq k s0 l0; simp; done))))
  · rintro ⟨i, ys⟩ ⟨hi, hy⟩
    dsimp only at hi hy
    by_cases hc : (i : Int) < (n : Int)
    · have hil : i < n := by omega
      have cr := (hf i hil).2
      have es : (List.range (i + 1)).map f = (List.range i).map f ++ [f i] := by rw [List.range_succ, List.map_append]; rfl
      have hyl : ys.length = i := by rw [hy]; simp
      rw [← hy] at es
      generalize hfi : f i = e at *
      clear hP cS cI cO hXc wi wo
      dsimp only
      rw [if_pos hil, if_pos hil]
      have hlast : ∀ ys' : List R, ys'.length = i + 1 → i + 1 < n ∨ i + 1 = n := fun _ _ => by omega
      rcases ys with _ | ⟨y, ys⟩ <;> simp only [List.length_nil, List.length_cons, slV_0, slV_s, List.map_nil, List.map_cons, slS_0, slS_s] at hyl ⊢
      · (refine ev1 @hc ?_; try with_reducible exact True.intro)
        refine PFK_of cr ?_
        (refine ev ?_; try with_reducible exact True.intro)
        refine ⟨by omega, (i + 1, ([]) ++ [e]), by dsimp only; omega, ⟨by dsimp only; omega, es.symm⟩, ?_⟩
        dsimp only
        by_cases hl : i + 1 < n
        · rw [if_pos hl, if_pos hl]
          (simp only [List.map_append, List.map_cons, List.map_nil]; refine Fg_push (k := 1) (by simp only [stR_app, stR_cons, stR_nil, and_true, true_and]; (repeat' (first | exact st_R _ | exact st1_R _ | refine ⟨?_, ?_⟩))) rfl ?_; (try (refine ev ?_; try with_reducible exact True.intro)); (repeat' (first | exact True.intro | omega | exact CanE_push (by simp) (by simp) (by simp) | refine ⟨?_, ?_⟩ | exact CanE_of rfl (by simp))))
        · rw [if_neg hl, if_neg hl]
          refine Fg_re [] (by simp) (by intro p hp; cases hp) rfl ?_
          (refine ev ?_; try with_reducible exact True.intro)
          (repeat' (first | exact True.intro | refine ⟨?_, ?_⟩ | exact CanE_of rfl rfl))
          all_goals first | omega | exact CanE_frzR (L := [e]) rfl (by intro k s0 l0; simp) rfl
      · (refine ev1 @hc ?_; try with_reducible exact True.intro)
        refine PFK_of cr ?_
        (refine ev ?_; try with_reducible exact True.intro)
        refine ⟨by omega, (i + 1, (y :: ys) ++ [e]), by dsimp only; omega, ⟨by dsimp only; omega, es.symm⟩, ?_⟩
        dsimp only
        by_cases hl : i + 1 < n
        · rw [if_pos hl, if_pos hl]
          (simp only [List.map_append, List.map_cons, List.map_nil]; refine Fg_push (k := 2) (by simp only [stR_app, stR_cons, stR_nil, and_true, true_and]; (repeat' (first | exact st_R _ | exact st1_R _ | refine ⟨?_, ?_⟩))) rfl ?_; (try (refine ev ?_; try with_reducible exact True.intro)); (repeat' (first | exact True.intro | omega | exact CanE_push (by simp) (by simp) (by simp) | refine ⟨?_, ?_⟩ | exact CanE_of rfl (by simp))))
        · rw [if_neg hl, if_neg hl]
          refine Fg_re [] (by simp) (by intro p hp; cases hp) rfl ?_
          (refine ev ?_; try with_reducible exact True.intro)
          (repeat' (first | exact True.intro | refine ⟨?_, ?_⟩ | exact CanE_of rfl rfl))
          all_goals first | omega | exact CanE_frzR (L := y :: (ys ++ [e])) (by simp [objAt]) (by intro k s0 l0; simp) (by simp)
    · have hin : i = n := by omega
      subst hin
      have hyB : ys = B := hy.trans hB
      subst hyB
      clear hy hB hf
      rcases ys with _ | ⟨y, ys⟩
      · simp at hbl; omega
      dsimp only
      rw [if_neg (by omega), if_neg (by omega)]
      have hres : ∀ σ : Store, resO σ 0 (ys.length + 1) (some ⟨3, y.cells :: List.map R.cells ys⟩) = some (ratsV (y :: ys)) := fun σ => by
        have := resO_st (σ := σ) (st_R (y :: ys)) (s := 0) (l := ys.length + 1) (n := 3) (by simp)
        rw [List.drop_zero, List.take_of_length_le (by simp)] at this
        exact this
      have hre : ∀ σ : Store, reachRs σ (y.cells :: List.map R.cells ys) = [] := fun σ => reachRs_st (st_R (y :: ys))
      (refine ev1 @hc ?_; try with_reducible exact True.intro)
      refine PFK_of cS ?_
      (refine ev ?_; try with_reducible exact True.intro)
      refine PFK_of cI ?_
      (refine ev ?_; try with_reducible exact True.intro)
      rcases hP with ⟨p1, p2⟩ | ⟨p1, p2, p3, p4, p5, p6, p7⟩
      · have cM := c_iIsMatrix h.d_impl_IsMatrix (m := m) (cols := (m.length : Nat)) wm (by omega)
        rw [hmok] at cM
        (refine ev2 @p1 @p2 ?_; try with_reducible exact True.intro)
        refine PFK_of cM ?_
        (refine ev ?_; try with_reducible exact True.intro)
        exact laxV_refl _
      · have hOw : ∀ k, k < i → ∀ j, j < i → (mEl (mmV m (ivmX m)) k j) = intR (if k = j then 1 else 0) := p7
        have hwX : ∀ k, k < i → ((ssX m (y :: ys)).getD k default).cn := fun k hk => hXc _ (getD_mem (by omega))
        clear hF hXc cS cI wi wb wm hbv wo
        rw [p2] at *
        generalize ssX m (y :: ys) = X at *
        generalize mmV m (ivmX m) = O at *
        (refine ev1 @p1 ?_; try with_reducible exact True.intro)
        refine PFK_of cO ?_
        have f1 : (((X.length : Nat) : Int) = (m.length : Nat)) = True := eq_true (by omega)
        have f2 : (((O.length : Nat) : Int) = (m.length : Nat)) = True := eq_true (by omega)
        (refine ev2 @f1 @f2 ?_; try with_reducible exact True.intro)
        refine loop_at (fun _ _ => false) (α := Nat) (fun k => ⟨argE [.any, .any, .any, ratssV m, ratsV (y :: ys), .any, ratsV X, .any, .any, .any, ratssV O, .any, .any, .any, .any, .any, .any, .any, .any, .any, .any, .any, .any, .any, .any, .any, .any, .any, .any, .any, .any, .any, .any, .any, .any, .any, .any, .any, .any, .any, .any, .any, .any, .any, .any, .any, .any, .any, .any, .any, .any, .any, .any, .any, .any, .any, .any, .any, .any, .any, .any, .any, .any, .any, .any, .any, .any, .any, .any, .any, .any, .any, .any, .any, .any, .any, .any, .any, .any, iv (i : Nat), iv (k : Nat)], [], 0, 0, [], []⟩) (fun k => k ≤ i) (fun k => i - k) rfl 0 ?_ ?_ ?_
        · exact Nat.zero_le _
        · rw [hml]
          (refine Fg_re [] (by simp) (by intro p hp; cases hp) rfl ?_) <;> (try (refine ev ?_; try with_reducible exact True.intro)) <;> (repeat' (first | exact True.intro | omega | exact CanE_ptr rfl (by simp) | refine ⟨?_, ?_⟩ | exact of_eq_true (CanE_nil _ _ _) | exact CanE_of rfl (by simp; done) | exact CanE_of rfl rfl | (refine CanE_msl rfl ?_ rfl; simp [irows]; done) | (refine CanE_msl rfl ?_ rfl; simp [irows]; omega) | (refine CanE_frz ?_ ?_; (focus ((refine ev ?_; try with_reducible exact True.intro); done)); (intro q hq k s0 l0; simp; done))))
        · rintro k hk
          by_cases hc2 : (k : Int) < (i : Int)
          · have hki : k < i := by omega
            have c0 := c_iRatFromInt h.d_impl_RatFromInt (n := 0)
            (refine ev1 @hc2 ?_; try with_reducible exact True.intro)
            refine PFK_of c0 ?_
            (refine ev ?_; try with_reducible exact True.intro)
            refine loop_at (fun _ _ => false) (α := Nat) (fun j => ⟨argE [.any, .any, .any, ratssV m, ratsV (y :: ys), .any, ratsV X, .any, .any, .any, ratssV O, iv (k : Nat), .ptr 0 0 0, .any, .any, .any, .any, .any, .any, .any, .any, .any, .any, .any, .any, .any, .any, .any, .any, .any, .any, .any, .any, .any, .any, .any, .any, .any, .any, .any, .any, .any, .any, .any, .any, .any, .any, .any, .any, .any, .any, .any, .any, .any, .any, .any, .any, .any, .any, .any, .any, .any, .any, .any, .any, .any, .any, .any, .any, .any, .any, .any, .any, .any, .any, .any, .any, .any, .any, iv (i : Nat), iv (k : Nat), .any, .any, .any, .any, iv (i : Nat), iv (j : Nat)], [some ⟨3, [(accR (fun j => mEl m k j) (fun j => X.getD j default) j).cells]⟩], 0, 0, [], []⟩) (fun j => j ≤ i) (fun j => i - j) rfl 0 ?_ ?_ ?_
            · exact Nat.zero_le _
            · rw [hml]
              (refine Fg_re [(0, _)] (by simp) (by intro p hp; simp only [List.mem_cons, List.not_mem_nil, or_false] at hp; rcases hp with rfl <;> refine ⟨rfl, ?_⟩ <;> first | exact ir_still _ | simp [stillR, V.still]) rfl ?_) <;> (try (refine ev ?_; try with_reducible exact True.intro)) <;> (repeat' (first | exact True.intro | omega | exact CanE_ptr rfl (by simp) | refine ⟨?_, ?_⟩ | exact of_eq_true (CanE_nil _ _ _) | exact CanE_of rfl (by simp; done) | exact CanE_of rfl rfl | (refine CanE_msl rfl ?_ rfl; simp [irows]; done) | (refine CanE_msl rfl ?_ rfl; simp [irows]; omega) | (refine CanE_frz ?_ ?_; (focus ((refine ev ?_; try with_reducible exact True.intro); done)); (intro q hq k s0 l0; simp; done))))
            · rintro j hj
              by_cases hc3 : (j : Int) < (i : Int)
              · have hji : j < i := by omega
                have g1 : (m.map fun r => [ratsV r]).getD k [] = [ratsV (m.getD k default)] := mg (by omega)
                have g2 : ((m.getD k default).map R.cells).getD j [] = (mEl m k j).cells := mg (by rw [hrow k hki]; exact hji)
                have g3 : (X.map R.cells).getD j [] = (X.getD j default).cells := mg (by omega)
                have g4 : (O.map fun r => [ratsV r]).getD k [] = [ratsV (O.getD k default)] := mg (by omega)
                have g5 : ((O.getD k default).map R.cells).getD j [] = (mEl O k j).cells := mg (by rw [p5 k hki]; exact hji)
                have l1 := hrow k hki
                have l2 := p5 k hki
                have e1 := hcel k hki j hji
                have e2 := hwX j hji
                have e3 := hOw k hki j hji
                have ea := accR_cn (fun j => mEl m k j) (fun j => X.getD j default) j
                have es : accR (fun j => mEl m k j) (fun j => X.getD j default) (j + 1) = addR (accR (fun j => mEl m k j) (fun j => X.getD j default) j) (mulR (mEl m k j) (X.getD j default)) := rfl
                generalize accR (fun j => mEl m k j) (fun j => X.getD j default) j = A at *
                generalize mEl m k j = u at *
                generalize X.getD j default = v at *
                rw [e3] at g5
                (refine ev4 @hc3 @g1 @g2 @g3 ?_; try with_reducible exact True.intro)
                refine PFK_of (c_iRatMul h.d_impl_RatMul (cn_wf e1) (cn_wf e2)) ?_
                (refine ev ?_; try with_reducible exact True.intro)
                refine PFK_of (c_iRatAdd h.d_impl_RatAdd (cn_wf ea) (cn_wf (mulR_cn u v))) ?_
                rw [← es]
                (refine ev ?_; try with_reducible exact True.intro)
                refine ⟨by unfold OkA; decide +kernel, ?_⟩
                have f4 : (((O.getD k default).length : Nat) : Int) = (m.length : Nat) := by omega
                have f5 := eq_true f4
                by_cases hkj : k = j
                · subst hkj
                  have cu := c_iRatFromInt h.d_impl_RatFromInt (n := 1)
                  have ce := c_implRatEqual h.d_impl_RatEqual (y := intR 1) (z := intR 1) (cn_wf (intR_cn (by decide))) (cn_wf (intR_cn (by decide)))
                  rw [decide_eq_true rfl] at ce
                  rw [if_pos rfl] at g5
                  (refine ev3 @g4 @g5 @f5 ?_; try with_reducible exact True.intro)
                  refine PFK_of cu ?_
                  (refine ev3 @g4 @g5 @f5 ?_; try with_reducible exact True.intro)
                  refine PFK_of ce ?_
                  (refine ev3 @g4 @g5 @f5 ?_; try with_reducible exact True.intro)
                  exact ⟨k + 1, by omega, by omega, by (refine Fg_re [(0, _)] (by simp) (by intro p hp; simp only [List.mem_cons, List.not_mem_nil, or_false] at hp; rcases hp with rfl <;> refine ⟨rfl, ?_⟩ <;> first | exact ir_still _ | simp [stillR, V.still]) rfl ?_) <;> (try (refine ev ?_; try with_reducible exact True.intro)) <;> (repeat' (first | exact True.intro | omega | exact CanE_ptr rfl (by simp) | refine ⟨?_, ?_⟩ | exact of_eq_true (CanE_nil _ _ _) | exact CanE_of rfl (by simp; done) | exact CanE_of rfl rfl | (refine CanE_msl rfl ?_ rfl; simp [irows]; done) | (refine CanE_msl rfl ?_ rfl; simp [irows]; omega) | (refine CanE_frz ?_ ?_; (focus ((refine ev ?_; try with_reducible exact True.intro); done)); (intro q hq k s0 l0; simp; done))))⟩
                · have hkj2 : ¬ (k : Int) = (j : Int) := by omega
                  have cu := c_iRatFromInt h.d_impl_RatFromInt (n := 0)
                  have ce := c_implRatEqual h.d_impl_RatEqual (y := intR 0) (z := intR 0) (cn_wf (intR_cn (by decide))) (cn_wf (intR_cn (by decide)))
                  rw [decide_eq_true rfl] at ce
                  rw [if_neg hkj] at g5
                  (refine ev4 @hkj2 @g4 @g5 @f5 ?_; try with_reducible exact True.intro)
                  refine PFK_of cu ?_
                  (refine ev4 @hkj2 @g4 @g5 @f5 ?_; try with_reducible exact True.intro)
                  refine PFK_of ce ?_
                  (refine ev4 @hkj2 @g4 @g5 @f5 ?_; try with_reducible exact True.intro)
                  exact ⟨j + 1, by omega, by omega, by (refine Fg_re [(0, _)] (by simp) (by intro p hp; simp only [List.mem_cons, List.not_mem_nil, or_false] at hp; rcases hp with rfl <;> refine ⟨rfl, ?_⟩ <;> first | exact ir_still _ | simp [stillR, V.still]) rfl ?_) <;> (try (refine ev ?_; try with_reducible exact True.intro)) <;> (repeat' (first | exact True.intro | omega | exact CanE_ptr rfl (by simp) | refine ⟨?_, ?_⟩ | exact of_eq_true (CanE_nil _ _ _) | exact CanE_of rfl (by simp; done) | exact CanE_of rfl rfl | (refine CanE_msl rfl ?_ rfl; simp [irows]; done) | (refine CanE_msl rfl ?_ rfl; simp [irows]; omega) | (refine CanE_frz ?_ ?_; (focus ((refine ev ?_; try with_reducible exact True.intro); done)); (intro q hq k s0 l0; simp; done))))⟩
              · have hji : j = i := by omega
                subst hji
                have hbk := p6 k hki
                have g6 : ((y :: ys).map R.cells).getD k [] = ((y :: ys).getD k default).cells := mg (by omega)
                have hcb := hbc k hki
                rw [hbk]
                generalize (y :: ys).getD k default = bk at *
                have ce := c_implRatEqual h.d_impl_RatEqual (y := bk) (z := bk) (cn_wf hcb) (cn_wf hcb)
                rw [decide_eq_true rfl] at ce
                have hyn : ys.length + 1 = j := by simpa using hbl
                (refine ev2 @hc3 @g6 ?_; try with_reducible exact True.intro)
                refine PFK_of ce ?_
                (refine ev ?_; try with_reducible exact True.intro)
                exact ⟨k + 1, by omega, by omega, by (refine Fg_re [] (by simp) (by intro p hp; cases hp) rfl ?_) <;> (try (refine ev ?_; try with_reducible exact True.intro)) <;> (repeat' (first | exact True.intro | omega | exact CanE_ptr rfl (by simp) | refine ⟨?_, ?_⟩ | exact of_eq_true (CanE_nil _ _ _) | exact CanE_of rfl (by simp; done) | exact CanE_of rfl rfl | (refine CanE_msl rfl ?_ rfl; simp [irows]; done) | (refine CanE_msl rfl ?_ rfl; simp [irows]; omega) | (refine CanE_frz ?_ ?_; (focus ((refine ev ?_; try with_reducible exact True.intro); done)); (intro q hq k s0 l0; simp; done))))⟩
          · (refine ev1 @hc2 ?_; try with_reducible exact True.intro)
            exact laxV_refl _
end Go.Ml
end
section
set_option linter.unusedSimpArgs false
namespace Go.Ml
def OutOk (P : Program) (fid : Nat) (o : OutF) : Prop :=
  ∀ args σ r σ', o.sem args σ r σ' → ∀ w M D (vals : Array Value), rdL w D (XS M D) args vals.toList → SRel w D M σ → Calls P fid vals w (Post M D w σ.length r σ')
def Fits (P : Program) (ν : Nat → Option Nat) (T : Nat → Option Fn) : Prop :=
  ∀ fid f F, ν fid = some f → T f = some F → (∃ fn, P.funcs[fid]? = some fn ∧ trFn P ν fn = some F) ∨ ∃ o, F.body = .lib o ∧ OutOk P fid o
theorem no_lib {T : Nat → Option Fn} {j : Job} {x : Out} (h : Run T j x) : ∀ o st, j ≠ .code (.lib o) st := by
  induction h with
  | gc ρ hn hρ h ih => intro o st e; cases e; exact ih o _ rfl
  | forget he ho hk h ih => intro o st e; cases e; exact ih o _ rfl
  | re W h h' ih => intro o st e; cases e; exact ih o _ rfl
  | _ => intro o st e; cases e
theorem trC_lib {P : Program} {ν : Nat → Option Nat} {nt : Nat} {o : OutF} : ∀ c : Code, trC P ν nt c ≠ some (.lib o) := by
  intro c h
  unfold trC at h
  cases c <;> simp at h
  all_goals (try (split at h <;> simp at h))
theorem trFn_lib {P : Program} {ν : Nat → Option Nat} {fn : Func} {F : Fn} {o : OutF} (h : trFn P ν fn = some F) (hb : F.body = .lib o) : False := by
  unfold trFn at h
  split at h <;> first | (cases h; done) | skip
  split at h <;> first | (cases h; done) | skip
  rename_i b rs' hb' hrs'
  split at h <;> first | (cases h; done) | skip
  simp only [Option.some.injEq] at h
  subst h
  simp only [] at hb
  subst hb
  exact trC_lib _ hb'
section
variable {P : Program} {ν : Nat → Option Nat} {T : Nat → Option Fn}
theorem okK_cons {m : Nat} {x : OpI} {l : List OpI} (h : okK m (x :: l) = true) : okK m l = true ∧ ∀ y ∈ l, y.i.makes = true → y.k ≠ x.k ∧ y.k < m := by
  have hm : ∀ (l : List OpI), okK m l = true → ∀ y ∈ l, y.i.makes = true → y.k < m := by
    intro l
    induction l with
    | nil => intro _ y hy; cases hy
    | cons z l ih =>
      intro h y hy hmk
      simp only [okK, Bool.and_eq_true] at h
      rcases List.mem_cons.1 hy with rfl | hy
      · have := h.1
        rw [if_pos hmk] at this
        simp only [Bool.and_eq_true, decide_eq_true_eq] at this
        exact this.1
      · exact ih h.2 y hy hmk
  simp only [okK, Bool.and_eq_true] at h
  refine ⟨h.2, fun y hy hmk => ⟨?_, hm l h.2 y hy hmk⟩⟩
  by_cases hx : x.i.makes = true
  · have := h.1
    rw [if_pos hx] at this
    simp only [Bool.and_eq_true, decide_eq_true_eq, List.all_eq_true] at this
    have := this.2 y hy
    simpa [hmk] using this
  · have := h.1
    rw [if_neg hx] at this
    simp only [beq_iff_eq] at this
    have := hm l h.2 y hy hmk
    omega
theorem okK_lt {m : Nat} : ∀ (l : List OpI), okK m l = true → ∀ x ∈ l, x.i.makes = true → x.k < m
  | [], _, y, hy, _ => by cases hy
  | z :: l, h, y, hy, hmk => by
    simp only [okK, Bool.and_eq_true] at h
    rcases List.mem_cons.1 hy with rfl | hy
    · have := h.1
      rw [if_pos hmk] at this
      simp only [Bool.and_eq_true, decide_eq_true_eq] at this
      exact this.1
    · exact okK_lt l h.2 y hy hmk
theorem okK_ne {m : Nat} : ∀ (l : List OpI), okK m l = true → ∀ (i j : Nat) (x y : OpI), l[i]? = some x → l[j]? = some y → i ≠ j → x.i.makes = true → x.k ≠ y.k
  | [], _, i, j, x, y, hx, _, _, _ => by simp at hx
  | z :: l, h, i, j, x, y, hx, hy, hij, hmk => by
    obtain ⟨k1, k2⟩ := okK_cons h
    cases i with
    | zero =>
      simp at hx; subst hx
      cases j with
      | zero => exact absurd rfl hij
      | succ j =>
        have hy' : y ∈ l := List.mem_of_getElem? (by simpa using hy)
        by_cases hmy : y.i.makes = true
        · exact fun e => (k2 y hy' hmy).1 e.symm
        · -- one that makes none has the number m
          have hm : ∀ (l : List OpI), okK m l = true → ∀ y ∈ l, y.i.makes ≠ true → y.k = m := by
            intro l
            induction l with
            | nil => intro _ y hy; cases hy
            | cons z l ih =>
              intro h y hy hn
              simp only [okK, Bool.and_eq_true] at h
              rcases List.mem_cons.1 hy with rfl | hy
              · have := h.1
                rw [if_neg hn] at this
                simpa using this
              · exact ih h.2 y hy hn
          have := hm l k1 y hy' hmy
          have h3 := okK_lt _ h z (by simp) hmk
          omega
    | succ i =>
      have hx' : x ∈ l := List.mem_of_getElem? (by simpa using hx)
      cases j with
      | zero =>
        simp at hy; subst hy
        exact (k2 x hx' hmk).1
      | succ j => exact okK_ne l k1 i j x y (by simpa using hx) (by simpa using hy) (by omega) hmk
theorem opsOk_cons {o : OpI} {l : List OpI} {st st1 st2 : St} (h1 : OpOk P ν o st st1) (h2 : OpsOk P ν l st1 st2) : OpsOk P ν (o :: l) st st2 := by
  obtain ⟨a1, a2, a3, a4⟩ := h1
  obtain ⟨b1, b2, b3, b4⟩ := h2
  refine ⟨b1.trans a1, b2.trans a2, Nat.le_trans a3 b3, ?_⟩
  intro ops dr nt m k rest htr hk M w0 D0 D a w hs hid Q hQ
  cases rest with
  | nil => simp [trOps] at htr
  | cons r rest =>
    simp only [trOps] at htr
    split at htr <;> first | (cases htr; done) | skip
    rename_i x hx
    split at htr <;> first | (cases htr; done) | skip
    rename_i l' hl'
    simp only [Option.some.injEq, List.cons.injEq] at htr
    obtain ⟨rfl, rfl⟩ := htr
    obtain ⟨k1, k2⟩ := okK_cons hk
    have key := a4 ops dr nt m k r hx M w0 D0 D a w hs (hid x (by simp)) (wpList P ops Q rest) Q (fun D' a' w' hs' hun => by
      refine b4 ops dr nt m _ rest hl' k1 M w0 D0 D' a' w' hs' (fun y hy hmk => ?_) Q hQ
      rw [a1]
      obtain ⟨e1, e2⟩ := hid y (by simp [hy]) hmk
      exact ⟨Nat.lt_of_lt_of_le e1 a3, hun _ (Nat.le_add_right _ _) e1 e2 (fun h => (k2 y hy hmk).1 (by omega))⟩)
    unfold wpList
    split
    · rename_i hw; rw [if_pos hw] at key; exact .inl key
    · rename_i hw; rw [if_neg hw] at key; exact key
theorem trC_inv {nt : Nat} {cc : Code} {c : C} (h : trC P ν nt cc = some c) : match c with
    | .skip => cc = .skip
    | .reg d m l => ∃ id ops, cc = .region id ops d ∧ trOps P ν ops d nt m 0 ops.toList = some l
    | .seq x y => ∃ a b, cc = .seq a b ∧ trC P ν nt a = some x ∧ trC P ν nt b = some y
    | .cond s x y => ∃ o a b, cc = .cond o a b ∧ trS o = some s ∧ trC P ν nt a = some x ∧ trC P ν nt b = some y
    | .block id x => ∃ a, cc = .block id a ∧ trC P ν nt a = some x
    | .loop x => ∃ a, cc = .loop a ∧ trC P ν nt a = some x
    | .exit id => cc = .exit id
    | .ret => cc = .ret
    | .lib _ => False := by
  cases cc with
  | skip => simp only [trC, Option.some.injEq] at h; subst h; rfl
  | region id ops d =>
    simp only [trC, Option.map_eq_some_iff] at h
    obtain ⟨l, h1, rfl⟩ := h
    exact ⟨id, ops, rfl, h1⟩
  | seq a b =>
    simp only [trC] at h
    split at h <;> first | (cases h; done) | skip
    rename_i x y h1 h2
    simp only [Option.some.injEq] at h; subst h
    exact ⟨a, b, rfl, h1, h2⟩
  | cond o a b =>
    simp only [trC] at h
    split at h <;> first | (cases h; done) | skip
    rename_i s x y h1 h2 h3
    simp only [Option.some.injEq] at h; subst h
    exact ⟨o, a, b, rfl, h1, h2, h3⟩
  | block id a =>
    simp only [trC, Option.map_eq_some_iff] at h
    obtain ⟨x, h1, rfl⟩ := h
    exact ⟨a, rfl, h1⟩
  | loop a =>
    simp only [trC, Option.map_eq_some_iff] at h
    obtain ⟨x, h1, rfl⟩ := h
    exact ⟨a, rfl, h1⟩
  | exit id => simp only [trC, Option.some.injEq] at h; subst h; rfl
  | ret => simp only [trC, Option.some.injEq] at h; subst h; rfl
  | _ => simp [trC] at h
theorem loop_of {c : C} {e : Ex} {st st' : St} (hk : st'.keep = st.keep) (h : LoopOk P ν c e st st') : CodeOk P ν (.loop c) e st st' := by
  refine ⟨hk, ?_⟩
  intro nt cc htr M w0 D0 D a w hs Q hQ
  obtain ⟨cb, rfl, hb⟩ := trC_inv htr
  intro b k cs
  obtain ⟨x, a', w', q, harr⟩ := h nt cb hb M w0 D0 D a w hs Q hQ b k cs
  exact ⟨x, a', w', q, .of_steps (.one step_loop) harr⟩
theorem exOf_ne {e : Ex} (h : e ≠ .normal) : exOf e ≠ .normal := by cases e <;> simp [exOf] at h ⊢
theorem then_of {next : Act → World → Prop} {Q : Exit → Act → World → Prop} {e : Ex} (h : e ≠ .normal) {a : Act} {w : World} (hq : Q (exOf e) a w) : Exit.then next Q (exOf e) a w := by
  cases e <;> first | (simp at h; done) | exact hq
def getRes (tmps : Array Value) : ResultVar → Sem Value
  | .tmp t => pure (tmps.getD t undef)
  | .cell q t => do loadVar t (← asAddr (tmps.getD q undef))
theorem results_eq (fn : Func) (tmps : Array Value) : results fn tmps = (do let vs ← fn.results.mapM (getRes tmps); pure (if h : vs.size = 1 then vs[0] else .tuple vs)) := rfl
theorem fnOk_lib (hT : Fits P ν T) {f : Nat} {args : List V} {σ : Store} {F : Fn} {o : OutF} {r : V} {σ' : Store} (hf : T f = some F) (hb : F.body = .lib o) (h : o.sem args σ r σ') : FnOk P ν f args σ r σ' := by
  intro fid hfid w M D vals hv hS
  rcases hT fid f F hfid hf with ⟨fn, hfn, htr⟩ | ⟨o', e, hO⟩
  · exact (trFn_lib htr hb).elim
  · rw [hb] at e
    cases e
    exact hO args σ r σ' h w M D vals hv hS
theorem fnOk_fn (hT : Fits P ν T) {f : Nat} {args : List V} {σ : Store} {F : Fn} {e : Ex} {st' : St} {rs : List V} (hf : T f = some F) (hl : args.length = F.nargs) (hnl : ∀ o, F.body ≠ .lib o)
    (ih : CodeOk P ν F.body e (St.enter args σ) st') (he : e = .normal ∨ e = .ret) (hr : F.res.mapM (Res.get st') = some rs) : FnOk P ν f args σ (packRes rs) st'.objs := by
  intro fid hfid w M D vals hv hS
  rcases hT fid f F hfid hf with ⟨fn, hfn, htr⟩ | ⟨o, e, _⟩
  case inr => exact (hnl o e).elim
  unfold trFn at htr
  split at htr <;> first | (cases htr; done) | skip
  rename_i body hbody
  split at htr <;> first | (cases htr; done) | skip
  rename_i b rs' hb hrs'
  split at htr <;> first | (cases htr; done) | skip
  rename_i hle
  simp only [Option.some.injEq] at htr; subst htr
  have hvl : vals.size = args.length := by simpa using (rdL_length _ _ hv).symm
  refine calls_of_wp hfn hbody ?_
  have hs0 : SR fn.ntmps M w D (St.enter args σ) D { tmps := vals ++ Array.replicate (fn.ntmps - vals.size) undef, defers := [] } w := by
    refine ⟨?_, ?_, rfl, hS, Gr.refl _ _, fun o d h => .inl ⟨o, d, h, rfl⟩, fun o _ => DSle.refl _⟩
    · intro t
      simp only [St.enter]
      by_cases ht : t < args.length
      · obtain ⟨y, h1, h2⟩ := rdL_get _ _ hv t args[t] (by simp [ht])
        have e1 : argE args t = args[t] := by simp [argE, ht]
        rw [e1]
        have e2 : (vals ++ Array.replicate (fn.ntmps - vals.size) undef).getD t undef = y := by
          rw [Array.getD_eq_getD_getElem?, Array.getElem?_append_left (by omega)]
          rw [← Array.getElem?_toList, h1]; rfl
        rw [e2]; exact h2
      · have e1 : argE args t = .any := by simp [argE, List.getD, List.getElem?_eq_none (Nat.le_of_not_lt ht)]
        rw [e1]; simp only [rd]
    · simp only [Array.size_append, Array.size_replicate]; simp only [] at hl; omega
  refine ih.2 fn.ntmps body hb M w D D _ w hs0 _ ?_
  intro D' a' w' hs'
  have hres : ∃ v, (results fn a'.tmps).run P w' = .ok v w' ∧ rd w' D' (XS M D') (packRes rs) v := by
    have hlist : ∀ (vars : List ResultVar) (rl : List Res) (vl : List V), vars.mapM (trRes P) = some rl → rl.mapM (Res.get st') = some vl →
        ∃ ys : List Value, (vars.mapM (getRes a'.tmps)).run P w' = .ok ys w' ∧ rdL w' D' (XS M D') vl ys := by
      intro vars
      induction vars with
      | nil => intro rl vl h1 h2; simp at h1; subst h1; simp at h2; subst h2; exact ⟨[], by simp, by simp [rdL]⟩
      | cons x vars ihv =>
        intro rl vl h1 h2
        simp only [List.mapM_cons, Option.pure_def, Option.bind_eq_bind, Option.bind_eq_some_iff, Option.some.injEq] at h1
        obtain ⟨r, hr1, rl', hr2, rfl⟩ := h1
        simp only [List.mapM_cons, Option.pure_def, Option.bind_eq_bind, Option.bind_eq_some_iff, Option.some.injEq] at h2
        obtain ⟨z, hz1, vl', hz2, rfl⟩ := h2
        obtain ⟨ys, k1, k2⟩ := ihv rl' vl' hr2 hz2
        cases x with
        | tmp t =>
          simp only [trRes, Option.some.injEq] at hr1; subst hr1
          simp only [Res.get, Option.some.injEq] at hz1; subst hz1
          refine ⟨a'.tmps.getD t undef :: ys, ?_, by simp only [rdL]; exact ⟨_, _, rfl, hs'.env t, k2⟩⟩
          have hg : (getRes a'.tmps (.tmp t)).run P w' = .ok (a'.tmps.getD t undef) w' := rfl
          simp only [List.mapM_cons, Sem.run_bind, Sem.run_pure, Result.andThen_ok, k1, hg]
        | cell q t =>
          simp only [trRes, Option.map_eq_some_iff] at hr1
          obtain ⟨⟨n, g⟩, hg, rfl⟩ := hr1
          simp only [Res.get] at hz1
          split at hz1 <;> first | (cases hz1; done) | skip
          rename_i row off hrow
          obtain ⟨u, j1, j2⟩ := run_load_agg hs'.store hg hrow (hs'.env q) hz1
          obtain ⟨bl, oo, hptr, _⟩ := rowAt_rd hs'.store hrow (hs'.env q)
          refine ⟨u :: ys, ?_, by simp only [rdL]; exact ⟨_, _, rfl, j2, k2⟩⟩
          have j1' : (loadVar t ⟨bl, oo + off, none⟩).run P w' = .ok u w' := by
            rw [hptr] at j1
            simpa [Instr.loadAt, Instr.sureAddr] using j1
          have hg : (getRes a'.tmps (.cell q t)).run P w' = .ok u w' := by
            simp only [getRes, hptr, asAddr, Sem.run_bind, Sem.run_pure, Result.andThen_ok, j1']
          simp only [List.mapM_cons, Sem.run_bind, Sem.run_pure, Result.andThen_ok, k1, hg]
    obtain ⟨ys, k1, k2⟩ := hlist fn.results.toList rs' rs hrs' hr
    refine ⟨if h : ys.toArray.size = 1 then ys.toArray[0] else .tuple ys.toArray, ?_, ?_⟩
    · have : (fn.results.mapM (getRes a'.tmps)).run P w' = .ok ys.toArray w' := by
        rw [← Array.toArray_toList (xs := fn.results), List.mapM_toArray, Sem.run_map, k1]; rfl
      rw [results_eq]
      simp only [Sem.run_bind, this, Result.andThen_ok, Sem.run_pure]
    · have hlen := rdL_length _ _ k2
      have gen : ∀ (rs : List V) (ys : List Value), rdL w' D' (XS M D') rs ys → rs.length = ys.length → rd w' D' (XS M D') (packRes rs) (if h : ys.toArray.size = 1 then ys.toArray[0] else .tuple ys.toArray) := by
        intro rs ys h hl
        cases rs with
        | nil =>
          cases ys with
          | nil => simp only [packRes]; rw [dif_neg (by simp)]; simp only [rd]; exact ⟨_, rfl, h⟩
          | cons y ys => simp at hl
        | cons x xs =>
          cases ys with
          | nil => simp at hl
          | cons y ys =>
            cases xs with
            | nil =>
              cases ys with
              | nil =>
                simp only [rdL] at h
                obtain ⟨y', ys', h0, h1, h2⟩ := h
                cases h0
                simpa [packRes] using h1
              | cons y' ys => simp at hl
            | cons x' xs =>
              cases ys with
              | nil => simp at hl
              | cons y' ys =>
                simp only [packRes]
                rw [dif_neg (by simp)]
                simp only [rd]
                exact ⟨_, rfl, h⟩
      exact gen rs ys k2 hlen
  obtain ⟨v, hv1, hv2⟩ := hres
  have hfin : bodyPost P fn (Post M D w σ.length (packRes rs) st'.objs) .ret a' w' :=
    ⟨hs'.df, v, hv1, v, D', rfl, hv2, hs'.store, hs'.gr, hs'.fr, fun o ho => hs'.kp o (by rw [ih.1]; exact ho)⟩
  rcases he with rfl | rfl <;> exact hfin
theorem trOps_get {ops : Array Oper} {dr : Bool} {nt m : Nat} : ∀ {k : Nat} {rest : List Oper} {l : List OpI}, trOps P ν ops dr nt m k rest = some l →
    l.length = rest.length ∧ ∀ (i : Nat) (x : OpI), l[i]? = some x → ∃ o k', rest[i]? = some o ∧ trOp P ν ops dr nt m k' o = some x
  | k, [], l, h => by simp only [trOps, Option.some.injEq] at h; subst h; simp
  | k, o :: rest, l, h => by
    simp only [trOps] at h
    split at h <;> first | (cases h; done) | skip
    rename_i x hx
    split at h <;> first | (cases h; done) | skip
    rename_i l' hl'
    simp only [Option.some.injEq] at h; subst h
    obtain ⟨e1, e2⟩ := trOps_get hl'
    refine ⟨by simp [e1], fun i y hi => ?_⟩
    cases i with
    | zero => simp at hi; subst hi; exact ⟨o, k, rfl, hx⟩
    | succ i => simpa using e2 i y (by simpa using hi)
theorem trOp_aft {ops : Array Oper} {nt m k : Nat} {o : Oper} {x : OpI} (h : trOp P ν ops true nt m k o = some x) : x.aft = trAft o := by
  unfold trOp at h
  split at h <;> first | (cases h; done) | skip
  split at h <;> first | (cases h; done) | skip
  simp only [Option.some.injEq] at h; subst h
  rfl
theorem ready_iff {ops : Array Oper} {nt m : Nat} {l : List OpI} (h : trOps P ν ops true nt m 0 ops.toList = some l) {done : List Nat} {listed : Array Bool} (hs : listed.size = ops.size)
    (hl : ∀ i, listed.getD i false = true ↔ i ∈ done) {i : Nat} : i ∈ Region.ready .any ops listed ↔ readyB l done i = true := by
  obtain ⟨e1, e2⟩ := trOps_get h
  rw [mem_ready]
  have hlt : ∀ {i : Nat}, i < ops.size → (listed.getD i true = false ↔ i ∉ done) := by
    intro i hi
    have : listed.getD i true = listed.getD i false := by
      rw [Array.getD_eq_getD_getElem?, Array.getD_eq_getD_getElem?, Array.getElem?_eq_getElem (by omega)]; rfl
    rw [this]
    constructor
    · intro h1 h2; rw [(hl i).2 h2] at h1; cases h1
    · intro h1
      cases hb : listed.getD i false with
      | false => rfl
      | true => exact absurd ((hl i).1 hb) h1
  constructor
  · rintro ⟨h1, o, ho, h2⟩
    have hi := (Array.getElem?_eq_some_iff.1 ho).1
    have hil : i < l.length := by rw [e1]; simpa using hi
    obtain ⟨o', k', ho', hx⟩ := e2 i l[i] (by simp [hil])
    have : o' = o := by rw [Array.getElem?_toList] at ho'; rw [ho] at ho'; exact (Option.some.inj ho').symm
    subst this
    unfold readyB
    rw [List.getElem?_eq_getElem hil]
    simp only [Bool.and_eq_true, Bool.not_eq_true', List.all_eq_true]
    refine ⟨?_, ?_⟩
    · have := (hlt hi).1 h1
      simpa using this
    · intro e he
      rw [trOp_aft hx] at he
      simp only [trAft, List.mem_map, List.mem_filter] at he
      obtain ⟨ed, ⟨h3, h4⟩, rfl⟩ := he
      have := h2 ed (by simpa using h3) h4
      simpa using (hl _).1 this
  · intro hr
    unfold readyB at hr
    split at hr <;> first | (cases hr; done) | skip
    rename_i x hx
    simp only [Bool.and_eq_true, Bool.not_eq_true', List.all_eq_true] at hr
    obtain ⟨o, k', ho, htr⟩ := e2 i x hx
    have ho' : ops[i]? = some o := by rwa [Array.getElem?_toList] at ho
    have hi := (Array.getElem?_eq_some_iff.1 ho').1
    refine ⟨(hlt hi).2 (by simpa using hr.1), o, ho', ?_⟩
    intro e he hb
    refine (hl _).2 ?_
    have := hr.2 e.on (by rw [trOp_aft htr]; simp only [trAft, List.mem_map, List.mem_filter]; exact ⟨e, ⟨by simpa using he, hb⟩, rfl⟩)
    simpa using this
theorem sound (hm : P.follows .mixedOrders = true) (hT : Fits P ν T) {j : Job} {o : Out} (h : Run T j o) : Sound P ν j o := by
  induction h with
  | skip st =>
    refine ⟨⟨rfl, ?_⟩, fun x h => by cases h⟩
    intro nt cc htr M w0 D0 D a w hs Q hQ
    have hc : cc = .skip := trC_inv htr
    subst hc
    exact Go.wp_skip (hQ D a w hs)
  | @reg m l st st' hk h ih =>
    obtain ⟨_, i1, i2, i3, i4⟩ := ih
    refine ⟨⟨i2, ?_⟩, fun x h => by cases h⟩
    intro nt cc htr M w0 D0 D a w hs Q hQ
    obtain ⟨id, ops, rfl, hops⟩ := trC_inv htr
    refine wp_region_list ?_
    refine i4 ops false nt m 0 ops.toList hops hk M w0 D0 D a w ⟨hs.env, hs.tm, hs.df, hs.mem m, hs.gr, hs.fr, hs.kp⟩ (fun x hx hmk => ?_) Q (fun D' a' w' h => hQ D' a' w' h)
    have hkm : x.k < m := by
      have : ∀ (l : List OpI), okK m l = true → ∀ x ∈ l, x.i.makes = true → x.k < m := by
        intro l
        induction l with
        | nil => intro _ y hy; cases hy
        | cons z l ih =>
          intro h y hy hmk
          simp only [okK, Bool.and_eq_true] at h
          rcases List.mem_cons.1 hy with rfl | hy
          · have := h.1
            rw [if_pos hmk] at this
            simp only [Bool.and_eq_true, decide_eq_true_eq] at this
            exact this.1
          · exact ih h.2 y hy hmk
      exact this l hk x hx hmk
    simp only [List.length_append, List.length_replicate]
    exact ⟨by omega, hs.store.far _ (by omega)⟩
  | @regD m l st st' hk h ih =>
    obtain ⟨_, i1, i2, i3, i4⟩ := ih
    refine ⟨⟨i2, ?_⟩, fun x h => by cases h⟩
    intro nt cc htr M w0 D0 D a w hs Q hQ
    obtain ⟨id, ops, rfl, hops⟩ := trC_inv htr
    refine wp_region_any hm ?_
    have hsd : SR nt M w0 D0 st D a { w with drawn := w.drawn + 1 } := by
      have hE : Ext w D (XS M D) { w with drawn := w.drawn + 1 } D (XS M D) := ⟨Nat.le_refl _, fun _ _ _ => rfl, fun _ _ h => h, fun _ => DSle.refl _⟩
      refine ⟨fun t => rd_mono _ _ hE (hs.env t), hs.tm, hs.df, ?_, ⟨hs.gr.size, hs.gr.os, hs.gr.tape, hs.gr.output, hs.gr.block⟩, hs.fr, hs.kp⟩
      refine ⟨fun o d ho => ?_, hs.store.alive, hs.store.inj, hs.store.far, hs.store.mlt⟩
      obtain ⟨ob, c, e, g1, g2, g3, g4, g5, g6, g7, g8, g9, g10, g11⟩ := hs.store.live o d ho
      refine ⟨ob, c, e, g1, g2, g3, g4, g5, g6, g7, g8, g9, g10, fun i x hi => ?_⟩
      obtain ⟨k0, y, k1, k2⟩ := g11 i x hi
      exact ⟨k0, y, k1, rd_mono _ _ hE k2⟩
    refine i4 ops nt m hops hk M w0 D0 D a _ ⟨hsd.env, hsd.tm, hsd.df, hsd.mem m, hsd.gr, hsd.fr, hsd.kp⟩ (fun i x hx _ hmk => ?_) Q (fun D' a' w' h => hQ D' a' w' h) _ _ (by simp) (fun i => ?_) ?_
    · have hkm : x.k < m := okK_lt l hk x (List.mem_of_getElem? hx) hmk
      simp only [List.length_append, List.length_replicate]
      exact ⟨by omega, hsd.store.far _ (by omega)⟩
    · simp only [Array.getD_eq_getD_getElem?, Array.getElem?_replicate]
      split <;> simp
    · simp
  | @anyN l done st h =>
    refine ⟨rfl, rfl, rfl, Nat.le_refl _, ?_⟩
    intro ops nt m htr hk M w0 D0 D a w hs hid Q hQ fuel listed h1 h2 h3
    refine wpAny_done ?_ (hQ D a w hs) fuel
    apply List.eq_nil_iff_forall_not_mem.2
    intro i hi
    rw [ready_iff htr h1 h2, h i] at hi
    cases hi
  | @anyC l done st st' i0 h0 f h h' ih ih' =>
    obtain ⟨_, b1, b2, b3, _⟩ := ih' i0 h0
    obtain ⟨x0, hx0⟩ : ∃ x0, l[i0]? = some x0 := by
      unfold readyB at h0
      split at h0 <;> first | (cases h0; done) | skip
      exact ⟨_, by assumption⟩
    obtain ⟨_, a1, a2, a3, _⟩ := ih i0 x0 hx0 h0
    refine ⟨rfl, b1.trans a1, b2.trans a2, Nat.le_trans a3 b3, ?_⟩
    intro ops nt m htr hk M w0 D0 D a w hs hid Q hQ fuel listed h1 h2 h3
    have hready : ∀ i, i ∈ Region.ready .any ops listed ↔ readyB l done i = true := fun i => ready_iff htr h1 h2
    have hpos : fuel ≠ 0 := by
      rintro rfl
      have hi := (hready i0).2 h0
      have := (mem_ready.1 hi).1
      obtain ⟨_, o, ho, _⟩ := mem_ready.1 hi
      have hlt := (Array.getElem?_eq_some_iff.1 ho).1
      have hmem : false ∈ listed.toList := by
        have : listed[i0]'(by omega) = false := by
          rw [Array.getD_eq_getD_getElem?, Array.getElem?_eq_getElem (by omega)] at this
          simpa using this
        rw [← this]; simp
      have := List.count_pos_iff.2 hmem
      omega
    obtain ⟨fuel, rfl⟩ := Nat.exists_eq_succ_of_ne_zero hpos
    refine ⟨fun hnil => ?_, fun i hi => ?_⟩
    · have := (hready i0).2 h0
      rw [hnil] at this; cases this
    · have hr := (hready i).1 hi
      obtain ⟨e1, e2⟩ := trOps_get htr
      obtain ⟨_, o, ho, _⟩ := mem_ready.1 hi
      have hlt := (Array.getElem?_eq_some_iff.1 ho).1
      have hil : i < l.length := by rw [e1]; simpa using hlt
      obtain ⟨o', k', ho', hx⟩ := e2 i l[i] (by simp [hil])
      have : o' = o := by rw [Array.getElem?_toList] at ho'; rw [ho] at ho'; exact (Option.some.inj ho').symm
      subst this
      have hli : l[i]? = some l[i] := by simp [hil]
      have hnd : i ∉ done := by
        unfold readyB at hr
        rw [hli] at hr
        simp only [Bool.and_eq_true, Bool.not_eq_true'] at hr
        simpa using hr.1
      obtain ⟨_, c1, c2, c3, c4⟩ := ih i l[i] hli hr
      obtain ⟨_, d1, d2, d3, d4⟩ := ih' i hr
      have key := c4 ops true nt m k' o' hx M w0 D0 D a w hs (fun hmk => hid i l[i] hli hnd hmk) (wpAny P .any ops Q fuel (listed.setIfInBounds i true)) Q (fun D' a' w' hs' hun => by
        refine d4 ops nt m htr hk M w0 D0 D' a' w' hs' (fun j y hy hj hmk => ?_) Q hQ fuel _ (by simpa using h1) (fun j => ?_) ?_
        · simp only [List.mem_cons, not_or] at hj
          rw [c1]
          obtain ⟨g1, g2⟩ := hid j y hy hj.2 hmk
          refine ⟨Nat.lt_of_lt_of_le g1 c3, hun _ (Nat.le_add_right _ _) g1 g2 ?_⟩
          intro he
          have hne := okK_ne l hk j i y l[i] hy hli hj.1 hmk
          omega
        · rw [Array.getD_eq_getD_getElem?, Array.getElem?_setIfInBounds]
          by_cases hij : i = j
          · subst hij
            simp [h1, hlt]
          · rw [if_neg hij, ← Array.getD_eq_getD_getElem?, h2 j]
            simp only [List.mem_cons]
            constructor
            · exact .inr
            · rintro (h | h)
              · exact absurd h.symm hij
              · exact h
        · have hfi : listed[i]'(by omega) = false := by
            have := (mem_ready.1 hi).1
            rw [Array.getD_eq_getD_getElem?, Array.getElem?_eq_getElem (by omega)] at this
            simpa using this
          rw [Array.toList_setIfInBounds, List.count_set (by simpa using (by omega : i < listed.size))]
          have h4 : listed.toList[i]'(by simpa using (by omega : i < listed.size)) = false := by simpa using hfi
          have h5 : 0 < listed.toList.count false := List.count_pos_iff.2 (by rw [← h4]; exact List.getElem_mem _)
          simp only [h4, beq_self_eq_true, if_true]
          have : (true == false) = false := rfl
          simp only [this, Bool.false_eq_true, if_false]
          omega)
      unfold wpOp
      simp only [ho]
      split
      · rename_i hw; rw [if_pos hw] at key; exact .inl key
      · rename_i hw; rw [if_neg hw] at key; exact key
  | @seqN a b st st1 o h h' ih ih' =>
    cases o with
    | fn r σ => trivial
    | code e st2 =>
    obtain ⟨⟨i1, i2⟩, _⟩ := ih
    obtain ⟨⟨j1, j2⟩, _⟩ := ih'
    refine ⟨⟨j1.trans i1, ?_⟩, fun x h => by cases h⟩
    intro nt cc htr M w0 D0 D a w hs Q hQ
    obtain ⟨ca, cb, rfl, ha, hb⟩ := trC_inv htr
    refine Go.wp_seq (i2 nt ca ha M w0 D0 D a w hs _ fun D' a' w' hs' => ?_)
    exact j2 nt cb hb M w0 D0 D' a' w' hs' Q hQ
  | @seqE a b st e st1 he h ih =>
    obtain ⟨⟨i1, i2⟩, _⟩ := ih
    refine ⟨⟨i1, ?_⟩, fun x h => by cases h⟩
    intro nt cc htr M w0 D0 D a w hs Q hQ
    obtain ⟨ca, cb, rfl, ha, hb⟩ := trC_inv htr
    exact Go.wp_seq (i2 nt ca ha M w0 D0 D a w hs _ fun D' a' w' hs' => then_of he (hQ D' a' w' hs'))
  | @cond x a b st t o hx h ih =>
    cases o with
    | fn r σ => trivial
    | code e st2 =>
    obtain ⟨⟨i1, i2⟩, _⟩ := ih
    refine ⟨⟨i1, ?_⟩, fun x h => by cases h⟩
    intro nt cc htr M w0 D0 D a w hs Q hQ
    obtain ⟨oc, ca, cb, rfl, h1, ha, hb⟩ := trC_inv htr
    have hv := rd_src hs.env h1
    rw [hx] at hv
    simp only [rd] at hv
    refine Go.wp_cond hv (i2 nt _ ?_ M w0 D0 D _ w hs Q hQ)
    cases t
    · exact hb
    · exact ha
  | @block id c st e st1 h ih =>
    obtain ⟨⟨i1, i2⟩, _⟩ := ih
    refine ⟨⟨i1, ?_⟩, fun x h => by cases h⟩
    intro nt cc htr M w0 D0 D a w hs Q hQ
    obtain ⟨ca, rfl, ha⟩ := trC_inv htr
    refine Go.wp_block (i2 nt ca ha M w0 D0 D a w hs _ fun D' a' w' hs' => ?_)
    have := hQ D' a' w' hs'
    cases e with
    | normal => exact this
    | ret => exact this
    | exit id' =>
      simp only [exOf, exIn, Exit.inBlock] at this ⊢
      by_cases hid : id' = id
      · simp only [hid, if_true] at this ⊢; exact this
      · simp only [hid, if_false] at this ⊢; exact this
  | @loopN c st st1 o h h' ih ih' =>
    cases o with
    | fn r σ => trivial
    | code e st2 =>
    obtain ⟨⟨i1, i2⟩, _⟩ := ih
    obtain ⟨⟨j1, _⟩, j2⟩ := ih'
    have key : LoopOk P ν c e st st2 := by
      intro nt cc htr M w0 D0 D a w hs Q hQ b k cs
      obtain ⟨x, a1, w1, ⟨D1, hx, hs1⟩, harr⟩ := i2 nt cc htr M w0 D0 D a w hs (fun x a' w' => ∃ D', x = .normal ∧ SR nt M w0 D0 st1 D' a' w') (fun D' a' w' h => ⟨D', rfl, h⟩) b (.inLoop cc :: k) cs
      subst hx
      obtain ⟨x2, a2, w2, q2, harr2⟩ := j2 c rfl nt cc htr M w0 D0 D1 a1 w1 hs1 Q hQ b k cs
      exact ⟨x2, a2, w2, q2, .of_steps (Steps.trans harr (.one step_inLoop)) harr2⟩
    exact ⟨loop_of (j1.trans i1) key, fun x hx => by cases hx; exact key⟩
  | @loopE c st e st1 he h ih =>
    obtain ⟨⟨i1, i2⟩, _⟩ := ih
    have key : LoopOk P ν c e st st1 := by
      intro nt cc htr M w0 D0 D a w hs Q hQ b k cs
      obtain ⟨x, a1, w1, ⟨D1, hx, hs1⟩, harr⟩ := i2 nt cc htr M w0 D0 D a w hs (fun x a' w' => ∃ D', x = exOf e ∧ SR nt M w0 D0 st1 D' a' w') (fun D' a' w' h => ⟨D', rfl, h⟩) b (.inLoop cc :: k) cs
      subst hx
      exact ⟨_, a1, w1, hQ D1 a1 w1 hs1, .pass (x := .inLoop cc) rfl (fun _ _ => .inl (exOf_ne he)) harr⟩
    exact ⟨loop_of i1 key, fun x hx => by cases hx; exact key⟩
  | exit id st =>
    refine ⟨⟨rfl, ?_⟩, fun x h => by cases h⟩
    intro nt cc htr M w0 D0 D a w hs Q hQ
    have hc : cc = .exit id := trC_inv htr
    subst hc
    exact Go.wp_exit (hQ D a w hs)
  | ret st =>
    refine ⟨⟨rfl, ?_⟩, fun x h => by cases h⟩
    intro nt cc htr M w0 D0 D a w hs Q hQ
    have hc : cc = .ret := trC_inv htr
    subst hc
    exact Go.wp_ret (hQ D a w hs)
  | @gc c st o ρ hn hρ h ih =>
    cases o with
    | fn r σ => trivial
    | code e st2 =>
    obtain ⟨⟨i1, i2⟩, i3⟩ := ih
    refine ⟨⟨i1, ?_⟩, ?_⟩
    · intro nt cc htr M w0 D0 D a w hs Q hQ
      exact i2 nt cc htr M w0 D0 _ a w (hs.gc hn hρ) Q hQ
    · intro x hx nt cc htr M w0 D0 D a w hs Q hQ
      exact i3 x hx nt cc htr M w0 D0 _ a w (hs.gc hn hρ) Q hQ
  | nil st =>
    refine ⟨rfl, rfl, rfl, Nat.le_refl _, ?_⟩
    intro ops dr nt m k rest htr hk M w0 D0 D a w hs hid Q hQ
    cases rest with
    | nil => exact hQ D a w hs
    | cons r rest =>
      simp only [trOps] at htr
      split at htr <;> first | (cases htr; done) | skip
      split at htr <;> first | (cases htr; done) | skip
  | @cons o l st st1 out h h' ih ih' =>
    cases out with
    | fn r σ => trivial
    | code e st2 => exact ⟨ih'.1, opsOk_cons ih.2 ih'.2⟩
  | off hg he => exact ⟨rfl, opOk_off hg he⟩
  | op hg h => exact ⟨rfl, opOk_op hg h⟩
  | callP hg hi ha h hR ih => exact ⟨rfl, opOk_callP hg hi ha ih hR⟩
  | callR ρ hn hρ hg hi h ih => exact ⟨rfl, opOk_callR hn hρ hg hi ih⟩
  | callG hg hi ha h hR ih => exact ⟨rfl, opOk_callG hg hi ha ih hR⟩
  | callI hg hi h hl hb ih => exact ⟨rfl, opOk_callI hg hi ih hl hb⟩
  | @fn f args σ F e st' rs hf hl h he hr ih => exact fnOk_fn hT hf hl (fun o e => no_lib h o (St.enter args σ) (by rw [e])) ih.1 he hr
  | lib hf hb h => exact fnOk_lib hT hf hb h
  | frz h hr ih => exact fnOk_frz hr ih
  | gcF ρ hn hρ h ih => exact fnOk_gcF hn hρ ih
  | @forget c st st2 o he ho hk h' ih =>
    cases o with
    | fn r σ => trivial
    | code e st3 =>
    obtain ⟨⟨i1, i2⟩, i3⟩ := ih
    refine ⟨⟨i1.trans hk, ?_⟩, ?_⟩
    · intro nt cc htr M w0 D0 D a w hs Q hQ
      exact i2 nt cc htr M w0 D0 _ a w (hs.forget he ho hk) Q hQ
    · intro x hx nt cc htr M w0 D0 D a w hs Q hQ
      exact i3 x hx nt cc htr M w0 D0 _ a w (hs.forget he ho hk) Q hQ
  | @re c st st2 o W h h' ih =>
    cases o with
    | fn r σ => trivial
    | code e st3 =>
    obtain ⟨⟨i1, i2⟩, i3⟩ := ih
    refine ⟨⟨i1.trans h.keep, ?_⟩, ?_⟩
    · intro nt cc htr M w0 D0 D a w hs Q hQ
      exact i2 nt cc htr M w0 D0 _ a w (hs.re h) Q hQ
    · intro x hx nt cc htr M w0 D0 D a w hs Q hQ
      exact i3 x hx nt cc htr M w0 D0 _ a w (hs.re h) Q hQ
  | reF W ha h hs hr ih => exact fnOk_reF ha hs hr ih
  | laxF ha h hr ih => exact fnOk_laxF ha hr ih
end
end Go.Ml
end
section
set_option linter.unusedSimpArgs false
set_option linter.unusedVariables false
namespace Go.Ml
open Go.ChangeShapes Go.WideShapes Go.ChangeAt Go.RowKit
def nuOf : List (Nat × Nat × Fn) → Nat → Option Nat
  | [], _ => none
  | x :: l, i => if x.1 = i then some x.2.1 else nuOf l i
def tbOf : List (Nat × Nat × Fn) → Nat → Option Fn
  | [], _ => none
  | x :: l, k => if x.2.1 = k then some x.2.2 else tbOf l k
theorem nuOf_mem : ∀ {l : List (Nat × Nat × Fn)} {i k : Nat}, nuOf l i = some k → ∃ x ∈ l, x.1 = i ∧ x.2.1 = k
  | [], _, _, h => by simp [nuOf] at h
  | x :: l, i, k, h => by
    simp only [nuOf] at h
    split at h
    · rename_i e; exact ⟨x, by simp, e, by simpa using h⟩
    · obtain ⟨y, hy, e⟩ := nuOf_mem h; exact ⟨y, by simp [hy], e⟩
theorem tbOf_mem : ∀ {l : List (Nat × Nat × Fn)} {k : Nat} {F : Fn}, tbOf l k = some F → ∃ x ∈ l, x.2.1 = k ∧ x.2.2 = F
  | [], _, _, h => by simp [tbOf] at h
  | x :: l, i, k, h => by
    simp only [tbOf] at h
    split at h
    · rename_i e; exact ⟨x, by simp, e, by simpa using h⟩
    · obtain ⟨y, hy, e⟩ := tbOf_mem h; exact ⟨y, by simp [hy], e⟩
theorem eq_of_nodup_map {α β : Type} {f : α → β} : ∀ {l : List α}, (l.map f).Nodup → ∀ {x y}, x ∈ l → y ∈ l → f x = f y → x = y
  | [], _, _, _, h, _, _ => by cases h
  | a :: l, hn, x, y, hx, hy, e => by
    simp only [List.map_cons, List.nodup_cons] at hn
    rcases List.mem_cons.1 hx with rfl | hx' <;> rcases List.mem_cons.1 hy with rfl | hy'
    · rfl
    · exact absurd (e ▸ List.mem_map_of_mem hy') hn.1
    · exact absurd (e ▸ List.mem_map_of_mem hx') hn.1
    · exact eq_of_nodup_map hn.2 hx' hy' e
theorem fits_of {P : Program} {l : List (Nat × Nat × Fn)} (hnd : (l.map (·.2.1)).Nodup) (h : ∀ x ∈ l, (∃ fn, P.funcs[x.1]? = some fn ∧ trFn P (nuOf l) fn = some x.2.2) ∨ ∃ o, x.2.2.body = .lib o ∧ OutOk P x.1 o) : Fits P (nuOf l) (tbOf l) := by
  intro fid f F h1 h2
  obtain ⟨x, hx, e1, e2⟩ := nuOf_mem h1
  obtain ⟨y, hy, e3, e4⟩ := tbOf_mem h2
  have : x = y := eq_of_nodup_map hnd hx hy (e2.trans e3.symm)
  subst this
  rw [← e1, ← e4]
  exact h x hx
theorem calls_of {P : Program} {l : List (Nat × Nat × Fn)} (hm : P.follows .mixedOrders = true) (hT : Fits P (nuOf l) (tbOf l)) {f fid : Nat} {args : List V} {r : V} (h : PF (tbOf l) f args r) (hf : nuOf l fid = some f)
    {w : World} {vals : Array Value} (hr : rdL w DM.none (fun _ => False) args vals.toList) :
    Calls P fid vals w fun e w' => (∃ v D X, e = .returned v ∧ rd w' D X r v) ∧ Below w.heap.size w w' := by
  have hs := sound hm hT h
  have hX : XS (fun _ => False) DM.none = fun _ => False := by
    funext b; simp [XS, DM.none]
  refine (hs fid hf w (fun _ => False) DM.none vals (by rw [hX]; exact hr) ⟨?_, ?_, ?_, ?_, ?_⟩).mono fun e w' hp => ?_
  · intro o d h; cases h
  · intro o ob h; simp [objAt] at h
  · intro o o' d d' h; cases h
  · intro o _; rfl
  · intro b h; exact h.elim
  · obtain ⟨v, D', e1, e2, e3, e4, _⟩ := hp
    refine ⟨⟨v, D', _, e1, e2⟩, ⟨e4.os, e4.tape, e4.output, e4.size, fun k hk => e4.block k hk ?_⟩⟩
    rintro ⟨o, d, h, _⟩; cases h
theorem calls_true {P : Program} {l : List (Nat × Nat × Fn)} (hm : P.follows .mixedOrders = true) (hT : Fits P (nuOf l) (tbOf l)) {f fid : Nat} {args : List V} (h : PF (tbOf l) f args (.bool true)) (hf : nuOf l fid = some f)
    {w : World} {vals : Array Value} (hr : rdL w DM.none (fun _ => False) args vals.toList) :
    Calls P fid vals w fun e w' => e = .returned (.bool true) ∧ Below w.heap.size w w' :=
  (calls_of hm hT h hf hr).mono fun e w' hp => by
    obtain ⟨⟨v, D, X, rfl, e2⟩, hb⟩ := hp
    have : v = .bool true := by simpa [rd] using e2
    exact ⟨by rw [this], hb⟩
end Go.Ml
end
section
set_option linter.unusedSimpArgs false
set_option linter.unusedVariables false
namespace Go.Ml
open Go.ChangeShapes Go.WideShapes Go.ChangeAt Go.RowKit
inductive Lf where
  | int (k : IntKind)
  | bool
  | str
  | sl (row : List Lf)
mutual
def Mt : Lf → V → Prop
  | .int k, v => ∃ n, v = .int k n ∧ (Lit.int k n).wf = true
  | .bool, v => ∃ b, v = .bool b
  | .str, v => ∃ s, v = .str s ∧ s.length ≤ maxLen
  | .sl row, v => ∃ rows : List (List V), v = .sl row.length rows ∧ rows.length ≤ maxLen ∧ ∀ r ∈ rows, MtL row r
def MtL : List Lf → List V → Prop
  | [], vs => vs = []
  | l :: ls, vs => ∃ v vs', vs = v :: vs' ∧ Mt l v ∧ MtL ls vs'
end
def shFs (P : Program) (sh : TypeId → Option (List Lf)) : List Field → Nat → Option (List Lf)
  | [], _ => some []
  | f :: fs, off => match sh f.type, shFs P sh fs (off + P.cellsOf f.type) with
    | some r, some rs => if f.offset = off ∧ r.length = P.cellsOf f.type then some (r ++ rs) else none
    | _, _ => none
def shapeOf (P : Program) : Nat → TypeId → Option (List Lf)
  | 0, _ => none
  | n + 1, t => match P.underlying t with
    | some (.int k) => some [.int k]
    | some .bool => some [.bool]
    | some .string => some [.str]
    | some (.slice e) => match shapeOf P n e with
      | some r => if r.length = P.cellsOf e ∧ 0 < r.length then some [.sl r] else none
      | none => none
    | some (.struct fs) => match shFs P (shapeOf P n) fs.toList 0 with
      | some r => if r.length = P.cellsOf t then some r else none
      | none => none
    | _ => none
theorem mtL_append {l1 l2 : List Lf} {v1 v2 : List V} (h1 : MtL l1 v1) (h2 : MtL l2 v2) : MtL (l1 ++ l2) (v1 ++ v2) := by
  induction l1 generalizing v1 with
  | nil => simp only [MtL] at h1; subst h1; simpa using h2
  | cons l l1 ih =>
    simp only [MtL] at h1
    obtain ⟨v, vs, rfl, a, b⟩ := h1
    simp only [List.cons_append, MtL]
    exact ⟨v, vs ++ v2, rfl, a, ih b⟩
theorem mtL_len {l : List Lf} {v : List V} (h : MtL l v) : v.length = l.length := by
  induction l generalizing v with
  | nil => simp only [MtL] at h; subst h; rfl
  | cons x l ih =>
    simp only [MtL] at h
    obtain ⟨v, vs, rfl, a, b⟩ := h
    simp [ih b]
theorem mt_leaf : ∀ {l : Lf} {v : V}, Mt l v → v.leaf = true := by
  intro l v h
  cases l <;> simp only [Mt] at h
  · obtain ⟨n, rfl, _⟩ := h; rfl
  · obtain ⟨b, rfl⟩ := h; rfl
  · obtain ⟨s, rfl, _⟩ := h; rfl
  · obtain ⟨rows, rfl, _⟩ := h; rfl
theorem mtL_leaf {l : List Lf} {v : List V} (h : MtL l v) : ∀ x ∈ v, x.leaf = true := by
  induction l generalizing v with
  | nil => simp only [MtL] at h; subst h; intro x hx; cases hx
  | cons y l ih =>
    simp only [MtL] at h
    obtain ⟨v, vs, rfl, a, b⟩ := h
    intro x hx
    rcases List.mem_cons.1 hx with rfl | hx
    · exact mt_leaf a
    · exact ih b x hx
theorem rdRows_of {w : World} {D : DM} {X : Nat → Prop} {b sz : Nat} : ∀ (off : Nat) (rows : List (List V)),
    (∀ i r, rows[i]? = some r → r.length = sz ∧ rdCells w D X b (off + i * sz) r) → rdRows w D X b sz off rows
  | _, [], _ => by simp [rdRows]
  | off, r :: rows, h => by
    simp only [rdRows]
    have h0 := h 0 r rfl
    refine ⟨h0.1, by simpa using h0.2, rdRows_of (off + sz) rows fun i r' hi => ?_⟩
    have := h (i + 1) r' (by simpa using hi)
    rwa [show off + (i + 1) * sz = off + sz + i * sz by rw [Nat.succ_mul]; omega] at this
theorem rdCells_of_rdL {w : World} {D : DM} {X : Nat → Prop} {b : Nat} : ∀ (off : Nat) (vs : List V) (cs : List Value), rdL w D X vs cs → (∀ x ∈ vs, x.leaf = true) →
    (∀ i, i < cs.length → w.cell? ⟨b, off + i, none⟩ = cs[i]?) → rdCells w D X b off vs
  | _, [], _, _, _, _ => by simp [rdCells]
  | off, v :: vs, cs, h, hl, hc => by
    simp only [rdL] at h
    obtain ⟨y, ys, rfl, h1, h2⟩ := h
    simp only [rdCells]
    refine ⟨hl v (by simp), ⟨y, by simpa using hc 0 (by simp), h1⟩, rdCells_of_rdL (off + 1) vs ys h2 (fun x hx => hl x (by simp [hx])) fun i hi => ?_⟩
    have := hc (i + 1) (by simpa using hi)
    rw [show off + 1 + i = off + (i + 1) by omega, this]
    simp
section
variable {H : Type} {enc : TypeId × Value → H} {P : Program} {w : World}
theorem shape_rd : ∀ (n : Nat) {t : TypeId} {L : List Lf} {fuel : Nat} {cs : List Value} {x : DataW H × List MemPlace}, shapeOf P n t = some L →
    DataW.trod enc P w 0 (fun _ => true) true fuel t cs = some x → ∃ vs, MtL L vs ∧ rdL w DM.none (fun _ => False) vs cs
  | 0, t, L, fuel, cs, x, h, _ => by simp [shapeOf] at h
  | n + 1, t, L, fuel, cs, x, h, hx => by
    cases fuel with
    | zero => simp [DataW.trod] at hx
    | succ fuel =>
    simp only [shapeOf] at h
    split at h
    · rename_i k hu
      simp only [Option.some.injEq] at h; subst h
      obtain ⟨m, rfl, _, hw⟩ := DataW.trod_int hu hx
      exact ⟨[.int k m], by simp [MtL, Mt, hw], by simp [rdL, rd]⟩
    · rename_i hu
      simp only [Option.some.injEq] at h; subst h
      rw [DataW.trod_step] at hx
      unfold DataW.trodStep at hx
      rw [hu] at hx
      split at hx <;> simp_all
      rename_i b
      exact ⟨[.bool b], by simp [MtL, Mt], by simp [rdL, rd]⟩
    · rename_i hu
      simp only [Option.some.injEq] at h; subst h
      rw [DataW.trod_step] at hx
      unfold DataW.trodStep at hx
      rw [hu] at hx
      split at hx <;> simp_all
      rename_i s
      exact ⟨[.str s.data.toList], by simp [MtL, Mt]; exact hx.1, by simp [rdL, rd]⟩
    · rename_i e hu
      split at h <;> first | (cases h; done) | skip
      rename_i r hr
      split at h <;> first | (cases h; done) | skip
      rename_i hsz
      simp only [Option.some.injEq] at h; subst h
      rcases DataW.trod_slice hu hx with ⟨rfl, _⟩ | ⟨a, len, cap, elems, rest, m, _, rfl, _, hb, hl, hm, hlen, hel, _, _⟩
      · exact ⟨[.sl r.length []], by simp [MtL, Mt], by simp only [rdL, rd]; exact ⟨_, [], rfl, ⟨none, 0, rfl, Nat.le_refl _, .inl (by trivial)⟩, rfl⟩⟩
      · have hel' : ∀ i, i < len → ∃ cs', w.cells? 0 (a.add (i * P.cellsOf e)) (P.cellsOf e) = some cs' ∧ ∃ vs, MtL r vs ∧ rdL w DM.none (fun _ => False) vs cs' := by
          intro i hi
          have h1 := hel i hi
          have h2 : elems[i]? = some (elems[i]'(by omega)) := List.getElem?_eq_getElem (by omega)
          rw [h2, Option.bind_eq_some_iff] at h1
          obtain ⟨cs', k1, k2⟩ := h1
          exact ⟨cs', k1, shape_rd n hr k2⟩
        have hch : ∀ i, ∃ p : List Value × List V, i < len → w.cells? 0 (a.add (i * P.cellsOf e)) (P.cellsOf e) = some p.1 ∧ MtL r p.2 ∧ rdL w DM.none (fun _ => False) p.2 p.1 := by
          intro i
          by_cases hi : i < len
          · obtain ⟨cs', k1, vs, k2, k3⟩ := hel' i hi
            exact ⟨(cs', vs), fun _ => ⟨k1, k2, k3⟩⟩
          · exact ⟨([], []), fun h => absurd h hi⟩
        obtain ⟨f, hf⟩ := Classical.axiomOfChoice hch
        have hrow : ∀ i vs, ((List.range len).map fun i => (f i).2)[i]? = some vs → i < len ∧ vs = (f i).2 := by
          intro i vs hi
          rw [List.getElem?_map, Option.map_eq_some_iff] at hi
          obtain ⟨j, h1, h2⟩ := hi
          obtain ⟨h3, h4⟩ := List.getElem?_eq_some_iff.1 h1
          rw [List.getElem_range] at h4
          subst h4
          exact ⟨by simpa using h3, h2.symm⟩
        refine ⟨[.sl r.length ((List.range len).map fun i => (f i).2)], ?_, ?_⟩
        · simp only [MtL, Mt]
          refine ⟨_, [], rfl, ⟨_, rfl, by simp; exact Nat.le_trans hl hm, fun rr hrr => ?_⟩, rfl⟩
          obtain ⟨i, hi⟩ := List.mem_iff_getElem?.1 hrr
          obtain ⟨h1, rfl⟩ := hrow i rr hi
          exact (hf i h1).2.1
        · simp only [rdL, rd]
          refine ⟨_, [], rfl, ⟨some a, cap, by simp, by simpa using hl, ?_⟩, rfl⟩
          by_cases h0 : len = 0
          · left; subst h0; rfl
          · right
            obtain ⟨b, off, spot⟩ := a
            have hspot : spot = none := by
              obtain ⟨_, _, hc⟩ := World.cells?_some (hf 0 (by omega)).1
              have hlen0 := (World.cells?_some (hf 0 (by omega)).1).2.1
              have hc0 := hc 0 (by omega)
              have hlt0 : 0 < (f 0).1.length := by omega
              rw [List.getElem?_eq_getElem hlt0] at hc0
              simpa [Addr.add] using World.cell?_spot hc0
            subst hspot
            have hb' : b < w.heap.size := by
              have := World.cells?_block (hf 0 (by omega)).1 (by omega)
              simpa [Addr.add] using this
            refine ⟨b, off, rfl, hb', fun h => h, rdRows_of _ _ fun i rr hi => ?_⟩
            obtain ⟨h1, rfl⟩ := hrow i rr hi
            obtain ⟨g1, g2, g3⟩ := hf i h1
            obtain ⟨_, hl2, hc⟩ := World.cells?_some g1
            refine ⟨mtL_len g2, rdCells_of_rdL _ _ _ g3 (mtL_leaf g2) fun j hj => ?_⟩
            have := hc j (by omega)
            rw [← this, hsz.1]
            congr 1
            simp only [addr_add]
    · rename_i fs hu
      split at h <;> first | (cases h; done) | skip
      rename_i r hr
      split at h <;> first | (cases h; done) | skip
      rename_i hsz
      simp only [Option.some.injEq] at h; subst h
      rw [DataW.trod_step] at hx
      unfold DataW.trodStep at hx
      rw [hu] at hx
      simp only [] at hx
      split at hx <;> first | (cases hx; done) | skip
      rename_i hlen
      rw [Option.map_eq_some_iff] at hx
      obtain ⟨xs, hxs, _⟩ := hx
      have key : ∀ (fl : List Field) (off : Nat) (r : List Lf) (xs : List (DataW H × List MemPlace)), shFs P (shapeOf P n) fl off = some r →
          (fl.mapM fun f => DataW.trod enc P w 0 (fun _ => true) true fuel f.type ((cs.drop f.offset).take (P.cellsOf f.type))) = some xs →
          ∃ vs, MtL r vs ∧ rdL w DM.none (fun _ => False) vs ((cs.drop off).take r.length) := by
        intro fl
        induction fl with
        | nil =>
          intro off r xs h _
          simp only [shFs, Option.some.injEq] at h; subst h
          exact ⟨[], by simp [MtL], by simp [rdL]⟩
        | cons f fl ih =>
          intro off r xs h hm
          simp only [shFs] at h
          split at h <;> first | (cases h; done) | skip
          rename_i r1 rs h1 h2
          split at h <;> first | (cases h; done) | skip
          rename_i hc
          simp only [Option.some.injEq] at h; subst h
          simp only [List.mapM_cons, Option.pure_def, Option.bind_eq_bind, Option.bind_eq_some_iff, Option.some.injEq] at hm
          obtain ⟨y, hy, ys, hys, rfl⟩ := hm
          obtain ⟨v1, a1, a2⟩ := shape_rd n h1 hy
          obtain ⟨v2, b1, b2⟩ := ih _ rs ys h2 hys
          refine ⟨v1 ++ v2, mtL_append a1 b1, ?_⟩
          have e : (cs.drop off).take (r1 ++ rs).length = (cs.drop off).take r1.length ++ (cs.drop (off + P.cellsOf f.type)).take rs.length := by
            rw [List.length_append, List.take_add, List.drop_drop, hc.2]
          rw [e]
          rw [hc.1, ← hc.2] at a2
          exact rdL_append _ _ _ _ a2 b2
      obtain ⟨vs, a1, a2⟩ := key fs.toList 0 r xs hr hxs
      refine ⟨vs, a1, ?_⟩
      rw [List.drop_zero, List.take_of_length_le (by omega)] at a2
      exact a2
    · cases h
theorem shape_in (n : Nat) {t : TypeId} {L : List Lf} {v : Value} {d : DataW H} {ps : List MemPlace} (hs : shapeOf P n t = some L) (h : DataW.Trod enc P w 0 (fun _ => true) true t v d ps) :
    ∃ vs, MtL L vs ∧ rdL w DM.none (fun _ => False) vs v.cells.toList := by
  obtain ⟨fuel, hf⟩ := h
  exact shape_rd n hs hf
end
end Go.Ml
namespace Go.Ml
open Go.ChangeShapes Go.WideShapes Go.ChangeAt Go.RowKit
def argV (g : Bool) (vs : List V) : V := if g = true then .agg vs else vs.headD .any
def ArgsMt : List (Bool × List Lf) → List V → Prop
  | [], vs => vs = []
  | s :: ss, vs => ∃ cs rest, vs = argV s.1 cs :: rest ∧ MtL s.2 cs ∧ ArgsMt ss rest
def argOk (P : Program) (t : TypeId) (s : Bool × List Lf) : Bool :=
  match P.underlying t with
  | some (.struct _) => s.1
  | some (.int _) | some .bool | some .string | some (.slice _) => !s.1
  | _ => false
def argsOk (P : Program) : List TypeId → List (Bool × List Lf) → Prop
  | [], ss => ss = []
  | t :: ts, ss => ∃ s rest, ss = s :: rest ∧ shapeOf P 20 t = some s.2 ∧ argOk P t s = true ∧ argsOk P ts rest
theorem args_in {H : Type} {enc : TypeId × Value → H} {P : Program} {w : World} {r : Reach} {b : Nat} : ∀ {ts : List TypeId} {ss : List (Bool × List Lf)} {vs : List Value} {ds : List (DataW H)} {ps : List MemPlace},
    argsOk P ts ss → (∀ (j : Nat) t v, ts[j]? = some t → vs[j]? = some v → Value.okWide P w r b t v) → DataW.TrodAll enc P w 0 (fun _ => true) true ts vs ds ps →
    ∃ Vs, ArgsMt ss Vs ∧ rdL w DM.none (fun _ => False) Vs vs
  | [], ss, [], ds, ps, h, _, _ => by simp only [argsOk] at h; subst h; exact ⟨[], rfl, by simp [rdL]⟩
  | [], _, _ :: _, ds, ps, _, _, ht => by cases ds <;> exact ht.elim
  | _ :: _, _, [], ds, ps, _, _, ht => by cases ds <;> exact ht.elim
  | t :: ts, ss, v :: vs, [], ps, _, _, ht => ht.elim
  | t :: ts, ss, v :: vs, d :: ds, ps, h, hw, ht => by
    simp only [argsOk] at h
    obtain ⟨s, rest, rfl, h1, h2, h3⟩ := h
    obtain ⟨p, q, k1, k2, _⟩ := ht
    obtain ⟨Vs, a1, a2⟩ := args_in h3 (fun j t' v' hj hv => hw (j + 1) t' v' (by simpa using hj) (by simpa using hv)) k2
    obtain ⟨cs, c1, c2⟩ := shape_in 20 h1 k1
    have hok := hw 0 t v rfl rfl
    refine ⟨argV s.1 cs :: Vs, ⟨cs, Vs, rfl, c1, a1⟩, ?_⟩
    simp only [rdL]
    refine ⟨v, vs, rfl, ?_, a2⟩
    unfold argOk at h2
    have one : (∀ cs', v ≠ .agg cs') → s.1 = false → s.2.length = 1 → rd w DM.none (fun _ => False) (argV s.1 cs) v := by
      intro hv hs hl
      have hvc : v.cells.toList = [v] := by cases v <;> first | rfl | (exact absurd rfl (hv _))
      rw [hvc] at c2
      have := mtL_len c1
      rw [hl] at this
      cases cs with
      | nil => simp at this
      | cons x xs =>
        simp only [rdL] at c2
        obtain ⟨y, ys, e, e2, _⟩ := c2
        simp only [List.cons.injEq] at e
        rw [hs]
        simp only [argV, Bool.false_eq_true, if_false, List.headD_cons]
        rw [e.1]; exact e2
    unfold shapeOf at h1
    split at h2
    · rename_i fs hu
      rw [h2]
      simp only [Value.okWide, hu] at hok
      obtain ⟨cs', rfl, _⟩ := hok
      simp only [argV, if_true, rd]
      exact ⟨cs', rfl, c2⟩
    · rename_i k hu
      rw [hu] at h1
      simp only [Option.some.injEq] at h1
      obtain ⟨n, rfl⟩ := okWide_int hu hok
      exact one (by intro cs' e; cases e) (by simpa using h2) (by rw [← h1]; rfl)
    · rename_i hu
      rw [hu] at h1
      simp only [Option.some.injEq] at h1
      obtain ⟨n, rfl⟩ := okWide_bool hu hok
      exact one (by intro cs' e; cases e) (by simpa using h2) (by rw [← h1]; rfl)
    · rename_i hu
      rw [hu] at h1
      simp only [Option.some.injEq] at h1
      obtain ⟨n, rfl⟩ := okWide_string hu hok
      exact one (by intro cs' e; cases e) (by simpa using h2) (by rw [← h1]; rfl)
    · rename_i e hu
      rw [hu] at h1
      simp only [] at h1
      obtain ⟨a0, l0, c0, rfl⟩ := okWide_slice hu hok
      refine one (by intro cs' e; cases e) (by simpa using h2) ?_
      split at h1 <;> first | (cases h1; done) | skip
      split at h1 <;> first | (cases h1; done) | skip
      simp only [Option.some.injEq] at h1
      rw [← h1]; rfl
    · cases h2
theorem trodAll_below {H : Type} {enc : TypeId × Value → H} {P : Program} (hl : laidOutB P = true) {W W' : World} (hb : Below W.heap.size W W') : ∀ {ts : List TypeId} {vs : List Value} {ds : List (DataW H)} {ps : List MemPlace},
    (ts.all fun t => P.readableRec t && decide (t < P.types.size)) = true → DataW.TrodAll enc P W 0 (fun _ => true) true ts vs ds ps → (∀ x ∈ ps, x.block < W.heap.size) →
    DataW.TrodAll enc P W' 0 (fun b => decide (b < W.heap.size)) true ts vs ds ps
  | [], [], [], ps, _, h, _ => h
  | [], _ :: _, ds, ps, _, ht, _ => by cases ds <;> exact ht.elim
  | [], [], _ :: _, ps, _, ht, _ => ht.elim
  | _ :: _, [], ds, ps, _, ht, _ => by cases ds <;> exact ht.elim
  | t :: ts, v :: vs, [], ps, _, ht, _ => ht.elim
  | t :: ts, v :: vs, d :: ds, ps, h, ht, hlt => by
    simp only [List.all_cons, Bool.and_eq_true, decide_eq_true_eq] at h
    obtain ⟨p, q, k1, k2, rfl⟩ := ht
    exact ⟨p, q, Below.trod hl h.1.1 h.1.2 k1 hb fun x hx => hlt x (by simp [hx]), trodAll_below hl hb (by simpa using h.2) k2 fun x hx => hlt x (by simp [hx]), rfl⟩
end Go.Ml
end
section
set_option linter.unusedSimpArgs false
set_option linter.unusedVariables false
namespace Go.Ml
theorem dec_list {α : Type} {row : List Lf} {f : α → List V} {W : α → Prop} (h : ∀ r, MtL row r → ∃ x, r = f x ∧ W x) {v : V} (hv : Mt (.sl row) v) : ∃ l : List α, v = .sl row.length (l.map f) ∧ wfL W l := by
  simp only [Mt] at hv
  obtain ⟨rows, rfl, hl, hr⟩ := hv
  have key : ∀ rows : List (List V), (∀ r ∈ rows, MtL row r) → ∃ l : List α, rows = l.map f ∧ ∀ x ∈ l, W x := by
    intro rows
    induction rows with
    | nil => intro _; exact ⟨[], rfl, by simp⟩
    | cons r rows ih =>
      intro hr
      obtain ⟨x, rfl, hx⟩ := h r (hr r (by simp))
      obtain ⟨l, rfl, hl⟩ := ih fun r hr' => hr r (by simp [hr'])
      exact ⟨x :: l, rfl, by simpa using ⟨hx, hl⟩⟩
  obtain ⟨l, rfl, hw⟩ := key rows hr
  exact ⟨l, rfl, by simpa [maxLen] using hl, hw⟩
theorem dec_one {l : Lf} {r : List V} (h : MtL [l] r) : ∃ v, r = [v] ∧ Mt l v := by
  simp only [MtL] at h
  obtain ⟨v, vs, rfl, h1, rfl⟩ := h
  exact ⟨v, rfl, h1⟩
theorem dec_bytes {v : V} (h : Mt (.sl [.int .u8]) v) : ∃ l : List UInt8, v = .sl 1 (l.map fun b => [.int .u8 b.toNat]) ∧ l.length ≤ 9223372036854775807 := by
  obtain ⟨l, rfl, hl⟩ := dec_list (f := fun b : UInt8 => [V.int .u8 b.toNat]) (W := fun _ => True) (fun r hr => by
    obtain ⟨v, rfl, g⟩ := dec_one hr
    simp only [Mt] at g
    obtain ⟨n, rfl, hn⟩ := g
    simp only [Lit.wf, Bool.and_eq_true, decide_eq_true_eq] at hn
    have h1 : IntKind.u8.min = 0 := by decide
    have h2 : IntKind.u8.max = 255 := by decide
    rw [h1, h2] at hn
    refine ⟨UInt8.ofNat n.toNat, ?_, trivial⟩
    have e : (((UInt8.ofNat n.toNat).toNat : Nat) : Int) = n := by
      rw [UInt8.toNat_ofNat', Nat.mod_eq_of_lt (by omega)]; omega
    rw [e]) h
  exact ⟨l, rfl, hl.1⟩
def AllP {α : Type} (P : α → Prop) : List α → Prop
  | [] => True
  | x :: l => P x ∧ AllP P l
theorem AllP.mem {α : Type} {P : α → Prop} : ∀ {l : List α}, AllP P l → ∀ x ∈ l, P x
  | [], _, x, hx => by cases hx
  | y :: l, h, x, hx => by
    rcases List.mem_cons.1 hx with rfl | hx
    · exact h.1
    · exact AllP.mem h.2 x hx
end Go.Ml
namespace Go.Ml
theorem trod_len {H : Type} {enc : TypeId × Value → H} {P : Program} {w : World} {b : Nat} {sp : Nat → Bool} {hd : Bool} : ∀ {ts : List TypeId} {vs : List Value} {ds : List (DataW H)} {ps : List MemPlace},
    DataW.TrodAll enc P w b sp hd ts vs ds ps → ds.length = ts.length
  | [], [], [], _, _ => rfl
  | [], [], _ :: _, _, h => h.elim
  | [], _ :: _, ds, _, h => by cases ds <;> exact h.elim
  | _ :: _, [], ds, _, h => by cases ds <;> exact h.elim
  | _ :: _, _ :: _, [], _, h => h.elim
  | t :: ts, v :: vs, d :: ds, ps, h => by
    obtain ⟨p, q, _, h2, _⟩ := h
    simp [trod_len h2]
end Go.Ml
end
