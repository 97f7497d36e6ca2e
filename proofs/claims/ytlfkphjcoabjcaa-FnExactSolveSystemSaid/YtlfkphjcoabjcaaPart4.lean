/- A small language for the functions of this claim, its soundness, contracts. -/
import Derived.Test.YtlfkphjcoabjcaaPart3
section
set_option linter.unusedSimpArgs false
set_option linter.unusedVariables false
set_option maxRecDepth 100000
set_option maxHeartbeats 8000000
namespace Go.Ml
structure SubI (s0 s : Store) (ri : Nat) (box : Obj) (A : List (List V)) (Z : List R) (j : Nat) (N : List (List V)) (os : List Nat) : Prop where
  row : objAt s ri = some ⟨3, N ++ A.drop j⟩
  nl : N.length = j
  ow : OwR s N ((Z.take j).map R.cells) os
  nd : os.Nodup
  fr : ∀ o ∈ os, s0.length ≤ o
  old : ∀ o, o < s0.length → o ≠ ri → objAt s o = objAt s0 o
  bx : objAt s s0.length = some box
  len : s0.length < s.length
section
variable {s0 s : Store} {ri : Nat} {box : Obj} {A : List (List V)} {Z : List R} {j : Nat} {N : List (List V)} {os : List Nat}
theorem subI_init (hi : objAt s0 ri = some ⟨3, A⟩) : SubI s0 (s0 ++ [some box]) ri box A Z 0 [] [] :=
  ⟨(objAt_snoc_lt (objAt_lt hi)).trans (by rw [List.nil_append, List.drop_zero]; exact hi), rfl, by simp [OwR], .nil, by simp, fun o ho _ => objAt_snoc_lt ho, objAt_snoc _ _, by simp⟩
theorem SubI.kp (I : SubI s0 s ri box A Z j N os) (hi : objAt s0 ri = some ⟨3, A⟩) : Kp s0 s := fun o l e => I.old o (objAt_lt e) fun e2 => by rw [e2, hi] at e; cases e
theorem SubI.at (I : SubI s0 s ri box A Z j N os) (hj : j < A.length) : (N ++ A.drop j)[j]? = some (A.getD j []) := by
  rw [List.getElem?_append_right (by rw [I.nl]; exact Nat.le_refl _), I.nl, Nat.sub_self, List.getElem?_drop, Nat.add_zero, List.getD_eq_getElem?_getD, List.getElem?_eq_getElem hj]; rfl
theorem SubI.step (I : SubI s0 s ri box A Z j N os) (hri : ri < s0.length) (hj : j < A.length) (hjZ : j < Z.length) {z : R} (hz : Z.getD j default = z) {q3 : Store} {c : List V} {o3 : List Nat} (old : ∀ o, o < s.length → objAt q3 o = objAt s o) (len : s.length ≤ q3.length)
    (ho : OwL q3 c z.cells o3) (nd3 : o3.Nodup) (fr3 : ∀ o ∈ o3, s.length ≤ o) : SubI s0 (q3.set ri (some ⟨3, (N ++ A.drop j).set j c⟩)) ri box A Z (j + 1) (N ++ [c]) (os ++ o3) := by
  have hl := I.len
  have ne : ∀ o, ri ≠ o → objAt (q3.set ri (some ⟨3, (N ++ A.drop j).set j c⟩)) o = objAt q3 o := fun o h => objAt_setne fun e => h e.symm
  have e1 : (N ++ A.drop j).set j c = (N ++ [c]) ++ A.drop (j + 1) := by
    rw [List.set_append_right _ _ (by rw [I.nl]; exact Nat.le_refl _), I.nl, Nat.sub_self, List.drop_eq_getElem_cons hj, List.set_cons_zero, List.append_assoc]; rfl
  refine ⟨?_, by simp [I.nl], ?_, ?_, fun o h => ?_, fun o h1 h2 => ?_, ?_, by simp; omega⟩
  · rw [objAt_seteq (by omega), e1]
  · rw [take_snoc hjZ, List.map_append, hz]
    refine owR_append (I.ow.frame fun o h => ?_) (owR_1 (ho.frame fun o h => ?_))
    · have h1 := I.fr o h
      rw [ne o (by omega), old o (I.ow.lt o h)]
    · have := fr3 o h
      rw [ne o (by omega)]
  · rw [List.nodup_append]
    refine ⟨I.nd, nd3, fun x hx y hy e => ?_⟩
    have := I.ow.lt x hx
    have := fr3 y hy
    omega
  · rcases List.mem_append.1 h with h | h
    · exact I.fr o h
    · have := fr3 o h; omega
  · rw [ne o (fun e => h2 e.symm), old o (by omega), I.old o h1 h2]
  · rw [ne _ (by omega), old _ (by omega), I.bx]
theorem SubI.fin (I : SubI s0 s ri box A Z j N os) (h1 : j = A.length) (h2 : j = Z.length) : objAt s ri = some ⟨3, N⟩ ∧ OwR s N (Z.map R.cells) os := by
  have a := I.row
  have b := I.ow
  rw [h1, List.drop_length, List.append_nil] at a
  rw [h2, List.take_length] at b
  exact ⟨a, b⟩
end
theorem LimbOk.r11 {s : Store} {v : V} {l : List Int} (h : LimbOk s v l) : resolve s 11 v = some (ints l) := h.res 8
theorem LimbOk.rch {s : Store} {v : V} {l : List Int} (h : LimbOk s v l) : ∀ n, ∀ o ∈ reach s n v, ∃ l, objAt s o = some ⟨1, irows l⟩ := by
  intro n o ho
  rcases h with rfl | ⟨q, rfl, hq⟩
  · cases n <;> simp [reach] at ho
  · cases n with
    | zero => simp [reach] at ho
    | succ n =>
      simp only [reach, hq, List.mem_cons, List.mem_flatMap] at ho
      rcases ho with rfl | ⟨r, hr, c, hc, ho⟩
      · exact ⟨_, hq⟩
      · have hs := ir_still l r hr c hc
        cases n with
        | zero => simp [reach] at ho
        | succ n => rw [reach_still hs] at ho; cases ho
theorem CellOk.rch {s : Store} {c : List V} {x : R} (h : CellOk s c x) : ∀ n, ∀ o ∈ reach s n (.agg c), ∃ l, objAt s o = some ⟨1, irows l⟩ := by
  intro n o ho
  obtain ⟨v1, v2, rfl, h1, h2⟩ := h
  cases n with
  | zero => simp [reach] at ho
  | succ n =>
    rw [reach_agg] at ho
    obtain ⟨c, hc, ho⟩ := ho
    simp only [List.mem_cons, List.not_mem_nil, or_false] at hc
    rcases hc with rfl | rfl | rfl
    · cases n <;> simp [reach] at ho
    · exact h1.rch n o ho
    · exact h2.rch n o ho
theorem rn_subtractRow {T : Nat → Option Fn} (h : D_impl_subtractRow T) {s0 : Store} {ri rk : Nat} {A B : List (List V)} {X Y : List R} {f : R} {w1 w2 : V}
    (hi : objAt s0 ri = some ⟨3, A⟩) (hk : objAt s0 rk = some ⟨3, B⟩) (hne : ri ≠ rk) (hA : RowOk s0 A X) (hB : RowOk s0 B Y) (hl : Y.length = X.length) (hf1 : LimbOk s0 w1 f.mag) (hf2 : LimbOk s0 w2 f.den)
    (cX : ∀ x ∈ X, x.cn) (cY : ∀ x ∈ Y, x.cn) (cf : f.cn) (hX : X.length ≤ 1048576) :
    ∃ s' A' os, Run T (.fn 245 [.msl ri 0 X.length, .msl rk 0 X.length, .agg [.bool f.neg, w1, w2]] s0) (.fn (.bool ((rrSub X Y f).all R.ok)) s') ∧
      objAt s' ri = some ⟨3, A'⟩ ∧ OwR s' A' ((rrSub X Y f).map R.cells) os ∧ os.Nodup ∧ (∀ o ∈ os, s0.length ≤ o) ∧ (∀ o, o < s0.length → o ≠ ri → objAt s' o = objAt s0 o) ∧ s0.length ≤ s'.length := by
  have lw := And.intro hf1.leaf hf2.leaf
  have hZl := rrSub_len X Y f
  have hZc := rrSub_cn X Y f
  have hZa := fun j (hj : j < X.length) => rrSub_at X Y f hj
  have hri := objAt_lt hi
  have hrk := objAt_lt hk
  have hAl := hA.1
  have : ∃ r s', Run T (.fn 245 [.msl ri 0 X.length, .msl rk 0 X.length, .agg [.bool f.neg, w1, w2]] s0) (.fn r s') ∧ (r = .bool ((rrSub X Y f).all R.ok) ∧ ∃ A' os,
      objAt s' ri = some ⟨3, A'⟩ ∧ OwR s' A' ((rrSub X Y f).map R.cells) os ∧ os.Nodup ∧ (∀ o ∈ os, s0.length ≤ o) ∧ (∀ o, o < s0.length → o ≠ ri → objAt s' o = objAt s0 o) ∧ s0.length ≤ s'.length) := by
    generalize rrSub X Y f = Z at *
    obtain ⟨p, hp⟩ : ∃ p, p = s0.length := ⟨_, rfl⟩
    have hpri : ri ≠ p := by omega
    have hprk : rk ≠ p := by omega
    refine run_end (fun x d => x == 157 || x == 159) h.hT rfl rfl ?_
    dsimp only [F_impl_subtractRow, oN, oS, oG, oK, oA, oH, oV, cI, St.enter, List.length_cons, List.length_nil, Nat.zero_add]
    (refine ew ?_; try with_reducible exact True.intro)
    have hi1 : objAt (s0 ++ [some (⟨3, [[.bool f.neg, w1, w2]]⟩ : Obj)]) ri = some ⟨3, A⟩ := (objAt_snoc_lt hri).trans hi
    (refine ew2 @lw @hi ?_; try with_reducible exact True.intro)
    refine loop_at (fun x d => x == 157 || x == 159) (α := Nat × Store × List (List V) × List Nat) (fun q => ⟨argE [.msl ri 0 X.length, .msl rk 0 X.length, .any, .any, .any, .ptr s0.length 0 0, .any, .any, .msl ri 0 X.length, iv (X.length : Nat), iv (q.1 : Nat)], q.2.1, s0.length, 0, [], []⟩) (fun q => q.1 ≤ X.length ∧ SubI s0 q.2.1 ri ⟨3, [[.bool f.neg, w1, w2]]⟩ A Z q.1 q.2.2.1 q.2.2.2) (fun q => X.length - q.1) rfl (0, s0 ++ [some (⟨3, [[.bool f.neg, w1, w2]]⟩ : Obj)], [], []) ?_ ?_ ?_
    · exact ⟨by omega, subI_init hi⟩
    · (refine Fg_env ?_) <;> (try (refine ew ?_; try with_reducible exact True.intro)) <;> (repeat' (first | refine ⟨?_, ?_⟩ | exact EvV_int (by omega) | exact EvV_of (by simp) | exact EvV_nil _))
    · rintro ⟨j, s, N, os⟩ ⟨hj, I⟩
      dsimp only at hj I
      have hls := I.len
      have hbx := I.bx
      rw [← hp] at hbx ⊢
      by_cases hc : (j : Int) < (X.length : Nat)
      · have hjl : j < X.length := by omega
        obtain ⟨a1, a2, ea, ka1, ka2⟩ := hA.2 j hjl
        obtain ⟨b1, b2, eb, kb1, kb2⟩ := hB.2 j (by omega)
        have kp := I.kp hi
        have cx := cX _ (getD_mem hjl)
        have cy := cY _ (getD_mem (l := Y) (i := j) (by omega))
        have hz := hZa j hjl
        have gA := I.at (by omega)
        rw [ea] at gA
        have gB : B[j]? = some (B.getD j []) := by
          have hjB : j < B.length := by rw [hB.1]; omega
          rw [List.getD_eq_getElem?_getD, List.getElem?_eq_getElem hjB]; rfl
        rw [eb] at gB
        have orow := I.row
        have ork := (I.old rk hrk (fun e => hne e.symm)).trans hk
        have hrs : ri < s.length := by omega
        have hks : rk < s.length := by omega
        have hps : p < s.length := by omega
        replace kb1 := kb1.fr kp
        replace kb2 := kb2.fr kp
        have kw1 := hf1.fr kp
        have kw2 := hf2.fr kp
        replace ka1 := ka1.fr kp
        replace ka2 := ka2.fr kp
        generalize X.getD j default = x at *
        generalize Y.getD j default = y at *
        have stp := fun (q3 : Store) (c : List V) (o3 : List Nat) old len ho nd3 fr3 => I.step (q3 := q3) (c := c) (o3 := o3) hri (by omega) (by omega) hz old len ho nd3 fr3
        generalize hL : N ++ List.drop j A = L at *
        have R1 := And.intro (And.intro kb1.r11 kb2.r11) (And.intro kw1.r11 kw2.r11)
        (refine ew6 @hc (And.intro orow (And.intro ork hbx)) (And.intro gA gB) @R1 @numK_any @or_sc ?_; try with_reducible exact True.intro)
        refine OwnK_gotP (fun o => ∃ l, objAt s o = some ⟨1, irows l⟩) (show PO T 157 [ratV y, ratV f] (ratV (mulR y f)) from po_ratMulR h.d_impl_ratMul cy cf) (by (refine ew3 @R1 @numK_any @or_sc ?_; try with_reducible exact True.intro)) ?_ ?_
        · intro o ho
          have ho : o ∈ reach s (11 + 1) (.agg [.bool y.neg, b1, b2]) ++ (reach s (11 + 1) (.agg [.bool f.neg, w1, w2]) ++ []) := ho
          rw [List.append_nil] at ho
          rcases List.mem_append.1 ho with ho | ho
          · exact CellOk.rch ⟨_, _, rfl, kb1, kb2⟩ _ o ho
          · exact CellOk.rch ⟨_, _, rfl, kw1, kw2⟩ _ o ho
        intro Q1 r q2 o2 hQ1 G
        have hmc := mulR_cn y f
        generalize mulR y f = mm at *
        obtain ⟨_, rfl, hQ⟩ := G.ow.agg_inv
        obtain ⟨m1, m2, rfl⟩ := hQ.rat
        obtain ⟨v1, v2, e, km1, km2⟩ := (cell_ow hQ).1
        simp only [List.cons.injEq, and_true, true_and] at e
        obtain ⟨rfl, rfl⟩ := e
        have gl2 : s.length ≤ q2.length := G.len
        replace ka1 := ka1.fr (.old G.old)
        replace ka2 := ka2.fr (.old G.old)
        have R2 := And.intro (And.intro ka1.r11 ka2.r11) (And.intro km1.r11 km2.r11)
        (refine ew3 @R2 @numK_any @or_sc ?_; try with_reducible exact True.intro)
        refine OwnK_gotP (fun o => ∃ l, objAt q2 o = some ⟨1, irows l⟩) (show PO T 159 [ratV x, ratV mm] (ratV (subR x mm)) from po_ratSubR h.d_impl_ratSub cx hmc) (by (refine ew3 @R2 @numK_any @or_sc ?_; try with_reducible exact True.intro)) ?_ ?_
        · intro o ho
          have ho : o ∈ reach q2 (11 + 1) (.agg [.bool x.neg, a1, a2]) ++ (reach q2 (11 + 1) (.agg [.bool mm.neg, m1, m2]) ++ []) := ho
          rw [List.append_nil] at ho
          rcases List.mem_append.1 ho with ho | ho
          · exact CellOk.rch ⟨_, _, rfl, ka1, ka2⟩ _ o ho
          · exact CellOk.rch ⟨_, _, rfl, km1, km2⟩ _ o ho
        intro Q2 r q3 o3 hQ2 G2
        generalize subR x mm = z at *
        obtain ⟨_, rfl, hQ⟩ := G2.ow.agg_inv
        obtain ⟨z1, z2, rfl⟩ := hQ.rat
        have lz := OwL.leaf hQ rfl
        simp only [List.all_cons, List.all_nil, Bool.and_true, Bool.and_eq_true] at lz
        have gl3 : q2.length ≤ q3.length := G2.len
        have old3 : ∀ o, o < s.length → objAt q3 o = objAt s o := fun o ho => (G2.old o (by omega)).trans (G.old o ho)
        have row3 := (old3 ri hrs).trans orow
        have hr3 : ri < q3.length := by omega
        have stp2 := stp q3 _ o3 old3 (by omega) hQ G2.nd (fun o ho => by have := G2.fresh o ho; omega)
        have nri : ∀ (q : Store) (l : List Int), objAt q ri = some ⟨3, L⟩ → objAt q ri ≠ some ⟨1, irows l⟩ := fun q l e k => by rw [e] at k; cases k
        have n1 : ∀ o ∈ Q1, o ≠ ri := fun o ho e => by
          obtain ⟨l, hl⟩ := hQ1 o ho
          exact nri s l orow (e ▸ hl)
        have n2 : ∀ o ∈ Q2, o ≠ ri := fun o ho e => by
          obtain ⟨l, hl⟩ := hQ2 o ho
          exact nri q2 l ((G.old ri hrs).trans orow) (e ▸ hl)
        clear hQ1 hQ2 stp
        (refine ew5 @lz (And.intro row3 hr3) @gA @numK_any @or_sc ?_; try with_reducible exact True.intro)
        refine ⟨?_, ?_⟩
        · have d1 : ri < s.length := hrs
          clear stp2 old3 row3 hr3
          revert Q2
          refine OkA_dropA _ (fun R => ∀ o ∈ R, o ≠ ri) 2 12 rfl (fun _ => rfl) ?_ ?_
          · intro R hR b hb w hw hm
            simp only [List.mem_cons, List.not_mem_nil, or_false] at hb
            rcases hb with rfl | rfl | rfl | rfl | rfl | rfl | rfl | rfl | rfl | rfl | rfl | rfl | rfl | rfl | rfl
            all_goals first | (cases hw; done) | (rw [List.mem_singleton.1 hw] at hm; exact hR _ hm rfl)
          revert Q1
          refine OkA_dropA _ (fun R => ∀ o ∈ R, o ≠ ri) 3 11 rfl (fun _ => rfl) ?_ ?_
          · intro R hR b hb w hw hm
            simp only [List.mem_cons, List.not_mem_nil, or_false] at hb
            rcases hb with rfl | rfl | rfl | rfl | rfl | rfl | rfl | rfl | rfl | rfl | rfl | rfl | rfl | rfl | rfl
            all_goals first | (cases hw; done) | (rw [List.mem_singleton.1 hw] at hm; exact hR _ hm rfl)
          refine OkA_all3 (aF := fun a b c => [⟨14, [a], [a], false⟩, ⟨13, [a], [], false⟩, ⟨12, [], [], true⟩, ⟨11, [], [], true⟩, ⟨10, [c], [], false⟩, ⟨9, [b], [], false⟩, ⟨8, [b], [], false⟩, ⟨7, [], [], false⟩, ⟨6, [], [], false⟩, ⟨5, [a], [], false⟩, ⟨4, [a], [], false⟩, ⟨3, [], [], false⟩, ⟨2, [], [], false⟩, ⟨1, [], [], false⟩, ⟨0, [], [], false⟩]) ri rk p s.length ?_ ?_ ?_ ?_
          · exact nd3 hne hpri hprk
          · exact lt3 hrs hks hps
          · exact fun _ _ _ _ => rfl
          · unfold OkA; decide +kernel
        · refine ⟨(j + 1, ?st, N ++ [[.bool z.neg, z1, z2]], os ++ o3), ?c1, ⟨?c2, ?c4⟩, ?c3⟩
          case c3 => dsimp only; (refine Fg_env ?_) <;> (try (refine ew ?_; try with_reducible exact True.intro)) <;> (repeat' (first | refine ⟨?_, ?_⟩ | exact EvV_int (by omega) | exact EvV_of (by simp) | exact EvV_nil _))
          case c1 => dsimp only; omega
          case c2 => dsimp only; omega
          case c4 => exact stp2
      · have hje : j = X.length := by omega
        obtain ⟨f1, f2⟩ := I.fin (by omega) (by omega)
        have rw1 := (row_ow f2).1
        have Rf := rw1.res f1
        rw [hZl] at Rf
        have cg := c_goodRow h.d_impl_goodRow hZc (by omega)
        (refine ew2 @hc @Rf ?_; try with_reducible exact True.intro)
        refine PFK_of cg ?_
        (refine ew ?_; try with_reducible exact True.intro)
        subst hp
        exact ⟨N, os, f1, f2, I.nd, I.fr, I.old, by omega⟩
  obtain ⟨r, s', h1, rfl, A', os, h2⟩ := this
  exact ⟨s', A', os, h1, h2⟩
end Go.Ml
end
section
set_option linter.unusedSimpArgs false
set_option linter.unusedVariables false
set_option maxRecDepth 100000
set_option maxHeartbeats 16000000
namespace Go.Ml
theorem matF_snoc {s s2 : Store} {q q2 p2 i c : Nat} {rp : Nat → Nat} {M : MF} (h : i = 0 ∨ Mat s q i c rp (fun x => (M x).map R.cells) M) (hq : objAt s2 q2 = some ⟨1, orow i c rp ++ [[.msl p2 0 c]]⟩) (hp : objAt s2 p2 = some ⟨3, (M i).map R.cells⟩) (hpl : s.length ≤ p2)
    (old : ∀ o, o < s.length → o ≠ q → objAt s2 o = objAt s o) : Mat s2 q2 (i + 1) c (fun x => if x = i then p2 else rp x) (fun x => (M x).map R.cells) M := by
  have hlt : ∀ x, x < i → rp x < s.length ∧ rp x ≠ q := fun x hx => by
    rcases h with h | h
    · omega
    · exact ⟨h.lt.2 x hx, h.ne hx⟩
  refine ⟨fun x y hx hy e => ?_, ?_, fun x hx => ?_, fun x hx => row_frz _⟩
  · by_cases h1 : x = i
    · by_cases h2 : y = i
      · omega
      · rw [if_pos h1, if_neg h2] at e
        have := (hlt y (by omega)).1
        omega
    · by_cases h2 : y = i
      · rw [if_neg h1, if_pos h2] at e
        have := (hlt x (by omega)).1
        omega
      · rw [if_neg h1, if_neg h2] at e
        rcases h with h | h
        · omega
        · exact h.inj x y (by omega) (by omega) e
  · rw [hq]
    unfold orow
    rw [List.range_succ, List.map_append]
    congr 2
    congr 1
    · refine List.map_congr_left fun x hx => ?_
      have := List.mem_range.1 hx
      show [V.msl (rp x) 0 c] = [V.msl (if x = i then p2 else rp x) 0 c]
      rw [if_neg (by omega)]
    · simp
  · by_cases h1 : x = i
    · subst h1; rw [if_pos rfl]; exact hp
    · rw [if_neg h1]
      have hxi : x < i := by omega
      rcases h with h | h
      · omega
      · exact (old _ (hlt x hxi).1 (hlt x hxi).2).trans (h.row x hxi)
theorem mat_bd {m : List (List R)} {C : Nat} (hz : szL (szL R.sz) m ≤ 1048576) (h0 : 0 < m.length) (hrl : ∀ i, i < m.length → (m.getD i default).length = C) : C ≤ 1048576 := by
  have h2 := szL_memb (f := szL R.sz) hz (getD_mem h0)
  have h3 := szL_eq R.sz (m.getD 0 default)
  have := hrl 0 h0
  omega
theorem getQ {α : Type} {l : List (List α)} {j : Nat} (h : j < l.length) : l[j]? = some (l.getD j []) := by
  rw [List.getD_eq_getElem?_getD, List.getElem?_eq_getElem h]; rfl
theorem Mat.cell {s : Store} {q n c : Nat} {rp : Nat → Nat} {A : Nat → List (List V)} {M : MF} (h : Mat s q n c rp A M) (hl : ∀ i, i < n → (M i).length = c) {i j : Nat} (hi : i < n) (hj : j < c) : ∃ a1 a2, (A i)[j]? = some [.bool (elF M i j).neg, a1, a2] ∧ LimbOk s a1 (elF M i j).mag ∧ LimbOk s a2 (elF M i j).den := by
  have hr := h.cel i hi
  have hjl : j < (M i).length := by rw [hl i hi]; exact hj
  obtain ⟨a1, a2, e, k1, k2⟩ := hr.2 j hjl
  exact ⟨a1, a2, by rw [getQ (by rw [hr.1]; exact hjl), e]; rfl, k1, k2⟩
theorem Mat.kpq {s s2 : Store} {q n c : Nat} {rp : Nat → Nat} {A : Nat → List (List V)} {M : MF} (h : Mat s q n c rp A M) (hn : 0 < n) (ho : ∀ o, o ≠ q → o < s.length → objAt s2 o = objAt s o) : Kp s s2 := fun o l e => ho o (fun e2 => by
    rw [e2, h.out] at e
    injection e with e
    injection e with _ e
    exact orow_irows hn l e) (objAt_lt e)
theorem po_iReduceRows {T : Nat → Option Fn} (h : D_impl_ReduceRows T) {m : List (List R)} {c : Int} (hw : wfL (wfL R.wf) m) (hz : rrC m c = true → szL (szL R.sz) m ≤ 1048576) (hcw : c ≤ 9223372036854775807) : PO T 243 [ratssV m, iv c] (.tup [ratssV (rrM m c), .bool (rrB m c)]) := by
  have c1 := c_iIsMatrix h.d_impl_IsMatrix (m := m) (cols := c) hw hcw
  have hml := hw.1
  cases hc : rrC m c
  · obtain ⟨e1, e2⟩ := rrV_bad hc
    rw [e1, e2]
    unfold rrC at hc
    generalize matOk m c = x at c1 hc
    have hx : x = false ∨ x = true := by cases x <;> simp
    refine po_end2 (fun _ _ => false) h.hT rfl rfl ?_
    dsimp only [F_impl_ReduceRows, oN, oS, oG, oK, oA, oH, oV, cI, St.enter, List.length_cons, List.length_nil, Nat.zero_add]
    (refine ew ?_; try with_reducible exact True.intro)
    refine PFK_of c1 ?_
    rcases hx with hx | hx
    · (refine ew1 @hx ?_; try with_reducible exact True.intro)
      exact (fin_nil (sz := 1)).tup1
    · have hlt : c < (m.length : Nat) := by
        rw [hx, Bool.true_and, decide_eq_false_iff_not] at hc
        omega
      (refine ew2 @hx @hlt ?_; try with_reducible exact True.intro)
      exact (fin_nil (sz := 1)).tup1
  obtain ⟨h10, hnc, hmo, hok⟩ := rrC_ok hc
  rw [hmo] at c1
  have hlt : ¬ c < (m.length : Nat) := by omega
  obtain ⟨C, rfl⟩ : ∃ C : Nat, c = C := ⟨c.toNat, by omega⟩
  rw [Int.toNat_natCast] at hok
  have hrl : ∀ i, i < m.length → (m.getD i default).length = C := fun i hi => (hok i hi).1
  rcases Nat.eq_zero_or_pos m.length with h0 | h0
  · obtain ⟨e1, e2⟩ := rrV_some hc (M := mF m) (by rw [h0]; rfl)
    rw [h0] at e1
    rw [e1, e2]
    refine po_end2 (fun _ _ => false) h.hT rfl rfl ?_
    dsimp only [F_impl_ReduceRows, oN, oS, oG, oK, oA, oH, oV, cI, St.enter, List.length_cons, List.length_nil, Nat.zero_add]
    (refine ew ?_; try with_reducible exact True.intro)
    refine PFK_of c1 ?_
    (refine ew1 @hlt ?_; try with_reducible exact True.intro)
    refine loop_at (fun _ _ => false) (α := Nat) (fun i => ⟨argE [.any, .any, .any, .any, .any, .any, iv (m.length : Nat), .nils, .any, .any, .any, .any, .any, .any, .any, .any, .any, .any, .any, .any, .any, .any, .any, .any, .any, .any, .any, ratssV m, iv (m.length : Nat), iv (i : Nat)], [none], 0, 0, [], []⟩) (fun i => i = 0) (fun i => i) rfl 0 ?_ ?_ ?_
    · rfl
    · (refine Fg_env ?_) <;> (try (refine ew ?_; try with_reducible exact True.intro)) <;> (repeat' (first | refine ⟨?_, ?_⟩ | exact EvV_int (by omega) | exact EvV_of (by simp) | exact EvV_nil _))
    · rintro i rfl
      have hcc : ¬ (((0 : Nat) : Int) < (m.length : Nat)) := by omega
      (refine ew1 @hcc ?_; try with_reducible exact True.intro)
      refine loop_at (fun _ _ => false) (α := Nat) (fun k => ⟨argE [.any, .any, .any, .any, .any, .any, iv (m.length : Nat), .nils, .any, .any, iv (k : Nat)], [none], 0, 0, [], []⟩) (fun k => k = 0) (fun k => k) rfl 0 ?_ ?_ ?_
      · rfl
      · (refine Fg_env ?_) <;> (try (refine ew ?_; try with_reducible exact True.intro)) <;> (repeat' (first | refine ⟨?_, ?_⟩ | exact EvV_int (by omega) | exact EvV_of (by simp) | exact EvV_nil _))
      · rintro k rfl
        (refine ew1 @hcc ?_; try with_reducible exact True.intro)
        exact (fin_nil (sz := 1)).tup1
  have hC := mat_bd (hz hc) h0 hrl
  clear hw hz hml
  refine po_end2 (fun x d => (x == 156 && d == 107) || (x == 245 && d == 140)) h.hT rfl rfl ?_
  dsimp only [F_impl_ReduceRows, oN, oS, oG, oK, oA, oH, oV, cI, St.enter, List.length_cons, List.length_nil, Nat.zero_add]
  (refine ew ?_; try with_reducible exact True.intro)
  refine PFK_of c1 ?_
  (refine ew1 @hlt ?_; try with_reducible exact True.intro)
  refine loop_at (fun x d => (x == 156 && d == 107) || (x == 245 && d == 140)) (α := Nat × Store × V × Nat × (Nat → Nat)) (fun q => ⟨argE [.any, .any, .any, .any, .any, .any, iv (m.length : Nat), q.2.2.1, .any, .any, .any, .any, .any, .any, .any, .any, .any, .any, .any, .any, .any, .any, .any, .any, .any, .any, .any, ratssV m, iv (m.length : Nat), iv (q.1 : Nat)], q.2.1, 0, 0, [], []⟩) (fun q => q.1 ≤ m.length ∧ ((q.1 = 0 ∧ q.2.2.1 = .nils) ∨ (0 < q.1 ∧ q.2.2.1 = .msl q.2.2.2.1 0 q.1 ∧ Mat q.2.1 q.2.2.2.1 q.1 C q.2.2.2.2 (fun x => (mF m x).map R.cells) (mF m)))) (fun q => m.length - q.1) rfl (0, [none], .nils, 0, fun _ => 0) ?_ ?_ ?_
  · exact ⟨by omega, .inl ⟨rfl, rfl⟩⟩
  · (refine Fg_env ?_) <;> (try (refine ew ?_; try with_reducible exact True.intro)) <;> (repeat' (first | refine ⟨?_, ?_⟩ | exact EvV_int (by omega) | exact EvV_of (by simp) | exact EvV_nil _))
  · rintro ⟨i, s, v7, qo, rp⟩ ⟨hi, hM⟩
    dsimp only at hi hM
    by_cases hcc : (i : Int) < (m.length : Nat)
    · have hil : i < m.length := by omega
      have hai : (m.map fun r => [ratsV r]).getD i [] = [ratsV (m.getD i default)] := mg (f := fun r : List R => [ratsV r]) hil
      have hri := hrl i hil
      have emf : mF m i = m.getD i default := rfl
      generalize m.getD i default = r at *
      have hne : (r.map R.cells = []) = False := eq_false fun e => by
        have := congrArg List.length e
        simp at this
        subst this
        simp at hri; omega
      rcases hM with ⟨rfl, rfl⟩ | ⟨hi0, rfl, hM⟩
      · (refine ew3 @hcc @hai @hne ?_; try with_reducible exact True.intro)
        refine ⟨⟨by omega, by omega⟩, by decide, ?_⟩
        refine ⟨(0 + 1, ?st, .msl (s.length + 3) 0 1, s.length + 3, fun x => if x = 0 then s.length + 1 else rp x), ?c1, ⟨?c2, .inr ⟨by omega, rfl, ?c4⟩⟩, ?c3⟩
        case c3 => dsimp only; (refine Fg_env ?_) <;> (try (refine ew ?_; try with_reducible exact True.intro)) <;> (repeat' (first | refine ⟨?_, ?_⟩ | exact EvV_int (by omega) | exact EvV_of (by simp) | exact EvV_nil _))
        case c1 => dsimp only; omega
        case c2 => dsimp only; omega
        case c4 =>
          dsimp only
          refine matF_snoc (s := s) (q := 0) (.inl rfl) ?_ ?_ (by omega) (fun o ho _ => ?_)
          · rw [objAt_seteq (by simp)]
            rw [hri]; rfl
          · rw [emf]
            simp (disch := first | omega | (simp only [List.length_append, List.length_set, List.length_cons, List.length_nil]; omega)) only [EVs]
          · simp (disch := first | omega | (simp only [List.length_append, List.length_set, List.length_cons, List.length_nil]; omega)) only [EVs]
      · have hq := hM.out
        have hql := hM.lt.1
        have hoc := orow_len i C rp
        (refine ew5 @hcc @hai @hne @hq @hoc ?_; try with_reducible exact True.intro)
        refine ⟨⟨by omega, by omega⟩, by omega, ?_⟩
        refine ⟨(i + 1, ?st2, .msl (s.length + 3) 0 (i + 1), s.length + 3, fun x => if x = i then s.length + 1 else rp x), ?c1, ⟨?c2, .inr ⟨by omega, rfl, ?c4⟩⟩, ?c3⟩
        case c3 => dsimp only; (refine Fg_env ?_) <;> (try (refine ew ?_; try with_reducible exact True.intro)) <;> (repeat' (first | refine ⟨?_, ?_⟩ | exact EvV_int (by omega) | exact EvV_of (by simp) | exact EvV_nil _))
        case c1 => dsimp only; omega
        case c2 => dsimp only; omega
        case c4 =>
          dsimp only
          refine matF_snoc (s := s) (q := qo) (.inr hM) ?_ ?_ (by omega) (fun o ho hne => ?_)
          · rw [objAt_seteq (by simp)]
            rw [hri]
          · rw [emf]
            have : s.length + 1 ≠ qo := by omega
            simp (disch := first | omega | (simp only [List.length_append, List.length_set, List.length_cons, List.length_nil]; omega)) only [EVs]
          · simp (disch := first | omega | (simp only [List.length_append, List.length_set, List.length_cons, List.length_nil]; omega)) only [EVs]
    · have hie : i = m.length := by omega
      subst hie
      rcases hM with ⟨h1, _⟩ | ⟨_, rfl, hM⟩
      · omega
      (refine ew1 @hcc ?_; try with_reducible exact True.intro)
      have hql := hM.lt.1
      refine loop_at (fun x d => (x == 156 && d == 107) || (x == 245 && d == 140)) (α := Nat × Store × (Nat → Nat) × (Nat → List (List V)) × MF × (Nat → List Nat)) (fun q => ⟨argE [.any, .any, .any, .any, .any, .any, iv (m.length : Nat), .msl qo 0 m.length, .any, .any, iv (q.1 : Nat)], q.2.1, 0, 0, [], []⟩) (fun q => q.1 ≤ m.length ∧ Mat q.2.1 qo m.length C q.2.2.1 q.2.2.2.1 q.2.2.2.2.1 ∧ rrIt m.length (mF m) q.1 = some q.2.2.2.2.1 ∧ OkM m.length C q.2.2.2.2.1 ∧ (0 < q.1 → OwF q.2.1 q.2.2.2.1 q.2.2.2.2.1 q.2.2.2.2.2 fun i => i < m.length)) (fun q => m.length - q.1) rfl (0, s, rp, fun x => (mF m x).map R.cells, mF m, fun _ => []) ?_ ?_ ?_
      · exact ⟨by omega, hM, rfl, hok, fun h => absurd h (by omega)⟩
      · (refine Fg_env ?_) <;> (try (refine ew ?_; try with_reducible exact True.intro)) <;> (repeat' (first | refine ⟨?_, ?_⟩ | exact EvV_int (by omega) | exact EvV_of (by simp) | exact EvV_nil _))
      · clear hM hok hql hrl hcc hi
        rintro ⟨k, s, rp, A, M, f⟩ ⟨hk, hM, hIt, hOk, hOw⟩
        dsimp only at hk hM hIt hOk hOw
        by_cases hck : (k : Int) < (m.length : Nat)
        · have hkl : k < m.length := by omega
          have hkC : k < C := by omega
          have hql := hM.lt.1
          (refine ew1 @hck ?_; try with_reducible exact True.intro)
          refine loop_at (fun x d => (x == 156 && d == 107) || (x == 245 && d == 140)) (α := Nat) (fun p => ⟨argE [.any, .any, .any, .any, .any, .any, iv (m.length : Nat), .msl qo 0 m.length, .any, .any, iv (k : Nat), iv (p : Nat)], s, 0, 0, [], []⟩) (fun p => k ≤ p ∧ p ≤ m.length ∧ rrP M k (m.length - p) p = rrPv m.length M k) (fun p => m.length - p) rfl k ?_ ?_ ?_
          · exact ⟨Nat.le_refl _, by omega, rfl⟩
          · (refine Fg_env ?_) <;> (try (refine ew ?_; try with_reducible exact True.intro)) <;> (repeat' (first | refine ⟨?_, ?_⟩ | exact EvV_int (by omega) | exact EvV_of (by simp) | exact EvV_nil _))
          · rintro p ⟨hkp, hpn, hP⟩
            by_cases hcp : (p : Int) < (m.length : Nat)
            · have hpl : p < m.length := by omega
              obtain ⟨a1, a2, gA, ka1, ka2⟩ := hM.cell (fun i hi => (hOk i hi).1) hpl hkC
              have cs := c_ratSignR h.d_impl_ratSign (hOk.el hpl hkC)
              have hzz := rrP_z (M := M) (k := k) hpl
              have hnz := rrP_n (M := M) (k := k) hpl
              have hxc := hOk.el hpl hkC
              obtain ⟨x, hx⟩ : ∃ x, elF M p k = x := ⟨_, rfl⟩
              rw [hx] at gA ka1 ka2 cs hzz hnz hxc
              have R1 := And.intro ka1.r11 ka2.r11
              have O1 := And.intro hM.out (hM.row p hpl)
              have G1 := And.intro (orow_at (c := C) (rp := rp) hpl) gA
              (refine ew4 @hcp @O1 @G1 @R1 ?_; try with_reducible exact True.intro)
              refine PFK_of cs ?_
              by_cases hs : sgnR x = 0
              · (refine ew1 @hs ?_; try with_reducible exact True.intro)
                exact ⟨p + 1, by omega, ⟨by omega, by omega, (hzz hs).symm.trans hP⟩, by (refine Fg_env ?_) <;> (try (refine ew ?_; try with_reducible exact True.intro)) <;> (repeat' (first | refine ⟨?_, ?_⟩ | exact EvV_int (by omega) | exact EvV_of (by simp) | exact EvV_nil _))⟩
              · have hPv := (hnz hs).symm.trans hP
                have hpn' : ¬ ((p : Int) = (m.length : Nat)) := by omega
                have gk := orow_at (c := C) (rp := rp) hkl
                obtain ⟨w, gS1⟩ : ∃ w, ((orow m.length C rp).set k [V.msl (rp p) 0 C])[p]? = some [w] := by rw [orow_set]; exact ⟨_, orow_at hpl⟩
                have gS2 : (((orow m.length C rp).set k [V.msl (rp p) 0 C]).set p [.msl (rp k) 0 C])[k]? = some [.msl (rp p) 0 C] := by
                  rw [orow_set, orow_set, orow_at hkl]
                  by_cases e : k = p
                  · subst e; simp
                  · rw [if_neg e, if_pos rfl]
                have hnq := hM.ne hpl
                have hpq := hM.lt.2 p hpl
                have lx := And.intro ka1.leaf ka2.leaf
                (refine ew6 (And.intro hs hpn') @O1 @G1 (And.intro gk (And.intro gS1 gS2)) @lx @List.set_set.{0} ?_; try with_reducible exact True.intro)
                refine ⟨by unfold OkA; rfl, ?_⟩
                have hl2 : (s.set qo (some ⟨1, ((orow m.length C rp).set k [V.msl (rp p) 0 C]).set p [.msl (rp k) 0 C]⟩)).length = s.length := by simp
                have hM2 := hM.swap hkl hpl rfl (s2 := s.set qo (some ⟨1, ((orow m.length C rp).set k [V.msl (rp p) 0 C]).set p [.msl (rp k) 0 C]⟩)) (objAt_seteq hql) (fun o h _ => objAt_setne h)
                have kp2 := hM.kpq h0 (s2 := s.set qo (some ⟨1, ((orow m.length C rp).set k [V.msl (rp p) 0 C]).set p [.msl (rp k) 0 C]⟩)) (fun o h _ => objAt_setne h)
                replace ka1 := ka1.fr kp2
                replace ka2 := ka2.fr kp2
                generalize s.set qo (some ⟨1, ((orow m.length C rp).set k [V.msl (rp p) 0 C]).set p [.msl (rp k) 0 C]⟩) = s2 at *
                rw [← hl2]
                have hp1 : rrPv m.length M k < m.length := hPv ▸ hpl
                have e1 : rrSwap M k p = rrOne m.length M k := by unfold rrOne; rw [← hPv]
                rw [e1] at hM2
                have hOk1 := hOk.one hkl hp1
                have exk : elF (rrOne m.length M k) k k = x := by
                  rw [← hx, ← e1]
                  unfold elF rrSwap
                  by_cases e : k = p
                  · rw [if_pos e, e]
                  · rw [if_neg e, if_pos rfl]
                have hL1 := fun i hi => (hOk1 i hi).1
                have e2w : rrTwo m.length M k = fun i => if i = k then rrDiv (rrOne m.length M k k) k else rrOne m.length M k i := rfl
                have hOk2 := hOk.two hkl hp1
                have hstep : rrIt m.length (mF m) (k + 1) = rrStep m.length M k := rrIt_s hIt
                have hsf := @rrStep_f m.length M k
                have hst := rrStep_t (n := m.length) (M := M) (k := k) hp1
                have hOks := fun M' => hOk.step (M' := M') hkl
                generalize (fun x => if x = p then rp k else if x = k then rp p else rp x) = rp2 at hM2
                generalize (fun x => if x = p then A k else if x = k then A p else A x) = A2 at hM2
                have hDl := rrDiv_len (rrOne m.length M k k) k
                have hDc := rrDiv_cn (rrOne m.length M k k) k
                have hDa := fun j hj => rrDiv_at (rrOne m.length M k k) k (j := j) hj
                have hlk := hL1 k hkl
                have hck2 := fun j hj => hM2.cell hL1 hkl (j := j) hj
                have hel := fun j hj => hOk1.el hkl (j := j) hj
                rw [show (rrOne m.length M k k).getD k default = x from exk] at hDa
                generalize rrTwo m.length M k = M2 at *
                generalize hM1 : rrOne m.length M k = M1 at *
                clear hs hzz hnz cs R1 O1 G1 gk gS1 gS2 hnq hpq hpn' hM hOk hOw gA hx hP hPv kp2 hp1 e1 hql hl2 hIt w
                have hrq := hM2.ne hkl
                have hrl2 := hM2.lt.2 k hkl
                have hql2 := hM2.lt.1
                have hq2 := hM2.out
                have hrk := hM2.row k hkl
                have hAk := (hM2.cel k hkl).1
                rw [hlk] at hDl hAk
                have hDl' : (rrDiv (M1 k) k).length = C := hDl
                have gk := orow_at (c := C) (rp := rp2) hkl
                refine loop_at (fun x d => (x == 156 && d == 107) || (x == 245 && d == 140)) (α := Nat × Store × List (List V) × List Nat) (fun q => ⟨argE [.any, .any, .any, .any, .any, .any, iv (m.length : Nat), .msl qo 0 m.length, .any, .any, iv (k : Nat), .any, .ptr s2.length 0 0, .any, .any, .any, .any, .any, .any, .any, .any, .any, .any, .any, .any, .any, .any, .any, .any, .any, .any, .any, .any, .any, .any, .any, .any, .any, .any, .any, .any, .any, .any, .any, .any, .any, .any, .any, .any, .any, .any, .any, .any, .any, .any, .any, .any, .any, .any, .any, .any, .any, .any, .any, .any, .any, .any, .any, .any, .any, .any, .any, .any, .any, .any, .any, .any, .any, .any, .any, .any, .any, .any, .any, .any, .any, .any, .any, .any, .any, iv (C : Nat), iv (q.1 : Nat)], q.2.1, 0, 0, [], []⟩) (fun q => q.1 ≤ C ∧ SubI s2 q.2.1 (rp2 k) ⟨3, [[.bool x.neg, a1, a2]]⟩ (A2 k) (rrDiv (M1 k) k) q.1 q.2.2.1 q.2.2.2) (fun q => C - q.1) rfl (0, (s2 ++ [none]).set s2.length (some ⟨3, [[.bool x.neg, a1, a2]]⟩), [], []) ?_ ?_ ?_
                · exact ⟨by omega, by rw [set_snoc]; exact subI_init hrk⟩
                · (refine Fg_env ?_) <;> (try (refine ew ?_; try with_reducible exact True.intro)) <;> (repeat' (first | refine ⟨?_, ?_⟩ | exact EvV_int (by omega) | exact EvV_of (by simp) | exact EvV_nil _))
                · rintro ⟨j, t, N, os⟩ ⟨hj, I⟩
                  dsimp only at hj I
                  have hlt2 := I.len
                  have hbx := I.bx
                  obtain ⟨b, hb⟩ : ∃ b, b = s2.length := ⟨_, rfl⟩
                  rw [← hb] at hbx ⊢
                  have hqt := (I.old qo hql2 (fun e => hrq e.symm)).trans hq2
                  have hrt := I.row
                  by_cases hcj : (j : Int) < (C : Nat)
                  · have hjl : j < C := by omega
                    obtain ⟨b1, b2, gB, kb1, kb2⟩ := hck2 j hjl
                    have kp := I.kp hrk
                    have cy := hel j hjl
                    have hz := hDa j (by omega)
                    rw [show (M1 k).getD j default = elF M1 k j from rfl] at hz
                    have gA := I.at (by omega)
                    have gB2 : (A2 k)[j]? = some ((A2 k).getD j []) := getQ (by omega)
                    rw [gB] at gB2
                    rw [← Option.some.inj gB2] at gA
                    replace kb1 := kb1.fr kp
                    replace kb2 := kb2.fr kp
                    have kw1 := ka1.fr kp
                    have kw2 := ka2.fr kp
                    generalize elF M1 k j = y at *
                    have stp := fun (q3 : Store) (c : List V) (o3 : List Nat) old len ho nd3 fr3 => I.step (q3 := q3) (c := c) (o3 := o3) hrl2 (by omega) (by omega) hz old len ho nd3 fr3
                    generalize hL : N ++ List.drop j (A2 k) = L at *
                    have R1 := And.intro (And.intro kb1.r11 kb2.r11) (And.intro kw1.r11 kw2.r11)
                    have hrs : rp2 k < t.length := by omega
                    have hqs : qo < t.length := by omega
                    have hbs : b < t.length := by omega
                    (refine ew6 @hcj (And.intro hqt (And.intro hrt hbx)) (And.intro gk gA) @R1 @numK_any @or_sc ?_; try with_reducible exact True.intro)
                    refine OwnK_gotP (fun o => ∃ l, objAt t o = some ⟨1, irows l⟩) (show PO T 156 [ratV y, ratV x] (ratV (divR y x)) from po_ratDivR h.d_impl_ratDiv cy hxc) (by (refine ew3 @R1 @numK_any @or_sc ?_; try with_reducible exact True.intro)) ?_ ?_
                    · intro o ho
                      have ho : o ∈ reach t (11 + 1) (.agg [.bool y.neg, b1, b2]) ++ (reach t (11 + 1) (.agg [.bool x.neg, a1, a2]) ++ []) := ho
                      rw [List.append_nil] at ho
                      rcases List.mem_append.1 ho with ho | ho
                      · exact CellOk.rch ⟨_, _, rfl, kb1, kb2⟩ _ o ho
                      · exact CellOk.rch ⟨_, _, rfl, kw1, kw2⟩ _ o ho
                    intro Q1 r q3 o3 hQ1 G
                    generalize divR y x = z at *
                    obtain ⟨_, rfl, hQ⟩ := G.ow.agg_inv
                    obtain ⟨z1, z2, rfl⟩ := hQ.rat
                    have lz := OwL.leaf hQ rfl
                    simp only [List.all_cons, List.all_nil, Bool.and_true, Bool.and_eq_true] at lz
                    have gl3 : t.length ≤ q3.length := G.len
                    have old3 : ∀ o, o < t.length → objAt q3 o = objAt t o := fun o ho => G.old o ho
                    have row3 := (old3 _ hrs).trans hrt
                    have hr3 : rp2 k < q3.length := by omega
                    have stp2 := stp q3 _ o3 old3 gl3 hQ G.nd (fun o ho => G.fresh o ho)
                    have n1 : ∀ o ∈ Q1, o ≠ rp2 k := fun o ho e => by
                      obtain ⟨l, hl⟩ := hQ1 o ho
                      rw [e, hrt] at hl; cases hl
                    clear hQ1 stp
                    (refine ew5 @lz (And.intro row3 hr3) @gA @numK_any @or_sc ?_; try with_reducible exact True.intro)
                    refine ⟨?_, ?_⟩
                    · clear stp2 old3 row3 hr3
                      revert Q1
                      refine OkA_dropA _ (fun R => ∀ o ∈ R, o ≠ rp2 k) 2 13 rfl (fun _ => rfl) ?_ ?_
                      · intro R hR b hb w hw hm
                        simp only [List.mem_cons, List.not_mem_nil, or_false] at hb
                        rcases hb with rfl | rfl | rfl | rfl | rfl | rfl | rfl | rfl | rfl | rfl | rfl | rfl | rfl | rfl | rfl | rfl
                        all_goals first | (cases hw; done) | (rw [List.mem_singleton.1 hw] at hm; exact hR _ hm rfl)
                      refine OkA_all3 (aF := fun a b c => [⟨15, [a], [a], false⟩, ⟨14, [a], [], false⟩, ⟨13, [], [], true⟩, ⟨12, [c], [], false⟩, ⟨11, [a], [], false⟩, ⟨10, [a], [], false⟩, ⟨9, [], [], false⟩, ⟨8, [b], [], false⟩, ⟨7, [b], [], false⟩, ⟨6, [], [], false⟩, ⟨5, [], [], false⟩, ⟨4, [], [], false⟩, ⟨3, [b], [], false⟩, ⟨2, [b], [], false⟩, ⟨1, [], [], false⟩, ⟨0, [], [], false⟩]) (rp2 k) qo b t.length ?_ ?_ ?_ ?_
                      · exact nd3 hrq (by omega) (by omega)
                      · exact lt3 hrs hqs hbs
                      · exact fun _ _ _ _ => rfl
                      · unfold OkA; decide +kernel
                    · refine ⟨(j + 1, ?st6, N ++ [[.bool z.neg, z1, z2]], os ++ o3), ?c1, ⟨?c2, ?c4⟩, ?c3⟩
                      case c3 => dsimp only; (refine Fg_env ?_) <;> (try (refine ew ?_; try with_reducible exact True.intro)) <;> (repeat' (first | refine ⟨?_, ?_⟩ | exact EvV_int (by omega) | exact EvV_of (by simp) | exact EvV_nil _))
                      case c1 => dsimp only; omega
                      case c2 => dsimp only; omega
                      case c4 => exact stp2
                  · have hje : j = C := by omega
                    obtain ⟨f1, f2⟩ := I.fin (by omega) (by omega)
                    have hM3 := hM2.put hkl f1 I.old (row_ow f2).1
                    rw [← e2w] at hM3
                    have hO3 := ((owF_no (s := s2) (A := A2) (M := M1) (f := fun _ => [])).put (k := k) (I.kp hrk) f2 I.nd I.fr).ext (M2 := M2) (S2 := fun x => x < 0 ∨ x = k) (fun i hi => ⟨hi.imp (fun h => absurd h (Nat.not_lt_zero _)) id, by rw [e2w]⟩)
                    have Rf := hM3.rres hkl (hOk2 k hkl).1
                    have cg := c_goodRow h.d_impl_goodRow (hOk2 k hkl).2 (by rw [(hOk2 k hkl).1]; exact hC)
                    clear I hrt f1 f2 hM2 hbx hel hck2 hDa hDc hDl hDl' hAk hrk hq2
                    rw [← rrMix_0 M2 k] at hM3 hO3
                    have et : rrTri M2 k k = M2 k := if_pos rfl
                    cases hg : (M2 k).all R.ok
                    · rw [hg] at cg
                      obtain ⟨e1, e2⟩ := rrV_none hc (hstep.trans (hsf (allOk_f hkl (by rw [et]; exact hg)))) hkl
                      rw [e1, e2]
                      (refine ew4 @hcj @hqt @gk @Rf ?_; try with_reducible exact True.intro)
                      refine PFK_of cg ?_
                      (refine ew ?_; try with_reducible exact True.intro)
                      exact (fin_nil (sz := 1)).tup1
                    · rw [hg] at cg
                      (refine ew4 @hcj @hqt @gk @Rf ?_; try with_reducible exact True.intro)
                      refine PFK_of cg ?_
                      (refine ew1 @hqt ?_; try with_reducible exact True.intro)
                      refine loop_at (fun x d => (x == 156 && d == 107) || (x == 245 && d == 140)) (α := Nat × Store × (Nat → List (List V)) × (Nat → List Nat)) (fun q => ⟨argE [.any, .any, .any, .any, .any, .any, iv (m.length : Nat), .msl qo 0 m.length, .any, .any, iv (k : Nat), .any, .any, .any, .any, .any, .any, .any, .any, .any, .any, .any, .any, .any, .any, .any, .any, .any, .any, .any, .any, .any, .any, .any, .any, .any, .any, .any, .any, .any, .any, .any, .any, .any, .any, .any, .any, .any, .any, .any, .any, .any, .any, .any, .any, .any, .any, .any, .any, .any, .any, .any, .any, .any, .any, .any, .any, .any, .any, .any, .any, .any, .any, .any, .any, .any, .any, .any, .any, .any, .any, .any, .any, .any, .any, .any, .any, .any, .any, .any, .any, .any, .any, .any, .any, .any, .any, .any, .any, .any, .any, .any, .any, .any, .any, .any, .any, .any, .any, .any, .any, .any, .any, .any, .any, .any, .any, iv (m.length : Nat), iv (q.1 : Nat)], q.2.1, 0, 0, [], []⟩) (fun q => q.1 ≤ m.length ∧ Mat q.2.1 qo m.length C rp2 q.2.2.1 (rrMix M2 k q.1) ∧ OwF q.2.1 q.2.2.1 (rrMix M2 k q.1) q.2.2.2 (fun x => x < q.1 ∨ x = k) ∧ ∀ x, x < q.1 → (rrTri M2 k x).all R.ok = true) (fun q => m.length - q.1) rfl (0, t, fun i => if i = k then N else A2 i, fun i => if i = k then os else []) ?_ ?_ ?_
                      · exact ⟨Nat.zero_le _, hM3, hO3, fun x hx => absurd hx (Nat.not_lt_zero _)⟩
                      · (refine Fg_env ?_) <;> (try (refine ew ?_; try with_reducible exact True.intro)) <;> (repeat' (first | refine ⟨?_, ?_⟩ | exact EvV_int (by omega) | exact EvV_of (by simp) | exact EvV_nil _))
                      · clear hM3 hO3 hqt Rf hcj hj hje hb hlt2
                        rintro ⟨i, u, A3, f⟩ ⟨hi, hM, hO, hgi⟩
                        dsimp only at hi hM hO hgi
                        by_cases hci : (i : Int) < (m.length : Nat)
                        · have hil : i < m.length := by omega
                          have hgi2 : (rrTri M2 k i).all R.ok = true → ∀ x, x < i + 1 → (rrTri M2 k x).all R.ok = true := fun h x hx => by
                            by_cases e : x = i
                            · subst e; exact h
                            · exact hgi x (by omega)
                          by_cases hik : i = k
                          · have hik' : ((i : Int) = (k : Nat)) = True := eq_true (by omega)
                            have em : ∀ x, rrMix M2 k (i + 1) x = rrMix M2 k i x := fun x => by
                              unfold rrMix
                              by_cases e : x < i
                              · rw [if_pos e, if_pos (by omega)]
                              · by_cases e2 : x = i
                                · rw [if_neg e, if_pos (by omega), e2, hik, et]
                                · rw [if_neg e, if_neg (by omega)]
                            (refine ew2 @hci @hik' ?_; try with_reducible exact True.intro)
                            refine ⟨by unfold OkA; rfl, ⟨(i + 1, u, A3, f), by dsimp only; omega, ⟨by dsimp only; omega, hM.ext fun x _ => (em x).symm, hO.ext fun x hx => ⟨?_, (em x).symm⟩, hgi2 (by rw [hik, et]; exact hg)⟩, by (refine Fg_env ?_) <;> (try (refine ew ?_; try with_reducible exact True.intro)) <;> (repeat' (first | refine ⟨?_, ?_⟩ | exact EvV_int (by omega) | exact EvV_of (by simp) | exact EvV_nil _))⟩⟩
                            dsimp only at hx
                            omega
                          · have hik' : ((i : Int) = (k : Nat)) = False := eq_false (by omega)
                            have hOm := hOk2.mix hkl i
                            have hlm := fun x hx => (hOm x hx).1
                            have emi : rrMix M2 k i i = M2 i := if_neg (Nat.lt_irrefl _)
                            have emk : rrMix M2 k i k = M2 k := by
                              unfold rrMix
                              split
                              · exact et
                              · rfl
                            obtain ⟨w1, w2, gC, kc1, kc2⟩ := hM.cell hlm hil hkC
                            rw [show elF (rrMix M2 k i) i k = elF M2 i k by unfold elF; rw [emi]] at gC kc1 kc2
                            have etr : rrTri M2 k i = rrSub (M2 i) (M2 k) (elF M2 i k) := if_neg hik
                            obtain ⟨u2, A', o', hr, g1, g2, g3, g4, g5, g6⟩ := rn_subtractRow h.d_impl_subtractRow (hM.row i hil) (hM.row k hkl) (fun e => hik (hM.inj i k hil hkl e)) (hM.cel i hil) (hM.cel k hkl) (by rw [hlm k hkl, hlm i hil]) kc1 kc2 (hOm i hil).2 (hOm k hkl).2 (hOk2.el hil hkC) (by rw [hlm i hil]; exact hC)
                            rw [hlm i hil, emi, emk, ← etr] at hr
                            rw [emi, emk, ← etr] at g2
                            have kp : Kp u u2 := fun o l e => g5 o (objAt_lt e) (fun e2 => by rw [e2, hM.row i hil] at e; cases e)
                            have hM4 := hM.put hil g1 g5 (row_ow g2).1
                            have hO4 := hO.put (k := i) kp g2 g3 g4
                            have em : ∀ x, (if x = i then rrTri M2 k i else rrMix M2 k i x) = rrMix M2 k (i + 1) x := fun x => by
                              unfold rrMix
                              by_cases e : x = i
                              · rw [if_pos e, if_pos (by omega), e]
                              · by_cases e2 : x < i
                                · rw [if_neg e, if_pos e2, if_pos (by omega)]
                                · rw [if_neg e, if_neg e2, if_neg (by omega)]
                            generalize elF M2 i k = y at *
                            have gi := orow_at (c := C) (rp := rp2) hil
                            have O1 := And.intro hM.out (hM.row i hil)
                            (refine ew4 @hci @hik' @O1 (And.intro gi (And.intro gk gC)) ?_; try with_reducible exact True.intro)
                            refine OwnK_idn hr rfl g6 (Nat.le_refl _) ?_
                            obtain ⟨bb, hbb⟩ : ∃ bb, (rrTri M2 k i).all R.ok = bb := ⟨_, rfl⟩
                            rw [hbb]
                            have hb2 : bb = false ∨ bb = true := by cases bb <;> simp
                            rcases hb2 with hb2 | hb2
                            · rw [hb2] at hbb
                              obtain ⟨e1, e2⟩ := rrV_none hc (hstep.trans (hsf (allOk_f hil hbb))) hkl
                              rw [e1, e2]
                              (refine ew4 @hb2 @hik' @numK_any @or_sc ?_; try with_reducible exact True.intro)
                              refine ⟨by unfold OkA; rfl, ?_⟩
                              exact (fin_nil (sz := 1)).tup1
                            · rw [hb2] at hbb
                              (refine ew4 @hb2 @hik' @numK_any @or_sc ?_; try with_reducible exact True.intro)
                              refine ⟨by unfold OkA; rfl, ?_⟩
                              refine ⟨(i + 1, u2, fun x => if x = i then A' else A3 x, fun x => if x = i then o' else f x), by dsimp only; omega, ⟨by dsimp only; omega, hM4.ext fun x _ => em x, hO4.ext fun x hx => ⟨?_, em x⟩, hgi2 hbb⟩, by (refine Fg_env ?_) <;> (try (refine ew ?_; try with_reducible exact True.intro)) <;> (repeat' (first | refine ⟨?_, ?_⟩ | exact EvV_int (by omega) | exact EvV_of (by simp) | exact EvV_nil _))⟩
                              dsimp only at hx
                              omega
                        · have hie : i = m.length := by omega
                          subst hie
                          have ha : allOk m.length (rrTri M2 k) = true := allOk_iff.2 hgi
                          have hnx := hst ha
                          have em : ∀ x, x < m.length → rrMix M2 k m.length x = rrTri M2 k x := fun x hx => by unfold rrMix; rw [if_pos hx]
                          (refine ew1 @hci ?_; try with_reducible exact True.intro)
                          refine ⟨(k + 1, u, rp2, A3, rrTri M2 k, f), ?c1, ⟨?c2, ?c4, ?c5, ?c6, ?c7⟩, ?c3⟩
                          case c3 => dsimp only; (refine Fg_env ?_) <;> (try (refine ew ?_; try with_reducible exact True.intro)) <;> (repeat' (first | refine ⟨?_, ?_⟩ | exact EvV_int (by omega) | exact EvV_of (by simp) | exact EvV_nil _))
                          case c1 => dsimp only; omega
                          case c2 => dsimp only; omega
                          case c4 => exact hM.ext em
                          case c5 => exact hstep.trans hnx
                          case c6 => exact hOks _ hnx
                          case c7 => exact fun _ => hO.ext fun x hx => ⟨.inl hx, em x hx⟩
            · have hpe : p = m.length := by omega
              have hnn : rrStep m.length M k = none := rrStep_p (by rw [← hP, hpe, Nat.sub_self]; exact Nat.lt_irrefl _)
              obtain ⟨e1, e2⟩ := rrV_none hc ((rrIt_s hIt).trans hnn) hkl
              rw [e1, e2]
              have hpe' : ((p : Int) = (m.length : Nat)) = True := eq_true (by omega)
              (refine ew2 @hcp @hpe' ?_; try with_reducible exact True.intro)
              exact (fin_nil (sz := 1)).tup1
        · have hke : k = m.length := by omega
          subst hke
          obtain ⟨e1, e2⟩ := rrV_some hc hIt
          rw [e1, e2]
          (refine ew1 @hck ?_; try with_reducible exact True.intro)
          exact (OwF.fin hM (hOw h0) (by omega) fun i hi => (hOk i hi).1).tup1
end Go.Ml
end
section
set_option linter.unusedSimpArgs false
set_option linter.unusedVariables false
set_option maxRecDepth 100000
set_option maxHeartbeats 16000000
namespace Go.Ml
def MatF (s : Store) (q n c : Nat) (rp : Nat → Nat) (M : MF) : Prop := Mat s q n c rp (fun x => (M x).map R.cells) M
def setR (M : MF) (i : Nat) (r : List R) : MF := fun x => if x = i then r else M x
theorem MatF.put {s s2 : Store} {q n c k : Nat} {rp : Nat → Nat} {M : MF} {r : List R} (h : MatF s q n c rp M) (hk : k < n) (hr : objAt s2 (rp k) = some ⟨3, r.map R.cells⟩) (ho : ∀ o, o < s.length → o ≠ rp k → objAt s2 o = objAt s o) : MatF s2 q n c rp (setR M k r) := by
  have := Mat.put h hk hr ho (row_frz r)
  have e : (fun i => if i = k then r.map R.cells else (M i).map R.cells) = fun x => (setR M k r x).map R.cells := by
    funext i; unfold setR; split <;> rfl
  rw [e] at this
  exact this
theorem MatF.swap {s : Store} {q n c k p : Nat} {rp : Nat → Nat} {M : MF} (h : MatF s q n c rp M) (hk : k < n) (hp : p < n) {rows : List (List V)} (hrows : rows = ((orow n c rp).set k [.msl (rp p) 0 c]).set p [.msl (rp k) 0 c]) {s2 : Store} (hq : objAt s2 q = some ⟨1, rows⟩) (ho : ∀ o, o ≠ q → o < s.length → objAt s2 o = objAt s o) :
    MatF s2 q n c (fun x => if x = p then rp k else if x = k then rp p else rp x) (rrSwap M k p) := by
  have := Mat.swap h hk hp hrows hq ho
  have e : (fun x => if x = p then (M k).map R.cells else if x = k then (M p).map R.cells else (M x).map R.cells) = fun x => (rrSwap M k p x).map R.cells := by
    funext i; unfold rrSwap; split
    · rfl
    · split <;> rfl
  rw [e] at this
  exact this
theorem MatF.ext {s : Store} {q n c : Nat} {rp : Nat → Nat} {M M2 : MF} (h : MatF s q n c rp M) (e : ∀ i, i < n → M i = M2 i) : MatF s q n c rp M2 :=
  ⟨h.inj, h.out, fun i hi => by rw [← e i hi]; exact h.row i hi, fun i hi => by rw [← e i hi]; exact h.cel i hi⟩
theorem allOk_all (n : Nat) (M : MF) : (((List.range n).map M).all fun r => r.all R.ok) = allOk n M := by
  rw [Bool.eq_iff_iff, allOk_iff, List.all_eq_true]
  constructor
  · intro h i hi; exact h _ (List.mem_map.2 ⟨i, List.mem_range.2 hi, rfl⟩)
  · intro h r hr
    obtain ⟨i, hi, rfl⟩ := List.mem_map.1 hr
    exact h i (List.mem_range.1 hi)
theorem mixL_self {α : Type} (a : List α) (j : Nat) : mixL a a j = a := List.take_append_drop j a
theorem rn_l09Copy {T : Nat → Option Fn} (h : D_spec_l09Copy T) {σ : Store} {m : List (List R)} {C : Nat} (h0 : 0 < m.length) (h10 : m.length ≤ 10) (hC0 : 0 < C) (hC : C ≤ 1048576) (hok : OkM m.length C (mF m)) :
    ∃ q σ' rp, Run T (.fn 325 [ratssV m] σ) (.fn (.msl q 0 m.length) σ') ∧ MatF σ' q m.length C rp (mF m) ∧ (∀ o, o < σ.length → objAt σ' o = objAt σ o) ∧ σ.length ≤ σ'.length := by
  have : ∃ r σ', Run T (.fn 325 [ratssV m] σ) (.fn r σ') ∧ ∃ q rp, r = .msl q 0 m.length ∧ MatF σ' q m.length C rp (mF m) ∧ (∀ o, o < σ.length → objAt σ' o = objAt σ o) ∧ σ.length ≤ σ'.length := by
    refine run_end (fun _ _ => false) h.hT rfl rfl ?_
    dsimp only [F_spec_l09Copy, oN, oS, oG, oK, oA, oH, oV, cI, St.enter, List.length_cons, List.length_nil, Nat.zero_add]
    (refine ew ?_; try with_reducible exact True.intro)
    refine loop_at (fun _ _ => false) (α := Nat × Store × V × Nat × (Nat → Nat)) (fun q => ⟨argE [.any, .any, .any, q.2.2.1, .any, .any, .any, .any, .any, .any, ratssV m, iv (m.length : Nat), iv (q.1 : Nat)], q.2.1, σ.length, 0, [], []⟩) (fun q => q.1 ≤ m.length ∧ ((q.1 = 0 ∧ q.2.2.1 = .nils) ∨ (0 < q.1 ∧ q.2.2.1 = .msl q.2.2.2.1 0 q.1 ∧ MatF q.2.1 q.2.2.2.1 q.1 C q.2.2.2.2 (mF m))) ∧ (∀ o, o < σ.length → objAt q.2.1 o = objAt σ o) ∧ σ.length ≤ q.2.2.2.1 ∧ σ.length ≤ q.2.1.length) (fun q => m.length - q.1) rfl (0, σ ++ [none], .nils, σ.length, fun _ => 0) ?_ ?_ ?_
    · exact ⟨by omega, .inl ⟨rfl, rfl⟩, fun o ho => objAt_snoc_lt ho, Nat.le_refl _, by simp⟩
    · (refine Fg_env ?_) <;> (try (refine ew ?_; try with_reducible exact True.intro)) <;> (repeat' (first | refine ⟨?_, ?_⟩ | exact EvV_int (by omega) | exact EvV_of (by simp) | exact EvV_nil _))
    · rintro ⟨i, s, v3, q, rp⟩ ⟨hi, hM, hso, hsq, hsl⟩
      dsimp only at hi hM hso hsq hsl
      by_cases hcc : (i : Int) < (m.length : Nat)
      · have hil : i < m.length := by omega
        have hai : (m.map fun r => [ratsV r]).getD i [] = [ratsV (m.getD i default)] := mg (f := fun r : List R => [ratsV r]) hil
        obtain ⟨hri, hrc⟩ := hok i hil
        have emf : mF m i = m.getD i default := rfl
        rw [emf] at hri hrc
        generalize m.getD i default = r at *
        (refine ew2 @hcc @hai ?_; try with_reducible exact True.intro)
        refine loop_at (fun _ _ => false) (α := Nat × Store × V × List R) (fun q => ⟨argE [.any, .any, .any, v3, .any, .any, q.2.2.1, .any, .any, .any, ratssV m, iv (m.length : Nat), iv (i : Nat), .any, .any, .any, .any, ratsV r, iv (r.length : Nat), iv (q.1 : Nat)], q.2.1, σ.length, 0, [], []⟩) (fun q => q.1 ≤ r.length ∧ (∀ p, p < s.length → objAt q.2.1 p = objAt s p) ∧ s.length ≤ q.2.1.length ∧ RowN q.2.1 s.length q.2.2.1 q.2.2.2 ∧ q.2.2.2 = r.take q.1) (fun q => r.length - q.1) rfl (0, s ++ [none], .nils, []) ?_ ?_ ?_
        · exact ⟨by omega, fun p hp => objAt_snoc_lt hp, by simp, .inl ⟨rfl, rfl⟩, rfl⟩
        · (refine Fg_env ?_) <;> (try (refine ew ?_; try with_reducible exact True.intro)) <;> (repeat' (first | refine ⟨?_, ?_⟩ | exact EvV_int (by omega) | exact EvV_of (by simp) | exact EvV_nil _))
        · rintro ⟨j, t, v6, L⟩ ⟨hj, hf, hst, hR, hL⟩
          dsimp only at hj hf hst hR hL
          have hLl : L.length = j := by rw [hL, List.length_take]; omega
          by_cases hcj : (j : Int) < (r.length : Nat)
          · have hjl : j < r.length := by omega
            have hrj : (r.map R.cells).getD j [] = (r.getD j default).cells := mg hjl
            have ex := take_snoc hjl
            rw [← hL] at ex
            have cc := c_l04Copy h.d_spec_l04Copy (r := r.getD j default) (by have := cn_len (hrc _ (getD_mem hjl)); unfold R.sz; omega)
            generalize r.getD j default = x at *
            rcases hR with ⟨rfl, rfl⟩ | ⟨pr, rfl, hnp, hp⟩
            · (refine ew2 @hcj @hrj ?_; try with_reducible exact True.intro)
              refine PFK_of cc ?_
              (refine ew ?_; try with_reducible exact True.intro)
              refine ⟨by omega, ?_⟩
              refine ⟨(j + 1, ?st2, .msl (t.length + 1 + 1) 0 1, [] ++ [x]), ?c1, ⟨?c2, ?c4, ?c5, .inr ⟨_, rfl, ?c6, ?c7⟩, ex.symm⟩, ?c3⟩
              case c3 => dsimp only; (refine Fg_env ?_) <;> (try (refine ew ?_; try with_reducible exact True.intro)) <;> (repeat' (first | refine ⟨?_, ?_⟩ | exact EvV_int (by omega) | exact EvV_of (by simp) | exact EvV_nil _))
              case c1 => dsimp only; omega
              case c2 => dsimp only; omega
              case c4 =>
                dsimp only
                intro p hp
                rw [← hf p hp]
                simp (disch := first | omega | (simp only [List.length_append, List.length_set, List.length_cons, List.length_nil]; omega)) only [EVs]
              case c5 => simp; omega
              case c6 => omega
              case c7 => exact objAt_seteq (by simp <;> omega)
            · have hpl := objAt_lt hp
              (refine ew3 @hcj @hrj @hp ?_; try with_reducible exact True.intro)
              refine PFK_of cc ?_
              (refine ew1 @hp ?_; try with_reducible exact True.intro)
              refine ⟨by omega, ?_⟩
              refine ⟨(j + 1, ?st3, .msl (t.length + 1 + 1) 0 (L.length + 1), L ++ [x]), ?c1, ⟨?c2, ?c4, ?c5, .inr ⟨_, by rw [List.length_append]; rfl, ?c6, ?c7⟩, ex.symm⟩, ?c3⟩
              case c3 => dsimp only; (refine Fg_env ?_) <;> (try (refine ew ?_; try with_reducible exact True.intro)) <;> (repeat' (first | refine ⟨?_, ?_⟩ | exact EvV_int (by omega) | exact EvV_of (by simp) | exact EvV_nil _))
              case c1 => dsimp only; omega
              case c2 => dsimp only; omega
              case c4 =>
                dsimp only
                intro p hp
                rw [← hf p hp]
                simp (disch := first | omega | (simp only [List.length_append, List.length_set, List.length_cons, List.length_nil]; omega)) only [EVs]
              case c5 => simp; omega
              case c6 => omega
              case c7 =>
                dsimp only
                rw [List.map_append]
                exact objAt_seteq (by simp <;> omega)
          · have hje : j = r.length := by omega
            rw [hje, List.take_length] at hL
            subst hL
            rcases hR with ⟨rfl, rfl⟩ | ⟨pr, rfl, hnp, hp⟩
            · simp at hri; omega
            have hpl := objAt_lt hp
            rcases hM with ⟨rfl, rfl⟩ | ⟨hi0, rfl, hM⟩
            · (refine ew2 @hcj @hp ?_; try with_reducible exact True.intro)
              refine ⟨by omega, ?_⟩
              refine ⟨(0 + 1, ?st4, .msl (t.length + 1) 0 1, t.length + 1, fun x => if x = 0 then pr else rp x), ?c1, ⟨?c2, .inr ⟨by omega, rfl, ?c4⟩, ?c5, ?c6, ?c7⟩, ?c3⟩
              case c3 => dsimp only; (refine Fg_env ?_) <;> (try (refine ew ?_; try with_reducible exact True.intro)) <;> (repeat' (first | refine ⟨?_, ?_⟩ | exact EvV_int (by omega) | exact EvV_of (by simp) | exact EvV_nil _))
              case c1 => dsimp only; omega
              case c2 => dsimp only; omega
              case c4 =>
                dsimp only
                refine matF_snoc (s := s) (q := 0) (.inl rfl) ?_ ?_ (by omega) (fun o ho _ => ?_)
                · rw [objAt_seteq (by simp)]
                  rw [hri]; rfl
                · rw [emf, ← hp]
                  simp (disch := first | omega | (simp only [List.length_append, List.length_set, List.length_cons, List.length_nil]; omega)) only [EVs]
                · rw [← hf o ho]
                  simp (disch := first | omega | (simp only [List.length_append, List.length_set, List.length_cons, List.length_nil]; omega)) only [EVs]
              case c5 =>
                dsimp only
                intro o ho
                rw [← hso o ho, ← hf o (by omega)]
                simp (disch := first | omega | (simp only [List.length_append, List.length_set, List.length_cons, List.length_nil]; omega)) only [EVs]
              case c6 => dsimp only; omega
              case c7 => simp; omega
            · have hq := hM.out
              have hql := hM.lt.1
              have hoc := orow_len i C rp
              have hqt := (hf q hql).trans hq
              (refine ew4 @hcj @hp @hqt @hoc ?_; try with_reducible exact True.intro)
              refine ⟨by omega, ?_⟩
              refine ⟨(i + 1, ?st5, .msl (t.length + 1) 0 (i + 1), t.length + 1, fun x => if x = i then pr else rp x), ?c1, ⟨?c2, .inr ⟨by omega, rfl, ?c4⟩, ?c5, ?c6, ?c7⟩, ?c3⟩
              case c3 => dsimp only; (refine Fg_env ?_) <;> (try (refine ew ?_; try with_reducible exact True.intro)) <;> (repeat' (first | refine ⟨?_, ?_⟩ | exact EvV_int (by omega) | exact EvV_of (by simp) | exact EvV_nil _))
              case c1 => dsimp only; omega
              case c2 => dsimp only; omega
              case c4 =>
                dsimp only
                refine matF_snoc (s := s) (q := q) (.inr hM) ?_ ?_ (by omega) (fun o ho hne => ?_)
                · rw [objAt_seteq (by simp)]
                  rw [hri]
                · have : pr ≠ q := by omega
                  rw [emf, ← hp]
                  simp (disch := first | omega | (simp only [List.length_append, List.length_set, List.length_cons, List.length_nil]; omega)) only [EVs]
                · rw [← hf o ho]
                  simp (disch := first | omega | (simp only [List.length_append, List.length_set, List.length_cons, List.length_nil]; omega)) only [EVs]
              case c5 =>
                dsimp only
                intro o ho
                have : o ≠ q := by omega
                rw [← hso o ho, ← hf o (by omega)]
                simp (disch := first | omega | (simp only [List.length_append, List.length_set, List.length_cons, List.length_nil]; omega)) only [EVs]
              case c6 => dsimp only; omega
              case c7 => simp; omega
      · have hie : i = m.length := by omega
        subst hie
        rcases hM with ⟨h1, _⟩ | ⟨_, rfl, hM⟩
        · omega
        (refine ew1 @hcc ?_; try with_reducible exact True.intro)
        exact ⟨q, rp, rfl, hM, hso, hsl⟩
  obtain ⟨r, σ', h1, q, rp, rfl, h2⟩ := this
  exact ⟨q, σ', rp, h1, h2⟩
theorem MatF.cell {s : Store} {q n c : Nat} {rp : Nat → Nat} {M : MF} (h : MatF s q n c rp M) (hl : ∀ i, i < n → (M i).length = c) {i j : Nat} (hi : i < n) (hj : j < c) : ((M i).map R.cells)[j]? = some (elF M i j).cells := by
  have hjl : j < (M i).length := by rw [hl i hi]; exact hj
  rw [mg? hjl]; rfl
theorem mixL_cell {a b : List R} {j : Nat} (h : a.length = b.length) (hj : j < b.length) : ((mixL a b j).map R.cells)[j]? = some (b.getD j default).cells := by
  rw [mg? (by rw [mixL_len h]; exact hj), mixL_at h (Nat.le_refl _) (by omega)]
theorem mixL_setc {a b : List R} {j : Nat} {x : R} (h : a.length = b.length) (hj : j < b.length) (hx : a.getD j default = x) : ((mixL a b j).map R.cells).set j x.cells = (mixL a b (j + 1)).map R.cells := by
  rw [← List.map_set, mixL_set h hj hx]
theorem setR_eq (M : MF) (i : Nat) (r : List R) : setR M i r i = r := if_pos rfl
theorem setR_ne {M : MF} {i x : Nat} {r : List R} (h : x ≠ i) : setR M i r x = M x := if_neg h
theorem setR_set (M : MF) (i : Nat) (r r2 : List R) : setR (setR M i r) i r2 = setR M i r2 := by
  funext x; unfold setR; split <;> rfl
theorem Mat.resN {s : Store} {q n c : Nat} {rp : Nat → Nat} {A : Nat → List (List V)} {M : MF} (h : Mat s q n c rp A M) (hl : ∀ i, i < n → (M i).length = c) (k : Nat) : resolve s (k + 5) (.msl q 0 n) = some (ratssV ((List.range n).map M)) := by
  rw [resolve]
  simp only [h.out]
  rw [if_pos (by rw [orow_len]; omega), List.drop_zero, List.take_of_length_le (by rw [orow_len]; omega)]
  have : ((orow n c rp).mapM fun (r : List V) => r.mapM (resolve s (k + 4))) = some ((List.range n).map fun i => [ratsV (M i)]) := by
    unfold orow
    rw [List.mapM_map]
    refine mapM_some fun i hi => ?_
    have hi := List.mem_range.1 hi
    have h1 := (h.cel i hi).resN (h.row i hi) k
    rw [hl i hi] at h1
    simp only [Function.comp, List.mapM_cons, List.mapM_nil]
    rw [h1]; rfl
  rw [this, Option.map_some]
  unfold ratssV
  rw [List.map_map]
  rfl
theorem setR_self (M : MF) (i : Nat) : setR M i (M i) = M := by
  funext x; unfold setR
  by_cases e : x = i
  · rw [if_pos e, e]
  · rw [if_neg e]
theorem MatF.rowk {s : Store} {q n c k : Nat} {rp : Nat → Nat} {M : MF} {r : List R} (h : MatF s q n c rp M) (hk : k < n) (e : M k = r) : objAt s (rp k) = some ⟨3, r.map R.cells⟩ := by
  have := h.row k hk
  rw [← e]; exact this
theorem rn_l09Copy0 {T : Nat → Option Fn} (h : D_spec_l09Copy T) {m : List (List R)} (h0 : m.length = 0) : ∃ σ', Run T (.fn 325 [ratssV m] []) (.fn .nils σ') := by
  have : ∃ r σ', Run T (.fn 325 [ratssV m] []) (.fn r σ') ∧ r = .nils := by
    refine run_end (fun _ _ => false) h.hT rfl rfl ?_
    dsimp only [F_spec_l09Copy, oN, oS, oG, oK, oA, oH, oV, cI, St.enter, List.length_cons, List.length_nil, Nat.zero_add]
    (refine ew ?_; try with_reducible exact True.intro)
    refine loop_at (fun _ _ => false) (α := Nat) (fun i => ⟨argE [.any, .any, .any, .nils, .any, .any, .any, .any, .any, .any, ratssV m, iv (m.length : Nat), iv (i : Nat)], [none], 0, 0, [], []⟩) (fun i => i = 0) (fun i => i) rfl 0 ?_ ?_ ?_
    · rfl
    · (refine Fg_env ?_) <;> (try (refine ew ?_; try with_reducible exact True.intro)) <;> (repeat' (first | refine ⟨?_, ?_⟩ | exact EvV_int (by omega) | exact EvV_of (by simp) | exact EvV_nil _))
    · rintro i rfl
      have hcc : ¬ (((0 : Nat) : Int) < (m.length : Nat)) := by omega
      (refine ew1 @hcc ?_; try with_reducible exact True.intro)
  obtain ⟨r, σ', h1, rfl⟩ := this
  exact ⟨σ', h1⟩
theorem c_sReduceRows {T : Nat → Option Fn} (h : D_spec_ReduceRows T) {m : List (List R)} {c : Int} (hw : wfL (wfL R.wf) m) (hz : rrC m c = true → szL (szL R.sz) m ≤ 1048576) (hcw : c ≤ 9223372036854775807) : PF T 310 [ratssV m, iv c] (.tup [ratssV (rrM m c), .bool (rrB m c)]) := by
  have c1 := c_sIsMatrix h.d_spec_IsMatrix (m := m) (cols := c) hw hcw
  have hml := hw.1
  cases hc : rrC m c
  · obtain ⟨e1, e2⟩ := rrV_bad hc
    rw [e1, e2]
    unfold rrC at hc
    generalize matOk m c = x at c1 hc
    have hx : x = false ∨ x = true := by cases x <;> simp
    refine pf_endL (fun _ _ => false) h.hT rfl rfl ?_
    dsimp only [F_spec_ReduceRows, oN, oS, oG, oK, oA, oH, oV, cI]
    (refine ev ?_; try with_reducible exact True.intro)
    refine PFK_of c1 ?_
    rcases hx with hx | hx
    · (refine ev1 @hx ?_; try with_reducible exact True.intro)
      exact of_eq_true (by simp [LaxV, LaxL, ratssV])
    · have hlt : c < (m.length : Nat) := by
        rw [hx, Bool.true_and, decide_eq_false_iff_not] at hc
        omega
      (refine ev2 @hx @hlt ?_; try with_reducible exact True.intro)
      exact of_eq_true (by simp [LaxV, LaxL, ratssV])
  obtain ⟨h10, hnc, hmo, hok⟩ := rrC_ok hc
  rw [hmo] at c1
  have hlt : ¬ c < (m.length : Nat) := by omega
  obtain ⟨C, rfl⟩ : ∃ C : Nat, c = C := ⟨c.toNat, by omega⟩
  rw [Int.toNat_natCast] at hok
  have hrl : ∀ i, i < m.length → (m.getD i default).length = C := fun i hi => (hok i hi).1
  rcases Nat.eq_zero_or_pos m.length with h0 | h0
  · obtain ⟨e1, e2⟩ := rrV_some hc (M := mF m) (by rw [h0]; rfl)
    rw [h0] at e1
    rw [e1, e2]
    obtain ⟨s1, cr⟩ := rn_l09Copy0 h.d_spec_l09Copy h0
    refine pf_endL (fun x d => (x == 325 && d == 26)) h.hT rfl rfl ?_
    dsimp only [F_spec_ReduceRows, oN, oS, oG, oK, oA, oH, oV, cI]
    (refine ew ?_; try with_reducible exact True.intro)
    refine PFK_of c1 ?_
    (refine ew1 @hlt ?_; try with_reducible exact True.intro)
    refine RefK_mk cr rfl (by simp) (by simp) ?_
    (refine ew ?_; try with_reducible exact True.intro)
    refine loop_at (fun x d => (x == 325 && d == 26)) (α := Nat) (fun k => ⟨argE [.any, .any, .any, .any, .any, .any, .nils, .any, .any, .any, .any, .any, .any, .any, .any, .any, .any, .any, .any, .any, .any, .any, .any, .any, .any, .any, .any, .any, iv 0, iv (k : Nat)], s1, 0, 0, [], []⟩) (fun k => k = 0) (fun k => k) rfl 0 ?_ ?_ ?_
    · rfl
    · (refine Fg_env ?_) <;> (try (refine ew ?_; try with_reducible exact True.intro)) <;> (repeat' (first | refine ⟨?_, ?_⟩ | exact EvV_int (by omega) | exact EvV_of (by simp) | exact EvV_nil _))
    · rintro k hk
      have hcc : ¬ ((k : Int) < 0) := by omega
      (refine ew1 @hcc ?_; try with_reducible exact True.intro)
      exact of_eq_true (by simp [LaxV, LaxL, ratssV])
  have hC := mat_bd (hz hc) h0 hrl
  clear hw hz hml
  obtain ⟨qo, s1, rp1, cr, hM1, _, _⟩ := rn_l09Copy h.d_spec_l09Copy (σ := []) h0 h10 (by omega) hC hok
  refine pf_endL (fun x d => (x == 325 && d == 26)) h.hT rfl rfl ?_
  dsimp only [F_spec_ReduceRows, oN, oS, oG, oK, oA, oH, oV, cI]
  (refine ew ?_; try with_reducible exact True.intro)
  refine PFK_of c1 ?_
  (refine ew1 @hlt ?_; try with_reducible exact True.intro)
  refine RefK_mk cr rfl (by simp) (by simp) ?_
  have hq1 := hM1.out
  (refine ew1 @hq1 ?_; try with_reducible exact True.intro)
  refine loop_at (fun x d => (x == 325 && d == 26)) (α := Nat × Store × (Nat → Nat) × MF) (fun q => ⟨argE [.any, iv C, .any, .any, .any, .any, .msl qo 0 m.length, .any, .any, .any, .any, .any, .any, .any, .any, .any, .any, .any, .any, .any, .any, .any, .any, .any, .any, .any, .any, .any, iv (m.length : Nat), iv (q.1 : Nat)], q.2.1, 0, 0, [], []⟩) (fun q => q.1 ≤ m.length ∧ MatF q.2.1 qo m.length C q.2.2.1 q.2.2.2 ∧ rrIt m.length (mF m) q.1 = some q.2.2.2 ∧ OkM m.length C q.2.2.2) (fun q => m.length - q.1) rfl (0, s1, rp1, mF m) ?_ ?_ ?_
  · exact ⟨by omega, hM1, rfl, hok⟩
  · (refine Fg_env ?_) <;> (try (refine ew ?_; try with_reducible exact True.intro)) <;> (repeat' (first | refine ⟨?_, ?_⟩ | exact EvV_int (by omega) | exact EvV_of (by simp) | exact EvV_nil _))
  · clear hM1 hok hrl cr hq1
    rintro ⟨k, s, rp, M⟩ ⟨hk, hM, hIt, hOk⟩
    dsimp only at hk hM hIt hOk
    by_cases hck : (k : Int) < (m.length : Nat)
    · have hkl : k < m.length := by omega
      have hkC : k < C := by omega
      have hql := hM.lt.1
      have hq := hM.out
      (refine ew1 @hck ?_; try with_reducible exact True.intro)
      refine loop_at (fun x d => (x == 325 && d == 26)) (α := Nat) (fun p => ⟨argE [.any, iv C, .any, .any, .any, .any, .msl qo 0 m.length, iv (k : Nat), iv (p : Nat), .any, .any, .any, .any, .any, .any, .any, .any, .any, .any, .any, .any, .any, .any, .any, .any, .any, .any, .any, iv (m.length : Nat), iv (k : Nat)], s, 0, 0, [], []⟩) (fun p => k ≤ p ∧ p ≤ m.length ∧ rrP M k (m.length - p) p = rrPv m.length M k) (fun p => m.length - p) rfl k ?_ ?_ ?_
      · exact ⟨Nat.le_refl _, by omega, rfl⟩
      · (refine Fg_env ?_) <;> (try (refine ew ?_; try with_reducible exact True.intro)) <;> (repeat' (first | refine ⟨?_, ?_⟩ | exact EvV_int (by omega) | exact EvV_of (by simp) | exact EvV_nil _))
      · rintro p ⟨hkp, hpn, hP⟩
        by_cases hcp : (p : Int) < (m.length : Nat)
        · have hpl : p < m.length := by omega
          have gA := hM.cell (fun i hi => (hOk i hi).1) hpl hkC
          have hxc := hOk.el hpl hkC
          have cs := c_sRatSign h.d_spec_RatSign (cn_wf hxc)
          have hzz := rrP_z (M := M) (k := k) hpl
          have hnz := rrP_n (M := M) (k := k) hpl
          unfold sgnR at hzz hnz
          obtain ⟨x, hx⟩ : ∃ x, elF M p k = x := ⟨_, rfl⟩
          rw [hx] at gA cs hzz hnz hxc
          have O1 := And.intro hq (hM.row p hpl)
          have G1 := And.intro (orow_at (c := C) (rp := rp) hpl) gA
          (refine ew3 @hcp @O1 @G1 ?_; try with_reducible exact True.intro)
          refine PFK_of cs ?_
          by_cases hs : signQ x.q = 0
          · (refine ew1 @hs ?_; try with_reducible exact True.intro)
            exact ⟨p + 1, by omega, ⟨by omega, by omega, (hzz hs).symm.trans hP⟩, by (refine Fg_env ?_) <;> (try (refine ew ?_; try with_reducible exact True.intro)) <;> (repeat' (first | refine ⟨?_, ?_⟩ | exact EvV_int (by omega) | exact EvV_of (by simp) | exact EvV_nil _))⟩
          · have hPv := (hnz hs).symm.trans hP
            have hpn' : ¬ ((p : Int) = (m.length : Nat)) := by omega
            have gk := orow_at (c := C) (rp := rp) hkl
            obtain ⟨w, gS1⟩ : ∃ w, ((orow m.length C rp).set k [V.msl (rp p) 0 C])[p]? = some [w] := by rw [orow_set]; exact ⟨_, orow_at hpl⟩
            have gS2 : (((orow m.length C rp).set k [V.msl (rp p) 0 C]).set p [.msl (rp k) 0 C])[k]? = some [.msl (rp p) 0 C] := by
              rw [orow_set, orow_set, orow_at hkl]
              by_cases e : k = p
              · subst e; simp
              · rw [if_neg e, if_pos rfl]
            have hnq := hM.ne hpl
            have hpq := hM.lt.2 p hpl
            (refine ew5 (And.intro hs hpn') @O1 @G1 (And.intro gk (And.intro gS1 gS2)) @List.set_set.{0} ?_; try with_reducible exact True.intro)
            have hl2 : (s.set qo (some ⟨1, ((orow m.length C rp).set k [V.msl (rp p) 0 C]).set p [.msl (rp k) 0 C]⟩)).length = s.length := by simp
            have hM2 := hM.swap hkl hpl rfl (s2 := s.set qo (some ⟨1, ((orow m.length C rp).set k [V.msl (rp p) 0 C]).set p [.msl (rp k) 0 C]⟩)) (objAt_seteq hql) (fun o h _ => objAt_setne h)
            generalize s.set qo (some ⟨1, ((orow m.length C rp).set k [V.msl (rp p) 0 C]).set p [.msl (rp k) 0 C]⟩) = s2 at *
            rw [← hl2]
            have hp1 : rrPv m.length M k < m.length := hPv ▸ hpl
            have e1 : rrSwap M k p = rrOne m.length M k := by unfold rrOne; rw [← hPv]
            rw [e1] at hM2
            have hOk1 := hOk.one hkl hp1
            have exk : elF (rrOne m.length M k) k k = x := by
              rw [← hx, ← e1]
              unfold elF rrSwap
              by_cases e : k = p
              · rw [if_pos e, e]
              · rw [if_neg e, if_pos rfl]
            have hL1 := fun i hi => (hOk1 i hi).1
            have e2w : rrTwo m.length M k = setR (rrOne m.length M k) k (rrDiv (rrOne m.length M k k) k) := rfl
            have hOk2 := hOk.two hkl hp1
            have hstep : rrIt m.length (mF m) (k + 1) = rrStep m.length M k := rrIt_s hIt
            have hsf := @rrStep_f m.length M k
            have hst := rrStep_t (n := m.length) (M := M) (k := k) hp1
            have hOks := fun M' => hOk.step (M' := M') hkl
            generalize (fun x => if x = p then rp k else if x = k then rp p else rp x) = rp2 at hM2
            have hDl := rrDiv_len (rrOne m.length M k k) k
            have hDa := fun j hj => rrDiv_at (rrOne m.length M k k) k (j := j) hj
            have hlk := hL1 k hkl
            have hel := fun j hj => hOk1.el hkl (j := j) hj
            rw [show (rrOne m.length M k k).getD k default = x from exk] at hDa
            generalize rrTwo m.length M k = M2 at *
            generalize hM1 : rrOne m.length M k = M1 at *
            clear hs hzz hnz cs O1 G1 gk gS1 gS2 hnq hpq hpn' hM hOk gA hx hP hPv hp1 e1 hql hl2 hIt w hq
            have hrq := hM2.ne hkl
            have hrl2 := hM2.lt.2 k hkl
            have gk := orow_at (c := C) (rp := rp2) hkl
            generalize hD : rrDiv (M1 k) k = D at *
            refine loop_at (fun x d => (x == 325 && d == 26)) (α := Nat × Store) (fun q => ⟨argE [.any, iv C, .any, .any, .any, .any, .msl qo 0 m.length, iv (k : Nat), .any, .any, .ptr s2.length 0 0, .any, .any, .any, .any, .any, .any, .any, .any, .any, .any, .any, .any, .any, .any, .any, .any, .any, iv (m.length : Nat), iv (k : Nat), .any, .any, .any, .any, .any, .any, .any, .any, .any, .any, .any, .any, .any, .any, .any, .any, .any, .any, .any, .any, .any, .any, .any, .any, .any, .any, .any, .any, .any, .any, .any, .any, .any, .any, .any, .any, .any, .any, .any, .any, .any, .any, .any, .any, .any, .any, .any, .any, .any, .any, iv (C : Nat), iv (q.1 : Nat)], q.2, 0, 0, [], []⟩) (fun q => q.1 ≤ C ∧ MatF q.2 qo m.length C rp2 (setR M1 k (mixL D (M1 k) q.1)) ∧ objAt q.2 s2.length = some ⟨3, [x.cells]⟩) (fun q => C - q.1) rfl (0, (s2 ++ [none]).set s2.length (some ⟨3, [x.cells]⟩)) ?_ ?_ ?_
            · refine ⟨Nat.zero_le _, ?_, by rw [set_snoc]; exact objAt_snoc _ _⟩
              rw [mixL_0, setR_self, set_snoc]
              exact hM2.fr fun o ho => objAt_snoc_lt ho
            · (refine Fg_env ?_) <;> (try (refine ew ?_; try with_reducible exact True.intro)) <;> (repeat' (first | refine ⟨?_, ?_⟩ | exact EvV_int (by omega) | exact EvV_of (by simp) | exact EvV_nil _))
            · rintro ⟨j, t⟩ ⟨hj, hMt, hbx⟩
              dsimp only at hj hMt hbx
              have hqt := hMt.out
              have hqs := hMt.lt.1
              have hrs := hMt.lt.2 k hkl
              have hrt := hMt.rowk hkl (setR_eq _ _ _)
              by_cases hcj : (j : Int) < (C : Nat)
              · have hjl : j < C := by omega
                have cy := hel j hjl
                have hz := hDa j (by omega)
                rw [show (M1 k).getD j default = elF M1 k j from rfl] at hz
                have gB := mixL_cell (a := D) (b := M1 k) (j := j) (by omega) (by omega)
                rw [show (M1 k).getD j default = elF M1 k j from rfl] at gB
                have gS := mixL_setc (a := D) (b := M1 k) (j := j) (by omega) (by omega) hz
                have cd := c_sRatDiv h.d_spec_RatDiv (cn_wf cy) (cn_wf hxc)
                generalize elF M1 k j = y at *
                generalize divR y x = z at *
                have hbs := objAt_lt hbx
                (refine ew3 @hcj (And.intro hqt (And.intro hrt hbx)) (And.intro gk gB) ?_; try with_reducible exact True.intro)
                refine PFK_of cd ?_
                (refine ew2 (And.intro hqt (And.intro hrt hbx)) (And.intro gk gB) ?_; try with_reducible exact True.intro)
                refine ⟨by unfold OkA; rfl, ?_⟩
                refine ⟨(j + 1, ?st), ?c1, ⟨?c2, ?c4, ?c5⟩, ?c3⟩
                case c3 => dsimp only; (refine Fg_env ?_) <;> (try (refine ew ?_; try with_reducible exact True.intro)) <;> (repeat' (first | refine ⟨?_, ?_⟩ | exact EvV_int (by omega) | exact EvV_of (by simp) | exact EvV_nil _))
                case c1 => dsimp only; omega
                case c2 => dsimp only; omega
                case c4 =>
                  dsimp only
                  have := hMt.put (k := k) (r := mixL D (M1 k) (j + 1)) hkl (s2 := t.set (rp2 k) (some ⟨3, ((mixL D (M1 k) j).map R.cells).set j z.cells⟩)) (by rw [objAt_seteq hrs, gS]) (fun o _ ho => objAt_setne ho)
                  rw [setR_set] at this
                  exact this
                case c5 =>
                  dsimp only
                  rw [objAt_setne (by omega)]
                  exact hbx
              · have hje : j = C := by omega
                rw [hje, ← hlk, mixL_all _ _ (by omega) (by omega), ← e2w, hlk] at hMt
                clear hbx hrt hrl2 hqs hrs hD hDl hDa
                (refine ew2 @hcj @hqt ?_; try with_reducible exact True.intro)
                have et : rrTri M2 k k = M2 k := if_pos rfl
                have hl22 := fun i hi => (hOk2 i hi).1
                rw [← rrMix_0 M2 k] at hMt
                refine loop_at (fun x d => (x == 325 && d == 26)) (α := Nat × Store) (fun q => ⟨argE [.any, iv C, .any, .any, .any, .any, .msl qo 0 m.length, iv (k : Nat), .any, .any, .any, .any, .any, .any, .any, .any, .any, .any, .any, .any, .any, .any, .any, .any, .any, .any, .any, .any, iv (m.length : Nat), iv (k : Nat), .any, .any, .any, .any, .any, .any, .any, .any, .any, .any, .any, .any, .any, .any, .any, .any, .any, .any, .any, .any, .any, .any, .any, .any, .any, .any, .any, .any, .any, .any, .any, .any, .any, .any, .any, .any, .any, .any, .any, .any, .any, .any, .any, .any, .any, .any, .any, .any, .any, .any, .any, .any, .any, .any, .any, .any, .any, .any, .any, .any, .any, .any, .any, .any, .any, .any, .any, .any, .any, .any, .any, iv (m.length : Nat), iv (q.1 : Nat)], q.2, 0, 0, [], []⟩) (fun q => q.1 ≤ m.length ∧ MatF q.2 qo m.length C rp2 (rrMix M2 k q.1)) (fun q => m.length - q.1) rfl (0, t) ?_ ?_ ?_
                · exact ⟨Nat.zero_le _, hMt⟩
                · (refine Fg_env ?_) <;> (try (refine ew ?_; try with_reducible exact True.intro)) <;> (repeat' (first | refine ⟨?_, ?_⟩ | exact EvV_int (by omega) | exact EvV_of (by simp) | exact EvV_nil _))
                · clear hMt hqt hM2
                  rintro ⟨i, t⟩ ⟨hi, hMt⟩
                  dsimp only at hi hMt
                  have hqt := hMt.out
                  by_cases hci : (i : Int) < (m.length : Nat)
                  · have hil : i < m.length := by omega
                    have hOm := hOk2.mix hkl i
                    have hlm := fun x hx => (hOm x hx).1
                    have emi : rrMix M2 k i i = M2 i := if_neg (Nat.lt_irrefl _)
                    have emk : rrMix M2 k i k = M2 k := by
                      unfold rrMix
                      split
                      · exact et
                      · rfl
                    have gC := hMt.cell hlm hil hkC
                    rw [show elF (rrMix M2 k i) i k = elF M2 i k by unfold elF; rw [emi], emi] at gC
                    have hrt := hMt.rowk hil emi
                    have cy := hOk2.el hil hkC
                    have gi := orow_at (c := C) (rp := rp2) hil
                    have etr : rrTri M2 k i = if i = k then M2 k else rrSub (M2 i) (M2 k) (elF M2 i k) := rfl
                    have emx : ∀ x, setR (rrMix M2 k i) i (rrTri M2 k i) x = rrMix M2 k (i + 1) x := fun x => by
                      unfold setR rrMix
                      by_cases e : x = i
                      · rw [if_pos e, if_pos (by omega), e]
                      · by_cases e2 : x < i
                        · rw [if_neg e, if_pos e2, if_pos (by omega)]
                        · rw [if_neg e, if_neg e2, if_neg (by omega)]
                    have hTl : (rrTri M2 k i).length = (M2 i).length := by
                      rw [etr]
                      split
                      · rw [hl22 k hkl, hl22 i hil]
                      · rw [rrSub_len]
                    have hTa := fun j hj => rrSub_at (M2 i) (M2 k) (elF M2 i k) (j := j) hj
                    have helk := fun j hj => hOk2.el hkl (j := j) hj
                    have heli := fun j hj => hOk2.el hil (j := j) hj
                    have hli := hl22 i hil
                    have hlkk := hl22 k hkl
                    generalize elF M2 i k = y at *
                    have hqs := hMt.lt.1
                    have hrl3 := hMt.lt.2 i hil
                    (refine ew3 @hci (And.intro hqt hrt) (And.intro gi gC) ?_; try with_reducible exact True.intro)
                    refine loop_at (fun x d => (x == 325 && d == 26)) (α := Nat × Store) (fun q => ⟨argE [.any, iv C, .any, .any, .any, .any, .msl qo 0 m.length, iv (k : Nat), .any, .any, .any, .any, iv (i : Nat), .ptr t.length 0 0, .any, .any, .any, .any, .any, .any, .any, .any, .any, .any, .any, .any, .any, .any, iv (m.length : Nat), iv (k : Nat), .any, .any, .any, .any, .any, .any, .any, .any, .any, .any, .any, .any, .any, .any, .any, .any, .any, .any, .any, .any, .any, .any, .any, .any, .any, .any, .any, .any, .any, .any, .any, .any, .any, .any, .any, .any, .any, .any, .any, .any, .any, .any, .any, .any, .any, .any, .any, .any, .any, .any, .any, .any, .any, .any, .any, .any, .any, .any, .any, .any, .any, .any, .any, .any, .any, .any, .any, .any, .any, .any, .any, iv (m.length : Nat), iv (i : Nat), .any, .any, .any, .any, .any, .any, .any, .any, .any, .any, .any, .any, .any, iv (C : Nat), iv (q.1 : Nat)], q.2, 0, 0, [], []⟩) (fun q => q.1 ≤ C ∧ MatF q.2 qo m.length C rp2 (setR (rrMix M2 k i) i (mixL (rrTri M2 k i) (M2 i) q.1)) ∧ objAt q.2 t.length = some ⟨3, [y.cells]⟩) (fun q => C - q.1) rfl (0, t ++ [some (⟨3, [y.cells]⟩ : Obj)]) ?_ ?_ ?_
                    · refine ⟨Nat.zero_le _, ?_, objAt_snoc _ _⟩
                      rw [mixL_0, ← emi, setR_self]
                      exact hMt.fr fun o ho => objAt_snoc_lt ho
                    · (refine Fg_env ?_) <;> (try (refine ew ?_; try with_reducible exact True.intro)) <;> (repeat' (first | refine ⟨?_, ?_⟩ | exact EvV_int (by omega) | exact EvV_of (by simp) | exact EvV_nil _))
                    · clear hrt hqt gC
                      rintro ⟨j, u⟩ ⟨hj, hMu, hbx⟩
                      dsimp only at hj hMu hbx
                      by_cases hcj2 : (j : Int) < (C : Nat)
                      · have hjl : j < C := by omega
                        by_cases hik : i = k
                        · have hik' : ((i : Int) = (k : Nat)) = True := eq_true (by omega)
                          have e0 : rrTri M2 k i = M2 i := by rw [etr, if_pos hik, hik]
                          (refine ew2 @hcj2 @hik' ?_; try with_reducible exact True.intro)
                          refine ⟨(j + 1, u), by dsimp only; omega, ⟨by dsimp only; omega, ?_, hbx⟩, by (refine Fg_env ?_) <;> (try (refine ew ?_; try with_reducible exact True.intro)) <;> (repeat' (first | refine ⟨?_, ?_⟩ | exact EvV_int (by omega) | exact EvV_of (by simp) | exact EvV_nil _))⟩
                          dsimp only
                          rw [e0, mixL_self] at hMu ⊢
                          exact hMu
                        · have hik' : ((i : Int) = (k : Nat)) = False := eq_false (by omega)
                          have e0 : rrTri M2 k i = rrSub (M2 i) (M2 k) y := by rw [etr, if_neg hik]
                          have hqu := hMu.out
                          have hru := hMu.rowk hil (setR_eq _ _ _)
                          have hku := hMu.rowk hkl ((setR_ne (fun e => hik e.symm)).trans emk)
                          have hrs := hMu.lt.2 i hil
                          have hbs := objAt_lt hbx
                          have hz := hTa j (by omega)
                          rw [← e0, show (M2 i).getD j default = elF M2 i j from rfl, show (M2 k).getD j default = elF M2 k j from rfl, mulR_comm] at hz
                          have gB := mixL_cell (a := rrTri M2 k i) (b := M2 i) (j := j) hTl (by omega)
                          rw [show (M2 i).getD j default = elF M2 i j from rfl] at gB
                          have gK : ((M2 k).map R.cells)[j]? = some (elF M2 k j).cells := mg? (by omega)
                          have gS := mixL_setc (a := rrTri M2 k i) (b := M2 i) (j := j) hTl (by omega) hz
                          have cm := c_sRatMul h.d_spec_RatMul (cn_wf cy) (cn_wf (helk j hjl))
                          have cs := c_sRatSub h.d_spec_RatSub (cn_wf (heli j hjl)) (cn_wf (mulR_cn y (elF M2 k j)))
                          generalize elF M2 k j = r at *
                          generalize elF M2 i j = x2 at *
                          generalize mulR y r = mm at *
                          generalize subR x2 mm = z at *
                          (refine ew4 @hcj2 @hik' (And.intro hqu (And.intro hru (And.intro hku hbx))) (And.intro gi (And.intro gk (And.intro gB gK))) ?_; try with_reducible exact True.intro)
                          refine PFK_of cm ?_
                          (refine ew ?_; try with_reducible exact True.intro)
                          refine PFK_of cs ?_
                          (refine ew2 (And.intro hqu (And.intro hru (And.intro hku hbx))) (And.intro gi (And.intro gk (And.intro gB gK))) ?_; try with_reducible exact True.intro)
                          refine ⟨by unfold OkA; rfl, ?_⟩
                          refine ⟨(j + 1, ?st3), ?c1, ⟨?c2, ?c4, ?c5⟩, ?c3⟩
                          case c3 => dsimp only; (refine Fg_env ?_) <;> (try (refine ew ?_; try with_reducible exact True.intro)) <;> (repeat' (first | refine ⟨?_, ?_⟩ | exact EvV_int (by omega) | exact EvV_of (by simp) | exact EvV_nil _))
                          case c1 => dsimp only; omega
                          case c2 => dsimp only; omega
                          case c4 =>
                            dsimp only
                            have := hMu.put (k := i) (r := mixL (rrTri M2 k i) (M2 i) (j + 1)) hil (s2 := u.set (rp2 i) (some ⟨3, ((mixL (rrTri M2 k i) (M2 i) j).map R.cells).set j z.cells⟩)) (by rw [objAt_seteq hrs, gS]) (fun o _ ho => objAt_setne ho)
                            rw [setR_set] at this
                            exact this
                          case c5 =>
                            dsimp only
                            rw [objAt_setne (by omega)]
                            exact hbx
                      · have hje2 : j = C := by omega
                        rw [hje2, ← hli, mixL_all _ _ (by omega) (by omega), hli] at hMu
                        (refine ew1 @hcj2 ?_; try with_reducible exact True.intro)
                        exact ⟨(i + 1, u), by dsimp only; omega, ⟨by dsimp only; omega, hMu.ext fun x _ => emx x⟩, by (refine Fg_env ?_) <;> (try (refine ew ?_; try with_reducible exact True.intro)) <;> (repeat' (first | refine ⟨?_, ?_⟩ | exact EvV_int (by omega) | exact EvV_of (by simp) | exact EvV_nil _))⟩
                  · have hie : i = m.length := by omega
                    subst hie
                    have em : ∀ x, x < m.length → rrMix M2 k m.length x = rrTri M2 k x := fun x hx => by unfold rrMix; rw [if_pos hx]
                    have hM3 := hMt.ext em
                    have hOk3 := hOk2.tri hkl
                    have Rf := hM3.res fun i hi => (hOk3 i hi).1
                    have hms := mat_sz (m := (List.range m.length).map (rrTri M2 k)) (n := C) (fun r hr => by
                      obtain ⟨i, hi, rfl⟩ := List.mem_map.1 hr
                      have := hOk3 i (List.mem_range.1 hi)
                      exact ⟨this.2, by omega⟩) hC (by simpa using h10)
                    have c2 := c_sIsMatrix h.d_spec_IsMatrix (m := (List.range m.length).map (rrTri M2 k)) (cols := (C : Nat)) hms.2 hcw
                    rw [matOk_of (fun r hr => by
                      obtain ⟨i, hi, rfl⟩ := List.mem_map.1 hr
                      have := (hOk3 i (List.mem_range.1 hi)).1
                      omega) (by simpa using h10), allOk_all] at c2
                    cases ha : allOk m.length (rrTri M2 k)
                    · rw [ha] at c2
                      obtain ⟨e1, e2⟩ := rrV_none hc (hstep.trans (hsf ha)) hkl
                      rw [e1, e2]
                      (refine ew2 @hci @Rf ?_; try with_reducible exact True.intro)
                      refine PFK_of c2 ?_
                      (refine ew ?_; try with_reducible exact True.intro)
                      exact of_eq_true (by simp [LaxV, LaxL, ratssV])
                    · rw [ha] at c2
                      have hnx := hst ha
                      (refine ew2 @hci @Rf ?_; try with_reducible exact True.intro)
                      refine PFK_of c2 ?_
                      (refine ew ?_; try with_reducible exact True.intro)
                      exact ⟨(k + 1, t, rp2, rrTri M2 k), by dsimp only; omega, ⟨by dsimp only; omega, hM3, hstep.trans hnx, hOks _ hnx⟩, by (refine Fg_env ?_) <;> (try (refine ew ?_; try with_reducible exact True.intro)) <;> (repeat' (first | refine ⟨?_, ?_⟩ | exact EvV_int (by omega) | exact EvV_of (by simp) | exact EvV_nil _))⟩
        · have hpe : p = m.length := by omega
          have hnn : rrStep m.length M k = none := rrStep_p (by rw [← hP, hpe, Nat.sub_self]; exact Nat.lt_irrefl _)
          obtain ⟨e1, e2⟩ := rrV_none hc ((rrIt_s hIt).trans hnn) hkl
          rw [e1, e2]
          have hpe' : ((p : Int) = (m.length : Nat)) = True := eq_true (by omega)
          (refine ew3 @hcp @hpe' @hq ?_; try with_reducible exact True.intro)
          exact of_eq_true (by simp [LaxV, LaxL, ratssV])
    · have hke : k = m.length := by omega
      subst hke
      obtain ⟨e1, e2⟩ := rrV_some hc hIt
      rw [e1, e2]
      have Rf := (r1_mslO s qo 0 m.length).symm.trans (hM.resN (fun i hi => (hOk i hi).1) 6)
      (refine ew2 @hck @Rf ?_; try with_reducible exact True.intro)
      exact laxV_refl _
end Go.Ml
end
section
set_option linter.unusedSimpArgs false
set_option linter.unusedVariables false
set_option maxRecDepth 100000
set_option maxHeartbeats 8000000
namespace Go.Ml
def F_spec_SolveSystem : Fn := ⟨2, 73, [.tmp 4, .tmp 5], (.seq (.reg false 0 [oN 4 (.mov (.c (.nils))), oN 5 (.mov (.c (.bool false)))]) (.seq (.seq (.reg false 0 [oN 13 (oV 0), oN 14 (oV 0), oN 15 (.len (.t 14)), oN 16 (.call 91 [(.t 13), (.t 15)]), oN 17 (.un .not (.t 16)), oN 18 (oV 17), oG 18 false 19 (oV 1), oG 18 false 20 (.len (.t 19)), oG 18 false 21 (oV 0), oG 18 false 22 (.len (.t 21)), oG 18 false 23 (.bin .neq (.t 20) (.t 22)), oN 24 (.pick (.t 18) (.c (.bool true)) (.t 23))]) (.cond (.t 24) (.seq (.reg false 0 [oN 4 (.mov (.c (.nils))), oN 5 (.mov (.c (.bool false)))]) .ret) .skip)) (.seq (.reg false 0 [oN 25 (oV 0), oN 26 (.call 325 [(.t 25)]), oN 6 (oV 26)]) (.seq (.seq (.reg false 0 [oN 27 (oV 6), oN 28 (.len (.t 27)), oN 29 (.mov (cI 0))]) (.block 0 (.loop (.seq (.reg false 0 [oN 30 (.bin .lss (.t 29) (.t 28))]) (.seq (.cond (.t 30) .skip (.exit 0)) (.seq (.block 1 (.seq (.reg false 0 [oN 31 (oV 29), oN 7 (oV 31)]) (.reg true 2 [oK 32 2 (oV 6), oK 33 2 (oV 7), oK 34 2 (oV 6), oK 35 2 (oV 7), oA 36 2 (.idx 1 (.t 34) (.t 35)) [2, 3], oA 37 2 (.load 1 false (.t 36)) [4], oK 38 2 (oV 1), oK 39 2 (oV 7), oA 40 2 (.idx 3 (.t 38) (.t 39)) [6, 7], oA 41 2 (.load 3 true (.t 40)) [8], oA 42 0 (.mkSl 3 [.bool false, .nils, .nils] 1 [(0, (.t 41))]) [9], oA 43 1 (.app 3 56 (.t 37) (.t 42)) [5, 10], oA 44 2 (.idx 1 (.t 32) (.t 33)) [0, 1, 0, 1, 2, 3, 4, 5, 6, 7, 8, 9, 10, 11], ⟨none, none, 2, .store 1 (.t 44) (.t 43), [12, 11, 11, 0, 1, 2, 3, 4, 5, 6, 7, 8, 9, 10, 11]⟩]))) (.reg false 0 [oN 45 (.bin .add (.t 29) (cI 1)), oN 29 (oV 45)]))))))) (.seq (.reg false 0 [oN 47 (oV 6), oN 48 (oV 0), oN 49 (.len (.t 48)), oN 50 (.bin .add (.t 49) (cI 1)), oN 51 (.call 310 [(.t 47), (.t 50)]), oN 46 (oV 51), oN 52 (.extr 0 (.t 46)), oN 53 (.extr 1 (.t 46)), oN 8 (oV 52), oN 9 (oV 53)]) (.seq (.seq (.reg false 0 [oN 54 (oV 9), oN 55 (.un .not (.t 54))]) (.cond (.t 55) (.seq (.reg false 0 [oN 4 (.mov (.c (.nils))), oN 5 (.mov (.c (.bool false)))]) .ret) .skip)) (.seq (.reg false 1 [oN 56 (.mkSl 3 [.bool false, .nils, .nils] 0 []), oK 10 1 (oV 56)]) (.seq (.seq (.reg false 0 [oN 57 (oV 8), oN 58 (.len (.t 57)), oN 59 (.mov (cI 0))]) (.block 2 (.loop (.seq (.reg false 0 [oN 60 (.bin .lss (.t 59) (.t 58))]) (.seq (.cond (.t 60) .skip (.exit 2)) (.seq (.block 3 (.seq (.reg false 0 [oN 61 (.idx 1 (.t 57) (.t 59)), oN 62 (.load 1 false (.t 61)), oN 12 (oV 62)]) (.reg false 2 [oK 63 2 (oV 10), oK 64 2 (oV 12), oK 65 2 (oV 0), oK 66 2 (.len (.t 65)), oK 67 2 (.idx 3 (.t 64) (.t 66)), oK 68 2 (.load 3 true (.t 67)), oN 69 (.mkSl 3 [.bool false, .nils, .nils] 1 [(0, (.t 68))]), oK 70 1 (.app 3 56 (.t 63) (.t 69)), oK 10 2 (oV 70)]))) (.reg false 0 [oN 71 (.bin .add (.t 59) (cI 1)), oN 59 (oV 71)]))))))) (.seq (.reg false 0 [oN 72 (oV 10), oN 4 (oV 72), oN 5 (.mov (.c (.bool true)))]) .ret)))))))))⟩
structure D_spec_SolveSystem (T : Nat → Option Fn) : Prop where
  hT : T 311 = some F_spec_SolveSystem
  d_spec_IsMatrix : D_spec_IsMatrix T
  d_spec_ReduceRows : D_spec_ReduceRows T
  d_spec_l09Copy : D_spec_l09Copy T
def F_impl_SolveSystem : Fn := ⟨2, 73, [.tmp 4, .tmp 5], (.seq (.reg false 0 [oN 4 (.mov (.c (.nils))), oN 5 (.mov (.c (.bool false)))]) (.seq (.reg false 0 [oN 15 (oV 0), oN 16 (.len (.t 15)), oN 6 (oV 16)]) (.seq (.seq (.reg false 0 [oN 17 (oV 0), oN 18 (oV 6), oN 19 (.call 93 [(.t 17), (.t 18)]), oN 20 (.un .not (.t 19)), oN 21 (oV 20), oG 21 false 22 (oV 1), oG 21 false 23 (.len (.t 22)), oG 21 false 24 (oV 6), oG 21 false 25 (.bin .neq (.t 23) (.t 24)), oN 26 (.pick (.t 21) (.c (.bool true)) (.t 25))]) (.cond (.t 26) (.seq (.reg false 0 [oN 4 (.mov (.c (.nils))), oN 5 (.mov (.c (.bool false)))]) .ret) .skip)) (.seq (.reg false 1 [oN 27 (.mkSl 1 [.nils] 0 []), oK 7 1 (oV 27)]) (.seq (.seq (.reg false 0 [oN 28 (oV 0), oN 29 (.len (.t 28)), oN 30 (.mov (cI 0))]) (.block 0 (.loop (.seq (.reg false 0 [oN 31 (.bin .lss (.t 30) (.t 29))]) (.seq (.cond (.t 31) .skip (.exit 0)) (.seq (.block 1 (.seq (.reg false 0 [oN 32 (oV 30), oN 33 (.idx 1 (.t 28) (.t 30)), oN 34 (.load 1 false (.t 33)), oN 8 (oV 32), oN 9 (oV 34)]) (.reg true 6 [oK 35 6 (oV 7), oN 36 (.mkSl 3 [.bool false, .nils, .nils] 0 []), oK 37 6 (oV 9), oA 38 1 (.app 3 56 (.t 36) (.t 37)) [1, 2], oK 39 6 (oV 1), oK 40 6 (oV 8), oA 41 6 (.idx 3 (.t 39) (.t 40)) [4, 5], oA 42 6 (.load 3 true (.t 41)) [6], oA 43 2 (.mkSl 3 [.bool false, .nils, .nils] 1 [(0, (.t 42))]) [7], oA 44 3 (.app 3 56 (.t 38) (.t 43)) [3, 8, 3], oA 45 4 (.mkSl 1 [.nils] 1 [(0, (.t 44))]) [9], oA 46 5 (.app 1 24 (.t 35) (.t 45)) [0, 10, 9], oA 7 6 (oV 46) [11, 11, 0, 1, 2, 3, 4, 5, 6, 7, 8, 9, 10, 11]]))) (.reg false 0 [oN 47 (.bin .add (.t 30) (cI 1)), oN 30 (oV 47)]))))))) (.seq (.reg false 0 [oN 49 (oV 7), oN 50 (oV 6), oN 51 (.bin .add (.t 50) (cI 1)), oN 52 (.call 243 [(.t 49), (.t 51)]), oN 48 (oV 52), oN 53 (.extr 0 (.t 48)), oN 54 (.extr 1 (.t 48)), oN 10 (oV 53), oN 11 (oV 54)]) (.seq (.seq (.reg false 0 [oN 55 (oV 11), oN 56 (.un .not (.t 55))]) (.cond (.t 56) (.seq (.reg false 0 [oN 4 (.mov (.c (.nils))), oN 5 (.mov (.c (.bool false)))]) .ret) .skip)) (.seq (.reg false 1 [oN 57 (.mkSl 3 [.bool false, .nils, .nils] 0 []), oK 12 1 (oV 57)]) (.seq (.seq (.reg false 0 [oN 58 (oV 10), oN 59 (.len (.t 58)), oN 60 (.mov (cI 0))]) (.block 2 (.loop (.seq (.reg false 0 [oN 61 (.bin .lss (.t 60) (.t 59))]) (.seq (.cond (.t 61) .skip (.exit 2)) (.seq (.block 3 (.seq (.reg false 0 [oN 62 (.idx 1 (.t 58) (.t 60)), oN 63 (.load 1 false (.t 62)), oN 14 (oV 63)]) (.reg false 2 [oK 64 2 (oV 12), oK 65 2 (oV 14), oK 66 2 (oV 6), oK 67 2 (.idx 3 (.t 65) (.t 66)), oK 68 2 (.load 3 true (.t 67)), oN 69 (.mkSl 3 [.bool false, .nils, .nils] 1 [(0, (.t 68))]), oK 70 1 (.app 3 56 (.t 64) (.t 69)), oK 12 2 (oV 70)]))) (.reg false 0 [oN 71 (.bin .add (.t 60) (cI 1)), oN 60 (oV 71)]))))))) (.seq (.reg false 0 [oN 72 (oV 12), oN 4 (oV 72), oN 5 (.mov (.c (.bool true)))]) .ret))))))))))⟩
structure D_impl_SolveSystem (T : Nat → Option Fn) : Prop where
  hT : T 231 = some F_impl_SolveSystem
  d_impl_IsMatrix : D_impl_IsMatrix T
  d_impl_ReduceRows : D_impl_ReduceRows T
theorem rrV_ok {m : List (List R)} {c : Int} (h : rrB m c = true) : ∃ M, rrM m c = (List.range m.length).map M ∧ OkM m.length c.toNat M ∧ rrC m c = true := by
  cases hc : rrC m c
  · rw [(rrV_bad hc).2] at h; cases h
  obtain ⟨h10, hcl, hm, hok⟩ := rrC_ok hc
  cases e : rrIt m.length (mF m) m.length with
  | none => rw [(rrV_none hc e (Nat.le_refl _)).2] at h; cases h
  | some M =>
    refine ⟨M, (rrV_some hc e).1, ?_, rfl⟩
    have key : ∀ k, k ≤ m.length → ∀ M, rrIt m.length (mF m) k = some M → OkM m.length c.toNat M := by
      intro k
      induction k with
      | zero => intro _ M e; cases e; exact hok
      | succ k ih =>
        intro hk M e
        cases e2 : rrIt m.length (mF m) k with
        | none => rw [rrIt_none e2 _ (Nat.le_succ k)] at e; cases e
        | some M0 => rw [rrIt_s e2] at e; exact (ih (by omega) _ e2).step (by omega) e
    exact key _ (Nat.le_refl _) M e
def wideL (n : Nat) (M : MF) : List (List R) := (List.range n).map M
theorem wideL_len (n : Nat) (M : MF) : (wideL n M).length = n := by simp [wideL]
theorem wideL_at {n i : Nat} {M : MF} (h : i < n) : mF (wideL n M) i = M i := by
  unfold mF wideL
  rw [List.getD_eq_getElem?_getD, List.getElem?_map, List.getElem?_range h]; rfl
theorem rrC_sz {m : List (List R)} {c : Int} (hc : c ≤ 20) (h : rrC m c = true) : szL (szL R.sz) m ≤ 1048576 := by
  obtain ⟨h10, hcl, hm, hok⟩ := rrC_ok h
  have := (mat_ok (m := m) (n := 20) (fun r hr => by
    obtain ⟨i, hi⟩ := List.mem_iff_getElem?.1 hr
    have hil := (List.getElem?_eq_some_iff.1 hi).1
    have := hok i hil
    rw [show mF m i = r by unfold mF; rw [List.getD_eq_getElem?_getD, hi]; rfl] at this
    exact ⟨this.2, by omega⟩) (Nat.le_refl _) h10).1
  omega
def ssW (m : List (List R)) (b : List R) : MF := fun i => m.getD i default ++ [b.getD i default]
def ssC (m : List (List R)) (b : List R) : Bool := matOk m m.length && decide (b.length = m.length)
def ssL (m : List (List R)) (b : List R) : List (List R) := wideL m.length (ssW m b)
def ssB (m : List (List R)) (b : List R) : Bool := ssC m b && rrB (ssL m b) ((m.length : Nat) + 1)
def ssX (m : List (List R)) (b : List R) : List R := if ssB m b = true then (rrM (ssL m b) ((m.length : Nat) + 1)).map fun r => r.getD m.length default else []
theorem ssB_c {m : List (List R)} {b : List R} (h : ssC m b = false) : ssX m b = [] ∧ ssB m b = false := by
  have : ssB m b = false := by unfold ssB; rw [h]; rfl
  unfold ssX
  rw [this]; exact ⟨rfl, rfl⟩
theorem ssB_r {m : List (List R)} {b : List R} (h : rrB (ssL m b) ((m.length : Nat) + 1) = false) : ssX m b = [] ∧ ssB m b = false := by
  have : ssB m b = false := by unfold ssB; rw [h, Bool.and_false]
  unfold ssX
  rw [this]; exact ⟨rfl, rfl⟩
theorem ssB_t {m : List (List R)} {b : List R} (h : ssC m b = true) (h2 : rrB (ssL m b) ((m.length : Nat) + 1) = true) : ssX m b = ((rrM (ssL m b) ((m.length : Nat) + 1)).map fun r => r.getD m.length default) ∧ ssB m b = true := by
  have : ssB m b = true := by unfold ssB; rw [h, h2]; rfl
  unfold ssX
  rw [this]; exact ⟨if_pos rfl, rfl⟩
theorem ssC_ok {m : List (List R)} {b : List R} (h : ssC m b = true) : m.length ≤ 10 ∧ b.length = m.length ∧ matOk m m.length = true ∧ ∀ i, i < m.length → (m.getD i default).length = m.length := by
  unfold ssC at h
  simp only [Bool.and_eq_true, decide_eq_true_eq] at h
  obtain ⟨h1, h2⟩ := matOk_row h.1
  exact ⟨h2, h.2, h.1, fun i hi => by have := (h1 i hi).1; omega⟩
theorem ssX_cn (m : List (List R)) (b : List R) : (∀ r ∈ ssX m b, r.cn) ∧ (ssX m b).length ≤ 10 := by
  cases hb : ssB m b
  · unfold ssX; rw [hb]; simp
  · have h := hb
    unfold ssB at h
    simp only [Bool.and_eq_true] at h
    obtain ⟨h10, hbl, hm, hl⟩ := ssC_ok h.1
    obtain ⟨M, e, hok, hc⟩ := rrV_ok h.2
    rw [(ssB_t h.1 h.2).1, e]
    have hw : (ssL m b).length = m.length := wideL_len _ _
    refine ⟨fun r hr => ?_, by simp [hw]; omega⟩
    rw [List.map_map] at hr
    obtain ⟨i, hi, rfl⟩ := List.mem_map.1 hr
    have hi := List.mem_range.1 hi
    have := hok i hi
    exact this.2 _ (getD_mem (by rw [this.1]; omega))
theorem ssL_wf {m : List (List R)} {b : List R} (hm : wfL (wfL R.wf) m) (hb : wfL R.wf b) (hl : ∀ i, i < m.length → (m.getD i default).length = m.length) (hbl : b.length = m.length) (h10 : m.length ≤ 10) : wfL (wfL R.wf) (ssL m b) := by
  refine ⟨by rw [show (ssL m b).length = m.length from wideL_len _ _]; omega, fun r hr => ?_⟩
  obtain ⟨i, hi, rfl⟩ := List.mem_map.1 hr
  have hi := List.mem_range.1 hi
  have hrow := hm.2 _ (getD_mem hi)
  refine ⟨by unfold ssW; rw [List.length_append, hl i hi]; simp; omega, fun x hx => ?_⟩
  rcases List.mem_append.1 hx with hx | hx
  · exact hrow.2 x hx
  · rw [List.mem_singleton.1 hx]; exact hb.2 _ (getD_mem (by omega))
theorem ivm_ok {m : List (List R)} (h : matOk m m.length = true) : m.length ≤ 10 ∧ ∀ i, i < m.length → (m.getD i default).length = m.length ∧ ∀ x ∈ m.getD i default, x.cn := by
  obtain ⟨h1, h2⟩ := matOk_row h
  refine ⟨h2, fun i hi => ⟨by have := (h1 i hi).1; omega, fun x hx => ?_⟩⟩
  obtain ⟨j, hj⟩ := List.mem_iff_getElem?.1 hx
  have hl := (List.getElem?_eq_some_iff.1 hj).1
  have := (h1 i hi).2 j hl
  rw [List.getD_eq_getElem?_getD (l := m.getD i default), hj] at this
  exact cn_ok this
theorem owR_drop {σ : Store} : ∀ (n : Nat) {A T : List (List V)} {os : List Nat}, OwR σ A T os → ∃ os', OwR σ (A.drop n) (T.drop n) os' ∧ os'.Sublist os
  | 0, A, T, os, h => ⟨os, h, List.Sublist.refl _⟩
  | n + 1, A, [], os, h => by
    simp only [OwR] at h
    obtain ⟨rfl, rfl⟩ := h
    exact ⟨[], by simp [OwR], List.Sublist.refl _⟩
  | n + 1, A, t :: T, os, h => by
    simp only [OwR] at h
    obtain ⟨v, vs', o1, o2, rfl, rfl, h1, h2⟩ := h
    obtain ⟨os', k1, k2⟩ := owR_drop n h2
    exact ⟨os', k1, k2.trans (List.sublist_append_right _ _)⟩
theorem owR_at {σ : Store} : ∀ {i : Nat} {A T : List (List V)} {os : List Nat}, OwR σ A T os → i < T.length → ∃ os', OwL σ (A.getD i []) (T.getD i []) os' ∧ os'.Sublist os
  | i, A, [], os, h, hi => absurd hi (Nat.not_lt_zero _)
  | 0, A, t :: T, os, h, hi => by
    simp only [OwR] at h
    obtain ⟨v, vs', o1, o2, rfl, rfl, h1, h2⟩ := h
    exact ⟨o1, h1, List.sublist_append_left _ _⟩
  | i + 1, A, t :: T, os, h, hi => by
    simp only [OwR] at h
    obtain ⟨v, vs', o1, o2, rfl, rfl, h1, h2⟩ := h
    obtain ⟨os', k1, k2⟩ := owR_at h2 (by simpa using hi)
    exact ⟨os', k1, k2.trans (List.sublist_append_right _ _)⟩
theorem OwF.col {s : Store} {A : Nat → List (List V)} {M : MF} {f : Nat → List Nat} {n c j : Nat} (ho : OwF s A M f fun i => i < n) (hl : ∀ i, i < n → (M i).length = c) (hj : j < c) :
    ∀ m, m ≤ n → ∃ os, OwR s ((List.range m).map fun i => (A i).getD j []) (((List.range m).map fun i => (M i).getD j default).map R.cells) os ∧ os.Nodup ∧ ∀ o ∈ os, ∃ i, i < m ∧ o ∈ f i
  | 0, _ => ⟨[], by simp [OwR], .nil, by simp⟩
  | m + 1, hm => by
    obtain ⟨os, k1, k2, k3⟩ := OwF.col ho hl hj m (by omega)
    have hm' : m < n := by omega
    obtain ⟨o2, h1, h2⟩ := owR_at (ho.ow m hm') (i := j) (by rw [List.length_map, hl m hm']; exact hj)
    rw [mg (by rw [hl m hm']; exact hj)] at h1
    refine ⟨os ++ o2, ?_, ?_, fun o h => ?_⟩
    · rw [List.range_succ, List.map_append, List.map_append, List.map_append]
      exact owR_append k1 (owR_1 h1)
    · rw [List.nodup_append]
      refine ⟨k2, (ho.nd m hm').sublist h2, fun x hx y hy e => ?_⟩
      subst e
      obtain ⟨i, hi, hi2⟩ := k3 x hx
      exact ho.ap i m (by omega) hm' (by omega) x hi2 (h2.subset hy)
    · rcases List.mem_append.1 h with h | h
      · obtain ⟨i, hi, k⟩ := k3 o h; exact ⟨i, by omega, k⟩
      · exact ⟨m, by omega, h2.subset h⟩
theorem OwF.drop {s : Store} {A : Nat → List (List V)} {M : MF} {f : Nat → List Nat} {n : Nat} (ho : OwF s A M f fun i => i < n) (d : Nat) : ∃ f', OwF s (fun i => (A i).drop d) (fun i => (M i).drop d) f' (fun i => i < n) ∧ ∀ i, i < n → ∀ o ∈ f' i, o ∈ f i := by
  have h : ∀ i, ∃ os', i < n → OwR s ((A i).drop d) (((M i).drop d).map R.cells) os' ∧ os'.Sublist (f i) := fun i => by
    by_cases hi : i < n
    · obtain ⟨os', k1, k2⟩ := owR_drop d (ho.ow i hi)
      rw [← List.map_drop] at k1
      exact ⟨os', fun _ => ⟨k1, k2⟩⟩
    · exact ⟨[], fun h => absurd h hi⟩
  refine ⟨fun i => Classical.choose (h i), ⟨fun i hi => ?_, fun i hi => ?_, fun i j hi hj hne o h1 h2 => ?_⟩, fun i hi o h1 => ?_⟩
  · exact (Classical.choose_spec (h i) hi).1
  · exact (ho.nd i hi).sublist (Classical.choose_spec (h i) hi).2
  · exact ho.ap i j hi hj hne o ((Classical.choose_spec (h i) hi).2.subset h1) ((Classical.choose_spec (h j) hj).2.subset h2)
  · exact (Classical.choose_spec (h i) hi).2.subset h1
theorem owR_mat {σ : Store} {c : Nat} (hc : 0 < c) : ∀ {RR : List (List R)} {rows : List (List V)} {os : List Nat}, OwR σ rows (RR.map fun r => [ratsV r]) os → os.Nodup → (∀ r ∈ RR, r.length = c) →
    ∃ (rp : Nat → Nat) (A : Nat → List (List V)) (f : Nat → List Nat), rows = orow RR.length c rp ∧ (∀ i, i < RR.length → objAt σ (rp i) = some ⟨3, A i⟩ ∧ OwR σ (A i) ((mF RR i).map R.cells) (f i) ∧ (f i).Nodup ∧ rp i ∈ os ∧ ∀ o ∈ f i, o ∈ os) ∧
      (∀ i j, i < RR.length → j < RR.length → rp i = rp j → i = j) ∧ ∀ i j, i < RR.length → j < RR.length → i ≠ j → ∀ o ∈ f i, o ∉ f j
  | [], rows, os, h, _, _ => by
    simp only [List.map_nil, OwR] at h
    obtain ⟨rfl, rfl⟩ := h
    exact ⟨fun _ => 0, fun _ => [], fun _ => [], rfl, fun i hi => absurd hi (Nat.not_lt_zero _), fun i j hi => absurd hi (Nat.not_lt_zero _), fun i j hi => absurd hi (Nat.not_lt_zero _)⟩
  | r :: RR, rows, os, h, hn, hl => by
    simp only [List.map_cons, OwR] at h
    obtain ⟨v, vs', o1, o2, rfl, rfl, h1, h2⟩ := h
    rw [List.nodup_append] at hn
    obtain ⟨n1, n2, n3⟩ := hn
    obtain ⟨w, vs, o3, o4, rfl, rfl, h3, h4⟩ := h1.inv
    obtain ⟨rfl, rfl⟩ := h4.nil_inv
    have hr := hl r (by simp)
    unfold ratsV at h3
    rcases h3.sl_inv with ⟨e, _, _⟩ | ⟨p, A0, f0, rfl, hp, hA, rfl, hR⟩
    · have := congrArg List.length e
      simp at this
      rw [this] at hr
      simp at hr
      omega
    rw [List.append_nil] at n1 n3
    rw [List.nodup_cons] at n1
    obtain ⟨rp, A, f, e, k1, k2, k3⟩ := owR_mat hc h2 n2 fun r hr => hl r (by simp [hr])
    refine ⟨fun i => match i with | 0 => p | i + 1 => rp i, fun i => match i with | 0 => A0 | i + 1 => A i, fun i => match i with | 0 => f0 | i + 1 => f i, ?_, fun i hi => ?_, fun i j hi hj e => ?_, fun i j hi hj hne o h1 h2 => ?_⟩
    · rw [e, List.length_cons, List.length_map, hr]
      unfold orow
      rw [List.range_succ_eq_map, List.map_cons, List.map_map]
      rfl
    · cases i with
      | zero => exact ⟨hp, hR, n1.2, by simp, fun o h => by simp [h]⟩
      | succ i =>
        obtain ⟨a, b, c, d, e⟩ := k1 i (by simpa using hi)
        exact ⟨a, b, c, by simp [d], fun o h => by simp [e o h]⟩
    · cases i with
      | zero =>
        cases j with
        | zero => rfl
        | succ j =>
          have := (k1 j (by simpa using hj)).2.2.2.1
          exact absurd e fun e => n3 p (by simp) _ this e
      | succ i =>
        cases j with
        | zero =>
          have := (k1 i (by simpa using hi)).2.2.2.1
          exact absurd e fun e => n3 p (by simp) _ this e.symm
        | succ j => rw [k2 i j (by simpa using hi) (by simpa using hj) e]
    · cases i with
      | zero =>
        cases j with
        | zero => exact hne rfl
        | succ j => exact n3 o (by simp [show o ∈ f0 from h1]) o ((k1 j (by simpa using hj)).2.2.2.2 o h2) rfl
      | succ i =>
        cases j with
        | zero => exact n3 o (by simp [show o ∈ f0 from h2]) o ((k1 i (by simpa using hi)).2.2.2.2 o h1) rfl
        | succ j => exact k3 i j (by simpa using hi) (by simpa using hj) (by omega) o h1 h2
theorem owV_mat {σ : Store} {c : Nat} (hc : 0 < c) {RR : List (List R)} {v : V} {os : List Nat} (h : OwV σ v (ratssV RR) os) (hn : os.Nodup) (hl : ∀ r ∈ RR, r.length = c) (hne : 0 < RR.length) :
    ∃ (q : Nat) (rp : Nat → Nat) (A : Nat → List (List V)) (f : Nat → List Nat), v = .msl q 0 RR.length ∧ Mat σ q RR.length c rp A (mF RR) ∧ OwF σ A (mF RR) f (fun i => i < RR.length) ∧ ∀ i, i < RR.length → ∀ o ∈ f i, o ∈ os := by
  unfold ratssV at h
  rcases h.sl_inv with ⟨e, _, _⟩ | ⟨q, rows, os', rfl, hq, _, rfl, hR⟩
  · rw [List.map_eq_nil_iff] at e
    subst e
    exact absurd hne (Nat.lt_irrefl _)
  rw [List.nodup_cons] at hn
  obtain ⟨rp, A, f, e, k1, k2, k3⟩ := owR_mat hc hR hn.2 hl
  refine ⟨q, rp, A, f, by rw [List.length_map], ⟨k2, by rw [hq, e], fun i hi => (k1 i hi).1, fun i hi => (row_ow (k1 i hi).2.1).1⟩, ⟨fun i hi => (k1 i hi).2.1, fun i hi => (k1 i hi).2.2.1, k3⟩, fun i hi o ho => by simp [(k1 i hi).2.2.2.2 o ho]⟩
theorem po_lax {T : Nat → Option Fn} {f : Nat} {as as' : List V} {t : V} (h : PO T f as t) (ha : LaxL as as') : PO T f as' t := by
  obtain ⟨r, σ', os, h1, h2, h3, h4⟩ := h
  exact ⟨r, σ', os, .laxF ha h1 (laxV_refl _), h2, h3, h4⟩
end Go.Ml
end
section
set_option linter.unusedSimpArgs false
set_option linter.unusedVariables false
set_option maxRecDepth 100000
set_option maxHeartbeats 16000000
namespace Go.Ml
theorem rrE {m : List (List R)} {c : Int} (h0 : m.length = 0) (hc : 0 ≤ c) : rrM m c = [] ∧ rrB m c = true := by
  have em : m = [] := List.eq_nil_of_length_eq_zero h0
  subst em
  have hC : rrC [] c = true := by
    unfold rrC
    rw [decide_eq_true (by simpa using hc), Bool.and_true]
    rfl
  obtain ⟨e1, e2⟩ := rrV_some hC (M := mF []) rfl
  exact ⟨e1, e2⟩
theorem OkA_lst {ops : List OpI} {L : Nat} {acc : List Acc} (l : List Nat) (l0 : List Acc) (hn : l.Nodup) (hl : ∀ o ∈ l, o < L) (he : acc = l0.map (renA (gN l L))) (h : OkA l.length ops l0) : OkA L ops acc := OkA_ren (gN_inj hl hn) (gN_lt hl) he h
theorem po_iSolveSystem {T : Nat → Option Fn} (h : D_impl_SolveSystem T) {m : List (List R)} {b : List R} (wm : wfL (wfL R.wf) m) (wb : wfL R.wf b) : PO T 231 [ratssV m, ratsV b] (.tup [ratsV (ssX m b), .bool (ssB m b)]) := by
  have lm := wm.1
  have lb := wb.1
  have c1 := c_iIsMatrix h.d_impl_IsMatrix (m := m) (cols := (m.length : Nat)) wm (by omega)
  cases hc : ssC m b
  · obtain ⟨e1, e2⟩ := ssB_c hc
    rw [e1, e2]
    unfold ssC at hc
    generalize matOk m (m.length : Nat) = x at c1 hc
    have hx : x = false ∨ x = true := by cases x <;> simp
    refine po_end2 (fun _ _ => false) h.hT rfl rfl ?_
    dsimp only [F_impl_SolveSystem, oN, oS, oG, oK, oA, oH, oV, cI, St.enter, List.length_cons, List.length_nil, Nat.zero_add]
    (refine ew ?_; try with_reducible exact True.intro)
    refine PFK_of c1 ?_
    rcases hx with hx | hx
    · (refine ew1 @hx ?_; try with_reducible exact True.intro)
      exact (fin_nil (sz := 3)).tup1
    · have hlt : (((b.length : Nat) : Int) = (m.length : Nat)) = False := eq_false fun e => by
        rw [hx, Bool.true_and, decide_eq_false_iff_not] at hc; omega
      (refine ew2 @hx @hlt ?_; try with_reducible exact True.intro)
      exact (fin_nil (sz := 3)).tup1
  obtain ⟨h10, hbl, hmo, hml⟩ := ssC_ok hc
  rw [hmo] at c1
  have hlt : (((b.length : Nat) : Int) = (m.length : Nat)) = True := eq_true (by omega)
  have wW := ssL_wf wm wb hml hbl h10
  have hWl : (ssL m b).length = m.length := wideL_len _ _
  have PR := po_iReduceRows h.d_impl_ReduceRows (m := ssL m b) (c := (m.length : Nat) + 1) wW (fun hc => rrC_sz (by omega) hc) (by omega)
  clear lm lb wm wb
  rcases Nat.eq_zero_or_pos m.length with h0 | h0
  · obtain ⟨e1, e2⟩ := rrE (m := ssL m b) (c := (m.length : Nat) + 1) (by omega) (by omega)
    obtain ⟨e3, e4⟩ := ssB_t hc e2
    rw [e3, e4, e1]
    rw [e1, e2] at PR
    have PR0 := po_lax (as' := [.nils, iv ((m.length : Nat) + 1)]) PR (by
      rw [show ssL m b = [] from List.eq_nil_of_length_eq_zero (by omega)]
      simp only [LaxL, LaxV]
      exact ⟨_, _, rfl, .inl ⟨rfl, .inl rfl⟩, _, _, rfl, rfl, rfl⟩)
    refine po_end2 (fun x d => x == 243) h.hT rfl rfl ?_
    dsimp only [F_impl_SolveSystem, oN, oS, oG, oK, oA, oH, oV, cI, St.enter, List.length_cons, List.length_nil, Nat.zero_add]
    (refine ew ?_; try with_reducible exact True.intro)
    refine PFK_of c1 ?_
    (refine ew1 @hlt ?_; try with_reducible exact True.intro)
    refine loop_at (fun x d => x == 243) (α := Nat) (fun i => ⟨argE [.any, .any, .any, .any, .any, .any, iv (m.length : Nat), .nils, .any, .any, .any, .any, .any, .any, .any, .any, .any, .any, .any, .any, .any, .any, .any, .any, .any, .any, .any, .any, ratssV m, iv (m.length : Nat), iv (i : Nat)], [none], 0, 0, [], []⟩) (fun i => i = 0) (fun i => i) rfl 0 ?_ ?_ ?_
    · rfl
    · (refine Fg_env ?_) <;> (try (refine ew ?_; try with_reducible exact True.intro)) <;> (repeat' (first | refine ⟨?_, ?_⟩ | exact EvV_int (by omega) | exact EvV_of (by simp) | exact EvV_nil _))
    · rintro i hi
      have hcc : ¬ ((i : Int) < (m.length : Nat)) := by omega
      (refine ew1 @hcc ?_; try with_reducible exact True.intro)
      refine RefK_got PR0 (by (refine ew ?_; try with_reducible exact True.intro)) ?_
      intro r s1 o1 G
      obtain ⟨v, rfl, G1⟩ := G.tup1
      have hv := G1.ow
      rcases hv.sl_inv with ⟨_, rfl, _⟩ | ⟨p, R0, os, rfl, hp, _⟩
      · (refine ew ?_; try with_reducible exact True.intro)
        refine loop_at (fun x d => x == 243) (α := Nat) (fun k => ⟨argE [.any, .any, .any, .any, .any, .any, .any, .any, .any, .any, .any, .any, .nils, .any, .any, .any, .any, .any, .any, .any, .any, .any, .any, .any, .any, .any, .any, .any, .any, .any, .any, .any, .any, .any, .any, .any, .any, .any, .any, .any, .any, .any, .any, .any, .any, .any, .any, .any, .any, .any, .any, .any, .any, .any, .any, .any, .any, .any, .sl 1 [], iv 0, iv (k : Nat)], s1 ++ [none], 0, 0, [], []⟩) (fun k => k = 0) (fun k => k) rfl 0 ?_ ?_ ?_
        · rfl
        · (refine Fg_env ?_) <;> (try (refine ew ?_; try with_reducible exact True.intro)) <;> (repeat' (first | refine ⟨?_, ?_⟩ | exact EvV_int (by omega) | exact EvV_of (by simp) | exact EvV_nil _))
        · rintro k hk
          have hcc : ¬ ((k : Int) < 0) := by omega
          (refine ew1 @hcc ?_; try with_reducible exact True.intro)
          exact (fin_nil (sz := 3)).tup1
      · (refine ew1 @hp ?_; try with_reducible exact True.intro)
        refine loop_at (fun x d => x == 243) (α := Nat) (fun k => ⟨argE [.any, .any, .any, .any, .any, .any, .any, .any, .any, .any, .any, .any, .nils, .any, .any, .any, .any, .any, .any, .any, .any, .any, .any, .any, .any, .any, .any, .any, .any, .any, .any, .any, .any, .any, .any, .any, .any, .any, .any, .any, .any, .any, .any, .any, .any, .any, .any, .any, .any, .any, .any, .any, .any, .any, .any, .any, .any, .any, .msl p 0 0, iv 0, iv (k : Nat)], s1 ++ [none], 0, 0, [], []⟩) (fun k => k = 0) (fun k => k) rfl 0 ?_ ?_ ?_
        · rfl
        · (refine Fg_env ?_) <;> (try (refine ew ?_; try with_reducible exact True.intro)) <;> (repeat' (first | refine ⟨?_, ?_⟩ | exact EvV_int (by omega) | exact EvV_of (by simp) | exact EvV_nil _))
        · rintro k hk
          have hcc : ¬ ((k : Int) < 0) := by omega
          (refine ew1 @hcc ?_; try with_reducible exact True.intro)
          exact (fin_nil (sz := 3)).tup1
  refine po_end2 (fun x d => x == 243) h.hT rfl rfl ?_
  dsimp only [F_impl_SolveSystem, oN, oS, oG, oK, oA, oH, oV, cI, St.enter, List.length_cons, List.length_nil, Nat.zero_add]
  (refine ew ?_; try with_reducible exact True.intro)
  refine PFK_of c1 ?_
  (refine ew1 @hlt ?_; try with_reducible exact True.intro)
  refine loop_at (fun x d => x == 243) (α := Nat × Store × V × Nat × (Nat → Nat)) (fun q => ⟨argE [.any, ratsV b, .any, .any, .any, .any, iv (m.length : Nat), q.2.2.1, .any, .any, .any, .any, .any, .any, .any, .any, .any, .any, .any, .any, .any, .any, .any, .any, .any, .any, .any, .any, ratssV m, iv (m.length : Nat), iv (q.1 : Nat)], q.2.1, 0, 0, [], []⟩) (fun q => q.1 ≤ m.length ∧ ((q.1 = 0 ∧ q.2.2.1 = .nils) ∨ (0 < q.1 ∧ q.2.2.1 = .msl q.2.2.2.1 0 q.1 ∧ Mat q.2.1 q.2.2.2.1 q.1 (m.length + 1) q.2.2.2.2 (fun x => (ssW m b x).map R.cells) (ssW m b)))) (fun q => m.length - q.1) rfl (0, [none], .nils, 0, fun _ => 0) ?_ ?_ ?_
  · exact ⟨by omega, .inl ⟨rfl, rfl⟩⟩
  · (refine Fg_env ?_) <;> (try (refine ew ?_; try with_reducible exact True.intro)) <;> (repeat' (first | refine ⟨?_, ?_⟩ | exact EvV_int (by omega) | exact EvV_of (by simp) | exact EvV_nil _))
  · rintro ⟨i, s, v7, qo, rp⟩ ⟨hi, hM⟩
    dsimp only at hi hM
    by_cases hcc : (i : Int) < (m.length : Nat)
    · have hil : i < m.length := by omega
      have hib : (i : Int) < (b.length : Nat) := by omega
      have hai : (m.map fun r => [ratsV r]).getD i [] = [ratsV (m.getD i default)] := mg (f := fun r : List R => [ratsV r]) hil
      have hbi : (b.map R.cells).getD i [] = (b.getD i default).cells := mg (by omega)
      have hri := hml i hil
      have emf : (ssW m b i).map R.cells = (m.getD i default).map R.cells ++ [(b.getD i default).cells] := by unfold ssW; rw [List.map_append]; rfl
      generalize m.getD i default = r at *
      generalize b.getD i default = y at *
      have hne : (r.map R.cells = []) = False := eq_false fun e => by
        have := congrArg List.length e
        simp at this
        subst this
        simp at hri; omega
      rcases hM with ⟨rfl, rfl⟩ | ⟨hi0, rfl, hM⟩
      · (refine ew3 @hcc (And.intro hai hbi) @hne ?_; try with_reducible exact True.intro)
        refine ⟨⟨by omega, by omega⟩, ⟨by omega, by omega⟩, by decide, ?_, ?_⟩
        · have hn0 : 0 ≤ List.length s := Nat.zero_le _
          generalize List.length s = z at hn0 ⊢
          revert z
          refine OkA_allN _ _ 0 (fun n hn => ?_) (fun n hn => ?_) ?_
          · simp only [sh]; split <;> omega
          · simp [shA, sh]; try omega
          · unfold OkA; decide +kernel
        refine ⟨(0 + 1, ?st, .msl (s.length + 5) 0 1, s.length + 5, fun x => if x = 0 then s.length + 3 else rp x), ?c1, ⟨?c2, .inr ⟨by omega, rfl, ?c4⟩⟩, ?c3⟩
        case c3 => dsimp only; (refine Fg_env ?_) <;> (try (refine ew ?_; try with_reducible exact True.intro)) <;> (repeat' (first | refine ⟨?_, ?_⟩ | exact EvV_int (by omega) | exact EvV_of (by simp) | exact EvV_nil _))
        case c1 => dsimp only; omega
        case c2 => dsimp only; omega
        case c4 =>
          dsimp only
          refine matF_snoc (s := s) (q := 0) (.inl rfl) ?_ ?_ (by omega) (fun o ho _ => ?_)
          · rw [objAt_seteq (by simp)]
            rw [hri]; rfl
          · rw [emf]
            simp (disch := first | omega | (simp only [List.length_append, List.length_set, List.length_cons, List.length_nil]; omega)) only [EVs]
          · simp (disch := first | omega | (simp only [List.length_append, List.length_set, List.length_cons, List.length_nil]; omega)) only [EVs]
      · have hq := hM.out
        have hql := hM.lt.1
        have hoc := orow_len i (m.length + 1) rp
        (refine ew5 @hcc (And.intro hai hbi) @hne @hq @hoc ?_; try with_reducible exact True.intro)
        refine ⟨⟨by omega, by omega⟩, ⟨by omega, by omega⟩, ⟨by omega, by omega⟩, ?_, ?_⟩
        · refine OkA_lst [qo, s.length + 1, s.length + 2, s.length + 3, s.length + 4, s.length + 5] [⟨12, [], [], false⟩, ⟨11, [0, 4], [0, 5], false⟩, ⟨10, [], [4], false⟩, ⟨9, [1, 2], [1, 3], false⟩, ⟨8, [], [2], false⟩, ⟨7, [], [], false⟩, ⟨6, [], [], false⟩, ⟨5, [], [], false⟩, ⟨4, [], [], false⟩, ⟨3, [], [1], false⟩, ⟨2, [], [], false⟩, ⟨1, [], [], false⟩, ⟨0, [], [], false⟩] ?_ ?_ rfl ?_
          · simp; omega
          · simp; omega
          · show OkA 6 _ _
            unfold OkA; decide +kernel
        refine ⟨(i + 1, ?st2, .msl (s.length + 5) 0 (i + 1), s.length + 5, fun x => if x = i then s.length + 3 else rp x), ?c1, ⟨?c2, .inr ⟨by omega, rfl, ?c4⟩⟩, ?c3⟩
        case c3 => dsimp only; (refine Fg_env ?_) <;> (try (refine ew ?_; try with_reducible exact True.intro)) <;> (repeat' (first | refine ⟨?_, ?_⟩ | exact EvV_int (by omega) | exact EvV_of (by simp) | exact EvV_nil _))
        case c1 => dsimp only; omega
        case c2 => dsimp only; omega
        case c4 =>
          dsimp only
          refine matF_snoc (s := s) (q := qo) (.inr hM) ?_ ?_ (by omega) (fun o ho hne => ?_)
          · rw [objAt_seteq (by simp)]
            rw [hri]
          · rw [emf]
            have : s.length + 3 ≠ qo := by omega
            simp (disch := first | omega | (simp only [List.length_append, List.length_set, List.length_cons, List.length_nil]; omega)) only [EVs]
          · simp (disch := first | omega | (simp only [List.length_append, List.length_set, List.length_cons, List.length_nil]; omega)) only [EVs]
    · have hie : i = m.length := by omega
      subst hie
      rcases hM with ⟨h1, _⟩ | ⟨_, rfl, hM⟩
      · omega
      have Rf := hM.res fun i hi => by unfold ssW; rw [List.length_append, hml i hi]; rfl
      have Rf : resolve s FD (.msl qo 0 m.length) = some (ratssV (ssL m b)) := Rf
      (refine ew2 @hcc @Rf ?_; try with_reducible exact True.intro)
      refine RefK_got PR (by (refine ew1 @Rf ?_; try with_reducible exact True.intro)) ?_
      intro r s1 o1 G
      cases hb : rrB (ssL m b) ((m.length : Nat) + 1)
      · obtain ⟨e1, e2⟩ := ssB_r hb
        rw [e1, e2]
        rw [hb] at G
        obtain ⟨v, rfl, G1⟩ := G.tup1
        (refine ew ?_; try with_reducible exact True.intro)
        exact (fin_nil (sz := 3)).tup1
      obtain ⟨e1, e2⟩ := ssB_t hc hb
      rw [e1, e2]
      rw [hb] at G
      obtain ⟨v, rfl, G1⟩ := G.tup1
      obtain ⟨M, eM, hOM, _⟩ := rrV_ok hb
      rw [hWl] at eM hOM
      have hlM : ∀ i, i < m.length → (M i).length = m.length + 1 := fun i hi => by have := (hOM i hi).1; omega
      have hRl : (rrM (ssL m b) ((m.length : Nat) + 1)).length = m.length := by rw [eM]; simp
      obtain ⟨q2, rp2, A, f, rfl, hM2, hO, hfo⟩ := owV_mat (c := m.length + 1) (by omega) G1.ow G1.nd (fun r hr => by
        rw [eM] at hr
        obtain ⟨i, hi, rfl⟩ := List.mem_map.1 hr
        exact hlM i (List.mem_range.1 hi)) (by omega)
      rw [hRl] at hM2 hO hfo ⊢
      have hmf : ∀ i, i < m.length → mF (rrM (ssL m b) ((m.length : Nat) + 1)) i = M i := fun i hi => by rw [eM]; exact wideL_at hi
      have hM2 := hM2.ext hmf
      have hO := hO.ext (M2 := M) (S2 := fun i => i < m.length) fun i hi => ⟨hi, hmf i hi⟩
      have hq2 := hM2.out
      have hql2 := hM2.lt.1
      rw [eM, List.map_map]
      clear hM Rf eM hmf PR
      (refine ew1 @hq2 ?_; try with_reducible exact True.intro)
      refine loop_at (fun x d => x == 243) (α := Nat × Store × V × Nat) (fun q => ⟨argE [.any, .any, .any, .any, .any, .any, iv (m.length : Nat), .any, .any, .any, .any, .any, q.2.2.1, .any, .any, .any, .any, .any, .any, .any, .any, .any, .any, .any, .any, .any, .any, .any, .any, .any, .any, .any, .any, .any, .any, .any, .any, .any, .any, .any, .any, .any, .any, .any, .any, .any, .any, .any, .any, .any, .any, .any, .any, .any, .any, .any, .any, .any, .msl q2 0 m.length, iv (m.length : Nat), iv (q.1 : Nat)], q.2.1, 0, 0, [], []⟩) (fun q => q.1 ≤ m.length ∧ ((q.1 = 0 ∧ q.2.2.1 = .nils) ∨ (0 < q.1 ∧ q.2.2.1 = .msl q.2.2.2 0 q.1 ∧ objAt q.2.1 q.2.2.2 = some ⟨3, (List.range q.1).map fun x => (A x).getD m.length []⟩ ∧ s1.length ≤ q.2.2.2)) ∧ (∀ o, o < s1.length → objAt q.2.1 o = objAt s1 o) ∧ s1.length ≤ q.2.1.length) (fun q => m.length - q.1) rfl (0, s1 ++ [none], .nils, 0) ?_ ?_ ?_
      · exact ⟨Nat.zero_le _, .inl ⟨rfl, rfl⟩, fun o ho => objAt_snoc_lt ho, by simp⟩
      · (refine Fg_env ?_) <;> (try (refine ew ?_; try with_reducible exact True.intro)) <;> (repeat' (first | refine ⟨?_, ?_⟩ | exact EvV_int (by omega) | exact EvV_of (by simp) | exact EvV_nil _))
      · rintro ⟨i, u, v12, p⟩ ⟨hi, hL, huo, hul⟩
        dsimp only at hi hL huo hul
        by_cases hci : (i : Int) < (m.length : Nat)
        · have hil : i < m.length := by omega
          obtain ⟨a1, a2, gA, ka1, ka2⟩ := hM2.cell hlM hil (j := m.length) (by omega)
          have gA2 : (A i)[m.length]? = some ((A i).getD m.length []) := getQ (by rw [(hM2.cel i hil).1, hlM i hil]; omega)
          have eA : (A i).getD m.length [] = [.bool (elF M i m.length).neg, a1, a2] := by
            rw [gA] at gA2; exact (Option.some.inj gA2).symm
          have hqu := (huo q2 hql2).trans hq2
          have hru := (huo _ (hM2.lt.2 i hil)).trans (hM2.row i hil)
          have gi := orow_at (c := m.length + 1) (rp := rp2) hil
          have lx := And.intro ka1.leaf ka2.leaf
          have es : ((List.range (i + 1)).map fun x => (A x).getD m.length []) = ((List.range i).map fun x => (A x).getD m.length []) ++ [[.bool (elF M i m.length).neg, a1, a2]] := by
            rw [List.range_succ, List.map_append, List.map_cons, List.map_nil, eA]
          generalize elF M i m.length = x at *
          have hnn : (m.length : Int) < (m.length : Nat) + 1 := by omega
          rcases hL with ⟨rfl, rfl⟩ | ⟨hi0, rfl, hp, hpl⟩
          · (refine ew4 @hci (And.intro hqu hru) (And.intro gi gA) @lx ?_; try with_reducible exact True.intro)
            refine ⟨by omega, ?_⟩
            refine ⟨(0 + 1, ?st3, .msl (u.length + 1) 0 1, u.length + 1), ?c1, ⟨?c2, .inr ⟨by omega, rfl, ?c4, ?c5⟩, ?c6, ?c7⟩, ?c3⟩
            case c3 => dsimp only; (refine Fg_env ?_) <;> (try (refine ew ?_; try with_reducible exact True.intro)) <;> (repeat' (first | refine ⟨?_, ?_⟩ | exact EvV_int (by omega) | exact EvV_of (by simp) | exact EvV_nil _))
            case c1 => dsimp only; omega
            case c2 => dsimp only; omega
            case c4 =>
              dsimp only
              rw [es]
              exact objAt_seteq (by simp <;> omega)
            case c5 => dsimp only; omega
            case c6 =>
              dsimp only
              intro o ho
              rw [← huo o ho]
              simp (disch := first | omega | (simp only [List.length_append, List.length_set, List.length_cons, List.length_nil]; omega)) only [EVs]
            case c7 => simp; omega
          · have hpu := objAt_lt hp
            have hrl : ((List.range i).map fun x => (A x).getD m.length []).length = i := by simp
            (refine ew6 @hci (And.intro hqu hru) (And.intro gi gA) @lx @hp @hrl ?_; try with_reducible exact True.intro)
            refine ⟨by omega, ?_⟩
            refine ⟨(i + 1, ?st4, .msl (u.length + 1) 0 (i + 1), u.length + 1), ?c1, ⟨?c2, .inr ⟨by omega, rfl, ?c4, ?c5⟩, ?c6, ?c7⟩, ?c3⟩
            case c3 => dsimp only; (refine Fg_env ?_) <;> (try (refine ew ?_; try with_reducible exact True.intro)) <;> (repeat' (first | refine ⟨?_, ?_⟩ | exact EvV_int (by omega) | exact EvV_of (by simp) | exact EvV_nil _))
            case c1 => dsimp only; omega
            case c2 => dsimp only; omega
            case c4 =>
              dsimp only
              rw [es]
              exact objAt_seteq (by simp <;> omega)
            case c5 => dsimp only; omega
            case c6 =>
              dsimp only
              intro o ho
              have : o ≠ p := by omega
              rw [← huo o ho]
              simp (disch := first | omega | (simp only [List.length_append, List.length_set, List.length_cons, List.length_nil]; omega)) only [EVs]
            case c7 => simp; omega
        · have hie : i = m.length := by omega
          rcases hL with ⟨h1, _⟩ | ⟨_, rfl, hp, hpl⟩
          · omega
          obtain ⟨os, k1, k2, k3⟩ := hO.col hlM (j := m.length) (by omega) m.length (Nat.le_refl _)
          have hlt : ∀ o ∈ os, o < s1.length := fun o ho => k1.lt o ho
          subst hie
          (refine ew1 @hci ?_; try with_reducible exact True.intro)
          refine Fin.tup1 (fin_of (os := p :: os) ?_ (List.nodup_cons.2 ⟨fun hm => by have := hlt p hm; omega, k2⟩))
          unfold ratsV
          simp only [OwV]
          refine .inr ⟨p, _, os, by simp, hp, rfl, ?_⟩
          exact k1.frame fun o ho => huo o (hlt o ho)
end Go.Ml
end
section
set_option linter.unusedSimpArgs false
set_option linter.unusedVariables false
set_option maxRecDepth 100000
set_option maxHeartbeats 16000000
namespace Go.Ml
def lrow (n : Nat) (rp : Nat → Nat) (M : MF) : List (List V) := (List.range n).map fun x => [.msl (rp x) 0 (M x).length]
theorem lrow_len (n : Nat) (rp : Nat → Nat) (M : MF) : (lrow n rp M).length = n := by simp [lrow]
theorem lrow_at {n : Nat} {rp : Nat → Nat} {M : MF} {i : Nat} (h : i < n) : (lrow n rp M)[i]? = some [.msl (rp i) 0 (M i).length] := by
  unfold lrow; rw [List.getElem?_map, List.getElem?_range h]; rfl
theorem lrow_set {n : Nat} {rp : Nat → Nat} {M : MF} {i p : Nat} {r : List R} : (lrow n rp M).set i [.msl p 0 r.length] = lrow n (fun x => if x = i then p else rp x) (setR M i r) := by
  apply List.ext_getElem?
  intro x
  unfold lrow setR
  rw [List.getElem?_set]
  simp only [List.length_map, List.length_range, List.getElem?_map]
  by_cases h : i = x
  · subst h
    by_cases hn : i < n
    · simp [hn]
    · rw [if_pos rfl, if_neg hn, List.getElem?_eq_none (by simpa using hn)]; rfl
  · rw [if_neg h]
    by_cases hn : x < n
    · rw [List.getElem?_range hn]; simp only [Option.map_some]; rw [if_neg (fun e : x = i => h e.symm), if_neg fun e : x = i => h e.symm]
    · rw [List.getElem?_eq_none (by simpa using hn)]; rfl
structure MatL (s : Store) (q n : Nat) (rp : Nat → Nat) (M : MF) : Prop where
  inj : ∀ i j, i < n → j < n → rp i = rp j → i = j
  out : objAt s q = some ⟨1, lrow n rp M⟩
  row : ∀ i, i < n → objAt s (rp i) = some ⟨3, (M i).map R.cells⟩
theorem MatF.toL {s : Store} {q n c : Nat} {rp : Nat → Nat} {M : MF} (h : MatF s q n c rp M) (hl : ∀ i, i < n → (M i).length = c) : MatL s q n rp M := by
  refine ⟨h.inj, ?_, h.row⟩
  rw [h.out]
  congr 2
  unfold orow lrow
  exact List.map_congr_left fun x hx => by rw [hl x (List.mem_range.1 hx)]
theorem MatL.lt {s : Store} {q n : Nat} {rp : Nat → Nat} {M : MF} (h : MatL s q n rp M) : q < s.length ∧ ∀ i, i < n → rp i < s.length := ⟨objAt_lt h.out, fun i hi => objAt_lt (h.row i hi)⟩
theorem MatL.ne {s : Store} {q n : Nat} {rp : Nat → Nat} {M : MF} (h : MatL s q n rp M) {i : Nat} (hi : i < n) : rp i ≠ q := fun e => by
  have := h.row i hi
  rw [e, h.out] at this; cases this
theorem MatL.ext {s : Store} {q n : Nat} {rp : Nat → Nat} {M M2 : MF} (h : MatL s q n rp M) (e : ∀ i, M i = M2 i) : MatL s q n rp M2 := by
  have : M = M2 := funext e
  subst this; exact h
theorem MatL.res {s : Store} {q n : Nat} {rp : Nat → Nat} {M : MF} (h : MatL s q n rp M) : resolve s FD (.msl q 0 n) = some (ratssV ((List.range n).map M)) := by
  show resolve s (11 + 1) _ = _
  rw [resolve]
  simp only [h.out]
  rw [if_pos (by rw [lrow_len]; omega), List.drop_zero, List.take_of_length_le (by rw [lrow_len]; omega)]
  have : ((lrow n rp M).mapM fun (r : List V) => r.mapM (resolve s 11)) = some ((List.range n).map fun i => [ratsV (M i)]) := by
    unfold lrow
    rw [List.mapM_map]
    refine mapM_some fun i hi => ?_
    have hi := List.mem_range.1 hi
    have h1 := (row_frz (s := s) (M i)).resN (h.row i hi) 7
    simp only [Function.comp, List.mapM_cons, List.mapM_nil]
    rw [h1]; rfl
  rw [this, Option.map_some]
  unfold ratssV
  rw [List.map_map]
  rfl
theorem MatL.put {s s2 : Store} {q n i p : Nat} {rp : Nat → Nat} {M : MF} {r : List R} (h : MatL s q n rp M) (hi : i < n) (hq : objAt s2 q = some ⟨1, (lrow n rp M).set i [.msl p 0 r.length]⟩) (hp : objAt s2 p = some ⟨3, r.map R.cells⟩) (hpl : s.length ≤ p)
    (ho : ∀ o, o < s.length → o ≠ q → o ≠ rp i → objAt s2 o = objAt s o) : MatL s2 q n (fun x => if x = i then p else rp x) (setR M i r) := by
  refine ⟨fun x y hx hy e => ?_, by rw [hq, lrow_set], fun x hx => ?_⟩
  · by_cases h1 : x = i <;> by_cases h2 : y = i
    · omega
    · rw [if_pos h1, if_neg h2] at e
      have := h.lt.2 y hy; omega
    · rw [if_neg h1, if_pos h2] at e
      have := h.lt.2 x hx; omega
    · rw [if_neg h1, if_neg h2] at e
      exact h.inj x y hx hy e
  · by_cases h1 : x = i
    · subst h1; rw [if_pos rfl, setR_eq]; exact hp
    · rw [if_neg h1, setR_ne h1, ho _ (h.lt.2 x hx) (h.ne hx) fun e => h1 (h.inj x i hx hi e)]
      exact h.row x hx
theorem c_sSolveSystem {T : Nat → Option Fn} (h : D_spec_SolveSystem T) {m : List (List R)} {b : List R} (wm : wfL (wfL R.wf) m) (wb : wfL R.wf b) : PF T 311 [ratssV m, ratsV b] (.tup [ratsV (ssX m b), .bool (ssB m b)]) := by
  have lm := wm.1
  have lb := wb.1
  have c1 := c_sIsMatrix h.d_spec_IsMatrix (m := m) (cols := (m.length : Nat)) wm (by omega)
  cases hc : ssC m b
  · obtain ⟨e1, e2⟩ := ssB_c hc
    rw [e1, e2]
    unfold ssC at hc
    generalize matOk m (m.length : Nat) = x at c1 hc
    have hx : x = false ∨ x = true := by cases x <;> simp
    refine pf_endL (fun _ _ => false) h.hT rfl rfl ?_
    dsimp only [F_spec_SolveSystem, oN, oS, oG, oK, oA, oH, oV, cI]
    (refine ev ?_; try with_reducible exact True.intro)
    refine PFK_of c1 ?_
    rcases hx with hx | hx
    · (refine ev1 @hx ?_; try with_reducible exact True.intro)
      exact of_eq_true (by simp [LaxV, LaxL, ratsV])
    · have hlt : (((b.length : Nat) : Int) = (m.length : Nat)) = False := eq_false fun e => by
        rw [hx, Bool.true_and, decide_eq_false_iff_not] at hc; omega
      (refine ev2 @hx @hlt ?_; try with_reducible exact True.intro)
      exact of_eq_true (by simp [LaxV, LaxL, ratsV])
  obtain ⟨h10, hbl, hmo, hml⟩ := ssC_ok hc
  rw [hmo] at c1
  have hlt : (((b.length : Nat) : Int) = (m.length : Nat)) = True := eq_true (by omega)
  have wW := ssL_wf wm wb hml hbl h10
  have hWl : (ssL m b).length = m.length := wideL_len _ _
  have PR := c_sReduceRows h.d_spec_ReduceRows (m := ssL m b) (c := (m.length : Nat) + 1) wW (fun hc => rrC_sz (by omega) hc) (by omega)
  have hokm := (ivm_ok hmo).2
  clear lm lb wm wb
  rcases Nat.eq_zero_or_pos m.length with h0 | h0
  · obtain ⟨e1, e2⟩ := rrE (m := ssL m b) (c := (m.length : Nat) + 1) (by omega) (by omega)
    obtain ⟨e3, e4⟩ := ssB_t hc e2
    rw [e3, e4, e1]
    rw [e1, e2] at PR
    have PR0 : PF T 310 [.nils, iv ((m.length : Nat) + 1)] (.tup [ratssV [], .bool true]) := by
      refine .laxF (args := [ratssV (ssL m b), iv ((m.length : Nat) + 1)]) (r := .tup [ratssV [], .bool true]) ?_ PR (laxV_refl _)
      rw [show ssL m b = [] from List.eq_nil_of_length_eq_zero (by omega)]
      simp only [LaxL, LaxV]
      exact ⟨_, _, rfl, .inl ⟨rfl, .inl rfl⟩, _, _, rfl, rfl, rfl⟩
    obtain ⟨s1, cr⟩ := rn_l09Copy0 h.d_spec_l09Copy h0
    refine pf_endL (fun x d => x == 325) h.hT rfl rfl ?_
    dsimp only [F_spec_SolveSystem, oN, oS, oG, oK, oA, oH, oV, cI]
    (refine ew ?_; try with_reducible exact True.intro)
    refine PFK_of c1 ?_
    (refine ew1 @hlt ?_; try with_reducible exact True.intro)
    refine RefK_mk cr rfl (by simp) (by simp) ?_
    (refine ew ?_; try with_reducible exact True.intro)
    refine loop_at (fun x d => x == 325) (α := Nat) (fun i => ⟨argE [ratssV m, .any, .any, .any, .any, .any, .nils, .any, .any, .any, .any, .any, .any, .any, .any, .any, .any, .any, .any, .any, .any, .any, .any, .any, .any, .any, .any, .any, iv 0, iv (i : Nat)], s1, 0, 0, [], []⟩) (fun i => i = 0) (fun i => i) rfl 0 ?_ ?_ ?_
    · rfl
    · (refine Fg_env ?_) <;> (try (refine ew ?_; try with_reducible exact True.intro)) <;> (repeat' (first | refine ⟨?_, ?_⟩ | exact EvV_int (by omega) | exact EvV_of (by simp) | exact EvV_nil _))
    · rintro i hi
      have hcc : ¬ ((i : Int) < 0) := by omega
      (refine ew1 @hcc ?_; try with_reducible exact True.intro)
      refine PFK_of PR0 ?_
      (refine ew ?_; try with_reducible exact True.intro)
      refine loop_at (fun x d => x == 325) (α := Nat) (fun k => ⟨argE [.any, .any, .any, .any, .any, .any, .any, .any, .any, .any, .nils, .any, .any, .any, .any, .any, .any, .any, .any, .any, .any, .any, .any, .any, .any, .any, .any, .any, .any, .any, .any, .any, .any, .any, .any, .any, .any, .any, .any, .any, .any, .any, .any, .any, .any, .any, .any, .any, .any, .any, .any, .any, .any, .any, .any, .any, .any, ratssV [], iv 0, iv (k : Nat)], s1 ++ [none], 0, 0, [], []⟩) (fun k => k = 0) (fun k => k) rfl 0 ?_ ?_ ?_
      · rfl
      · (refine Fg_env ?_) <;> (try (refine ew ?_; try with_reducible exact True.intro)) <;> (repeat' (first | refine ⟨?_, ?_⟩ | exact EvV_int (by omega) | exact EvV_of (by simp) | exact EvV_nil _))
      · rintro k hk
        have hcc : ¬ ((k : Int) < 0) := by omega
        (refine ew1 @hcc ?_; try with_reducible exact True.intro)
        exact of_eq_true (by simp [LaxV, LaxL, ratsV])
  obtain ⟨qo, s1, rp1, cr, hM1, _, _⟩ := rn_l09Copy h.d_spec_l09Copy (σ := []) h0 h10 h0 (by omega) (fun i hi => hokm i hi)
  have hM0 := hM1.toL (fun i hi => (hokm i hi).1)
  have hq1 := hM0.out
  refine pf_endL (fun x d => x == 325) h.hT rfl rfl ?_
  dsimp only [F_spec_SolveSystem, oN, oS, oG, oK, oA, oH, oV, cI]
  (refine ew ?_; try with_reducible exact True.intro)
  refine PFK_of c1 ?_
  (refine ew1 @hlt ?_; try with_reducible exact True.intro)
  refine RefK_mk cr rfl (by simp) (by simp) ?_
  (refine ew1 @hq1 ?_; try with_reducible exact True.intro)
  refine loop_at (fun x d => x == 325) (α := Nat × Store × (Nat → Nat)) (fun q => ⟨argE [ratssV m, ratsV b, .any, .any, .any, .any, .msl qo 0 m.length, .any, .any, .any, .any, .any, .any, .any, .any, .any, .any, .any, .any, .any, .any, .any, .any, .any, .any, .any, .any, .any, iv (m.length : Nat), iv (q.1 : Nat)], q.2.1, 0, 0, [], []⟩) (fun q => q.1 ≤ m.length ∧ MatL q.2.1 qo m.length q.2.2 (fun x => if x < q.1 then ssW m b x else mF m x)) (fun q => m.length - q.1) rfl (0, s1, rp1) ?_ ?_ ?_
  · exact ⟨Nat.zero_le _, hM0.ext fun x => (if_neg (Nat.not_lt_zero _)).symm⟩
  · (refine Fg_env ?_) <;> (try (refine ew ?_; try with_reducible exact True.intro)) <;> (repeat' (first | refine ⟨?_, ?_⟩ | exact EvV_int (by omega) | exact EvV_of (by simp) | exact EvV_nil _))
  · clear hM1 hM0 hq1 cr
    rintro ⟨i, s, rp⟩ ⟨hi, hM⟩
    dsimp only at hi hM
    have hq := hM.out
    have hql := hM.lt.1
    by_cases hcc : (i : Int) < (m.length : Nat)
    · have hil : i < m.length := by omega
      have hib : (i : Int) < (b.length : Nat) := by omega
      have hbi : (b.map R.cells).getD i [] = (b.getD i default).cells := mg (by omega)
      have hri := (hokm i hil).1
      have emf : (if i < i then ssW m b i else mF m i) = m.getD i default := if_neg (Nat.lt_irrefl _)
      have eW : ssW m b i = m.getD i default ++ [b.getD i default] := rfl
      have hrow := hM.row i hil
      have gi := lrow_at (rp := rp) (M := fun x => if x < i then ssW m b x else mF m x) hil
      rw [emf] at hrow gi
      rw [hri] at gi
      generalize m.getD i default = r at *
      generalize b.getD i default = y at *
      have hrs := hM.lt.2 i hil
      have hrq := hM.ne hil
      (refine ew5 @hcc (And.intro hq hrow) (And.intro gi hbi) @numK_any @or_sc ?_; try with_reducible exact True.intro)
      refine ⟨⟨by omega, by omega⟩, ?_, ?_⟩
      · refine OkA_lst [qo, rp i, s.length, s.length + 1] [⟨13, [0], [0], false⟩, ⟨12, [0], [], false⟩, ⟨11, [1, 2], [1, 3], false⟩, ⟨10, [], [2], false⟩, ⟨9, [], [], false⟩, ⟨8, [], [], false⟩, ⟨7, [], [], false⟩, ⟨6, [], [], false⟩, ⟨5, [0], [], false⟩, ⟨4, [0], [], false⟩, ⟨3, [], [], false⟩, ⟨2, [], [], false⟩, ⟨1, [], [], false⟩, ⟨0, [], [], false⟩] ?_ ?_ rfl ?_
        · simp; omega
        · simp; omega
        · show OkA 4 _ _
          unfold OkA; decide +kernel
      refine ⟨(i + 1, ?st, fun x => if x = i then s.length + 1 else rp x), ?c1, ⟨?c2, ?c4⟩, ?c3⟩
      case c3 => dsimp only; (refine Fg_env ?_) <;> (try (refine ew ?_; try with_reducible exact True.intro)) <;> (repeat' (first | refine ⟨?_, ?_⟩ | exact EvV_int (by omega) | exact EvV_of (by simp) | exact EvV_nil _))
      case c1 => dsimp only; omega
      case c2 => dsimp only; omega
      case c4 =>
        dsimp only
        have ef : setR (fun x => if x < i then ssW m b x else mF m x) i (r ++ [y]) = fun x => if x < i + 1 then ssW m b x else mF m x := by
          funext x
          unfold setR
          by_cases e : x = i
          · rw [if_pos e, if_pos (by omega), e, eW]
          · by_cases e2 : x < i
            · rw [if_neg e]
              dsimp only
              rw [if_pos e2, if_pos (by omega)]
            · rw [if_neg e]
              dsimp only
              rw [if_neg e2, if_neg (by omega)]
        rw [← ef]
        have n1 : s.length + 1 ≠ qo := by omega
        have n2 : s.length + 1 ≠ rp i := by omega
        refine hM.put hil (p := s.length + 1) ?_ ?_ (by omega) (fun o ho h1 h2 => ?_)
        · have el : (r ++ [y]).length = m.length + 1 := by simp [hri]
          rw [el, objAt_seteq (by simp; omega)]
          try rw [hri]
        · rw [List.map_append]
          simp (disch := first | omega | (simp only [List.length_append, List.length_set, List.length_cons, List.length_nil]; omega)) only [EVs]
          rfl
        · simp (disch := first | omega | (simp only [List.length_append, List.length_set, List.length_cons, List.length_nil]; omega)) only [EVs]
    · have hie : i = m.length := by omega
      subst hie
      have Rf := hM.res
      rw [show (List.range m.length).map (fun x => if x < m.length then ssW m b x else mF m x) = ssL m b from List.map_congr_left fun x hx => if_pos (List.mem_range.1 hx)] at Rf
      (refine ew2 @hcc @Rf ?_; try with_reducible exact True.intro)
      refine PFK_of PR ?_
      cases hb : rrB (ssL m b) ((m.length : Nat) + 1)
      · obtain ⟨e1, e2⟩ := ssB_r hb
        rw [e1, e2]
        (refine ew ?_; try with_reducible exact True.intro)
        exact of_eq_true (by simp [LaxV, LaxL, ratsV])
      obtain ⟨e1, e2⟩ := ssB_t hc hb
      rw [e1, e2]
      obtain ⟨M, eM, hOM, _⟩ := rrV_ok hb
      rw [hWl] at eM hOM
      have hlR : ∀ i, i < m.length → ((rrM (ssL m b) ((m.length : Nat) + 1)).getD i default).length = m.length + 1 := fun i hi => by
        have := (hOM i hi).1
        rw [eM, show ((List.range m.length).map M).getD i default = M i from wideL_at hi]; omega
      have hRl : (rrM (ssL m b) ((m.length : Nat) + 1)).length = m.length := by rw [eM]; simp
      clear eM hOM hM Rf hq hql PR
      generalize rrM (ssL m b) ((m.length : Nat) + 1) = RR at *
      (refine ew ?_; try with_reducible exact True.intro)
      refine loop_at (fun x d => x == 325) (α := Nat × Store × V × List R) (fun q => ⟨argE [ratssV m, .any, .any, .any, .any, .any, .any, .any, .any, .any, q.2.2.1, .any, .any, .any, .any, .any, .any, .any, .any, .any, .any, .any, .any, .any, .any, .any, .any, .any, .any, .any, .any, .any, .any, .any, .any, .any, .any, .any, .any, .any, .any, .any, .any, .any, .any, .any, .any, .any, .any, .any, .any, .any, .any, .any, .any, .any, .any, ratssV RR, iv (m.length : Nat), iv (q.1 : Nat)], q.2.1, 0, 0, [], []⟩) (fun q => q.1 ≤ m.length ∧ RowN q.2.1 0 q.2.2.1 q.2.2.2 ∧ q.2.2.2 = (RR.take q.1).map fun r => r.getD m.length default) (fun q => m.length - q.1) rfl (0, killAll (s.set qo none) (reachO s (objAt s qo)) ++ [none], .nils, []) ?_ ?_ ?_
      · exact ⟨Nat.zero_le _, .inl ⟨rfl, rfl⟩, rfl⟩
      · (refine Fg_env ?_) <;> (try (refine ew1 @hRl ?_; try with_reducible exact True.intro)) <;> (repeat' (first | refine ⟨?_, ?_⟩ | exact EvV_int (by omega) | exact EvV_of (by simp) | exact EvV_nil _))
      · rintro ⟨i, t, v10, L⟩ ⟨hi, hR, hL⟩
        dsimp only at hi hR hL
        by_cases hci : (i : Int) < (m.length : Nat)
        · have hil : i < m.length := by omega
          have hiR : (i : Int) < (RR.length : Nat) := by omega
          have hai : (RR.map fun r => [ratsV r]).getD i [] = [ratsV (RR.getD i default)] := mg (f := fun r : List R => [ratsV r]) (by omega)
          have hri := hlR i hil
          have hrj : ((RR.getD i default).map R.cells).getD m.length [] = ((RR.getD i default).getD m.length default).cells := mg (by omega)
          have ex : (RR.take (i + 1)).map (fun r => r.getD m.length default) = (RR.take i).map (fun r => r.getD m.length default) ++ [(RR.getD i default).getD m.length default] := by
            rw [take_snoc (by omega), List.map_append]; rfl
          rw [← hL] at ex
          have hLl : L.length = i := by rw [hL, List.length_map, List.length_take]; omega
          generalize RR.getD i default = r at *
          generalize r.getD m.length default = x at *
          have hnr : (m.length : Int) < (r.length : Nat) := by omega
          rcases hR with ⟨rfl, rfl⟩ | ⟨pr, rfl, hnp, hp⟩
          · (refine ew2 @hci (And.intro hai hrj) ?_; try with_reducible exact True.intro)
            refine ⟨by omega, ?_⟩
            refine ⟨(i + 1, ?st2, .msl (t.length + 1) 0 1, [] ++ [x]), ?c1, ⟨?c2, .inr ⟨_, rfl, ?c6, ?c7⟩, ex.symm⟩, ?c3⟩
            case c3 => dsimp only; (refine Fg_env ?_) <;> (try (refine ew ?_; try with_reducible exact True.intro)) <;> (repeat' (first | refine ⟨?_, ?_⟩ | exact EvV_int (by omega) | exact EvV_of (by simp) | exact EvV_nil _))
            case c1 => dsimp only; omega
            case c2 => dsimp only; omega
            case c6 => omega
            case c7 => exact objAt_seteq (by simp <;> omega)
          · have hpl := objAt_lt hp
            (refine ew3 @hci (And.intro hai hrj) @hp ?_; try with_reducible exact True.intro)
            refine ⟨by omega, ?_⟩
            refine ⟨(i + 1, ?st3, .msl (t.length + 1) 0 (L.length + 1), L ++ [x]), ?c1, ⟨?c2, .inr ⟨_, by rw [List.length_append]; rfl, ?c6, ?c7⟩, ex.symm⟩, ?c3⟩
            case c3 => dsimp only; (refine Fg_env ?_) <;> (try (refine ew ?_; try with_reducible exact True.intro)) <;> (repeat' (first | refine ⟨?_, ?_⟩ | exact EvV_int (by omega) | exact EvV_of (by simp) | exact EvV_nil _))
            case c1 => dsimp only; omega
            case c2 => dsimp only; omega
            case c6 => omega
            case c7 =>
              dsimp only
              rw [List.map_append]
              exact objAt_seteq (by simp <;> omega)
        · have hie : i = m.length := by omega
          rw [hie, ← hRl, List.take_length] at hL
          rw [hRl] at hL
          rw [← hL]
          rcases hR with ⟨rfl, rfl⟩ | ⟨pr, rfl, hnp, hp⟩
          · (refine ew1 @hci ?_; try with_reducible exact True.intro)
            exact of_eq_true (by simp [LaxV, LaxL, ratsV])
          · have Rf : resO1 t 0 L.length (some ⟨3, L.map R.cells⟩) = some (ratsV L) := by
              have := resO1_st (σ := t) (st_R L) (s := 0) (l := L.length) (n := 3) (by simp)
              rw [List.drop_zero, List.take_of_length_le (by simp)] at this
              exact this
            (refine ew3 @hci @hp @Rf ?_; try with_reducible exact True.intro)
            exact laxV_refl _
end Go.Ml
end
section
set_option linter.unusedSimpArgs false
set_option linter.unusedVariables false
set_option maxRecDepth 100000
set_option maxHeartbeats 4000000
namespace Go.Ml
def F_laws_heldRatS : Fn := ⟨2, 44, [.tmp 4], (.seq (.reg false 0 [oN 4 (.mov (cI 0))]) (.seq (.seq (.reg false 0 [oN 5 (.mov (cI 0))]) (.block 0 (.loop (.seq (.seq (.reg false 0 [oN 6 (oV 5), oN 7 (oV 0), oN 8 (.len (.t 7)), oN 9 (.bin .lss (.t 6) (.t 8))]) (.cond (.t 9) .skip (.exit 0))) (.seq (.block 1 (.seq (.seq (.reg false 0 [oN 12 (oV 0), oN 13 (oV 5), oN 14 (.idx 3 (.t 12) (.t 13)), oN 15 (.fld 0 (.t 14)), oN 16 (.fld 0 (.t 15)), oN 17 (.load 1 false (.t 16)), oN 18 (oV 1), oN 19 (.bin .rem (.t 18) (cI 3)), oN 20 (.bin .eql (.t 19) (cI 0)), oN 21 (.beq true (.t 17) (.t 20))]) (.cond (.t 21) (.seq (.reg false 0 [oN 4 (.mov (cI (-1)))]) .ret) .skip)) (.seq (.reg false 0 [oN 22 (oV 1), oN 23 (.bin .add (.t 22) (cI 1)), oN 1 (oV 23)]) (.seq (.reg false 0 [oN 24 (oV 0), oN 25 (oV 5), oN 26 (.idx 3 (.t 24) (.t 25)), oN 27 (.fld 0 (.t 26)), oN 28 (.fld 1 (.t 27)), oN 29 (.load 1 false (.t 28)), oN 30 (oV 1), oN 31 (.call 59 [(.t 29), (.t 30)]), oN 1 (oV 31)]) (.seq (.seq (.reg false 0 [oN 32 (oV 1), oN 33 (.bin .lss (.t 32) (cI 0))]) (.cond (.t 33) (.seq (.reg false 0 [oN 4 (.mov (cI (-1)))]) .ret) .skip)) (.seq (.reg false 0 [oN 34 (oV 0), oN 35 (oV 5), oN 36 (.idx 3 (.t 34) (.t 35)), oN 37 (.fld 2 (.t 36)), oN 38 (.load 1 false (.t 37)), oN 39 (oV 1), oN 40 (.call 59 [(.t 38), (.t 39)]), oN 1 (oV 40)]) (.seq (.reg false 0 [oN 41 (oV 1), oN 42 (.bin .lss (.t 41) (cI 0))]) (.cond (.t 42) (.seq (.reg false 0 [oN 4 (.mov (cI (-1)))]) .ret) .skip)))))))) (.reg false 0 [oN 10 (oV 5), oN 11 (.bin .add (.t 10) (cI 1)), oN 5 (oV 11)])))))) (.seq (.reg false 0 [oN 43 (oV 1), oN 4 (oV 43)]) .ret)))⟩
structure D_laws_heldRatS (T : Nat → Option Fn) : Prop where
  hT : T 313 = some F_laws_heldRatS
  d_laws_heldIntS : D_laws_heldIntS T
theorem c_heldRatS {T : Nat → Option Fn} (h : D_laws_heldRatS T) {l : List R} {k : Int} (hl : szL R.sz l ≤ 1000000000 := by first | omega | assumption | (simp; omega)) (hk : 0 ≤ k ∧ k + cnL R.ct l l.length ≤ 1000000000000 := by first | omega | assumption | (simp; omega)) :
    PF T 313 [ratsV (mkL R.mk3 R.ct k l), iv k] (iv (k + cnL R.ct l l.length)) := by
  have hll : l.length ≤ 1000000000 := by unfold szL at hl; omega
  have hml := mkL_len R.mk3 R.ct k l
  refine pf_end (fun _ _ => false) h.hT rfl rfl ?_
  dsimp only [F_laws_heldRatS, oN, oS, oG, oK, oA, oH, oV, cI]
  (refine ev ?_; try with_reducible exact True.intro)
  refine loop_at (fun _ _ => false) (α := Nat) (fun i => ⟨argE [ratsV (mkL R.mk3 R.ct k l), iv (k + cnL R.ct l i), .any, .any, .any, iv (i : Nat)], [], 0, 0, [], []⟩) (fun i => i ≤ l.length) (fun i => l.length - i) rfl 0 ?_ ?_ ?_
  · omega
  · (refine Fg_env ?_) <;> (try (refine ev1 @cnL_0 ?_; try with_reducible exact True.intro)) <;> (repeat' (first | refine ⟨?_, ?_⟩ | exact EvV_int (by omega) | exact EvV_of (by simp) | exact EvV_nil _))
  · intro i hi
    (refine ev1 @hml ?_; try with_reducible exact True.intro)
    refine brK_dec (fun hc => ?_) fun hc => ?_
    · have hil : i < l.length := by omega
      have hrow := (mg (f := R.cells) (show i < (mkL R.mk3 R.ct k l).length by omega)).trans (congrArg R.cells (mkL_at R.mk3 R.ct k l i hil))
      obtain ⟨x, hx⟩ : ∃ x, l.getD i default = x := ⟨_, rfl⟩
      have hcn := cnL_s R.ct l hil
      have hcl := cnL_le R.ct l (i := i + 1) hil
      have hxs : R.sz x ≤ 1000000000 := by
        have := szL_at R.sz hil
        rw [hx] at this
        omega
      rw [hx] at hcn hrow
      rw [hcn] at hcl
      have hct : R.ct x = 1 + x.mag.length + x.den.length := rfl
      obtain ⟨kk, hkk⟩ : ∃ kk, k + (cnL R.ct l i : Int) = kk := ⟨_, rfl⟩
      rw [hkk] at hrow
      have hrow : (List.map R.cells (mkL R.mk3 R.ct k l)).getD i [] = [.bool (decide ((kk).tmod 3 = 0)), ints (cnt x.mag.length (kk + 1)), ints (cnt x.den.length (kk + 1 + x.mag.length))] := hrow
      simp only [R.sz] at hxs
      (refine ev4 @hc @hrow @hkk @hml ?_; try with_reducible exact True.intro)
      refine PFK_of (c_heldIntS h.d_laws_heldIntS (n := x.mag.length) (k := kk + 1) (by omega) (by omega)) ?_
      (refine ev2 @hrow @hml ?_; try with_reducible exact True.intro)
      refine brK_dec (fun hc => absurd hc (by omega)) fun _ => ?_
      (refine ev2 @hrow @hml ?_; try with_reducible exact True.intro)
      refine PFK_of (c_heldIntS h.d_laws_heldIntS (n := x.den.length) (k := kk + 1 + x.mag.length) (by omega) (by omega)) ?_
      (refine ev2 @hrow @hml ?_; try with_reducible exact True.intro)
      refine brK_dec (fun hc => absurd hc (by omega)) fun _ => ?_
      (refine ev2 @hrow @hml ?_; try with_reducible exact True.intro)
      exact ⟨i + 1, by omega, by omega, by (refine Fg_env ?_) <;> (try (refine ev ?_; try with_reducible exact True.intro)) <;> (repeat' (first | refine ⟨?_, ?_⟩ | exact EvV_int (by omega) | exact EvV_of (by simp) | exact EvV_nil _))⟩
    · have : i = l.length := by omega
      subst this
      (refine ev1 @hc ?_; try with_reducible exact True.intro)
end Go.Ml
end
section
set_option linter.unusedSimpArgs false
set_option linter.unusedVariables false
namespace Go.Ml
theorem cnL_bd {α : Type} {c f : α → Nat} {K : Nat} (h : ∀ x, c x ≤ K * (1 + f x)) (l : List α) : cnL c l l.length ≤ K * szL f l := by
  unfold cnL szL
  rw [List.take_length]
  induction l with
  | nil => simp
  | cons x l ih =>
    rw [List.map_cons, List.sum_cons, List.map_cons, List.sum_cons, List.length_cons]
    have := h x
    rw [show l.length + 1 + (f x + (l.map f).sum) = (1 + f x) + (l.length + (l.map f).sum) by omega, Nat.mul_add]
    omega
theorem cb_R (x : R) : R.ct x ≤ 5 * (1 + x.sz) := by unfold R.ct R.sz; omega
theorem cb_RatS (l : List R) : cnL R.ct l l.length ≤ 5 * szL R.sz l := cnL_bd cb_R l
theorem cb_rs (x : List R) : rsct x ≤ 5 * (1 + szL R.sz x) := by have := cb_RatS x; unfold rsct; omega
theorem cb_RatSS (l : List (List R)) : cnL rsct l l.length ≤ 5 * szL (szL R.sz) l := cnL_bd cb_rs l
end Go.Ml
end
section
set_option linter.unusedSimpArgs false
set_option linter.unusedVariables false
set_option maxRecDepth 100000
set_option maxHeartbeats 16000000
namespace Go.Ml
def F_laws_FnExactSolveSystem : Fn := ⟨2, 119, [.tmp 4], (.seq (.reg false 0 [oN 4 (.mov (.c (.bool false)))]) (.seq (.reg false 0 [oN 5 (.mov (cI 1048576))]) (.seq (.reg false 0 [oN 17 (oV 0), oN 18 (oV 5), oN 19 (.call 90 [(.t 17), (.t 18)]), oN 5 (oV 19)]) (.seq (.seq (.reg false 0 [oN 20 (oV 5), oN 21 (.bin .lss (.t 20) (cI 0))]) (.cond (.t 21) (.seq (.reg false 0 [oN 4 (.mov (.c (.bool true)))]) .ret) .skip)) (.seq (.reg false 0 [oN 22 (oV 1), oN 23 (oV 5), oN 24 (.call 112 [(.t 22), (.t 23)]), oN 5 (oV 24)]) (.seq (.seq (.reg false 0 [oN 25 (oV 5), oN 26 (.bin .lss (.t 25) (cI 0))]) (.cond (.t 26) (.seq (.reg false 0 [oN 4 (.mov (.c (.bool true)))]) .ret) .skip)) (.seq (.reg false 0 [oN 28 (oV 0), oN 29 (.call 92 [(.t 28)]), oN 30 (oV 1), oN 31 (.call 113 [(.t 30)]), oN 32 (.call 311 [(.t 29), (.t 31)]), oN 27 (oV 32), oN 33 (.extr 0 (.t 27)), oN 34 (.extr 1 (.t 27)), oN 6 (oV 33), oN 7 (oV 34)]) (.seq (.reg false 0 [oN 35 (oV 0), oN 36 (.call 92 [(.t 35)]), oN 8 (oV 36)]) (.seq (.reg false 0 [oN 37 (oV 1), oN 38 (.call 113 [(.t 37)]), oN 9 (oV 38)]) (.seq (.reg false 0 [oN 40 (oV 8), oN 41 (oV 9), oN 42 (.call 231 [(.t 40), (.t 41)]), oN 39 (oV 42), oN 43 (.extr 0 (.t 39)), oN 44 (.extr 1 (.t 39)), oN 10 (oV 43), oN 11 (oV 44)]) (.seq (.seq (.reg false 0 [oN 45 (oV 10), oN 46 (oV 6), oN 47 (.call 114 [(.t 45), (.t 46)]), oN 48 (.un .not (.t 47)), oN 49 (oV 48), oG 49 false 50 (oV 11), oG 49 false 51 (oV 7), oG 49 false 52 (.beq true (.t 50) (.t 51)), oN 53 (.pick (.t 49) (.c (.bool true)) (.t 52))]) (.cond (.t 53) (.seq (.reg false 0 [oN 4 (.mov (.c (.bool false)))]) .ret) .skip)) (.seq (.seq (.reg false 0 [oN 54 (oV 8), oN 55 (oV 0), oN 56 (.call 92 [(.t 55)]), oN 57 (.call 94 [(.t 54), (.t 56)]), oN 58 (.un .not (.t 57))]) (.cond (.t 58) (.seq (.reg false 0 [oN 4 (.mov (.c (.bool false)))]) .ret) .skip)) (.seq (.seq (.reg false 0 [oN 59 (oV 9), oN 60 (oV 1), oN 61 (.call 113 [(.t 60)]), oN 62 (.call 114 [(.t 59), (.t 61)]), oN 63 (.un .not (.t 62))]) (.cond (.t 63) (.seq (.reg false 0 [oN 4 (.mov (.c (.bool false)))]) .ret) .skip)) (.seq (.reg false 0 [oN 12 (.mov (cI 1))]) (.seq (.reg false 0 [oN 64 (oV 8), oN 65 (oV 12), oN 66 (.call 302 [(.t 64), (.t 65)]), oN 12 (oV 66)]) (.seq (.reg false 0 [oN 67 (oV 9), oN 68 (oV 12), oN 69 (.call 312 [(.t 67), (.t 68)]), oN 12 (oV 69)]) (.seq (.seq (.reg false 0 [oN 70 (oV 12), oN 71 (.bin .lss (.t 70) (cI 0)), oN 72 (oV 71), oG 72 false 73 (oV 10), oG 72 false 74 (oV 6), oG 72 false 75 (.call 114 [(.t 73), (.t 74)]), oG 72 false 76 (.un .not (.t 75)), oN 77 (.pick (.t 72) (.c (.bool true)) (.t 76)), oN 78 (oV 77), oG 78 false 79 (oV 11), oG 78 false 80 (oV 7), oG 78 false 81 (.beq true (.t 79) (.t 80)), oN 82 (.pick (.t 78) (.c (.bool true)) (.t 81))]) (.cond (.t 82) (.seq (.reg false 0 [oN 4 (.mov (.c (.bool false)))]) .ret) .skip)) (.seq (.reg false 0 [oN 13 (.mov (cI 1))]) (.seq (.reg false 0 [oN 83 (oV 10), oN 84 (oV 13), oN 85 (.call 312 [(.t 83), (.t 84)]), oN 13 (oV 85)]) (.seq (.reg false 0 [oN 14 (.mov (cI 1))]) (.seq (.reg false 0 [oN 86 (oV 10), oN 87 (oV 14), oN 88 (.call 313 [(.t 86), (.t 87)]), oN 14 (oV 88)]) (.seq (.seq (.reg false 0 [oN 89 (oV 14), oN 90 (.bin .lss (.t 89) (cI 0))]) (.cond (.t 90) (.seq (.reg false 0 [oN 4 (.mov (.c (.bool false)))]) .ret) .skip)) (.seq (.seq (.reg false 0 [oN 91 (oV 14), oN 92 (oV 13), oN 93 (.bin .neq (.t 91) (.t 92))]) (.cond (.t 93) (.seq (.reg false 0 [oN 4 (.mov (.c (.bool false)))]) .ret) .skip)) (.seq (.reg false 0 [oN 95 (oV 0), oN 96 (.call 92 [(.t 95)]), oN 97 (oV 1), oN 98 (.call 113 [(.t 97)]), oN 99 (.call 231 [(.t 96), (.t 98)]), oN 94 (oV 99), oN 100 (.extr 0 (.t 94)), oN 101 (.extr 1 (.t 94)), oN 15 (oV 100), oN 16 (oV 101)]) (.seq (.seq (.reg false 0 [oN 102 (oV 15), oN 103 (oV 6), oN 104 (.call 114 [(.t 102), (.t 103)]), oN 105 (.un .not (.t 104)), oN 106 (oV 105), oG 106 false 107 (oV 16), oG 106 false 108 (oV 7), oG 106 false 109 (.beq true (.t 107) (.t 108)), oN 110 (.pick (.t 106) (.c (.bool true)) (.t 109))]) (.cond (.t 110) (.seq (.reg false 0 [oN 4 (.mov (.c (.bool false)))]) .ret) .skip)) (.seq (.reg false 0 [oN 14 (.mov (cI 1))]) (.seq (.reg false 0 [oN 111 (oV 10), oN 112 (oV 14), oN 113 (.call 313 [(.t 111), (.t 112)]), oN 14 (oV 113)]) (.seq (.seq (.reg false 0 [oN 114 (oV 14), oN 115 (.bin .lss (.t 114) (cI 0))]) (.cond (.t 115) (.seq (.reg false 0 [oN 4 (.mov (.c (.bool false)))]) .ret) .skip)) (.seq (.seq (.reg false 0 [oN 116 (oV 14), oN 117 (oV 13), oN 118 (.bin .neq (.t 116) (.t 117))]) (.cond (.t 118) (.seq (.reg false 0 [oN 4 (.mov (.c (.bool false)))]) .ret) .skip)) (.seq (.reg false 0 [oN 4 (.mov (.c (.bool true)))]) .ret))))))))))))))))))))))))))))))⟩
structure D_laws_FnExactSolveSystem (T : Nat → Option Fn) : Prop where
  hT : T 289 = some F_laws_FnExactSolveSystem
  d_laws_szRatSS : D_laws_szRatSS T
  d_laws_toRatSS : D_laws_toRatSS T
  d_laws_eqRatSS : D_laws_eqRatSS T
  d_laws_szRatS : D_laws_szRatS T
  d_laws_toRatS : D_laws_toRatS T
  d_laws_eqRatS : D_laws_eqRatS T
  d_impl_SolveSystem : D_impl_SolveSystem T
  d_laws_markRatSS : D_laws_markRatSS T
  d_spec_SolveSystem : D_spec_SolveSystem T
  d_laws_markRatS : D_laws_markRatS T
  d_laws_heldRatS : D_laws_heldRatS T
theorem c_lawFnExactSolveSystem {T : Nat → Option Fn} (h : D_laws_FnExactSolveSystem T) (a : List (List R)) (wa : (wfL (wfL R.wf)) a) (b : List R) (wb : (wfL R.wf) b) : PF T 289 [ratssV a, ratsV b] (.bool true) := by
  refine PO.frz ?_ (dep_bool 11 _)
  refine po_end2 (fun x d => (x == 92 && d == 36) || (x == 113 && d == 38) || (x == 231 && d == 42) || (x == 302 && d == 66) || (x == 312 && d == 69) || (x == 312 && d == 85)) h.hT rfl rfl ?_
  dsimp only [F_laws_FnExactSolveSystem, oN, oS, oG, oK, oA, oH, oV, cI, St.enter, List.length_cons, List.length_nil, Nat.zero_add]
  (refine ew ?_; try with_reducible exact True.intro)
  refine PFK_of (c_szRatSS h.d_laws_szRatSS (l := a) wa ⟨by omega, by omega⟩) ?_
  (refine ew ?_; try with_reducible exact True.intro)
  have ka := @szr_le (1048576) (szL (szL R.sz) a)
  refine brK_dec (fun hba => ?_) fun hba => ?_
  · (refine ew ?_; try with_reducible exact True.intro)
    exact fin_bool
  have sa := szr_nlt hba
  (refine ew ?_; try with_reducible exact True.intro)
  refine PFK_of (c_szRatS h.d_laws_szRatS (l := b) wb ⟨by omega, by omega⟩) ?_
  (refine ew ?_; try with_reducible exact True.intro)
  have kb := @szr_le (szr (1048576) (szL (szL R.sz) a)) (szL R.sz b)
  refine brK_dec (fun hbb => ?_) fun hbb => ?_
  · (refine ew ?_; try with_reducible exact True.intro)
    exact fin_bool
  have sb := szr_nlt hbb
  (refine ew ?_; try with_reducible exact True.intro)
  have za : szL (szL R.sz) a ≤ 1048576 := by omega
  have zb : szL R.sz b ≤ 1048576 := by omega
  have hcn := ssX_cn a b
  have zr := rs_sz hcn.1 (by omega)
  have wr := rs_wf hcn.1 (by omega)
  have := cb_RatSS a
  have := cb_RatS b
  have := cb_RatS (ssX a b)
  have PI := po_iSolveSystem h.d_impl_SolveSystem wa wb
  refine PFK_of (c_toRatSS h.d_laws_toRatSS (l := a) za) ?_
  (refine ew ?_; try with_reducible exact True.intro)
  refine PFK_of (c_toRatS h.d_laws_toRatS (l := b) zb) ?_
  (refine ew ?_; try with_reducible exact True.intro)
  refine PFK_of (c_sSolveSystem h.d_spec_SolveSystem wa wb) ?_
  (refine ew ?_; try with_reducible exact True.intro)
  refine RefK_got (po_toRatSS h.d_laws_toRatSS (l := a) za) (by (refine ew ?_; try with_reducible exact True.intro)) ?_
  intro x0 q1 o1 G
  have hO := G.ow
  have gn := G.nd
  have gf := G.fresh
  have go := G.old
  have gl := G.len
  clear G
  have E : Ep ([] : Store) [] [] [] [] := ⟨cs_nil, by simp [objAt]⟩
  have E2 := E.got (s1 := ([] : Store)) (fun _ _ => rfl) (by simp) (owL_1 hO) (by first | exact gn | simpa using gn) (by first | exact gf | simpa using gf) (by first | exact go | simpa using go)
  have hq : ([] : Store).length + 0 ≤ q1.length := by first | exact gl | simpa using gl
  clear E gn gf go gl
  have E : Ep q1 [x0] [ratssV a] _ [] := E2
  clear E2
  have Rf := And.intro (E.res 0 rfl rfl (dep_ratss _ _)) (fun x => (E.snoc (x := x)).res 0 rfl rfl (dep_ratss _ _))
  have LF := E.leaf 0 rfl rfl
  (refine ew4 @Rf @LF @numK_any @or_sc ?_; try with_reducible exact True.intro)
  refine RefK_got (po_toRatS h.d_laws_toRatS (l := b) zb) (by (refine ew4 @Rf @LF @numK_any @or_sc ?_; try with_reducible exact True.intro)) ?_
  intro x1 q2 o2 G
  have hO := G.ow
  have gn := G.nd
  have gf := G.fresh
  have go := G.old
  have gl := G.len
  clear G
  have E2 := E.got (s1 := q1) (fun _ _ => rfl) (by simp) (owL_1 hO) (by first | exact gn | simpa using gn) (by first | exact gf | simpa using gf) (by first | exact go | simpa using go)
  have hq : q1.length + 0 ≤ q2.length := by first | exact gl | simpa using gl
  clear E gn gf go gl
  have E : Ep q2 [x0, x1] [ratssV a, ratsV b] _ [] := E2
  clear E2
  replace Rf := And.intro (E.res 0 rfl rfl (dep_ratss _ _)) (And.intro (fun x => (E.snoc (x := x)).res 0 rfl rfl (dep_ratss _ _)) (And.intro (E.res 1 rfl rfl (dep_rats _ _)) (fun x => (E.snoc (x := x)).res 1 rfl rfl (dep_rats _ _))))
  replace LF := And.intro (E.leaf 0 rfl rfl) (E.leaf 1 rfl rfl)
  (refine ew4 @Rf @LF @numK_any @or_sc ?_; try with_reducible exact True.intro)
  refine RefK_got (PI) (by (refine ew4 @Rf @LF @numK_any @or_sc ?_; try with_reducible exact True.intro)) ?_
  intro r q3 o3 G
  have hO := G.ow
  have gn := G.nd
  have gf := G.fresh
  have go := G.old
  have gl := G.len
  clear G
  obtain ⟨_, rfl, hO0⟩ := hO.tup_inv
  obtain ⟨g0, _, u3_1, v3_1, rfl, rfl, hP3_1, hO3_1⟩ := hO0.inv
  obtain ⟨_, rfl, hO3_2⟩ := hO3_1.bool_inv
  obtain ⟨rfl, rfl⟩ := hO3_2.nil_inv
  simp only [List.append_nil, List.nil_append] at gn gf
  have E2 := E.got (s1 := q2) (fun _ _ => rfl) (by simp) (owL_1 hP3_1) (by first | exact gn | simpa using gn) (by first | exact gf | simpa using gf) (by first | exact go | simpa using go)
  have hq : q2.length + 0 ≤ q3.length := by first | exact gl | simpa using gl
  clear E gn gf go gl
  have E : Ep q3 [x0, x1, g0] [ratssV a, ratsV b, ratsV (ssX a b)] _ [] := E2
  clear E2
  replace Rf := And.intro (E.res 0 rfl rfl (dep_ratss _ _)) (And.intro (fun x => (E.snoc (x := x)).res 0 rfl rfl (dep_ratss _ _)) (And.intro (E.res 1 rfl rfl (dep_rats _ _)) (And.intro (fun x => (E.snoc (x := x)).res 1 rfl rfl (dep_rats _ _)) (And.intro (E.res 2 rfl rfl (dep_rats _ _)) (fun x => (E.snoc (x := x)).res 2 rfl rfl (dep_rats _ _))))))
  replace LF := And.intro (E.leaf 0 rfl rfl) (And.intro (E.leaf 1 rfl rfl) (E.leaf 2 rfl rfl))
  (refine ew4 @Rf @LF @numK_any @or_sc ?_; try with_reducible exact True.intro)
  refine PFK_of (c_eqRatS h.d_laws_eqRatS (a := (ssX a b)) (b := (ssX a b)) wr wr) ?_
  (refine ew4 @Rf @LF @numK_any @or_sc ?_; try with_reducible exact True.intro)
  refine PFK_of (c_toRatSS h.d_laws_toRatSS (l := a) za) ?_
  (refine ew4 @Rf @LF @numK_any @or_sc ?_; try with_reducible exact True.intro)
  refine PFK_of (c_eqRatSS h.d_laws_eqRatSS (a := a) (b := a) wa wa) ?_
  (refine ew4 @Rf @LF @numK_any @or_sc ?_; try with_reducible exact True.intro)
  refine PFK_of (c_toRatS h.d_laws_toRatS (l := b) zb) ?_
  (refine ew4 @Rf @LF @numK_any @or_sc ?_; try with_reducible exact True.intro)
  refine PFK_of (c_eqRatS h.d_laws_eqRatS (a := b) (b := b) wb wb) ?_
  (refine ew4 @Rf @LF @numK_any @or_sc ?_; try with_reducible exact True.intro)
  obtain ⟨s4, hr, E2, hl⟩ := E.call 0 (mk_markRatSS h.d_laws_markRatSS (l := a) (k := 1) (by first | omega | (constructor <;> omega)) (by first | omega | (constructor <;> omega))) rfl rfl
  refine RefK_mk hr rfl hl (by simp) ?_
  clear hr hl E Rf LF
  have E : Ep s4 [x0, x1, g0] [ratssV (mkL rsmk rsct 1 a), ratsV b, ratsV (ssX a b)] _ [] := E2
  clear E2
  have Rf := And.intro (E.res 0 rfl rfl (dep_ratss _ _)) (And.intro (fun x => (E.snoc (x := x)).res 0 rfl rfl (dep_ratss _ _)) (And.intro (E.res 1 rfl rfl (dep_rats _ _)) (And.intro (fun x => (E.snoc (x := x)).res 1 rfl rfl (dep_rats _ _)) (And.intro (E.res 2 rfl rfl (dep_rats _ _)) (fun x => (E.snoc (x := x)).res 2 rfl rfl (dep_rats _ _))))))
  have LF := And.intro (E.leaf 0 rfl rfl) (And.intro (E.leaf 1 rfl rfl) (E.leaf 2 rfl rfl))
  (refine ew4 @Rf @LF @numK_any @or_sc ?_; try with_reducible exact True.intro)
  have hk0 : ¬ ((1 + cnL rsct a a.length + cnL R.ct b b.length : Int) < 0) := by omega
  obtain ⟨s5, hr, E2, hl⟩ := E.call 1 (mk_markRatS h.d_laws_markRatS (l := b) (k := 1 + cnL rsct a a.length) (by first | omega | (constructor <;> omega)) (by first | omega | (constructor <;> omega))) rfl rfl
  refine RefK_mk hr rfl hl (by simp) ?_
  clear hr hl E Rf LF
  have E : Ep s5 [x0, x1, g0] [ratssV (mkL rsmk rsct 1 a), ratsV (mkL R.mk3 R.ct (1 + cnL rsct a a.length) b), ratsV (ssX a b)] _ [] := E2
  clear E2
  have Rf := And.intro (E.res 0 rfl rfl (dep_ratss _ _)) (And.intro (fun x => (E.snoc (x := x)).res 0 rfl rfl (dep_ratss _ _)) (And.intro (E.res 1 rfl rfl (dep_rats _ _)) (And.intro (fun x => (E.snoc (x := x)).res 1 rfl rfl (dep_rats _ _)) (And.intro (E.res 2 rfl rfl (dep_rats _ _)) (fun x => (E.snoc (x := x)).res 2 rfl rfl (dep_rats _ _))))))
  have LF := And.intro (E.leaf 0 rfl rfl) (And.intro (E.leaf 1 rfl rfl) (E.leaf 2 rfl rfl))
  (refine ew5 @Rf @LF @numK_any @or_sc @hk0 ?_; try with_reducible exact True.intro)
  refine PFK_of (c_eqRatS h.d_laws_eqRatS (a := (ssX a b)) (b := (ssX a b)) wr wr) ?_
  (refine ew5 @Rf @LF @numK_any @or_sc @hk0 ?_; try with_reducible exact True.intro)
  obtain ⟨s6, hr, E2, hl⟩ := E.call 2 (mk_markRatS h.d_laws_markRatS (l := (ssX a b)) (k := 1) (by first | omega | (constructor <;> omega)) (by first | omega | (constructor <;> omega))) rfl rfl
  refine RefK_mk hr rfl hl (by simp) ?_
  clear hr hl E Rf LF
  have E : Ep s6 [x0, x1, g0] [ratssV (mkL rsmk rsct 1 a), ratsV (mkL R.mk3 R.ct (1 + cnL rsct a a.length) b), ratsV (mkL R.mk3 R.ct 1 (ssX a b))] _ [] := E2
  clear E2
  have Rf := And.intro (E.res 0 rfl rfl (dep_ratss _ _)) (And.intro (fun x => (E.snoc (x := x)).res 0 rfl rfl (dep_ratss _ _)) (And.intro (E.res 1 rfl rfl (dep_rats _ _)) (And.intro (fun x => (E.snoc (x := x)).res 1 rfl rfl (dep_rats _ _)) (And.intro (E.res 2 rfl rfl (dep_rats _ _)) (fun x => (E.snoc (x := x)).res 2 rfl rfl (dep_rats _ _))))))
  have LF := And.intro (E.leaf 0 rfl rfl) (And.intro (E.leaf 1 rfl rfl) (E.leaf 2 rfl rfl))
  (refine ew4 @Rf @LF @numK_any @or_sc ?_; try with_reducible exact True.intro)
  refine PFK_of (c_heldRatS h.d_laws_heldRatS (l := (ssX a b)) (k := 1) (by first | omega | (constructor <;> omega)) (by first | omega | (constructor <;> omega))) ?_
  (refine ew4 @Rf @LF @numK_any @or_sc ?_; try with_reducible exact True.intro)
  refine brK_dec (fun hc => absurd hc (by first | omega | (constructor <;> omega))) fun _ => ?_
  (refine ew4 @Rf @LF @numK_any @or_sc ?_; try with_reducible exact True.intro)
  refine PFK_of (c_toRatSS h.d_laws_toRatSS (l := a) za) ?_
  (refine ew4 @Rf @LF @numK_any @or_sc ?_; try with_reducible exact True.intro)
  refine PFK_of (c_toRatS h.d_laws_toRatS (l := b) zb) ?_
  (refine ew4 @Rf @LF @numK_any @or_sc ?_; try with_reducible exact True.intro)
  refine PFK_of (PI.frz (by exact dep_tup2 (dep_rats _ _) (dep_bool _ _))) ?_
  (refine ew4 @Rf @LF @numK_any @or_sc ?_; try with_reducible exact True.intro)
  refine PFK_of (c_eqRatS h.d_laws_eqRatS (a := (ssX a b)) (b := (ssX a b)) wr wr) ?_
  (refine ew4 @Rf @LF @numK_any @or_sc ?_; try with_reducible exact True.intro)
  refine PFK_of (c_heldRatS h.d_laws_heldRatS (l := (ssX a b)) (k := 1) (by first | omega | (constructor <;> omega)) (by first | omega | (constructor <;> omega))) ?_
  (refine ew4 @Rf @LF @numK_any @or_sc ?_; try with_reducible exact True.intro)
  refine brK_dec (fun hc => absurd hc (by first | omega | (constructor <;> omega))) fun _ => ?_
  (refine ew4 @Rf @LF @numK_any @or_sc ?_; try with_reducible exact True.intro)
  exact fin_bool
end Go.Ml
end
section
set_option linter.unusedSimpArgs false
namespace Go.Ml
def OutOk (P : Program) (fid : Nat) (o : OutF) : Prop :=
  ∀ args σ r σ', o.sem args σ r σ' → ∀ w M D (vals : Array Value), rdL w D (XS M D) args vals.toList → SRel w D M σ → Calls P fid vals w (Post M D w σ.length r σ')
def Fits (P : Program) (ν : Nat → Option Nat) (T : Nat → Option Fn) : Prop :=
  ∀ fid f F, ν fid = some f → T f = some F → (∃ fn, P.funcs[fid]? = some fn ∧ trFn P ν fn = some F) ∨ ∃ o, F.body = .lib o ∧ OutOk P fid o
theorem no_lib {T : Nat → Option Fn} {j : Job} {x : Out} (h : Run T j x) : ∀ o st, j ≠ .code (.lib o) st := by
  induction h with
  | gc ρ hn hρ h ih => intro o st e; cases e; exact ih o _ rfl
  | forget he ho hk h ih => intro o st e; cases e; exact ih o _ rfl
  | re W h h' ih => intro o st e; cases e; exact ih o _ rfl
  | _ => intro o st e; cases e
theorem trC_lib {P : Program} {ν : Nat → Option Nat} {nt : Nat} {o : OutF} : ∀ c : Code, trC P ν nt c ≠ some (.lib o) := by
  intro c h
  unfold trC at h
  cases c <;> simp at h
  all_goals (try (split at h <;> simp at h))
theorem trFn_lib {P : Program} {ν : Nat → Option Nat} {fn : Func} {F : Fn} {o : OutF} (h : trFn P ν fn = some F) (hb : F.body = .lib o) : False := by
  unfold trFn at h
  split at h <;> first | (cases h; done) | skip
  split at h <;> first | (cases h; done) | skip
  rename_i b rs' hb' hrs'
  split at h <;> first | (cases h; done) | skip
  simp only [Option.some.injEq] at h
  subst h
  simp only [] at hb
  subst hb
  exact trC_lib _ hb'
section
variable {P : Program} {ν : Nat → Option Nat} {T : Nat → Option Fn}
theorem okK_cons {m : Nat} {x : OpI} {l : List OpI} (h : okK m (x :: l) = true) : okK m l = true ∧ ∀ y ∈ l, y.i.makes = true → y.k ≠ x.k ∧ y.k < m := by
  have hm : ∀ (l : List OpI), okK m l = true → ∀ y ∈ l, y.i.makes = true → y.k < m := by
    intro l
    induction l with
    | nil => intro _ y hy; cases hy
    | cons z l ih =>
      intro h y hy hmk
      simp only [okK, Bool.and_eq_true] at h
      rcases List.mem_cons.1 hy with rfl | hy
      · have := h.1
        rw [if_pos hmk] at this
        simp only [Bool.and_eq_true, decide_eq_true_eq] at this
        exact this.1
      · exact ih h.2 y hy hmk
  simp only [okK, Bool.and_eq_true] at h
  refine ⟨h.2, fun y hy hmk => ⟨?_, hm l h.2 y hy hmk⟩⟩
  by_cases hx : x.i.makes = true
  · have := h.1
    rw [if_pos hx] at this
    simp only [Bool.and_eq_true, decide_eq_true_eq, List.all_eq_true] at this
    have := this.2 y hy
    simpa [hmk] using this
  · have := h.1
    rw [if_neg hx] at this
    simp only [beq_iff_eq] at this
    have := hm l h.2 y hy hmk
    omega
theorem okK_lt {m : Nat} : ∀ (l : List OpI), okK m l = true → ∀ x ∈ l, x.i.makes = true → x.k < m
  | [], _, y, hy, _ => by cases hy
  | z :: l, h, y, hy, hmk => by
    simp only [okK, Bool.and_eq_true] at h
    rcases List.mem_cons.1 hy with rfl | hy
    · have := h.1
      rw [if_pos hmk] at this
      simp only [Bool.and_eq_true, decide_eq_true_eq] at this
      exact this.1
    · exact okK_lt l h.2 y hy hmk
theorem okK_ne {m : Nat} : ∀ (l : List OpI), okK m l = true → ∀ (i j : Nat) (x y : OpI), l[i]? = some x → l[j]? = some y → i ≠ j → x.i.makes = true → x.k ≠ y.k
  | [], _, i, j, x, y, hx, _, _, _ => by simp at hx
  | z :: l, h, i, j, x, y, hx, hy, hij, hmk => by
    obtain ⟨k1, k2⟩ := okK_cons h
    cases i with
    | zero =>
      simp at hx; subst hx
      cases j with
      | zero => exact absurd rfl hij
      | succ j =>
        have hy' : y ∈ l := List.mem_of_getElem? (by simpa using hy)
        by_cases hmy : y.i.makes = true
        · exact fun e => (k2 y hy' hmy).1 e.symm
        · -- one that makes none has the number m
          have hm : ∀ (l : List OpI), okK m l = true → ∀ y ∈ l, y.i.makes ≠ true → y.k = m := by
            intro l
            induction l with
            | nil => intro _ y hy; cases hy
            | cons z l ih =>
              intro h y hy hn
              simp only [okK, Bool.and_eq_true] at h
              rcases List.mem_cons.1 hy with rfl | hy
              · have := h.1
                rw [if_neg hn] at this
                simpa using this
              · exact ih h.2 y hy hn
          have := hm l k1 y hy' hmy
          have h3 := okK_lt _ h z (by simp) hmk
          omega
    | succ i =>
      have hx' : x ∈ l := List.mem_of_getElem? (by simpa using hx)
      cases j with
      | zero =>
        simp at hy; subst hy
        exact (k2 x hx' hmk).1
      | succ j => exact okK_ne l k1 i j x y (by simpa using hx) (by simpa using hy) (by omega) hmk
theorem opsOk_cons {o : OpI} {l : List OpI} {st st1 st2 : St} (h1 : OpOk P ν o st st1) (h2 : OpsOk P ν l st1 st2) : OpsOk P ν (o :: l) st st2 := by
  obtain ⟨a1, a2, a3, a4⟩ := h1
  obtain ⟨b1, b2, b3, b4⟩ := h2
  refine ⟨b1.trans a1, b2.trans a2, Nat.le_trans a3 b3, ?_⟩
  intro ops dr nt m k rest htr hk M w0 D0 D a w hs hid Q hQ
  cases rest with
  | nil => simp [trOps] at htr
  | cons r rest =>
    simp only [trOps] at htr
    split at htr <;> first | (cases htr; done) | skip
    rename_i x hx
    split at htr <;> first | (cases htr; done) | skip
    rename_i l' hl'
    simp only [Option.some.injEq, List.cons.injEq] at htr
    obtain ⟨rfl, rfl⟩ := htr
    obtain ⟨k1, k2⟩ := okK_cons hk
    have key := a4 ops dr nt m k r hx M w0 D0 D a w hs (hid x (by simp)) (wpList P ops Q rest) Q (fun D' a' w' hs' hun => by
      refine b4 ops dr nt m _ rest hl' k1 M w0 D0 D' a' w' hs' (fun y hy hmk => ?_) Q hQ
      rw [a1]
      obtain ⟨e1, e2⟩ := hid y (by simp [hy]) hmk
      exact ⟨Nat.lt_of_lt_of_le e1 a3, hun _ (Nat.le_add_right _ _) e1 e2 (fun h => (k2 y hy hmk).1 (by omega))⟩)
    unfold wpList
    split
    · rename_i hw; rw [if_pos hw] at key; exact .inl key
    · rename_i hw; rw [if_neg hw] at key; exact key
theorem trC_inv {nt : Nat} {cc : Code} {c : C} (h : trC P ν nt cc = some c) : match c with
    | .skip => cc = .skip
    | .reg d m l => ∃ id ops, cc = .region id ops d ∧ trOps P ν ops d nt m 0 ops.toList = some l
    | .seq x y => ∃ a b, cc = .seq a b ∧ trC P ν nt a = some x ∧ trC P ν nt b = some y
    | .cond s x y => ∃ o a b, cc = .cond o a b ∧ trS o = some s ∧ trC P ν nt a = some x ∧ trC P ν nt b = some y
    | .block id x => ∃ a, cc = .block id a ∧ trC P ν nt a = some x
    | .loop x => ∃ a, cc = .loop a ∧ trC P ν nt a = some x
    | .exit id => cc = .exit id
    | .ret => cc = .ret
    | .lib _ => False := by
  cases cc with
  | skip => simp only [trC, Option.some.injEq] at h; subst h; rfl
  | region id ops d =>
    simp only [trC, Option.map_eq_some_iff] at h
    obtain ⟨l, h1, rfl⟩ := h
    exact ⟨id, ops, rfl, h1⟩
  | seq a b =>
    simp only [trC] at h
    split at h <;> first | (cases h; done) | skip
    rename_i x y h1 h2
    simp only [Option.some.injEq] at h; subst h
    exact ⟨a, b, rfl, h1, h2⟩
  | cond o a b =>
    simp only [trC] at h
    split at h <;> first | (cases h; done) | skip
    rename_i s x y h1 h2 h3
    simp only [Option.some.injEq] at h; subst h
    exact ⟨o, a, b, rfl, h1, h2, h3⟩
  | block id a =>
    simp only [trC, Option.map_eq_some_iff] at h
    obtain ⟨x, h1, rfl⟩ := h
    exact ⟨a, rfl, h1⟩
  | loop a =>
    simp only [trC, Option.map_eq_some_iff] at h
    obtain ⟨x, h1, rfl⟩ := h
    exact ⟨a, rfl, h1⟩
  | exit id => simp only [trC, Option.some.injEq] at h; subst h; rfl
  | ret => simp only [trC, Option.some.injEq] at h; subst h; rfl
  | _ => simp [trC] at h
theorem loop_of {c : C} {e : Ex} {st st' : St} (hk : st'.keep = st.keep) (h : LoopOk P ν c e st st') : CodeOk P ν (.loop c) e st st' := by
  refine ⟨hk, ?_⟩
  intro nt cc htr M w0 D0 D a w hs Q hQ
  obtain ⟨cb, rfl, hb⟩ := trC_inv htr
  intro b k cs
  obtain ⟨x, a', w', q, harr⟩ := h nt cb hb M w0 D0 D a w hs Q hQ b k cs
  exact ⟨x, a', w', q, .of_steps (.one step_loop) harr⟩
theorem exOf_ne {e : Ex} (h : e ≠ .normal) : exOf e ≠ .normal := by cases e <;> simp [exOf] at h ⊢
theorem then_of {next : Act → World → Prop} {Q : Exit → Act → World → Prop} {e : Ex} (h : e ≠ .normal) {a : Act} {w : World} (hq : Q (exOf e) a w) : Exit.then next Q (exOf e) a w := by
  cases e <;> first | (simp at h; done) | exact hq
def getRes (tmps : Array Value) : ResultVar → Sem Value
  | .tmp t => pure (tmps.getD t undef)
  | .cell q t => do loadVar t (← asAddr (tmps.getD q undef))
theorem results_eq (fn : Func) (tmps : Array Value) : results fn tmps = (do let vs ← fn.results.mapM (getRes tmps); pure (if h : vs.size = 1 then vs[0] else .tuple vs)) := rfl
theorem fnOk_lib (hT : Fits P ν T) {f : Nat} {args : List V} {σ : Store} {F : Fn} {o : OutF} {r : V} {σ' : Store} (hf : T f = some F) (hb : F.body = .lib o) (h : o.sem args σ r σ') : FnOk P ν f args σ r σ' := by
  intro fid hfid w M D vals hv hS
  rcases hT fid f F hfid hf with ⟨fn, hfn, htr⟩ | ⟨o', e, hO⟩
  · exact (trFn_lib htr hb).elim
  · rw [hb] at e
    cases e
    exact hO args σ r σ' h w M D vals hv hS
theorem fnOk_fn (hT : Fits P ν T) {f : Nat} {args : List V} {σ : Store} {F : Fn} {e : Ex} {st' : St} {rs : List V} (hf : T f = some F) (hl : args.length = F.nargs) (hnl : ∀ o, F.body ≠ .lib o)
    (ih : CodeOk P ν F.body e (St.enter args σ) st') (he : e = .normal ∨ e = .ret) (hr : F.res.mapM (Res.get st') = some rs) : FnOk P ν f args σ (packRes rs) st'.objs := by
  intro fid hfid w M D vals hv hS
  rcases hT fid f F hfid hf with ⟨fn, hfn, htr⟩ | ⟨o, e, _⟩
  case inr => exact (hnl o e).elim
  unfold trFn at htr
  split at htr <;> first | (cases htr; done) | skip
  rename_i body hbody
  split at htr <;> first | (cases htr; done) | skip
  rename_i b rs' hb hrs'
  split at htr <;> first | (cases htr; done) | skip
  rename_i hle
  simp only [Option.some.injEq] at htr; subst htr
  have hvl : vals.size = args.length := by simpa using (rdL_length _ _ hv).symm
  refine calls_of_wp hfn hbody ?_
  have hs0 : SR fn.ntmps M w D (St.enter args σ) D { tmps := vals ++ Array.replicate (fn.ntmps - vals.size) undef, defers := [] } w := by
    refine ⟨?_, ?_, rfl, hS, Gr.refl _ _, fun o d h => .inl ⟨o, d, h, rfl⟩, fun o _ => DSle.refl _⟩
    · intro t
      simp only [St.enter]
      by_cases ht : t < args.length
      · obtain ⟨y, h1, h2⟩ := rdL_get _ _ hv t args[t] (by simp [ht])
        have e1 : argE args t = args[t] := by simp [argE, ht]
        rw [e1]
        have e2 : (vals ++ Array.replicate (fn.ntmps - vals.size) undef).getD t undef = y := by
          rw [Array.getD_eq_getD_getElem?, Array.getElem?_append_left (by omega)]
          rw [← Array.getElem?_toList, h1]; rfl
        rw [e2]; exact h2
      · have e1 : argE args t = .any := by simp [argE, List.getD, List.getElem?_eq_none (Nat.le_of_not_lt ht)]
        rw [e1]; simp only [rd]
    · simp only [Array.size_append, Array.size_replicate]; simp only [] at hl; omega
  refine ih.2 fn.ntmps body hb M w D D _ w hs0 _ ?_
  intro D' a' w' hs'
  have hres : ∃ v, (results fn a'.tmps).run P w' = .ok v w' ∧ rd w' D' (XS M D') (packRes rs) v := by
    have hlist : ∀ (vars : List ResultVar) (rl : List Res) (vl : List V), vars.mapM (trRes P) = some rl → rl.mapM (Res.get st') = some vl →
        ∃ ys : List Value, (vars.mapM (getRes a'.tmps)).run P w' = .ok ys w' ∧ rdL w' D' (XS M D') vl ys := by
      intro vars
      induction vars with
      | nil => intro rl vl h1 h2; simp at h1; subst h1; simp at h2; subst h2; exact ⟨[], by simp, by simp [rdL]⟩
      | cons x vars ihv =>
        intro rl vl h1 h2
        simp only [List.mapM_cons, Option.pure_def, Option.bind_eq_bind, Option.bind_eq_some_iff, Option.some.injEq] at h1
        obtain ⟨r, hr1, rl', hr2, rfl⟩ := h1
        simp only [List.mapM_cons, Option.pure_def, Option.bind_eq_bind, Option.bind_eq_some_iff, Option.some.injEq] at h2
        obtain ⟨z, hz1, vl', hz2, rfl⟩ := h2
        obtain ⟨ys, k1, k2⟩ := ihv rl' vl' hr2 hz2
        cases x with
        | tmp t =>
          simp only [trRes, Option.some.injEq] at hr1; subst hr1
          simp only [Res.get, Option.some.injEq] at hz1; subst hz1
          refine ⟨a'.tmps.getD t undef :: ys, ?_, by simp only [rdL]; exact ⟨_, _, rfl, hs'.env t, k2⟩⟩
          have hg : (getRes a'.tmps (.tmp t)).run P w' = .ok (a'.tmps.getD t undef) w' := rfl
          simp only [List.mapM_cons, Sem.run_bind, Sem.run_pure, Result.andThen_ok, k1, hg]
        | cell q t =>
          simp only [trRes, Option.map_eq_some_iff] at hr1
          obtain ⟨⟨n, g⟩, hg, rfl⟩ := hr1
          simp only [Res.get] at hz1
          split at hz1 <;> first | (cases hz1; done) | skip
          rename_i row off hrow
          obtain ⟨u, j1, j2⟩ := run_load_agg hs'.store hg hrow (hs'.env q) hz1
          obtain ⟨bl, oo, hptr, _⟩ := rowAt_rd hs'.store hrow (hs'.env q)
          refine ⟨u :: ys, ?_, by simp only [rdL]; exact ⟨_, _, rfl, j2, k2⟩⟩
          have j1' : (loadVar t ⟨bl, oo + off, none⟩).run P w' = .ok u w' := by
            rw [hptr] at j1
            simpa [Instr.loadAt, Instr.sureAddr] using j1
          have hg : (getRes a'.tmps (.cell q t)).run P w' = .ok u w' := by
            simp only [getRes, hptr, asAddr, Sem.run_bind, Sem.run_pure, Result.andThen_ok, j1']
          simp only [List.mapM_cons, Sem.run_bind, Sem.run_pure, Result.andThen_ok, k1, hg]
    obtain ⟨ys, k1, k2⟩ := hlist fn.results.toList rs' rs hrs' hr
    refine ⟨if h : ys.toArray.size = 1 then ys.toArray[0] else .tuple ys.toArray, ?_, ?_⟩
    · have : (fn.results.mapM (getRes a'.tmps)).run P w' = .ok ys.toArray w' := by
        rw [← Array.toArray_toList (xs := fn.results), List.mapM_toArray, Sem.run_map, k1]; rfl
      rw [results_eq]
      simp only [Sem.run_bind, this, Result.andThen_ok, Sem.run_pure]
    · have hlen := rdL_length _ _ k2
      have gen : ∀ (rs : List V) (ys : List Value), rdL w' D' (XS M D') rs ys → rs.length = ys.length → rd w' D' (XS M D') (packRes rs) (if h : ys.toArray.size = 1 then ys.toArray[0] else .tuple ys.toArray) := by
        intro rs ys h hl
        cases rs with
        | nil =>
          cases ys with
          | nil => simp only [packRes]; rw [dif_neg (by simp)]; simp only [rd]; exact ⟨_, rfl, h⟩
          | cons y ys => simp at hl
        | cons x xs =>
          cases ys with
          | nil => simp at hl
          | cons y ys =>
            cases xs with
            | nil =>
              cases ys with
              | nil =>
                simp only [rdL] at h
                obtain ⟨y', ys', h0, h1, h2⟩ := h
                cases h0
                simpa [packRes] using h1
              | cons y' ys => simp at hl
            | cons x' xs =>
              cases ys with
              | nil => simp at hl
              | cons y' ys =>
                simp only [packRes]
                rw [dif_neg (by simp)]
                simp only [rd]
                exact ⟨_, rfl, h⟩
      exact gen rs ys k2 hlen
  obtain ⟨v, hv1, hv2⟩ := hres
  have hfin : bodyPost P fn (Post M D w σ.length (packRes rs) st'.objs) .ret a' w' :=
    ⟨hs'.df, v, hv1, v, D', rfl, hv2, hs'.store, hs'.gr, hs'.fr, fun o ho => hs'.kp o (by rw [ih.1]; exact ho)⟩
  rcases he with rfl | rfl <;> exact hfin
theorem trOps_get {ops : Array Oper} {dr : Bool} {nt m : Nat} : ∀ {k : Nat} {rest : List Oper} {l : List OpI}, trOps P ν ops dr nt m k rest = some l →
    l.length = rest.length ∧ ∀ (i : Nat) (x : OpI), l[i]? = some x → ∃ o k', rest[i]? = some o ∧ trOp P ν ops dr nt m k' o = some x
  | k, [], l, h => by simp only [trOps, Option.some.injEq] at h; subst h; simp
  | k, o :: rest, l, h => by
    simp only [trOps] at h
    split at h <;> first | (cases h; done) | skip
    rename_i x hx
    split at h <;> first | (cases h; done) | skip
    rename_i l' hl'
    simp only [Option.some.injEq] at h; subst h
    obtain ⟨e1, e2⟩ := trOps_get hl'
    refine ⟨by simp [e1], fun i y hi => ?_⟩
    cases i with
    | zero => simp at hi; subst hi; exact ⟨o, k, rfl, hx⟩
    | succ i => simpa using e2 i y (by simpa using hi)
theorem trOp_aft {ops : Array Oper} {nt m k : Nat} {o : Oper} {x : OpI} (h : trOp P ν ops true nt m k o = some x) : x.aft = trAft o := by
  unfold trOp at h
  split at h <;> first | (cases h; done) | skip
  split at h <;> first | (cases h; done) | skip
  simp only [Option.some.injEq] at h; subst h
  rfl
theorem ready_iff {ops : Array Oper} {nt m : Nat} {l : List OpI} (h : trOps P ν ops true nt m 0 ops.toList = some l) {done : List Nat} {listed : Array Bool} (hs : listed.size = ops.size)
    (hl : ∀ i, listed.getD i false = true ↔ i ∈ done) {i : Nat} : i ∈ Region.ready .any ops listed ↔ readyB l done i = true := by
  obtain ⟨e1, e2⟩ := trOps_get h
  rw [mem_ready]
  have hlt : ∀ {i : Nat}, i < ops.size → (listed.getD i true = false ↔ i ∉ done) := by
    intro i hi
    have : listed.getD i true = listed.getD i false := by
      rw [Array.getD_eq_getD_getElem?, Array.getD_eq_getD_getElem?, Array.getElem?_eq_getElem (by omega)]; rfl
    rw [this]
    constructor
    · intro h1 h2; rw [(hl i).2 h2] at h1; cases h1
    · intro h1
      cases hb : listed.getD i false with
      | false => rfl
      | true => exact absurd ((hl i).1 hb) h1
  constructor
  · rintro ⟨h1, o, ho, h2⟩
    have hi := (Array.getElem?_eq_some_iff.1 ho).1
    have hil : i < l.length := by rw [e1]; simpa using hi
    obtain ⟨o', k', ho', hx⟩ := e2 i l[i] (by simp [hil])
    have : o' = o := by rw [Array.getElem?_toList] at ho'; rw [ho] at ho'; exact (Option.some.inj ho').symm
    subst this
    unfold readyB
    rw [List.getElem?_eq_getElem hil]
    simp only [Bool.and_eq_true, Bool.not_eq_true', List.all_eq_true]
    refine ⟨?_, ?_⟩
    · have := (hlt hi).1 h1
      simpa using this
    · intro e he
      rw [trOp_aft hx] at he
      simp only [trAft, List.mem_map, List.mem_filter] at he
      obtain ⟨ed, ⟨h3, h4⟩, rfl⟩ := he
      have := h2 ed (by simpa using h3) h4
      simpa using (hl _).1 this
  · intro hr
    unfold readyB at hr
    split at hr <;> first | (cases hr; done) | skip
    rename_i x hx
    simp only [Bool.and_eq_true, Bool.not_eq_true', List.all_eq_true] at hr
    obtain ⟨o, k', ho, htr⟩ := e2 i x hx
    have ho' : ops[i]? = some o := by rwa [Array.getElem?_toList] at ho
    have hi := (Array.getElem?_eq_some_iff.1 ho').1
    refine ⟨(hlt hi).2 (by simpa using hr.1), o, ho', ?_⟩
    intro e he hb
    refine (hl _).2 ?_
    have := hr.2 e.on (by rw [trOp_aft htr]; simp only [trAft, List.mem_map, List.mem_filter]; exact ⟨e, ⟨by simpa using he, hb⟩, rfl⟩)
    simpa using this
theorem sound (hm : P.follows .mixedOrders = true) (hT : Fits P ν T) {j : Job} {o : Out} (h : Run T j o) : Sound P ν j o := by
  induction h with
  | skip st =>
    refine ⟨⟨rfl, ?_⟩, fun x h => by cases h⟩
    intro nt cc htr M w0 D0 D a w hs Q hQ
    have hc : cc = .skip := trC_inv htr
    subst hc
    exact Go.wp_skip (hQ D a w hs)
  | @reg m l st st' hk h ih =>
    obtain ⟨_, i1, i2, i3, i4⟩ := ih
    refine ⟨⟨i2, ?_⟩, fun x h => by cases h⟩
    intro nt cc htr M w0 D0 D a w hs Q hQ
    obtain ⟨id, ops, rfl, hops⟩ := trC_inv htr
    refine wp_region_list ?_
    refine i4 ops false nt m 0 ops.toList hops hk M w0 D0 D a w ⟨hs.env, hs.tm, hs.df, hs.mem m, hs.gr, hs.fr, hs.kp⟩ (fun x hx hmk => ?_) Q (fun D' a' w' h => hQ D' a' w' h)
    have hkm : x.k < m := by
      have : ∀ (l : List OpI), okK m l = true → ∀ x ∈ l, x.i.makes = true → x.k < m := by
        intro l
        induction l with
        | nil => intro _ y hy; cases hy
        | cons z l ih =>
          intro h y hy hmk
          simp only [okK, Bool.and_eq_true] at h
          rcases List.mem_cons.1 hy with rfl | hy
          · have := h.1
            rw [if_pos hmk] at this
            simp only [Bool.and_eq_true, decide_eq_true_eq] at this
            exact this.1
          · exact ih h.2 y hy hmk
      exact this l hk x hx hmk
    simp only [List.length_append, List.length_replicate]
    exact ⟨by omega, hs.store.far _ (by omega)⟩
  | @regD m l st st' hk h ih =>
    obtain ⟨_, i1, i2, i3, i4⟩ := ih
    refine ⟨⟨i2, ?_⟩, fun x h => by cases h⟩
    intro nt cc htr M w0 D0 D a w hs Q hQ
    obtain ⟨id, ops, rfl, hops⟩ := trC_inv htr
    refine wp_region_any hm ?_
    have hsd : SR nt M w0 D0 st D a { w with drawn := w.drawn + 1 } := by
      have hE : Ext w D (XS M D) { w with drawn := w.drawn + 1 } D (XS M D) := ⟨Nat.le_refl _, fun _ _ _ => rfl, fun _ _ h => h, fun _ => DSle.refl _⟩
      refine ⟨fun t => rd_mono _ _ hE (hs.env t), hs.tm, hs.df, ?_, ⟨hs.gr.size, hs.gr.os, hs.gr.tape, hs.gr.output, hs.gr.block⟩, hs.fr, hs.kp⟩
      refine ⟨fun o d ho => ?_, hs.store.alive, hs.store.inj, hs.store.far, hs.store.mlt⟩
      obtain ⟨ob, c, e, g1, g2, g3, g4, g5, g6, g7, g8, g9, g10, g11⟩ := hs.store.live o d ho
      refine ⟨ob, c, e, g1, g2, g3, g4, g5, g6, g7, g8, g9, g10, fun i x hi => ?_⟩
      obtain ⟨k0, y, k1, k2⟩ := g11 i x hi
      exact ⟨k0, y, k1, rd_mono _ _ hE k2⟩
    refine i4 ops nt m hops hk M w0 D0 D a _ ⟨hsd.env, hsd.tm, hsd.df, hsd.mem m, hsd.gr, hsd.fr, hsd.kp⟩ (fun i x hx _ hmk => ?_) Q (fun D' a' w' h => hQ D' a' w' h) _ _ (by simp) (fun i => ?_) ?_
    · have hkm : x.k < m := okK_lt l hk x (List.mem_of_getElem? hx) hmk
      simp only [List.length_append, List.length_replicate]
      exact ⟨by omega, hsd.store.far _ (by omega)⟩
    · simp only [Array.getD_eq_getD_getElem?, Array.getElem?_replicate]
      split <;> simp
    · simp
  | @anyN l done st h =>
    refine ⟨rfl, rfl, rfl, Nat.le_refl _, ?_⟩
    intro ops nt m htr hk M w0 D0 D a w hs hid Q hQ fuel listed h1 h2 h3
    refine wpAny_done ?_ (hQ D a w hs) fuel
    apply List.eq_nil_iff_forall_not_mem.2
    intro i hi
    rw [ready_iff htr h1 h2, h i] at hi
    cases hi
  | @anyC l done st st' i0 h0 f h h' ih ih' =>
    obtain ⟨_, b1, b2, b3, _⟩ := ih' i0 h0
    obtain ⟨x0, hx0⟩ : ∃ x0, l[i0]? = some x0 := by
      unfold readyB at h0
      split at h0 <;> first | (cases h0; done) | skip
      exact ⟨_, by assumption⟩
    obtain ⟨_, a1, a2, a3, _⟩ := ih i0 x0 hx0 h0
    refine ⟨rfl, b1.trans a1, b2.trans a2, Nat.le_trans a3 b3, ?_⟩
    intro ops nt m htr hk M w0 D0 D a w hs hid Q hQ fuel listed h1 h2 h3
    have hready : ∀ i, i ∈ Region.ready .any ops listed ↔ readyB l done i = true := fun i => ready_iff htr h1 h2
    have hpos : fuel ≠ 0 := by
      rintro rfl
      have hi := (hready i0).2 h0
      have := (mem_ready.1 hi).1
      obtain ⟨_, o, ho, _⟩ := mem_ready.1 hi
      have hlt := (Array.getElem?_eq_some_iff.1 ho).1
      have hmem : false ∈ listed.toList := by
        have : listed[i0]'(by omega) = false := by
          rw [Array.getD_eq_getD_getElem?, Array.getElem?_eq_getElem (by omega)] at this
          simpa using this
        rw [← this]; simp
      have := List.count_pos_iff.2 hmem
      omega
    obtain ⟨fuel, rfl⟩ := Nat.exists_eq_succ_of_ne_zero hpos
    refine ⟨fun hnil => ?_, fun i hi => ?_⟩
    · have := (hready i0).2 h0
      rw [hnil] at this; cases this
    · have hr := (hready i).1 hi
      obtain ⟨e1, e2⟩ := trOps_get htr
      obtain ⟨_, o, ho, _⟩ := mem_ready.1 hi
      have hlt := (Array.getElem?_eq_some_iff.1 ho).1
      have hil : i < l.length := by rw [e1]; simpa using hlt
      obtain ⟨o', k', ho', hx⟩ := e2 i l[i] (by simp [hil])
      have : o' = o := by rw [Array.getElem?_toList] at ho'; rw [ho] at ho'; exact (Option.some.inj ho').symm
      subst this
      have hli : l[i]? = some l[i] := by simp [hil]
      have hnd : i ∉ done := by
        unfold readyB at hr
        rw [hli] at hr
        simp only [Bool.and_eq_true, Bool.not_eq_true'] at hr
        simpa using hr.1
      obtain ⟨_, c1, c2, c3, c4⟩ := ih i l[i] hli hr
      obtain ⟨_, d1, d2, d3, d4⟩ := ih' i hr
      have key := c4 ops true nt m k' o' hx M w0 D0 D a w hs (fun hmk => hid i l[i] hli hnd hmk) (wpAny P .any ops Q fuel (listed.setIfInBounds i true)) Q (fun D' a' w' hs' hun => by
        refine d4 ops nt m htr hk M w0 D0 D' a' w' hs' (fun j y hy hj hmk => ?_) Q hQ fuel _ (by simpa using h1) (fun j => ?_) ?_
        · simp only [List.mem_cons, not_or] at hj
          rw [c1]
          obtain ⟨g1, g2⟩ := hid j y hy hj.2 hmk
          refine ⟨Nat.lt_of_lt_of_le g1 c3, hun _ (Nat.le_add_right _ _) g1 g2 ?_⟩
          intro he
          have hne := okK_ne l hk j i y l[i] hy hli hj.1 hmk
          omega
        · rw [Array.getD_eq_getD_getElem?, Array.getElem?_setIfInBounds]
          by_cases hij : i = j
          · subst hij
            simp [h1, hlt]
          · rw [if_neg hij, ← Array.getD_eq_getD_getElem?, h2 j]
            simp only [List.mem_cons]
            constructor
            · exact .inr
            · rintro (h | h)
              · exact absurd h.symm hij
              · exact h
        · have hfi : listed[i]'(by omega) = false := by
            have := (mem_ready.1 hi).1
            rw [Array.getD_eq_getD_getElem?, Array.getElem?_eq_getElem (by omega)] at this
            simpa using this
          rw [Array.toList_setIfInBounds, List.count_set (by simpa using (by omega : i < listed.size))]
          have h4 : listed.toList[i]'(by simpa using (by omega : i < listed.size)) = false := by simpa using hfi
          have h5 : 0 < listed.toList.count false := List.count_pos_iff.2 (by rw [← h4]; exact List.getElem_mem _)
          simp only [h4, beq_self_eq_true, if_true]
          have : (true == false) = false := rfl
          simp only [this, Bool.false_eq_true, if_false]
          omega)
      unfold wpOp
      simp only [ho]
      split
      · rename_i hw; rw [if_pos hw] at key; exact .inl key
      · rename_i hw; rw [if_neg hw] at key; exact key
  | @seqN a b st st1 o h h' ih ih' =>
    cases o with
    | fn r σ => trivial
    | code e st2 =>
    obtain ⟨⟨i1, i2⟩, _⟩ := ih
    obtain ⟨⟨j1, j2⟩, _⟩ := ih'
    refine ⟨⟨j1.trans i1, ?_⟩, fun x h => by cases h⟩
    intro nt cc htr M w0 D0 D a w hs Q hQ
    obtain ⟨ca, cb, rfl, ha, hb⟩ := trC_inv htr
    refine Go.wp_seq (i2 nt ca ha M w0 D0 D a w hs _ fun D' a' w' hs' => ?_)
    exact j2 nt cb hb M w0 D0 D' a' w' hs' Q hQ
  | @seqE a b st e st1 he h ih =>
    obtain ⟨⟨i1, i2⟩, _⟩ := ih
    refine ⟨⟨i1, ?_⟩, fun x h => by cases h⟩
    intro nt cc htr M w0 D0 D a w hs Q hQ
    obtain ⟨ca, cb, rfl, ha, hb⟩ := trC_inv htr
    exact Go.wp_seq (i2 nt ca ha M w0 D0 D a w hs _ fun D' a' w' hs' => then_of he (hQ D' a' w' hs'))
  | @cond x a b st t o hx h ih =>
    cases o with
    | fn r σ => trivial
    | code e st2 =>
    obtain ⟨⟨i1, i2⟩, _⟩ := ih
    refine ⟨⟨i1, ?_⟩, fun x h => by cases h⟩
    intro nt cc htr M w0 D0 D a w hs Q hQ
    obtain ⟨oc, ca, cb, rfl, h1, ha, hb⟩ := trC_inv htr
    have hv := rd_src hs.env h1
    rw [hx] at hv
    simp only [rd] at hv
    refine Go.wp_cond hv (i2 nt _ ?_ M w0 D0 D _ w hs Q hQ)
    cases t
    · exact hb
    · exact ha
  | @block id c st e st1 h ih =>
    obtain ⟨⟨i1, i2⟩, _⟩ := ih
    refine ⟨⟨i1, ?_⟩, fun x h => by cases h⟩
    intro nt cc htr M w0 D0 D a w hs Q hQ
    obtain ⟨ca, rfl, ha⟩ := trC_inv htr
    refine Go.wp_block (i2 nt ca ha M w0 D0 D a w hs _ fun D' a' w' hs' => ?_)
    have := hQ D' a' w' hs'
    cases e with
    | normal => exact this
    | ret => exact this
    | exit id' =>
      simp only [exOf, exIn, Exit.inBlock] at this ⊢
      by_cases hid : id' = id
      · simp only [hid, if_true] at this ⊢; exact this
      · simp only [hid, if_false] at this ⊢; exact this
  | @loopN c st st1 o h h' ih ih' =>
    cases o with
    | fn r σ => trivial
    | code e st2 =>
    obtain ⟨⟨i1, i2⟩, _⟩ := ih
    obtain ⟨⟨j1, _⟩, j2⟩ := ih'
    have key : LoopOk P ν c e st st2 := by
      intro nt cc htr M w0 D0 D a w hs Q hQ b k cs
      obtain ⟨x, a1, w1, ⟨D1, hx, hs1⟩, harr⟩ := i2 nt cc htr M w0 D0 D a w hs (fun x a' w' => ∃ D', x = .normal ∧ SR nt M w0 D0 st1 D' a' w') (fun D' a' w' h => ⟨D', rfl, h⟩) b (.inLoop cc :: k) cs
      subst hx
      obtain ⟨x2, a2, w2, q2, harr2⟩ := j2 c rfl nt cc htr M w0 D0 D1 a1 w1 hs1 Q hQ b k cs
      exact ⟨x2, a2, w2, q2, .of_steps (Steps.trans harr (.one step_inLoop)) harr2⟩
    exact ⟨loop_of (j1.trans i1) key, fun x hx => by cases hx; exact key⟩
  | @loopE c st e st1 he h ih =>
    obtain ⟨⟨i1, i2⟩, _⟩ := ih
    have key : LoopOk P ν c e st st1 := by
      intro nt cc htr M w0 D0 D a w hs Q hQ b k cs
      obtain ⟨x, a1, w1, ⟨D1, hx, hs1⟩, harr⟩ := i2 nt cc htr M w0 D0 D a w hs (fun x a' w' => ∃ D', x = exOf e ∧ SR nt M w0 D0 st1 D' a' w') (fun D' a' w' h => ⟨D', rfl, h⟩) b (.inLoop cc :: k) cs
      subst hx
      exact ⟨_, a1, w1, hQ D1 a1 w1 hs1, .pass (x := .inLoop cc) rfl (fun _ _ => .inl (exOf_ne he)) harr⟩
    exact ⟨loop_of i1 key, fun x hx => by cases hx; exact key⟩
  | exit id st =>
    refine ⟨⟨rfl, ?_⟩, fun x h => by cases h⟩
    intro nt cc htr M w0 D0 D a w hs Q hQ
    have hc : cc = .exit id := trC_inv htr
    subst hc
    exact Go.wp_exit (hQ D a w hs)
  | ret st =>
    refine ⟨⟨rfl, ?_⟩, fun x h => by cases h⟩
    intro nt cc htr M w0 D0 D a w hs Q hQ
    have hc : cc = .ret := trC_inv htr
    subst hc
    exact Go.wp_ret (hQ D a w hs)
  | @gc c st o ρ hn hρ h ih =>
    cases o with
    | fn r σ => trivial
    | code e st2 =>
    obtain ⟨⟨i1, i2⟩, i3⟩ := ih
    refine ⟨⟨i1, ?_⟩, ?_⟩
    · intro nt cc htr M w0 D0 D a w hs Q hQ
      exact i2 nt cc htr M w0 D0 _ a w (hs.gc hn hρ) Q hQ
    · intro x hx nt cc htr M w0 D0 D a w hs Q hQ
      exact i3 x hx nt cc htr M w0 D0 _ a w (hs.gc hn hρ) Q hQ
  | nil st =>
    refine ⟨rfl, rfl, rfl, Nat.le_refl _, ?_⟩
    intro ops dr nt m k rest htr hk M w0 D0 D a w hs hid Q hQ
    cases rest with
    | nil => exact hQ D a w hs
    | cons r rest =>
      simp only [trOps] at htr
      split at htr <;> first | (cases htr; done) | skip
      split at htr <;> first | (cases htr; done) | skip
  | @cons o l st st1 out h h' ih ih' =>
    cases out with
    | fn r σ => trivial
    | code e st2 => exact ⟨ih'.1, opsOk_cons ih.2 ih'.2⟩
  | off hg he => exact ⟨rfl, opOk_off hg he⟩
  | op hg h => exact ⟨rfl, opOk_op hg h⟩
  | callP hg hi ha h hR ih => exact ⟨rfl, opOk_callP hg hi ha ih hR⟩
  | callR ρ hn hρ hg hi h ih => exact ⟨rfl, opOk_callR hn hρ hg hi ih⟩
  | callG hg hi ha h hR ih => exact ⟨rfl, opOk_callG hg hi ha ih hR⟩
  | callI hg hi h hl hb ih => exact ⟨rfl, opOk_callI hg hi ih hl hb⟩
  | @fn f args σ F e st' rs hf hl h he hr ih => exact fnOk_fn hT hf hl (fun o e => no_lib h o (St.enter args σ) (by rw [e])) ih.1 he hr
  | lib hf hb h => exact fnOk_lib hT hf hb h
  | frz h hr ih => exact fnOk_frz hr ih
  | gcF ρ hn hρ h ih => exact fnOk_gcF hn hρ ih
  | @forget c st st2 o he ho hk h' ih =>
    cases o with
    | fn r σ => trivial
    | code e st3 =>
    obtain ⟨⟨i1, i2⟩, i3⟩ := ih
    refine ⟨⟨i1.trans hk, ?_⟩, ?_⟩
    · intro nt cc htr M w0 D0 D a w hs Q hQ
      exact i2 nt cc htr M w0 D0 _ a w (hs.forget he ho hk) Q hQ
    · intro x hx nt cc htr M w0 D0 D a w hs Q hQ
      exact i3 x hx nt cc htr M w0 D0 _ a w (hs.forget he ho hk) Q hQ
  | @re c st st2 o W h h' ih =>
    cases o with
    | fn r σ => trivial
    | code e st3 =>
    obtain ⟨⟨i1, i2⟩, i3⟩ := ih
    refine ⟨⟨i1.trans h.keep, ?_⟩, ?_⟩
    · intro nt cc htr M w0 D0 D a w hs Q hQ
      exact i2 nt cc htr M w0 D0 _ a w (hs.re h) Q hQ
    · intro x hx nt cc htr M w0 D0 D a w hs Q hQ
      exact i3 x hx nt cc htr M w0 D0 _ a w (hs.re h) Q hQ
  | reF W ha h hs hr ih => exact fnOk_reF ha hs hr ih
  | laxF ha h hr ih => exact fnOk_laxF ha hr ih
end
end Go.Ml
end
section
set_option linter.unusedSimpArgs false
set_option linter.unusedVariables false
namespace Go.Ml
open Go.ChangeShapes Go.WideShapes Go.ChangeAt Go.RowKit
def nuOf : List (Nat × Nat × Fn) → Nat → Option Nat
  | [], _ => none
  | x :: l, i => if x.1 = i then some x.2.1 else nuOf l i
def tbOf : List (Nat × Nat × Fn) → Nat → Option Fn
  | [], _ => none
  | x :: l, k => if x.2.1 = k then some x.2.2 else tbOf l k
theorem nuOf_mem : ∀ {l : List (Nat × Nat × Fn)} {i k : Nat}, nuOf l i = some k → ∃ x ∈ l, x.1 = i ∧ x.2.1 = k
  | [], _, _, h => by simp [nuOf] at h
  | x :: l, i, k, h => by
    simp only [nuOf] at h
    split at h
    · rename_i e; exact ⟨x, by simp, e, by simpa using h⟩
    · obtain ⟨y, hy, e⟩ := nuOf_mem h; exact ⟨y, by simp [hy], e⟩
theorem tbOf_mem : ∀ {l : List (Nat × Nat × Fn)} {k : Nat} {F : Fn}, tbOf l k = some F → ∃ x ∈ l, x.2.1 = k ∧ x.2.2 = F
  | [], _, _, h => by simp [tbOf] at h
  | x :: l, i, k, h => by
    simp only [tbOf] at h
    split at h
    · rename_i e; exact ⟨x, by simp, e, by simpa using h⟩
    · obtain ⟨y, hy, e⟩ := tbOf_mem h; exact ⟨y, by simp [hy], e⟩
theorem eq_of_nodup_map {α β : Type} {f : α → β} : ∀ {l : List α}, (l.map f).Nodup → ∀ {x y}, x ∈ l → y ∈ l → f x = f y → x = y
  | [], _, _, _, h, _, _ => by cases h
  | a :: l, hn, x, y, hx, hy, e => by
    simp only [List.map_cons, List.nodup_cons] at hn
    rcases List.mem_cons.1 hx with rfl | hx' <;> rcases List.mem_cons.1 hy with rfl | hy'
    · rfl
    · exact absurd (e ▸ List.mem_map_of_mem hy') hn.1
    · exact absurd (e ▸ List.mem_map_of_mem hx') hn.1
    · exact eq_of_nodup_map hn.2 hx' hy' e
theorem fits_of {P : Program} {l : List (Nat × Nat × Fn)} (hnd : (l.map (·.2.1)).Nodup) (h : ∀ x ∈ l, (∃ fn, P.funcs[x.1]? = some fn ∧ trFn P (nuOf l) fn = some x.2.2) ∨ ∃ o, x.2.2.body = .lib o ∧ OutOk P x.1 o) : Fits P (nuOf l) (tbOf l) := by
  intro fid f F h1 h2
  obtain ⟨x, hx, e1, e2⟩ := nuOf_mem h1
  obtain ⟨y, hy, e3, e4⟩ := tbOf_mem h2
  have : x = y := eq_of_nodup_map hnd hx hy (e2.trans e3.symm)
  subst this
  rw [← e1, ← e4]
  exact h x hx
theorem calls_of {P : Program} {l : List (Nat × Nat × Fn)} (hm : P.follows .mixedOrders = true) (hT : Fits P (nuOf l) (tbOf l)) {f fid : Nat} {args : List V} {r : V} (h : PF (tbOf l) f args r) (hf : nuOf l fid = some f)
    {w : World} {vals : Array Value} (hr : rdL w DM.none (fun _ => False) args vals.toList) :
    Calls P fid vals w fun e w' => (∃ v D X, e = .returned v ∧ rd w' D X r v) ∧ Below w.heap.size w w' := by
  have hs := sound hm hT h
  have hX : XS (fun _ => False) DM.none = fun _ => False := by
    funext b; simp [XS, DM.none]
  refine (hs fid hf w (fun _ => False) DM.none vals (by rw [hX]; exact hr) ⟨?_, ?_, ?_, ?_, ?_⟩).mono fun e w' hp => ?_
  · intro o d h; cases h
  · intro o ob h; simp [objAt] at h
  · intro o o' d d' h; cases h
  · intro o _; rfl
  · intro b h; exact h.elim
  · obtain ⟨v, D', e1, e2, e3, e4, _⟩ := hp
    refine ⟨⟨v, D', _, e1, e2⟩, ⟨e4.os, e4.tape, e4.output, e4.size, fun k hk => e4.block k hk ?_⟩⟩
    rintro ⟨o, d, h, _⟩; cases h
theorem calls_true {P : Program} {l : List (Nat × Nat × Fn)} (hm : P.follows .mixedOrders = true) (hT : Fits P (nuOf l) (tbOf l)) {f fid : Nat} {args : List V} (h : PF (tbOf l) f args (.bool true)) (hf : nuOf l fid = some f)
    {w : World} {vals : Array Value} (hr : rdL w DM.none (fun _ => False) args vals.toList) :
    Calls P fid vals w fun e w' => e = .returned (.bool true) ∧ Below w.heap.size w w' :=
  (calls_of hm hT h hf hr).mono fun e w' hp => by
    obtain ⟨⟨v, D, X, rfl, e2⟩, hb⟩ := hp
    have : v = .bool true := by simpa [rd] using e2
    exact ⟨by rw [this], hb⟩
end Go.Ml
end
section
set_option linter.unusedSimpArgs false
set_option linter.unusedVariables false
namespace Go.Ml
open Go.ChangeShapes Go.WideShapes Go.ChangeAt Go.RowKit
inductive Lf where
  | int (k : IntKind)
  | bool
  | str
  | sl (row : List Lf)
mutual
def Mt : Lf → V → Prop
  | .int k, v => ∃ n, v = .int k n ∧ (Lit.int k n).wf = true
  | .bool, v => ∃ b, v = .bool b
  | .str, v => ∃ s, v = .str s ∧ s.length ≤ maxLen
  | .sl row, v => ∃ rows : List (List V), v = .sl row.length rows ∧ rows.length ≤ maxLen ∧ ∀ r ∈ rows, MtL row r
def MtL : List Lf → List V → Prop
  | [], vs => vs = []
  | l :: ls, vs => ∃ v vs', vs = v :: vs' ∧ Mt l v ∧ MtL ls vs'
end
def shFs (P : Program) (sh : TypeId → Option (List Lf)) : List Field → Nat → Option (List Lf)
  | [], _ => some []
  | f :: fs, off => match sh f.type, shFs P sh fs (off + P.cellsOf f.type) with
    | some r, some rs => if f.offset = off ∧ r.length = P.cellsOf f.type then some (r ++ rs) else none
    | _, _ => none
def shapeOf (P : Program) : Nat → TypeId → Option (List Lf)
  | 0, _ => none
  | n + 1, t => match P.underlying t with
    | some (.int k) => some [.int k]
    | some .bool => some [.bool]
    | some .string => some [.str]
    | some (.slice e) => match shapeOf P n e with
      | some r => if r.length = P.cellsOf e ∧ 0 < r.length then some [.sl r] else none
      | none => none
    | some (.struct fs) => match shFs P (shapeOf P n) fs.toList 0 with
      | some r => if r.length = P.cellsOf t then some r else none
      | none => none
    | _ => none
theorem mtL_append {l1 l2 : List Lf} {v1 v2 : List V} (h1 : MtL l1 v1) (h2 : MtL l2 v2) : MtL (l1 ++ l2) (v1 ++ v2) := by
  induction l1 generalizing v1 with
  | nil => simp only [MtL] at h1; subst h1; simpa using h2
  | cons l l1 ih =>
    simp only [MtL] at h1
    obtain ⟨v, vs, rfl, a, b⟩ := h1
    simp only [List.cons_append, MtL]
    exact ⟨v, vs ++ v2, rfl, a, ih b⟩
theorem mtL_len {l : List Lf} {v : List V} (h : MtL l v) : v.length = l.length := by
  induction l generalizing v with
  | nil => simp only [MtL] at h; subst h; rfl
  | cons x l ih =>
    simp only [MtL] at h
    obtain ⟨v, vs, rfl, a, b⟩ := h
    simp [ih b]
theorem mt_leaf : ∀ {l : Lf} {v : V}, Mt l v → v.leaf = true := by
  intro l v h
  cases l <;> simp only [Mt] at h
  · obtain ⟨n, rfl, _⟩ := h; rfl
  · obtain ⟨b, rfl⟩ := h; rfl
  · obtain ⟨s, rfl, _⟩ := h; rfl
  · obtain ⟨rows, rfl, _⟩ := h; rfl
theorem mtL_leaf {l : List Lf} {v : List V} (h : MtL l v) : ∀ x ∈ v, x.leaf = true := by
  induction l generalizing v with
  | nil => simp only [MtL] at h; subst h; intro x hx; cases hx
  | cons y l ih =>
    simp only [MtL] at h
    obtain ⟨v, vs, rfl, a, b⟩ := h
    intro x hx
    rcases List.mem_cons.1 hx with rfl | hx
    · exact mt_leaf a
    · exact ih b x hx
theorem rdRows_of {w : World} {D : DM} {X : Nat → Prop} {b sz : Nat} : ∀ (off : Nat) (rows : List (List V)),
    (∀ i r, rows[i]? = some r → r.length = sz ∧ rdCells w D X b (off + i * sz) r) → rdRows w D X b sz off rows
  | _, [], _ => by simp [rdRows]
  | off, r :: rows, h => by
    simp only [rdRows]
    have h0 := h 0 r rfl
    refine ⟨h0.1, by simpa using h0.2, rdRows_of (off + sz) rows fun i r' hi => ?_⟩
    have := h (i + 1) r' (by simpa using hi)
    rwa [show off + (i + 1) * sz = off + sz + i * sz by rw [Nat.succ_mul]; omega] at this
theorem rdCells_of_rdL {w : World} {D : DM} {X : Nat → Prop} {b : Nat} : ∀ (off : Nat) (vs : List V) (cs : List Value), rdL w D X vs cs → (∀ x ∈ vs, x.leaf = true) →
    (∀ i, i < cs.length → w.cell? ⟨b, off + i, none⟩ = cs[i]?) → rdCells w D X b off vs
  | _, [], _, _, _, _ => by simp [rdCells]
  | off, v :: vs, cs, h, hl, hc => by
    simp only [rdL] at h
    obtain ⟨y, ys, rfl, h1, h2⟩ := h
    simp only [rdCells]
    refine ⟨hl v (by simp), ⟨y, by simpa using hc 0 (by simp), h1⟩, rdCells_of_rdL (off + 1) vs ys h2 (fun x hx => hl x (by simp [hx])) fun i hi => ?_⟩
    have := hc (i + 1) (by simpa using hi)
    rw [show off + 1 + i = off + (i + 1) by omega, this]
    simp
section
variable {H : Type} {enc : TypeId × Value → H} {P : Program} {w : World}
theorem shape_rd : ∀ (n : Nat) {t : TypeId} {L : List Lf} {fuel : Nat} {cs : List Value} {x : DataW H × List MemPlace}, shapeOf P n t = some L →
    DataW.trod enc P w 0 (fun _ => true) true fuel t cs = some x → ∃ vs, MtL L vs ∧ rdL w DM.none (fun _ => False) vs cs
  | 0, t, L, fuel, cs, x, h, _ => by simp [shapeOf] at h
  | n + 1, t, L, fuel, cs, x, h, hx => by
    cases fuel with
    | zero => simp [DataW.trod] at hx
    | succ fuel =>
    simp only [shapeOf] at h
    split at h
    · rename_i k hu
      simp only [Option.some.injEq] at h; subst h
      obtain ⟨m, rfl, _, hw⟩ := DataW.trod_int hu hx
      exact ⟨[.int k m], by simp [MtL, Mt, hw], by simp [rdL, rd]⟩
    · rename_i hu
      simp only [Option.some.injEq] at h; subst h
      rw [DataW.trod_step] at hx
      unfold DataW.trodStep at hx
      rw [hu] at hx
      split at hx <;> simp_all
      rename_i b
      exact ⟨[.bool b], by simp [MtL, Mt], by simp [rdL, rd]⟩
    · rename_i hu
      simp only [Option.some.injEq] at h; subst h
      rw [DataW.trod_step] at hx
      unfold DataW.trodStep at hx
      rw [hu] at hx
      split at hx <;> simp_all
      rename_i s
      exact ⟨[.str s.data.toList], by simp [MtL, Mt]; exact hx.1, by simp [rdL, rd]⟩
    · rename_i e hu
      split at h <;> first | (cases h; done) | skip
      rename_i r hr
      split at h <;> first | (cases h; done) | skip
      rename_i hsz
      simp only [Option.some.injEq] at h; subst h
      rcases DataW.trod_slice hu hx with ⟨rfl, _⟩ | ⟨a, len, cap, elems, rest, m, _, rfl, _, hb, hl, hm, hlen, hel, _, _⟩
      · exact ⟨[.sl r.length []], by simp [MtL, Mt], by simp only [rdL, rd]; exact ⟨_, [], rfl, ⟨none, 0, rfl, Nat.le_refl _, .inl (by trivial)⟩, rfl⟩⟩
      · have hel' : ∀ i, i < len → ∃ cs', w.cells? 0 (a.add (i * P.cellsOf e)) (P.cellsOf e) = some cs' ∧ ∃ vs, MtL r vs ∧ rdL w DM.none (fun _ => False) vs cs' := by
          intro i hi
          have h1 := hel i hi
          have h2 : elems[i]? = some (elems[i]'(by omega)) := List.getElem?_eq_getElem (by omega)
          rw [h2, Option.bind_eq_some_iff] at h1
          obtain ⟨cs', k1, k2⟩ := h1
          exact ⟨cs', k1, shape_rd n hr k2⟩
        have hch : ∀ i, ∃ p : List Value × List V, i < len → w.cells? 0 (a.add (i * P.cellsOf e)) (P.cellsOf e) = some p.1 ∧ MtL r p.2 ∧ rdL w DM.none (fun _ => False) p.2 p.1 := by
          intro i
          by_cases hi : i < len
          · obtain ⟨cs', k1, vs, k2, k3⟩ := hel' i hi
            exact ⟨(cs', vs), fun _ => ⟨k1, k2, k3⟩⟩
          · exact ⟨([], []), fun h => absurd h hi⟩
        obtain ⟨f, hf⟩ := Classical.axiomOfChoice hch
        have hrow : ∀ i vs, ((List.range len).map fun i => (f i).2)[i]? = some vs → i < len ∧ vs = (f i).2 := by
          intro i vs hi
          rw [List.getElem?_map, Option.map_eq_some_iff] at hi
          obtain ⟨j, h1, h2⟩ := hi
          obtain ⟨h3, h4⟩ := List.getElem?_eq_some_iff.1 h1
          rw [List.getElem_range] at h4
          subst h4
          exact ⟨by simpa using h3, h2.symm⟩
        refine ⟨[.sl r.length ((List.range len).map fun i => (f i).2)], ?_, ?_⟩
        · simp only [MtL, Mt]
          refine ⟨_, [], rfl, ⟨_, rfl, by simp; exact Nat.le_trans hl hm, fun rr hrr => ?_⟩, rfl⟩
          obtain ⟨i, hi⟩ := List.mem_iff_getElem?.1 hrr
          obtain ⟨h1, rfl⟩ := hrow i rr hi
          exact (hf i h1).2.1
        · simp only [rdL, rd]
          refine ⟨_, [], rfl, ⟨some a, cap, by simp, by simpa using hl, ?_⟩, rfl⟩
          by_cases h0 : len = 0
          · left; subst h0; rfl
          · right
            obtain ⟨b, off, spot⟩ := a
            have hspot : spot = none := by
              obtain ⟨_, _, hc⟩ := World.cells?_some (hf 0 (by omega)).1
              have hlen0 := (World.cells?_some (hf 0 (by omega)).1).2.1
              have hc0 := hc 0 (by omega)
              have hlt0 : 0 < (f 0).1.length := by omega
              rw [List.getElem?_eq_getElem hlt0] at hc0
              simpa [Addr.add] using World.cell?_spot hc0
            subst hspot
            have hb' : b < w.heap.size := by
              have := World.cells?_block (hf 0 (by omega)).1 (by omega)
              simpa [Addr.add] using this
            refine ⟨b, off, rfl, hb', fun h => h, rdRows_of _ _ fun i rr hi => ?_⟩
            obtain ⟨h1, rfl⟩ := hrow i rr hi
            obtain ⟨g1, g2, g3⟩ := hf i h1
            obtain ⟨_, hl2, hc⟩ := World.cells?_some g1
            refine ⟨mtL_len g2, rdCells_of_rdL _ _ _ g3 (mtL_leaf g2) fun j hj => ?_⟩
            have := hc j (by omega)
            rw [← this, hsz.1]
            congr 1
            simp only [addr_add]
    · rename_i fs hu
      split at h <;> first | (cases h; done) | skip
      rename_i r hr
      split at h <;> first | (cases h; done) | skip
      rename_i hsz
      simp only [Option.some.injEq] at h; subst h
      rw [DataW.trod_step] at hx
      unfold DataW.trodStep at hx
      rw [hu] at hx
      simp only [] at hx
      split at hx <;> first | (cases hx; done) | skip
      rename_i hlen
      rw [Option.map_eq_some_iff] at hx
      obtain ⟨xs, hxs, _⟩ := hx
      have key : ∀ (fl : List Field) (off : Nat) (r : List Lf) (xs : List (DataW H × List MemPlace)), shFs P (shapeOf P n) fl off = some r →
          (fl.mapM fun f => DataW.trod enc P w 0 (fun _ => true) true fuel f.type ((cs.drop f.offset).take (P.cellsOf f.type))) = some xs →
          ∃ vs, MtL r vs ∧ rdL w DM.none (fun _ => False) vs ((cs.drop off).take r.length) := by
        intro fl
        induction fl with
        | nil =>
          intro off r xs h _
          simp only [shFs, Option.some.injEq] at h; subst h
          exact ⟨[], by simp [MtL], by simp [rdL]⟩
        | cons f fl ih =>
          intro off r xs h hm
          simp only [shFs] at h
          split at h <;> first | (cases h; done) | skip
          rename_i r1 rs h1 h2
          split at h <;> first | (cases h; done) | skip
          rename_i hc
          simp only [Option.some.injEq] at h; subst h
          simp only [List.mapM_cons, Option.pure_def, Option.bind_eq_bind, Option.bind_eq_some_iff, Option.some.injEq] at hm
          obtain ⟨y, hy, ys, hys, rfl⟩ := hm
          obtain ⟨v1, a1, a2⟩ := shape_rd n h1 hy
          obtain ⟨v2, b1, b2⟩ := ih _ rs ys h2 hys
          refine ⟨v1 ++ v2, mtL_append a1 b1, ?_⟩
          have e : (cs.drop off).take (r1 ++ rs).length = (cs.drop off).take r1.length ++ (cs.drop (off + P.cellsOf f.type)).take rs.length := by
            rw [List.length_append, List.take_add, List.drop_drop, hc.2]
          rw [e]
          rw [hc.1, ← hc.2] at a2
          exact rdL_append _ _ _ _ a2 b2
      obtain ⟨vs, a1, a2⟩ := key fs.toList 0 r xs hr hxs
      refine ⟨vs, a1, ?_⟩
      rw [List.drop_zero, List.take_of_length_le (by omega)] at a2
      exact a2
    · cases h
theorem shape_in (n : Nat) {t : TypeId} {L : List Lf} {v : Value} {d : DataW H} {ps : List MemPlace} (hs : shapeOf P n t = some L) (h : DataW.Trod enc P w 0 (fun _ => true) true t v d ps) :
    ∃ vs, MtL L vs ∧ rdL w DM.none (fun _ => False) vs v.cells.toList := by
  obtain ⟨fuel, hf⟩ := h
  exact shape_rd n hs hf
end
end Go.Ml
namespace Go.Ml
open Go.ChangeShapes Go.WideShapes Go.ChangeAt Go.RowKit
def argV (g : Bool) (vs : List V) : V := if g = true then .agg vs else vs.headD .any
def ArgsMt : List (Bool × List Lf) → List V → Prop
  | [], vs => vs = []
  | s :: ss, vs => ∃ cs rest, vs = argV s.1 cs :: rest ∧ MtL s.2 cs ∧ ArgsMt ss rest
def argOk (P : Program) (t : TypeId) (s : Bool × List Lf) : Bool :=
  match P.underlying t with
  | some (.struct _) => s.1
  | some (.int _) | some .bool | some .string | some (.slice _) => !s.1
  | _ => false
def argsOk (P : Program) : List TypeId → List (Bool × List Lf) → Prop
  | [], ss => ss = []
  | t :: ts, ss => ∃ s rest, ss = s :: rest ∧ shapeOf P 20 t = some s.2 ∧ argOk P t s = true ∧ argsOk P ts rest
theorem args_in {H : Type} {enc : TypeId × Value → H} {P : Program} {w : World} {r : Reach} {b : Nat} : ∀ {ts : List TypeId} {ss : List (Bool × List Lf)} {vs : List Value} {ds : List (DataW H)} {ps : List MemPlace},
    argsOk P ts ss → (∀ (j : Nat) t v, ts[j]? = some t → vs[j]? = some v → Value.okWide P w r b t v) → DataW.TrodAll enc P w 0 (fun _ => true) true ts vs ds ps →
    ∃ Vs, ArgsMt ss Vs ∧ rdL w DM.none (fun _ => False) Vs vs
  | [], ss, [], ds, ps, h, _, _ => by simp only [argsOk] at h; subst h; exact ⟨[], rfl, by simp [rdL]⟩
  | [], _, _ :: _, ds, ps, _, _, ht => by cases ds <;> exact ht.elim
  | _ :: _, _, [], ds, ps, _, _, ht => by cases ds <;> exact ht.elim
  | t :: ts, ss, v :: vs, [], ps, _, _, ht => ht.elim
  | t :: ts, ss, v :: vs, d :: ds, ps, h, hw, ht => by
    simp only [argsOk] at h
    obtain ⟨s, rest, rfl, h1, h2, h3⟩ := h
    obtain ⟨p, q, k1, k2, _⟩ := ht
    obtain ⟨Vs, a1, a2⟩ := args_in h3 (fun j t' v' hj hv => hw (j + 1) t' v' (by simpa using hj) (by simpa using hv)) k2
    obtain ⟨cs, c1, c2⟩ := shape_in 20 h1 k1
    have hok := hw 0 t v rfl rfl
    refine ⟨argV s.1 cs :: Vs, ⟨cs, Vs, rfl, c1, a1⟩, ?_⟩
    simp only [rdL]
    refine ⟨v, vs, rfl, ?_, a2⟩
    unfold argOk at h2
    have one : (∀ cs', v ≠ .agg cs') → s.1 = false → s.2.length = 1 → rd w DM.none (fun _ => False) (argV s.1 cs) v := by
      intro hv hs hl
      have hvc : v.cells.toList = [v] := by cases v <;> first | rfl | (exact absurd rfl (hv _))
      rw [hvc] at c2
      have := mtL_len c1
      rw [hl] at this
      cases cs with
      | nil => simp at this
      | cons x xs =>
        simp only [rdL] at c2
        obtain ⟨y, ys, e, e2, _⟩ := c2
        simp only [List.cons.injEq] at e
        rw [hs]
        simp only [argV, Bool.false_eq_true, if_false, List.headD_cons]
        rw [e.1]; exact e2
    unfold shapeOf at h1
    split at h2
    · rename_i fs hu
      rw [h2]
      simp only [Value.okWide, hu] at hok
      obtain ⟨cs', rfl, _⟩ := hok
      simp only [argV, if_true, rd]
      exact ⟨cs', rfl, c2⟩
    · rename_i k hu
      rw [hu] at h1
      simp only [Option.some.injEq] at h1
      obtain ⟨n, rfl⟩ := okWide_int hu hok
      exact one (by intro cs' e; cases e) (by simpa using h2) (by rw [← h1]; rfl)
    · rename_i hu
      rw [hu] at h1
      simp only [Option.some.injEq] at h1
      obtain ⟨n, rfl⟩ := okWide_bool hu hok
      exact one (by intro cs' e; cases e) (by simpa using h2) (by rw [← h1]; rfl)
    · rename_i hu
      rw [hu] at h1
      simp only [Option.some.injEq] at h1
      obtain ⟨n, rfl⟩ := okWide_string hu hok
      exact one (by intro cs' e; cases e) (by simpa using h2) (by rw [← h1]; rfl)
    · rename_i e hu
      rw [hu] at h1
      simp only [] at h1
      obtain ⟨a0, l0, c0, rfl⟩ := okWide_slice hu hok
      refine one (by intro cs' e; cases e) (by simpa using h2) ?_
      split at h1 <;> first | (cases h1; done) | skip
      split at h1 <;> first | (cases h1; done) | skip
      simp only [Option.some.injEq] at h1
      rw [← h1]; rfl
    · cases h2
theorem trodAll_below {H : Type} {enc : TypeId × Value → H} {P : Program} (hl : laidOutB P = true) {W W' : World} (hb : Below W.heap.size W W') : ∀ {ts : List TypeId} {vs : List Value} {ds : List (DataW H)} {ps : List MemPlace},
    (ts.all fun t => P.readableRec t && decide (t < P.types.size)) = true → DataW.TrodAll enc P W 0 (fun _ => true) true ts vs ds ps → (∀ x ∈ ps, x.block < W.heap.size) →
    DataW.TrodAll enc P W' 0 (fun b => decide (b < W.heap.size)) true ts vs ds ps
  | [], [], [], ps, _, h, _ => h
  | [], _ :: _, ds, ps, _, ht, _ => by cases ds <;> exact ht.elim
  | [], [], _ :: _, ps, _, ht, _ => ht.elim
  | _ :: _, [], ds, ps, _, ht, _ => by cases ds <;> exact ht.elim
  | t :: ts, v :: vs, [], ps, _, ht, _ => ht.elim
  | t :: ts, v :: vs, d :: ds, ps, h, ht, hlt => by
    simp only [List.all_cons, Bool.and_eq_true, decide_eq_true_eq] at h
    obtain ⟨p, q, k1, k2, rfl⟩ := ht
    exact ⟨p, q, Below.trod hl h.1.1 h.1.2 k1 hb fun x hx => hlt x (by simp [hx]), trodAll_below hl hb (by simpa using h.2) k2 fun x hx => hlt x (by simp [hx]), rfl⟩
end Go.Ml
end
section
set_option linter.unusedSimpArgs false
set_option linter.unusedVariables false
namespace Go.Ml
theorem dec_list {α : Type} {row : List Lf} {f : α → List V} {W : α → Prop} (h : ∀ r, MtL row r → ∃ x, r = f x ∧ W x) {v : V} (hv : Mt (.sl row) v) : ∃ l : List α, v = .sl row.length (l.map f) ∧ wfL W l := by
  simp only [Mt] at hv
  obtain ⟨rows, rfl, hl, hr⟩ := hv
  have key : ∀ rows : List (List V), (∀ r ∈ rows, MtL row r) → ∃ l : List α, rows = l.map f ∧ ∀ x ∈ l, W x := by
    intro rows
    induction rows with
    | nil => intro _; exact ⟨[], rfl, by simp⟩
    | cons r rows ih =>
      intro hr
      obtain ⟨x, rfl, hx⟩ := h r (hr r (by simp))
      obtain ⟨l, rfl, hl⟩ := ih fun r hr' => hr r (by simp [hr'])
      exact ⟨x :: l, rfl, by simpa using ⟨hx, hl⟩⟩
  obtain ⟨l, rfl, hw⟩ := key rows hr
  exact ⟨l, rfl, by simpa [maxLen] using hl, hw⟩
theorem dec_intv {v : V} (h : Mt (.int .i64) v) : ∃ n, v = iv n ∧ (Lit.int .i64 n).wf = true := by simpa only [Mt] using h
theorem dec_bool {v : V} (h : Mt .bool v) : ∃ b, v = .bool b := by simpa only [Mt] using h
theorem dec_one {l : Lf} {r : List V} (h : MtL [l] r) : ∃ v, r = [v] ∧ Mt l v := by
  simp only [MtL] at h
  obtain ⟨v, vs, rfl, h1, rfl⟩ := h
  exact ⟨v, rfl, h1⟩
abbrev shI : Lf := .sl [.int .i64]
abbrev shR : List Lf := [.bool, shI, shI]
theorem dec_ints {v : V} (h : Mt shI v) : ∃ l : List Int, v = ints l ∧ l.length ≤ 9223372036854775807 := by
  obtain ⟨l, rfl, hl⟩ := dec_list (f := fun n => [iv n]) (W := fun _ => True) (fun r hr => by
    obtain ⟨v, rfl, g⟩ := dec_one hr
    obtain ⟨n, rfl, _⟩ := dec_intv g
    exact ⟨n, rfl, trivial⟩) h
  exact ⟨l, rfl, hl.1⟩
theorem dec_R {vs : List V} (h : MtL shR vs) : ∃ r : R, vs = r.cells ∧ r.wf := by
  simp only [MtL] at h
  obtain ⟨v1, _, rfl, h1, v2, _, rfl, h2, v3, _, rfl, h3, rfl⟩ := h
  obtain ⟨b, rfl⟩ := dec_bool h1
  obtain ⟨m, rfl, hm⟩ := dec_ints h2
  obtain ⟨d, rfl, hd⟩ := dec_ints h3
  exact ⟨⟨b, m, d⟩, rfl, hm, hd⟩
theorem dec_Rs {v : V} (h : Mt (.sl shR) v) : ∃ l, v = ratsV l ∧ wfL R.wf l := dec_list (fun _ hr => dec_R hr) h
theorem dec_Rss {v : V} (h : Mt (.sl [.sl shR]) v) : ∃ l, v = ratssV l ∧ wfL (wfL R.wf) l := dec_list (fun r hr => by
  obtain ⟨v, rfl, h⟩ := dec_one hr
  obtain ⟨l, rfl, hl⟩ := dec_Rs h
  exact ⟨l, rfl, hl⟩) h
def AllP {α : Type} (P : α → Prop) : List α → Prop
  | [] => True
  | x :: l => P x ∧ AllP P l
theorem AllP.mem {α : Type} {P : α → Prop} : ∀ {l : List α}, AllP P l → ∀ x ∈ l, P x
  | [], _, x, hx => by cases hx
  | y :: l, h, x, hx => by
    rcases List.mem_cons.1 hx with rfl | hx
    · exact h.1
    · exact AllP.mem h.2 x hx
end Go.Ml
namespace Go.Ml
theorem trod_len {H : Type} {enc : TypeId × Value → H} {P : Program} {w : World} {b : Nat} {sp : Nat → Bool} {hd : Bool} : ∀ {ts : List TypeId} {vs : List Value} {ds : List (DataW H)} {ps : List MemPlace},
    DataW.TrodAll enc P w b sp hd ts vs ds ps → ds.length = ts.length
  | [], [], [], _, _ => rfl
  | [], [], _ :: _, _, h => h.elim
  | [], _ :: _, ds, _, h => by cases ds <;> exact h.elim
  | _ :: _, [], ds, _, h => by cases ds <;> exact h.elim
  | _ :: _, _ :: _, [], _, h => h.elim
  | t :: ts, v :: vs, d :: ds, ps, h => by
    obtain ⟨p, q, _, h2, _⟩ := h
    simp [trod_len h2]
end Go.Ml
end
