/- A small language for the functions of this claim, its soundness, contracts. -/
import Derived.Test.YthhglmiolbhcaaaGreatPart3
section
set_option linter.unusedSimpArgs false
set_option linter.unusedVariables false
set_option maxRecDepth 100000
set_option maxHeartbeats 16000000
namespace Go.Ml
theorem po_iBridges {T : Nat → Option Fn} (h : D_impl_Bridges T) {l : List Lk} (hw : wfL Lk.wf l) (hz : szL Lk.sz l ≤ 1048576) : PO T 375 [lksV l] (lksV (bgV l)) := by
  have hl : l.length ≤ 1048576 := by have := szL_eq Lk.sz l; omega
  have ci := c_iIsLinkSet h.d_impl_IsLinkSet hw
  cases hb : lksOk l
  · rw [hb] at ci
    rw [bgV_f hb]
    refine po_end2 (fun _ _ => false) h.hT rfl rfl ?_
    dsimp only [F_impl_Bridges, oN, oS, oG, oK, oA, oH, oV, cI, St.enter, List.length_cons, List.length_nil, Nat.zero_add]
    (refine ew ?_; try with_reducible exact True.intro)
    refine PFK_of ci ?_
    (refine ew ?_; try with_reducible exact True.intro)
    exact fin_nil
  rw [hb] at ci
  rw [bgV_t hb]
  refine po_end2 (fun x d => (x == 343 && d == 32) || (x == 133 && d == 39)) h.hT rfl rfl ?_
  dsimp only [F_impl_Bridges, oN, oS, oG, oK, oA, oH, oV, cI, St.enter, List.length_cons, List.length_nil, Nat.zero_add]
  (refine ew ?_; try with_reducible exact True.intro)
  refine PFK_of ci ?_
  (refine ew ?_; try with_reducible exact True.intro)
  refine loop_at (fun x d => (x == 343 && d == 32) || (x == 133 && d == 39)) (α := Nat × Store × V × List (List V)) (fun q => ⟨argE [lksV l, .any, .any, q.2.2.1, .any, .any, .any, .any, .any, .any, .any, lksV l, iv (l.length : Nat), iv (q.1 : Nat)], q.2.1, 0, 0, [], []⟩) (fun q => q.1 ≤ l.length ∧ Grow q.2.1 q.2.2.1 11 q.2.2.2 ((bgI l q.1).map Lk.cells)) (fun q => l.length - q.1) rfl (0, [none], .nils, []) ?_ ?_ ?_
  · exact ⟨Nat.zero_le _, grow_nil⟩
  · (refine Fg_env ?_) <;> (try (refine ew ?_; try with_reducible exact True.intro)) <;> (repeat' (first | refine ⟨?_, ?_⟩ | exact EvV_int (by omega) | exact EvV_of (by simp) | exact EvV_nil _))
  · rintro ⟨i, s, v3, G⟩ ⟨hi, hG⟩
    dsimp only at hi hG
    have hGb : G.length ≤ 1048576 := by have := hG.len; have := (bgI_sub l i hi).length_le; simp at *; omega
    by_cases hc : (i : Int) < (l.length : Nat)
    · have hil : i < l.length := by omega
      have hx : (l.map Lk.cells).getD i [] = (l.getD i default).cells := mg hil
      have cc : PF T 343 [lksV (bgR l i), iv (l.getD i default).a] (ints (cpM (bgR l i) (l.getD i default).a)) := by
        rw [cpM_t (bgR_ok hb i)]
        exact (po_componentOf h.d_impl_componentOf (s := bgR l i) (v := (l.getD i default).a) (wfL_sub hw (bgR_sub l i)) (by have := bgR_len l i; omega) (bgR_ok hb i)).frz (dep_ints _ _)
      have hcl := cpM_len (bgR l i) (l.getD i default).a
      have ch := c_hasInt h.d_impl_hasInt (l := cpM (bgR l i) (l.getD i default).a) (n := (l.getD i default).b) (by omega)
      have cy := po_copyLink h.d_impl_copyLink (szL_memb (f := Lk.sz) hz (getD_mem hil))
      have es : bgI l (i + 1) = if bgK l i = true then bgI l i ++ [l.getD i default] else bgI l i := rfl
      unfold bgK at es
      have hR : bgR l i = l.take i ++ l.drop (i + 1) := rfl
      have hab : (l.take i).length + (l.drop (i + 1)).length ≤ 1048576 := by simp; omega
      have tj : ((i : Int) + 1).toNat = i + 1 := by omega
      have eA : (l.map Lk.cells).take i = (l.take i).map Lk.cells := (List.map_take ..).symm
      have eB : (l.map Lk.cells).drop (i + 1) = (l.drop (i + 1)).map Lk.cells := (List.map_drop ..).symm
      generalize l.take i = A at *
      generalize l.drop (i + 1) = B at *
      clear hw hz
      generalize bgR l i = R at *
      obtain ⟨dd, hdd⟩ : ∃ dd, decide ((l.getD i default).b ∈ cpM R (l.getD i default).a) = dd := ⟨_, rfl⟩
      rw [hdd] at ch es
      have hd2 : dd = false ∨ dd = true := by cases dd <;> simp
      generalize l.getD i default = x at *
      have e4 : ∀ σ : Store, resolve σ FD (lkV x) = some (lkV x) := fun σ => res_agg_still (st_Lk [x] _ (by simp))
      rcases A with _ | ⟨a0, A⟩
      · rcases B with _ | ⟨b0, B⟩
        · rw [List.map_nil] at eA
          rw [List.map_nil] at eB
          simp only [List.length_cons, List.length_nil] at hab
          (refine ew5 (And.intro hc hx) @numK_any @or_sc @tj (And.intro eA eB) ?_; try with_reducible exact True.intro)
          have hR0 : R = [] := hR
          have cc0 : PF T 343 [.nils, iv x.a] (ints (cpM R x.a)) := by
            refine .laxF (args := [lksV R, iv x.a]) (r := ints (cpM R x.a)) ?_ cc (laxV_refl _)
            rw [hR0]
            simp only [LaxL, LaxV]
            exact ⟨_, _, rfl, .inl ⟨rfl, .inl rfl⟩, _, _, rfl, rfl, rfl⟩
          refine OwnK_frz cc0 (by (refine ew ?_; try with_reducible exact True.intro)) rfl ?_
          (refine ew2 @numK_any @or_sc ?_; try with_reducible exact True.intro)
          refine PFK_of ch ?_
          rcases hd2 with hd2 | hd2
          · (refine ew3 @hd2 @numK_any @or_sc ?_; try with_reducible exact True.intro)
            rw [hd2] at es
            have es : bgI l (i + 1) = bgI l i ++ [x] := es
            refine ⟨?_, ?_⟩
            · have hn0 : 0 ≤ List.length s := Nat.zero_le _
              generalize List.length s = m at hn0 ⊢
              revert m
              refine OkA_allN _ _ 0 (fun n hn => ?_) (fun n hn => ?_) ?_
              · simp only [sh]; split <;> omega
              · simp [shA, sh]; try omega
              · unfold OkA; decide +kernel
            rcases hG.cases with ⟨rfl, h1, rfl⟩ | ⟨o, rfl, ho, hlt⟩
            · (refine ew ?_; try with_reducible exact True.intro)
              refine RefK_got cy (by (refine ew1 @e4 ?_; try with_reducible exact True.intro)) ?_
              intro r σ2 os g
              obtain ⟨cs, rfl, k1⟩ := g.ow.agg_inv
              have gl : s.length + 6 ≤ σ2.length := by have := g.len; simp at this; omega
              have lf := cells_agg (k1.leaf rfl)
              have cl1 : cs.length = 11 := k1.len
              (refine ew3 @lf @cl1 @gl ?_; try with_reducible exact True.intro)
              refine ⟨by omega, (i + 1, (σ2.set (s.length + 4) (some ⟨11, [cs]⟩)).set (s.length + 5) (some ⟨11, [cs]⟩), .msl (s.length + 5) 0 1, [cs]), by dsimp only; omega, ⟨by dsimp only; omega, ?_⟩, by (refine Fg_env ?_) <;> (try (refine ew ?_; try with_reducible exact True.intro)) <;> (repeat' (first | refine ⟨?_, ?_⟩ | exact EvV_int (by omega) | exact EvV_of (by simp) | exact EvV_nil _))⟩
              dsimp only
              rw [es, List.map_append]
              exact hG.appN (fun q hq => by simp (disch := first | omega | (simp only [List.length_append, List.length_set, List.length_cons, List.length_nil]; omega)) only [EVs]) (by simp <;> omega) g (by omega) (by simp <;> omega) (by omega) (by simp <;> omega) (by omega)
            · (refine ew1 @ho ?_; try with_reducible exact True.intro)
              refine RefK_got cy (by (refine ew1 @e4 ?_; try with_reducible exact True.intro)) ?_
              intro r σ2 os g
              obtain ⟨cs, rfl, k1⟩ := g.ow.agg_inv
              have gl : s.length + 6 ≤ σ2.length := by have := g.len; simp at this; omega
              have lf := cells_agg (k1.leaf rfl)
              have cl1 : cs.length = 11 := k1.len
              have ho2 := (g.old o (by simp; omega)).trans ((by simp (disch := first | omega | (simp only [List.length_append, List.length_set, List.length_cons, List.length_nil]; omega)) only [EVs] : _ = objAt s o).trans ho)
              have hol : o < σ2.length := by omega
              (refine ew5 @lf @cl1 @gl @ho2 @hol ?_; try with_reducible exact True.intro)
              refine ⟨by omega, (i + 1, ((σ2.set (s.length + 4) (some ⟨11, [cs]⟩)).set o none).set (s.length + 5) (some ⟨11, G ++ [cs]⟩), .msl (s.length + 5) 0 (G.length + 1), G ++ [cs]), by dsimp only; omega, ⟨by dsimp only; omega, ?_⟩, by (refine Fg_env ?_) <;> (try (refine ew ?_; try with_reducible exact True.intro)) <;> (repeat' (first | refine ⟨?_, ?_⟩ | exact EvV_int (by omega) | exact EvV_of (by simp) | exact EvV_nil _))⟩
              dsimp only
              rw [es, List.map_append]
              exact hG.appM (fun q hq => by simp (disch := first | omega | (simp only [List.length_append, List.length_set, List.length_cons, List.length_nil]; omega)) only [EVs]) (by simp <;> omega) g (by omega) (by simp <;> omega) (by omega) (by simp <;> omega) (by omega)
          · (refine ew3 @hd2 @numK_any @or_sc ?_; try with_reducible exact True.intro)
            rw [hd2] at es
            have es : bgI l (i + 1) = bgI l i := es
            refine ⟨?_, ?_⟩
            · have hn0 : 0 ≤ List.length s := Nat.zero_le _
              generalize List.length s = m at hn0 ⊢
              revert m
              refine OkA_allN _ _ 0 (fun n hn => ?_) (fun n hn => ?_) ?_
              · simp only [sh]; split <;> omega
              · simp [shA, sh]; try omega
              · unfold OkA; decide +kernel
            refine ⟨(i + 1, ?st9q00, v3, G), ?c1, ⟨?c2, ?c4⟩, ?c3⟩
            case c3 => dsimp only; (refine Fg_env ?_) <;> (try (refine ew ?_; try with_reducible exact True.intro)) <;> (repeat' (first | refine ⟨?_, ?_⟩ | exact EvV_int (by omega) | exact EvV_of (by simp) | exact EvV_nil _))
            case c1 => dsimp only; omega
            case c2 => dsimp only; omega
            case c4 =>
              dsimp only
              rw [es]
              exact hG.frame fun q hq => by simp (disch := first | omega | (simp only [List.length_append, List.length_set, List.length_cons, List.length_nil]; omega)) only [EVs]
        · rw [List.map_nil] at eA
          rw [List.map_cons] at eB
          have n2 : (b0.cells :: B.map Lk.cells = []) = False := by simp
          have hr : ∀ σ : Store, resO σ 0 (B.length + 1) (some ⟨11, b0.cells :: B.map Lk.cells⟩) = some (lksV R) := fun σ => by
            have e1 : b0.cells :: B.map Lk.cells = R.map Lk.cells := by rw [hR]; simp
            have e2 : B.length + 1 = R.length := by rw [hR]; simp <;> omega
            have := resO_st (σ := σ) (st_Lk R) (s := 0) (l := R.length) (n := 11) (by simp)
            rw [List.drop_zero, List.take_of_length_le (by simp)] at this
            rw [e1, e2]; exact this
          have hrr : ∀ σ : Store, reachRs σ (b0.cells :: B.map Lk.cells) = [] := fun σ => by
            have e1 : b0.cells :: B.map Lk.cells = R.map Lk.cells := by rw [hR]; simp
            rw [e1]; exact reachRs_Lk _ _
          simp only [List.length_cons, List.length_nil] at hab
          (refine ew6 (And.intro hc hx) @numK_any @or_sc (And.intro tj n2) (And.intro eA eB) @hr ?_; try with_reducible exact True.intro)
          refine ⟨⟨by omega, by omega⟩, ?_⟩
          refine OwnK_frz cc (by (refine ew1 @hr ?_; try with_reducible exact True.intro)) rfl ?_
          (refine ew2 @numK_any @or_sc ?_; try with_reducible exact True.intro)
          repeat rw [hrr]
          repeat rw [killAll_nil]
          (refine ew2 @numK_any @or_sc ?_; try with_reducible exact True.intro)
          rw [hrr]
          rw [killAll_nil]
          (refine ew2 @numK_any @or_sc ?_; try with_reducible exact True.intro)
          refine PFK_of ch ?_
          rcases hd2 with hd2 | hd2
          · (refine ew3 @hd2 @numK_any @or_sc ?_; try with_reducible exact True.intro)
            rw [hd2] at es
            have es : bgI l (i + 1) = bgI l i ++ [x] := es
            refine ⟨?_, ?_⟩
            · rw [hrr]
              have hn0 : 0 ≤ List.length s := Nat.zero_le _
              generalize List.length s = m at hn0 ⊢
              revert m
              refine OkA_allN _ _ 0 (fun n hn => ?_) (fun n hn => ?_) ?_
              · simp only [sh]; split <;> omega
              · simp [shA, sh]; try omega
              · unfold OkA; decide +kernel
            rw [hrr, killAll_nil]
            rcases hG.cases with ⟨rfl, h1, rfl⟩ | ⟨o, rfl, ho, hlt⟩
            · (refine ew ?_; try with_reducible exact True.intro)
              refine RefK_got cy (by (refine ew1 @e4 ?_; try with_reducible exact True.intro)) ?_
              intro r σ2 os g
              obtain ⟨cs, rfl, k1⟩ := g.ow.agg_inv
              have gl : s.length + 6 ≤ σ2.length := by have := g.len; simp at this; omega
              have lf := cells_agg (k1.leaf rfl)
              have cl1 : cs.length = 11 := k1.len
              (refine ew3 @lf @cl1 @gl ?_; try with_reducible exact True.intro)
              refine ⟨by omega, (i + 1, (σ2.set (s.length + 4) (some ⟨11, [cs]⟩)).set (s.length + 5) (some ⟨11, [cs]⟩), .msl (s.length + 5) 0 1, [cs]), by dsimp only; omega, ⟨by dsimp only; omega, ?_⟩, by (refine Fg_env ?_) <;> (try (refine ew ?_; try with_reducible exact True.intro)) <;> (repeat' (first | refine ⟨?_, ?_⟩ | exact EvV_int (by omega) | exact EvV_of (by simp) | exact EvV_nil _))⟩
              dsimp only
              rw [es, List.map_append]
              exact hG.appN (fun q hq => by simp (disch := first | omega | (simp only [List.length_append, List.length_set, List.length_cons, List.length_nil]; omega)) only [EVs]) (by simp <;> omega) g (by omega) (by simp <;> omega) (by omega) (by simp <;> omega) (by omega)
            · (refine ew1 @ho ?_; try with_reducible exact True.intro)
              refine RefK_got cy (by (refine ew1 @e4 ?_; try with_reducible exact True.intro)) ?_
              intro r σ2 os g
              obtain ⟨cs, rfl, k1⟩ := g.ow.agg_inv
              have gl : s.length + 6 ≤ σ2.length := by have := g.len; simp at this; omega
              have lf := cells_agg (k1.leaf rfl)
              have cl1 : cs.length = 11 := k1.len
              have ho2 := (g.old o (by simp; omega)).trans ((by simp (disch := first | omega | (simp only [List.length_append, List.length_set, List.length_cons, List.length_nil]; omega)) only [EVs] : _ = objAt s o).trans ho)
              have hol : o < σ2.length := by omega
              (refine ew5 @lf @cl1 @gl @ho2 @hol ?_; try with_reducible exact True.intro)
              refine ⟨by omega, (i + 1, ((σ2.set (s.length + 4) (some ⟨11, [cs]⟩)).set o none).set (s.length + 5) (some ⟨11, G ++ [cs]⟩), .msl (s.length + 5) 0 (G.length + 1), G ++ [cs]), by dsimp only; omega, ⟨by dsimp only; omega, ?_⟩, by (refine Fg_env ?_) <;> (try (refine ew ?_; try with_reducible exact True.intro)) <;> (repeat' (first | refine ⟨?_, ?_⟩ | exact EvV_int (by omega) | exact EvV_of (by simp) | exact EvV_nil _))⟩
              dsimp only
              rw [es, List.map_append]
              exact hG.appM (fun q hq => by simp (disch := first | omega | (simp only [List.length_append, List.length_set, List.length_cons, List.length_nil]; omega)) only [EVs]) (by simp <;> omega) g (by omega) (by simp <;> omega) (by omega) (by simp <;> omega) (by omega)
          · (refine ew3 @hd2 @numK_any @or_sc ?_; try with_reducible exact True.intro)
            rw [hd2] at es
            have es : bgI l (i + 1) = bgI l i := es
            refine ⟨?_, ?_⟩
            · rw [hrr]
              have hn0 : 0 ≤ List.length s := Nat.zero_le _
              generalize List.length s = m at hn0 ⊢
              revert m
              refine OkA_allN _ _ 0 (fun n hn => ?_) (fun n hn => ?_) ?_
              · simp only [sh]; split <;> omega
              · simp [shA, sh]; try omega
              · unfold OkA; decide +kernel
            rw [hrr, killAll_nil]
            refine ⟨(i + 1, ?st9q01, v3, G), ?c1, ⟨?c2, ?c4⟩, ?c3⟩
            case c3 => dsimp only; (refine Fg_env ?_) <;> (try (refine ew ?_; try with_reducible exact True.intro)) <;> (repeat' (first | refine ⟨?_, ?_⟩ | exact EvV_int (by omega) | exact EvV_of (by simp) | exact EvV_nil _))
            case c1 => dsimp only; omega
            case c2 => dsimp only; omega
            case c4 =>
              dsimp only
              rw [es]
              exact hG.frame fun q hq => by simp (disch := first | omega | (simp only [List.length_append, List.length_set, List.length_cons, List.length_nil]; omega)) only [EVs]
      · rcases B with _ | ⟨b0, B⟩
        · rw [List.map_cons] at eA
          have n1 : (a0.cells :: A.map Lk.cells = []) = False := by simp
          rw [List.map_nil] at eB
          have hr : ∀ σ : Store, resO σ 0 (A.length + 1) (some ⟨11, a0.cells :: A.map Lk.cells⟩) = some (lksV R) := fun σ => by
            have e1 : a0.cells :: A.map Lk.cells = R.map Lk.cells := by rw [hR]; simp
            have e2 : A.length + 1 = R.length := by rw [hR]; simp <;> omega
            have := resO_st (σ := σ) (st_Lk R) (s := 0) (l := R.length) (n := 11) (by simp)
            rw [List.drop_zero, List.take_of_length_le (by simp)] at this
            rw [e1, e2]; exact this
          have hrr : ∀ σ : Store, reachRs σ (a0.cells :: A.map Lk.cells) = [] := fun σ => by
            have e1 : a0.cells :: A.map Lk.cells = R.map Lk.cells := by rw [hR]; simp
            rw [e1]; exact reachRs_Lk _ _
          simp only [List.length_cons, List.length_nil] at hab
          (refine ew6 (And.intro hc hx) @numK_any @or_sc (And.intro tj n1) (And.intro eA eB) @hr ?_; try with_reducible exact True.intro)
          refine ⟨⟨by omega, by omega⟩, ?_⟩
          refine OwnK_frz cc (by (refine ew1 @hr ?_; try with_reducible exact True.intro)) rfl ?_
          (refine ew2 @numK_any @or_sc ?_; try with_reducible exact True.intro)
          repeat rw [hrr]
          repeat rw [killAll_nil]
          (refine ew2 @numK_any @or_sc ?_; try with_reducible exact True.intro)
          rw [hrr]
          rw [killAll_nil]
          (refine ew2 @numK_any @or_sc ?_; try with_reducible exact True.intro)
          refine PFK_of ch ?_
          rcases hd2 with hd2 | hd2
          · (refine ew3 @hd2 @numK_any @or_sc ?_; try with_reducible exact True.intro)
            rw [hd2] at es
            have es : bgI l (i + 1) = bgI l i ++ [x] := es
            refine ⟨?_, ?_⟩
            · rw [hrr]
              have hn0 : 0 ≤ List.length s := Nat.zero_le _
              generalize List.length s = m at hn0 ⊢
              revert m
              refine OkA_allN _ _ 0 (fun n hn => ?_) (fun n hn => ?_) ?_
              · simp only [sh]; split <;> omega
              · simp [shA, sh]; try omega
              · unfold OkA; decide +kernel
            rw [hrr, killAll_nil]
            rcases hG.cases with ⟨rfl, h1, rfl⟩ | ⟨o, rfl, ho, hlt⟩
            · (refine ew ?_; try with_reducible exact True.intro)
              refine RefK_got cy (by (refine ew1 @e4 ?_; try with_reducible exact True.intro)) ?_
              intro r σ2 os g
              obtain ⟨cs, rfl, k1⟩ := g.ow.agg_inv
              have gl : s.length + 6 ≤ σ2.length := by have := g.len; simp at this; omega
              have lf := cells_agg (k1.leaf rfl)
              have cl1 : cs.length = 11 := k1.len
              (refine ew3 @lf @cl1 @gl ?_; try with_reducible exact True.intro)
              refine ⟨by omega, (i + 1, (σ2.set (s.length + 4) (some ⟨11, [cs]⟩)).set (s.length + 5) (some ⟨11, [cs]⟩), .msl (s.length + 5) 0 1, [cs]), by dsimp only; omega, ⟨by dsimp only; omega, ?_⟩, by (refine Fg_env ?_) <;> (try (refine ew ?_; try with_reducible exact True.intro)) <;> (repeat' (first | refine ⟨?_, ?_⟩ | exact EvV_int (by omega) | exact EvV_of (by simp) | exact EvV_nil _))⟩
              dsimp only
              rw [es, List.map_append]
              exact hG.appN (fun q hq => by simp (disch := first | omega | (simp only [List.length_append, List.length_set, List.length_cons, List.length_nil]; omega)) only [EVs]) (by simp <;> omega) g (by omega) (by simp <;> omega) (by omega) (by simp <;> omega) (by omega)
            · (refine ew1 @ho ?_; try with_reducible exact True.intro)
              refine RefK_got cy (by (refine ew1 @e4 ?_; try with_reducible exact True.intro)) ?_
              intro r σ2 os g
              obtain ⟨cs, rfl, k1⟩ := g.ow.agg_inv
              have gl : s.length + 6 ≤ σ2.length := by have := g.len; simp at this; omega
              have lf := cells_agg (k1.leaf rfl)
              have cl1 : cs.length = 11 := k1.len
              have ho2 := (g.old o (by simp; omega)).trans ((by simp (disch := first | omega | (simp only [List.length_append, List.length_set, List.length_cons, List.length_nil]; omega)) only [EVs] : _ = objAt s o).trans ho)
              have hol : o < σ2.length := by omega
              (refine ew5 @lf @cl1 @gl @ho2 @hol ?_; try with_reducible exact True.intro)
              refine ⟨by omega, (i + 1, ((σ2.set (s.length + 4) (some ⟨11, [cs]⟩)).set o none).set (s.length + 5) (some ⟨11, G ++ [cs]⟩), .msl (s.length + 5) 0 (G.length + 1), G ++ [cs]), by dsimp only; omega, ⟨by dsimp only; omega, ?_⟩, by (refine Fg_env ?_) <;> (try (refine ew ?_; try with_reducible exact True.intro)) <;> (repeat' (first | refine ⟨?_, ?_⟩ | exact EvV_int (by omega) | exact EvV_of (by simp) | exact EvV_nil _))⟩
              dsimp only
              rw [es, List.map_append]
              exact hG.appM (fun q hq => by simp (disch := first | omega | (simp only [List.length_append, List.length_set, List.length_cons, List.length_nil]; omega)) only [EVs]) (by simp <;> omega) g (by omega) (by simp <;> omega) (by omega) (by simp <;> omega) (by omega)
          · (refine ew3 @hd2 @numK_any @or_sc ?_; try with_reducible exact True.intro)
            rw [hd2] at es
            have es : bgI l (i + 1) = bgI l i := es
            refine ⟨?_, ?_⟩
            · rw [hrr]
              have hn0 : 0 ≤ List.length s := Nat.zero_le _
              generalize List.length s = m at hn0 ⊢
              revert m
              refine OkA_allN _ _ 0 (fun n hn => ?_) (fun n hn => ?_) ?_
              · simp only [sh]; split <;> omega
              · simp [shA, sh]; try omega
              · unfold OkA; decide +kernel
            rw [hrr, killAll_nil]
            refine ⟨(i + 1, ?st9q10, v3, G), ?c1, ⟨?c2, ?c4⟩, ?c3⟩
            case c3 => dsimp only; (refine Fg_env ?_) <;> (try (refine ew ?_; try with_reducible exact True.intro)) <;> (repeat' (first | refine ⟨?_, ?_⟩ | exact EvV_int (by omega) | exact EvV_of (by simp) | exact EvV_nil _))
            case c1 => dsimp only; omega
            case c2 => dsimp only; omega
            case c4 =>
              dsimp only
              rw [es]
              exact hG.frame fun q hq => by simp (disch := first | omega | (simp only [List.length_append, List.length_set, List.length_cons, List.length_nil]; omega)) only [EVs]
        · rw [List.map_cons] at eA
          have n1 : (a0.cells :: A.map Lk.cells = []) = False := by simp
          rw [List.map_cons] at eB
          have n2 : (b0.cells :: B.map Lk.cells = []) = False := by simp
          have hr : ∀ σ : Store, resO σ 0 (A.length + 1 + (B.length + 1)) (some ⟨11, a0.cells :: (A.map Lk.cells ++ b0.cells :: B.map Lk.cells)⟩) = some (lksV R) := fun σ => by
            have e1 : a0.cells :: (A.map Lk.cells ++ b0.cells :: B.map Lk.cells) = R.map Lk.cells := by rw [hR]; simp
            have e2 : A.length + 1 + (B.length + 1) = R.length := by rw [hR]; simp <;> omega
            have := resO_st (σ := σ) (st_Lk R) (s := 0) (l := R.length) (n := 11) (by simp)
            rw [List.drop_zero, List.take_of_length_le (by simp)] at this
            rw [e1, e2]; exact this
          have hrr : ∀ σ : Store, reachRs σ (a0.cells :: (A.map Lk.cells ++ b0.cells :: B.map Lk.cells)) = [] := fun σ => by
            have e1 : a0.cells :: (A.map Lk.cells ++ b0.cells :: B.map Lk.cells) = R.map Lk.cells := by rw [hR]; simp
            rw [e1]; exact reachRs_Lk _ _
          simp only [List.length_cons, List.length_nil] at hab
          (refine ew6 (And.intro hc hx) @numK_any @or_sc (And.intro tj (And.intro n1 n2)) (And.intro eA eB) @hr ?_; try with_reducible exact True.intro)
          refine ⟨⟨by omega, by omega⟩, ⟨by omega, by omega⟩, ?_⟩
          refine OwnK_frz cc (by (refine ew1 @hr ?_; try with_reducible exact True.intro)) rfl ?_
          (refine ew2 @numK_any @or_sc ?_; try with_reducible exact True.intro)
          repeat rw [hrr]
          repeat rw [killAll_nil]
          (refine ew2 @numK_any @or_sc ?_; try with_reducible exact True.intro)
          rw [hrr]
          rw [killAll_nil]
          (refine ew2 @numK_any @or_sc ?_; try with_reducible exact True.intro)
          refine PFK_of ch ?_
          rcases hd2 with hd2 | hd2
          · (refine ew3 @hd2 @numK_any @or_sc ?_; try with_reducible exact True.intro)
            rw [hd2] at es
            have es : bgI l (i + 1) = bgI l i ++ [x] := es
            refine ⟨?_, ?_⟩
            · rw [hrr]
              have hn0 : 0 ≤ List.length s := Nat.zero_le _
              generalize List.length s = m at hn0 ⊢
              revert m
              refine OkA_allN _ _ 0 (fun n hn => ?_) (fun n hn => ?_) ?_
              · simp only [sh]; split <;> omega
              · simp [shA, sh]; try omega
              · unfold OkA; decide +kernel
            rw [hrr, killAll_nil]
            rcases hG.cases with ⟨rfl, h1, rfl⟩ | ⟨o, rfl, ho, hlt⟩
            · (refine ew ?_; try with_reducible exact True.intro)
              refine RefK_got cy (by (refine ew1 @e4 ?_; try with_reducible exact True.intro)) ?_
              intro r σ2 os g
              obtain ⟨cs, rfl, k1⟩ := g.ow.agg_inv
              have gl : s.length + 6 ≤ σ2.length := by have := g.len; simp at this; omega
              have lf := cells_agg (k1.leaf rfl)
              have cl1 : cs.length = 11 := k1.len
              (refine ew3 @lf @cl1 @gl ?_; try with_reducible exact True.intro)
              refine ⟨by omega, (i + 1, (σ2.set (s.length + 4) (some ⟨11, [cs]⟩)).set (s.length + 5) (some ⟨11, [cs]⟩), .msl (s.length + 5) 0 1, [cs]), by dsimp only; omega, ⟨by dsimp only; omega, ?_⟩, by (refine Fg_env ?_) <;> (try (refine ew ?_; try with_reducible exact True.intro)) <;> (repeat' (first | refine ⟨?_, ?_⟩ | exact EvV_int (by omega) | exact EvV_of (by simp) | exact EvV_nil _))⟩
              dsimp only
              rw [es, List.map_append]
              exact hG.appN (fun q hq => by simp (disch := first | omega | (simp only [List.length_append, List.length_set, List.length_cons, List.length_nil]; omega)) only [EVs]) (by simp <;> omega) g (by omega) (by simp <;> omega) (by omega) (by simp <;> omega) (by omega)
            · (refine ew1 @ho ?_; try with_reducible exact True.intro)
              refine RefK_got cy (by (refine ew1 @e4 ?_; try with_reducible exact True.intro)) ?_
              intro r σ2 os g
              obtain ⟨cs, rfl, k1⟩ := g.ow.agg_inv
              have gl : s.length + 6 ≤ σ2.length := by have := g.len; simp at this; omega
              have lf := cells_agg (k1.leaf rfl)
              have cl1 : cs.length = 11 := k1.len
              have ho2 := (g.old o (by simp; omega)).trans ((by simp (disch := first | omega | (simp only [List.length_append, List.length_set, List.length_cons, List.length_nil]; omega)) only [EVs] : _ = objAt s o).trans ho)
              have hol : o < σ2.length := by omega
              (refine ew5 @lf @cl1 @gl @ho2 @hol ?_; try with_reducible exact True.intro)
              refine ⟨by omega, (i + 1, ((σ2.set (s.length + 4) (some ⟨11, [cs]⟩)).set o none).set (s.length + 5) (some ⟨11, G ++ [cs]⟩), .msl (s.length + 5) 0 (G.length + 1), G ++ [cs]), by dsimp only; omega, ⟨by dsimp only; omega, ?_⟩, by (refine Fg_env ?_) <;> (try (refine ew ?_; try with_reducible exact True.intro)) <;> (repeat' (first | refine ⟨?_, ?_⟩ | exact EvV_int (by omega) | exact EvV_of (by simp) | exact EvV_nil _))⟩
              dsimp only
              rw [es, List.map_append]
              exact hG.appM (fun q hq => by simp (disch := first | omega | (simp only [List.length_append, List.length_set, List.length_cons, List.length_nil]; omega)) only [EVs]) (by simp <;> omega) g (by omega) (by simp <;> omega) (by omega) (by simp <;> omega) (by omega)
          · (refine ew3 @hd2 @numK_any @or_sc ?_; try with_reducible exact True.intro)
            rw [hd2] at es
            have es : bgI l (i + 1) = bgI l i := es
            refine ⟨?_, ?_⟩
            · rw [hrr]
              have hn0 : 0 ≤ List.length s := Nat.zero_le _
              generalize List.length s = m at hn0 ⊢
              revert m
              refine OkA_allN _ _ 0 (fun n hn => ?_) (fun n hn => ?_) ?_
              · simp only [sh]; split <;> omega
              · simp [shA, sh]; try omega
              · unfold OkA; decide +kernel
            rw [hrr, killAll_nil]
            refine ⟨(i + 1, ?st9q11, v3, G), ?c1, ⟨?c2, ?c4⟩, ?c3⟩
            case c3 => dsimp only; (refine Fg_env ?_) <;> (try (refine ew ?_; try with_reducible exact True.intro)) <;> (repeat' (first | refine ⟨?_, ?_⟩ | exact EvV_int (by omega) | exact EvV_of (by simp) | exact EvV_nil _))
            case c1 => dsimp only; omega
            case c2 => dsimp only; omega
            case c4 =>
              dsimp only
              rw [es]
              exact hG.frame fun q hq => by simp (disch := first | omega | (simp only [List.length_append, List.length_set, List.length_cons, List.length_nil]; omega)) only [EVs]
    · have hie : i = l.length := by omega
      subst hie
      (refine ew1 @hc ?_; try with_reducible exact True.intro)
      exact hG.fin
end Go.Ml
end
section
set_option linter.unusedSimpArgs false
set_option linter.unusedVariables false
set_option maxRecDepth 100000
set_option maxHeartbeats 8000000
namespace Go.Ml
def stp (v i j : Nat) (s : Gd × Nat) : Gd × Nat := if s.1 v i = true ∧ s.1 v j = true ∧ s.1 i j = false then (gset (gset s.1 i j true) j i true, s.2 + 1) else s
def cj (v i : Nat) (s : Gd × Nat) : Nat → Gd × Nat
  | 0 => s
  | n + 1 => if i < n then stp v i n (cj v i s n) else s
def ci (v : Nat) (g : Gd) : Nat → Gd × Nat
  | 0 => (g, 0)
  | n + 1 => cj v n (ci v g n) 10
def cz (v : Nat) (g : Gd) : Nat → Gd
  | 0 => g
  | n + 1 => gset (gset (cz v g n) v n false) n v false
def cutG (g : Gd) (v : Nat) : Gd := cz v (ci v g 10).1 10
def dg (g : Gd) (v : Nat) : Nat → Nat
  | 0 => 0
  | n + 1 => dg g v n + if g v n = true then 1 else 0
end Go.Ml
end
section
set_option linter.unusedSimpArgs false
set_option linter.unusedVariables false
set_option maxRecDepth 100000
set_option maxHeartbeats 8000000
namespace Go.Ml
def stE (a b : Nat) (s : Gd × Nat) : Gd × Nat := (gset (gset s.1 a b true) b a true, if s.1 a b = true then s.2 else s.2 + 1)
def ej (L : List Int) (i : Nat) (s : Gd × Nat) : Nat → Gd × Nat
  | 0 => s
  | k + 1 => stE (L.getD i 0).toNat (L.getD (i + 1 + k) 0).toNat (ej L i s k)
end Go.Ml
end
section
set_option linter.unusedSimpArgs false
set_option linter.unusedVariables false
set_option maxRecDepth 100000
set_option maxHeartbeats 8000000
namespace Go.Ml
structure Gok (g : Gd) : Prop where
  irr : ∀ x, g x x = false
  sym : ∀ x y, g x y = g y x
structure RelE (g : Gd) (v : Nat) (xs : List Nat) (sI sS : Gd × Nat) : Prop where
  n : sS.2 = sI.2
  eq : ∀ x y, x ≠ v → y ≠ v → sS.1 x y = sI.1 x y
  ok : Gok sI.1
  row : ∀ y, sI.1 v y = g v y
  rs : ∀ y, sS.1 v y = (g v y && decide (y ∈ xs ∨ 10 ≤ y))
  cs : ∀ y, sS.1 y v = (g v y && decide (y ∈ xs ∨ 10 ≤ y))
structure RelF (g : Gd) (v : Nat) (f : Nat → Bool) (sI sS : Gd × Nat) : Prop where
  n : sS.2 = sI.2
  eq : ∀ x y, x ≠ v → y ≠ v → sS.1 x y = sI.1 x y
  ok : Gok sI.1
  row : ∀ y, sI.1 v y = g v y
  rs : ∀ y, sS.1 v y = f y
  cs : ∀ y, sS.1 y v = f y
end Go.Ml
end
section
set_option linter.unusedSimpArgs false
set_option linter.unusedVariables false
set_option maxRecDepth 100000
set_option maxHeartbeats 8000000
namespace Go.Ml
def woI (l : List Int) (n : Int) : List Int := l.filter fun x => decide (x ≠ n)
end Go.Ml
end
section
set_option linter.unusedSimpArgs false
set_option linter.unusedVariables false
set_option maxRecDepth 100000
set_option maxHeartbeats 8000000
namespace Go.Ml
def dgI (g : Gd) (v : Int) : Nat := dg g v.toNat 10
def pk (g : Gd) : List Int → Int → Int
  | [], b => b
  | v :: l, b => pk g l (if dgI g v < dgI g b then v else b)
def chI (rest last : List Int) : List Int := rest.filter fun x => decide (x ∉ last)
def ch2 (rest last : List Int) : List Int := if chI rest last = [] then rest else chI rest last
def bstI (g : Gd) (rest last : List Int) : Int := pk g (ch2 rest last) ((ch2 rest last).getD 0 0)
def mdG (last : List Int) (g0 : Gd) (ns : List Int) : Nat → Gd × List Int × List Int
  | 0 => (g0, ns, [])
  | k + 1 => (cutG (mdG last g0 ns k).1 (bstI (mdG last g0 ns k).1 (mdG last g0 ns k).2.1 last).toNat, woI (mdG last g0 ns k).2.1 (bstI (mdG last g0 ns k).1 (mdG last g0 ns k).2.1 last), (mdG last g0 ns k).2.2 ++ [bstI (mdG last g0 ns k).1 (mdG last g0 ns k).2.1 last])
structure MdOk (last : List Int) (g0 : Gd) (ns : List Int) (k : Nat) : Prop where
  len : (mdG last g0 ns k).2.1.length + k = ns.length
  out : (mdG last g0 ns k).2.2.length = k
  nd : (mdG last g0 ns k).2.1.Nodup
  sub : ∀ x ∈ (mdG last g0 ns k).2.1, x ∈ ns
  rest : (mdG last g0 ns k).2.1 = ns.filter fun x => decide (x ∉ (mdG last g0 ns k).2.2)
  gok : Gok (mdG last g0 ns k).1
end Go.Ml
end
section
set_option linter.unusedSimpArgs false
set_option linter.unusedVariables false
set_option maxRecDepth 100000
set_option maxHeartbeats 16000000
namespace Go.Ml
def IsA (s : Store) (v : V) (xs : List Int) : Prop := (xs = [] ∧ v = .nils) ∨ ∃ p, v = .msl p 0 xs.length ∧ objAt s p = some ⟨1, irows xs⟩ ∧ p ≠ 0 ∧ 0 < xs.length
theorem IsA.fr {s s2 : Store} {v : V} {xs : List Int} (h : IsA s v xs) (hf : ∀ p, p ≠ 0 → p < s.length → objAt s2 p = objAt s p) : IsA s2 v xs := by
  rcases h with h | ⟨p, h1, h2, h3, h4⟩
  · exact .inl h
  · exact .inr ⟨p, h1, (hf p h3 (objAt_lt h2)).trans h2, h3, h4⟩
structure OrI (ns : List Int) (k : Nat) (o : List Int) : Prop where
  len : o.length = k
  sub : ∀ a ∈ o, a ∈ ns.take k
  nd : o.Nodup
end Go.Ml
end
section
set_option linter.unusedSimpArgs false
set_option linter.unusedVariables false
set_option maxRecDepth 100000
set_option maxHeartbeats 8000000
namespace Go.Ml
def F_laws_hasInt : Fn := ⟨2, 17, [.tmp 4], (.seq (.reg false 0 [oN 4 (.mov (.c (.bool false)))]) (.seq (.seq (.reg false 0 [oN 7 (oV 0), oN 8 (.len (.t 7)), oN 9 (.mov (cI 0))]) (.block 0 (.loop (.seq (.reg false 0 [oN 10 (.bin .lss (.t 9) (.t 8))]) (.seq (.cond (.t 10) .skip (.exit 0)) (.seq (.block 1 (.seq (.reg false 0 [oN 11 (.idx 1 (.t 7) (.t 9)), oN 12 (.load 1 false (.t 11)), oN 6 (oV 12)]) (.seq (.reg false 0 [oN 13 (oV 6), oN 14 (oV 1), oN 15 (.bin .eql (.t 13) (.t 14))]) (.cond (.t 15) (.seq (.reg false 0 [oN 4 (.mov (.c (.bool true)))]) .ret) .skip)))) (.reg false 0 [oN 16 (.bin .add (.t 9) (cI 1)), oN 9 (oV 16)]))))))) (.seq (.reg false 0 [oN 4 (.mov (.c (.bool false)))]) .ret)))⟩
structure D_laws_hasInt (T : Nat → Option Fn) : Prop where
  hT : T 309 = some F_laws_hasInt
theorem c_lhasInt {T : Nat → Option Fn} (h : D_laws_hasInt T) {l : List Int} {n : Int} (hl : l.length ≤ 9223372036854775807 := by first | omega | assumption | (simp; omega)) : PF T 309 [ints l, iv n] (.bool (decide (n ∈ l))) := by
  refine pf_end (fun _ _ => false) h.hT rfl rfl ?_
  dsimp only [F_laws_hasInt, oN, oS, oG, oK, oA, oH, oV, cI]
  (refine ev ?_; try with_reducible exact True.intro)
  refine loop_at (fun _ _ => false) (α := Nat) (fun i => ⟨argE [ints l, iv n, .any, .any, .bool false, .any, .any, ints l, iv (l.length : Nat), iv (i : Nat)], [], 0, 0, [], []⟩) (fun i => i ≤ l.length ∧ ∀ j, j < i → l.getD j 0 ≠ n) (fun i => l.length - i) rfl 0 ?_ ?_ ?_
  · exact ⟨by omega, by intro j hj; omega⟩
  · first | ((refine Fg_env ?_) <;> (try (refine ev ?_; try with_reducible exact True.intro)) <;> (repeat' (first | refine ⟨?_, ?_⟩ | exact EvV_int (by omega) | exact EvV_of (by simp) | exact EvV_nil _)); done) | ((refine Fg_re [] (by simp) (by intro p hp; cases hp) rfl ?_) <;> (try (refine ev ?_; try with_reducible exact True.intro)) <;> (repeat' (first | exact True.intro | omega | exact CanE_ptr rfl (by simp) | refine ⟨?_, ?_⟩ | exact of_eq_true (CanE_nil _ _ _) | exact CanE_of rfl (by simp; done) | exact CanE_of rfl rfl | (refine CanE_msl rfl ?_ rfl; simp [irows]; done) | (refine CanE_msl rfl ?_ rfl; simp [irows]; omega) | (refine CanE_frz ?_ ?_; (focus ((refine ev ?_; try with_reducible exact True.intro); done)); (intro q hq k s0 l0; simp; done)))); done)
  · rintro i ⟨hi, hj⟩
    (refine ev ?_; try with_reducible exact True.intro)
    refine brK_dec (fun hc => ?_) fun hc => ?_ <;> (refine ev1 @hc ?_; try with_reducible exact True.intro)
    · have hil : i < l.length := by omega
      by_cases he : l.getD i 0 = n
      · (refine ev1 @he ?_; try with_reducible exact True.intro)
        have : n ∈ l := by rw [← he, List.getD_eq_getElem?_getD, List.getElem?_eq_getElem hil]; exact List.getElem_mem hil
        rw [decide_eq_true this]
      · (refine ev1 @he ?_; try with_reducible exact True.intro)
        refine ⟨i + 1, by omega, ⟨by omega, fun j hj' => ?_⟩, by first | ((refine Fg_env ?_) <;> (try (refine ev ?_; try with_reducible exact True.intro)) <;> (repeat' (first | refine ⟨?_, ?_⟩ | exact EvV_int (by omega) | exact EvV_of (by simp) | exact EvV_nil _)); done) | ((refine Fg_re [] (by simp) (by intro p hp; cases hp) rfl ?_) <;> (try (refine ev ?_; try with_reducible exact True.intro)) <;> (repeat' (first | exact True.intro | omega | exact CanE_ptr rfl (by simp) | refine ⟨?_, ?_⟩ | exact of_eq_true (CanE_nil _ _ _) | exact CanE_of rfl (by simp; done) | exact CanE_of rfl rfl | (refine CanE_msl rfl ?_ rfl; simp [irows]; done) | (refine CanE_msl rfl ?_ rfl; simp [irows]; omega) | (refine CanE_frz ?_ ?_; (focus ((refine ev ?_; try with_reducible exact True.intro); done)); (intro q hq k s0 l0; simp; done)))); done)⟩
        by_cases e : j = i
        · subst e; exact he
        · exact hj j (by omega)
    · have : n ∉ l := by
        intro hm
        obtain ⟨j, hj'⟩ := List.mem_iff_getElem?.1 hm
        have hlt := (List.getElem?_eq_some_iff.1 hj').1
        refine hj j (by omega) ?_
        rw [List.getD_eq_getElem?_getD, hj']; rfl
      rw [decide_eq_false this]
end Go.Ml
end
section
set_option linter.unusedSimpArgs false
set_option linter.unusedVariables false
set_option maxRecDepth 100000
set_option maxHeartbeats 8000000
namespace Go.Ml
def F_laws_FnGraph : Fn := ⟨1, 73, [.tmp 2], (.seq (.reg false 0 [oN 2 (.mov (.c (.bool false)))]) (.seq (.seq (.reg false 0 [oN 12 (oV 0), oN 13 (.len (.t 12)), oN 14 (.bin .gtr (.t 13) (cI 1048576))]) (.cond (.t 14) (.seq (.reg false 0 [oN 2 (.mov (.c (.bool true)))]) .ret) .skip)) (.seq (.reg false 0 [oN 15 (oV 0), oN 16 (.call 171 [(.t 15)]), oN 3 (oV 16)]) (.seq (.seq (.reg false 0 [oN 17 (oV 3), oN 18 (.call 339 [(.t 17)]), oN 19 (.un .not (.t 18))]) (.cond (.t 19) (.seq (.reg false 0 [oN 2 (.mov (.c (.bool false)))]) .ret) .skip)) (.seq (.reg false 0 [oN 20 (oV 3), oN 21 (.call 375 [(.t 20)]), oN 4 (oV 21)]) (.seq (.seq (.reg false 0 [oN 22 (oV 3), oN 23 (.len (.t 22)), oN 24 (.mov (cI 0))]) (.block 0 (.loop (.seq (.reg false 0 [oN 25 (.bin .lss (.t 24) (.t 23))]) (.seq (.cond (.t 25) .skip (.exit 0)) (.seq (.block 1 (.seq (.reg false 1 [oK 26 1 (oV 24), oK 27 1 (.idx 11 (.t 22) (.t 24)), oK 28 1 (.load 11 true (.t 27)), oN 6 (.alloc [.int .i64 0, .int .i64 0, .bool false, .nils, .nils, .bool false, .nils, .nils, .bool false, .nils, .nils]), oK 5 1 (oV 26), ⟨none, none, 1, .store 11 (.t 6) (.t 28), []⟩]) (.seq (.reg true 3 [oN 29 (.mkSl 11 [.int .i64 0, .int .i64 0, .bool false, .nils, .nils, .bool false, .nils, .nils, .bool false, .nils, .nils] 0 []), oK 30 3 (oV 3), oK 31 3 (oV 5), oA 32 3 (.slice 11 (.t 30) none (some (.t 31))) [1, 2], oA 33 1 (.app 11 184 (.t 29) (.t 32)) [0, 3], oK 34 3 (oV 3), oK 35 3 (oV 5), oA 36 3 (.bin .add (.t 35) (cI 1)) [6], oA 37 3 (.slice 11 (.t 34) (some (.t 36)) none) [5, 7], oA 38 2 (.app 11 184 (.t 33) (.t 37)) [4, 8, 4], oA 7 3 (oV 38) [9, 9, 0, 1, 2, 3, 4, 5, 6, 7, 8, 9]]) (.seq (.reg false 0 [oN 8 (.mov (.c (.bool false)))]) (.seq (.seq (.reg false 0 [oN 39 (oV 4), oN 40 (.len (.t 39)), oN 41 (.mov (cI 0))]) (.block 2 (.loop (.seq (.reg false 0 [oN 42 (.bin .lss (.t 41) (.t 40))]) (.seq (.cond (.t 42) .skip (.exit 2)) (.seq (.block 3 (.seq (.reg false 1 [oK 43 1 (.idx 11 (.t 39) (.t 41)), oK 44 1 (.load 11 true (.t 43)), oN 10 (.alloc [.int .i64 0, .int .i64 0, .bool false, .nils, .nils, .bool false, .nils, .nils, .bool false, .nils, .nils]), ⟨none, none, 1, .store 11 (.t 10) (.t 44), []⟩]) (.reg false 0 [oN 45 (oV 8), oN 46 (oV 45), oG 46 false 47 (.fld 0 (.t 10)), oG 46 false 48 (.load 1 false (.t 47)), oG 46 false 49 (.fld 0 (.t 6)), oG 46 false 50 (.load 1 false (.t 49)), oG 46 false 51 (.bin .eql (.t 48) (.t 50)), oG 46 false 52 (oV 51), oG 52 true 53 (.fld 1 (.t 10)), oG 52 true 54 (.load 1 false (.t 53)), oG 52 true 55 (.fld 1 (.t 6)), oG 52 true 56 (.load 1 false (.t 55)), oG 52 true 57 (.bin .eql (.t 54) (.t 56)), oG 46 false 58 (.pick (.t 52) (.t 57) (.c (.bool false))), oN 59 (.pick (.t 46) (.c (.bool true)) (.t 58)), oN 8 (oV 59)]))) (.reg false 0 [oN 60 (.bin .add (.t 41) (cI 1)), oN 41 (oV 60)]))))))) (.seq (.reg true 0 [oN 61 (oV 7), oN 62 (.fld 0 (.t 6)), oA 63 0 (.load 1 false (.t 62)) [1], oA 64 0 (.call 341 [(.t 61), (.t 63)]) [0, 2], oN 65 (.fld 1 (.t 6)), oA 66 0 (.load 1 false (.t 65)) [4], oA 67 0 (.call 309 [(.t 64), (.t 66)]) [3, 5, 3], oA 68 0 (.un .not (.t 67)) [6], oA 11 0 (oV 68) [7, 6, 0, 1, 2, 3, 4, 5, 6, 7]]) (.seq (.reg false 0 [oN 69 (oV 8), oN 70 (oV 11), oN 71 (.beq true (.t 69) (.t 70))]) (.cond (.t 71) (.seq (.reg false 0 [oN 2 (.mov (.c (.bool false)))]) .ret) .skip)))))))) (.reg false 0 [oN 72 (.bin .add (.t 24) (cI 1)), oN 24 (oV 72)]))))))) (.seq (.reg false 0 [oN 2 (.mov (.c (.bool true)))]) .ret)))))))⟩
structure D_laws_FnGraph (T : Nat → Option Fn) : Prop where
  hT : T 377 = some F_laws_FnGraph
  d_spec_MakeSet : D_spec_MakeSet T
  d_laws_hasInt : D_laws_hasInt T
  d_impl_IsGrounded : D_impl_IsGrounded T
  d_impl_ComponentOf : D_impl_ComponentOf T
  d_impl_Bridges : D_impl_Bridges T
theorem CanE_frzL {W : Win} {σ : Store} {q n : Nat} {L : List Lk} (h : objAt σ q = some ⟨11, L.map Lk.cells⟩) (hq : ∀ (k s0 l0 : Nat), W[k]? ≠ some (some (q, s0, l0))) (hn : n = L.length) : CanE W σ (lksV L) (.msl q 0 n) := by
  subst hn
  refine CanE_frz ?_ fun p hp k s0 l0 => ?_
  · have := res_mslS (n := 10) h (st_Lk L)
    rw [List.length_map] at this
    exact this
  · have hp : p ∈ reach σ (11 + 1) (.msl q 0 L.length) := hp
    have e : p = q := by
      unfold reach at hp
      rcases List.mem_cons.1 hp with e | hp
      · exact e
      · exfalso
        dsimp only at hp
        rw [h] at hp
        obtain ⟨r, hr, hp⟩ := List.mem_flatMap.1 hp
        obtain ⟨v, hv, hp⟩ := List.mem_flatMap.1 hp
        rw [show reach σ 11 v = [] from reach_still (st_Lk L r hr v hv)] at hp
        cases hp
    rw [e]; exact hq k s0 l0
theorem c_lawFnGraph {T : Nat → Option Fn} (h : D_laws_FnGraph T) (x : List UInt8) (wx : x.length ≤ 9223372036854775807) : PF T 377 [bytesV x] (.bool true) := by
  refine pf_endL (fun _ _ => false) h.hT rfl rfl ?_
  dsimp only [F_laws_FnGraph, oN, oS, oG, oK, oA, oH, oV, cI]
  (refine ev ?_; try with_reducible exact True.intro)
  refine brK_dec (fun hb => ?_) fun hb => ?_
  · (refine ev ?_; try with_reducible exact True.intro)
    exact laxV_refl _
  have hx : x.length ≤ 1048576 := by omega
  obtain ⟨n, S, hS, cm⟩ := c_MakeSet h.d_spec_MakeSet hx
  have hw := hS.wf
  have hz := hS.sz
  have hlen := hS.len
  have hok := hS.ok
  have cg := c_iIsGrounded h.d_impl_IsGrounded (s := S) hw (by omega)
  rw [draw_gr hS] at cg
  have cb := (po_iBridges h.d_impl_Bridges (l := S) hw (by omega)).frz (dep_lks _ _)
  have hbl := (bgV_sub S).length_le
  clear hS
  (refine ev ?_; try with_reducible exact True.intro)
  refine PFK_of cm ?_
  (refine ev ?_; try with_reducible exact True.intro)
  refine PFK_of cg ?_
  (refine ev ?_; try with_reducible exact True.intro)
  refine PFK_of cb ?_
  (refine ev ?_; try with_reducible exact True.intro)
  refine loop_at (fun _ _ => false) (α := Nat) (fun i => ⟨argE [.any, .any, .bool false, lksV S, lksV (bgV S), .any, .any, .any, .any, .any, .any, .any, .any, .any, .any, .any, .any, .any, .any, .any, .any, .any, lksV S, iv (S.length : Nat), iv (i : Nat)], [], 0, 0, [], []⟩) (fun i => i ≤ S.length) (fun i => S.length - i) rfl 0 ?_ ?_ ?_
  · exact Nat.zero_le _
  · first | ((refine Fg_env ?_) <;> (try (refine ev ?_; try with_reducible exact True.intro)) <;> (repeat' (first | refine ⟨?_, ?_⟩ | exact EvV_int (by omega) | exact EvV_of (by simp) | exact EvV_nil _)); done) | ((refine Fg_re [] (by simp) (by intro p hp; cases hp) rfl ?_) <;> (try (refine ev ?_; try with_reducible exact True.intro)) <;> (repeat' (first | exact True.intro | omega | exact CanE_ptr rfl (by simp) | refine ⟨?_, ?_⟩ | exact of_eq_true (CanE_nil _ _ _) | exact CanE_of rfl (by simp; done) | exact CanE_of rfl rfl | (refine CanE_msl rfl ?_ rfl; simp [irows]; done) | (refine CanE_msl rfl ?_ rfl; simp [irows]; omega) | (refine CanE_frz ?_ ?_; (focus ((refine ev ?_; try with_reducible exact True.intro); done)); (intro q hq k s0 l0; simp; done)))); done)
  · rintro i hi
    by_cases hc : (i : Int) < (S.length : Nat)
    · have hil : i < S.length := by omega
      have hmx : (S.map Lk.cells).getD i [] = (S.getD i default).cells := mg hil
      have hany := bg_any hok hil
      have hbk : bgK S i = !decide ((S.getD i default).b ∈ cpM (bgR S i) (S.getD i default).a) := rfl
      have wr := wfL_sub hw (bgR_sub S i)
      have hrl := bgR_len S i
      have cc := (po_iComponentOf h.d_impl_ComponentOf (s := bgR S i) (v := (S.getD i default).a) wr (by omega)).frz (dep_ints _ _)
      have ch := c_lhasInt h.d_laws_hasInt (l := cpM (bgR S i) (S.getD i default).a) (n := (S.getD i default).b) (by have := cpM_len (bgR S i) (S.getD i default).a; omega)
      have hR : bgR S i = S.take i ++ S.drop (i + 1) := rfl
      have hab : (S.take i).length + (S.drop (i + 1)).length ≤ 1048576 := by simp; omega
      have tj : ((i : Int) + 1).toNat = i + 1 := by omega
      have eA : (S.map Lk.cells).take i = (S.take i).map Lk.cells := (List.map_take ..).symm
      have eB : (S.map Lk.cells).drop (i + 1) = (S.drop (i + 1)).map Lk.cells := (List.map_drop ..).symm
      have hcn : ∀ (a : List V) (l : List (List V)), (a :: l = []) = False := fun _ _ => eq_false (List.cons_ne_nil _ _)
      generalize S.take i = A at *
      generalize S.drop (i + 1) = B at *
      generalize bgR S i = Rr at *
      generalize bgK S i = kb at *
      generalize S.getD i default = l at *
      rcases A with _ | ⟨a0, A⟩ <;> rcases B with _ | ⟨b0, B⟩
      all_goals simp only [List.map_nil, List.map_cons] at eA eB
      all_goals (refine ev6 (And.intro hc hmx) @numK_any @or_sc @tj (And.intro eA eB) @hcn ?_; try with_reducible exact True.intro)
      all_goals simp only [List.length_nil, List.length_cons] at hab
      all_goals (try refine ⟨⟨by omega, by omega⟩, ?_⟩)
      all_goals (try refine ⟨⟨by omega, by omega⟩, ?_⟩)
      all_goals refine ⟨by unfold OkA; rfl, ?_⟩
      all_goals (refine ev ?_; try with_reducible exact True.intro)
      all_goals
        refine loop_at (fun _ _ => false) (α := Nat) (fun qo => ⟨argE [.any, .any, .bool false, lksV S, lksV (bgV S), .any, .ptr 0 0 0, lksV Rr, .bool (((bgV S).take qo).any (sameAB l)), .any, .any, .any, .any, .any, .any, .any, .any, .any, .any, .any, .any, .any, lksV S, iv (S.length : Nat), iv (i : Nat), .any, .any, .any, .any, .any, .any, .any, .any, .any, .any, .any, .any, .any, .any, lksV (bgV S), iv ((bgV S).length : Nat), iv (qo : Nat)], [some ⟨11, [l.cells]⟩], 0, 0, [], []⟩) (fun qo => qo ≤ (bgV S).length) (fun qo => (bgV S).length - qo) rfl 0 ?_ ?_ ?_
        · exact Nat.zero_le _
        · refine Fg_re [(0, ⟨11, [l.cells]⟩)] (by simp) (by intro p hp; rw [List.mem_singleton.1 hp]; exact ⟨rfl, st_Lk [l]⟩) rfl ?_
          (refine ev ?_; try with_reducible exact True.intro)
          (repeat' (first | exact True.intro | exact CanE_ptr rfl (by simp) | refine ⟨?_, ?_⟩ | exact CanE_of rfl rfl))
          all_goals first | rfl | (rw [show Rr = [] from hR]; exact of_eq_true (CanE_nil _ _ _)) | exact CanE_frzL (L := Rr) (by rw [hR]; simp [objAt]) (by intro k s0 l0; rcases k with _ | k <;> simp) (by rw [hR]; simp <;> omega)
        · rintro qo hqo
          by_cases hc2 : (qo : Int) < ((bgV S).length : Nat)
          · have hql : qo < (bgV S).length := by omega
            have hm2 : ((bgV S).map Lk.cells).getD qo [] = ((bgV S).getD qo default).cells := mg hql
            have es : ((bgV S).take (qo + 1)).any (sameAB l) = (((bgV S).take qo).any (sameAB l) || sameAB l ((bgV S).getD qo default)) := by
              rw [take_snoc hql, List.any_append]; simp
            generalize (bgV S).getD qo default = y at *
            obtain ⟨t, ht⟩ : ∃ t, ((bgV S).take qo).any (sameAB l) = t := ⟨_, rfl⟩
            rw [ht] at es ⊢
            cases t
            · by_cases e1 : y.a = l.a
              · by_cases e2 : y.b = l.b
                · have f1 : (y.a = l.a) = True := eq_true e1
                  have f2 : (y.b = l.b) = True := eq_true e2
                  have es2 : ((bgV S).take (qo + 1)).any (sameAB l) = true := by rw [es]; simp [sameAB, e1, e2]
                  (refine ev4 @hc2 @hm2 @f1 @f2 ?_; try with_reducible exact True.intro)
                  refine ⟨qo + 1, by omega, by omega, ?_⟩
                  rw [es2]
                  (refine Fg_re [(0, _)] (by simp) (by intro p hp; simp only [List.mem_cons, List.not_mem_nil, or_false] at hp; rcases hp with rfl <;> refine ⟨rfl, ?_⟩ <;> first | exact ir_still _ | simp [stillR, V.still]) rfl ?_) <;> (try (refine ev ?_; try with_reducible exact True.intro)) <;> (repeat' (first | exact True.intro | omega | exact CanE_ptr rfl (by simp) | refine ⟨?_, ?_⟩ | exact of_eq_true (CanE_nil _ _ _) | exact CanE_of rfl (by simp; done) | exact CanE_of rfl rfl | (refine CanE_msl rfl ?_ rfl; simp [irows]; done) | (refine CanE_msl rfl ?_ rfl; simp [irows]; omega) | (refine CanE_frz ?_ ?_; (focus ((refine ev ?_; try with_reducible exact True.intro); done)); (intro q hq k s0 l0; simp; done))))
                · have f1 : (y.a = l.a) = True := eq_true e1
                  have es2 : ((bgV S).take (qo + 1)).any (sameAB l) = false := by rw [es]; simp [sameAB, e2]
                  (refine ev4 @hc2 @hm2 @f1 @e2 ?_; try with_reducible exact True.intro)
                  refine ⟨qo + 1, by omega, by omega, ?_⟩
                  rw [es2]
                  (refine Fg_re [(0, _)] (by simp) (by intro p hp; simp only [List.mem_cons, List.not_mem_nil, or_false] at hp; rcases hp with rfl <;> refine ⟨rfl, ?_⟩ <;> first | exact ir_still _ | simp [stillR, V.still]) rfl ?_) <;> (try (refine ev ?_; try with_reducible exact True.intro)) <;> (repeat' (first | exact True.intro | omega | exact CanE_ptr rfl (by simp) | refine ⟨?_, ?_⟩ | exact of_eq_true (CanE_nil _ _ _) | exact CanE_of rfl (by simp; done) | exact CanE_of rfl rfl | (refine CanE_msl rfl ?_ rfl; simp [irows]; done) | (refine CanE_msl rfl ?_ rfl; simp [irows]; omega) | (refine CanE_frz ?_ ?_; (focus ((refine ev ?_; try with_reducible exact True.intro); done)); (intro q hq k s0 l0; simp; done))))
              · have es2 : ((bgV S).take (qo + 1)).any (sameAB l) = false := by rw [es]; simp [sameAB, e1]
                (refine ev3 @hc2 @hm2 @e1 ?_; try with_reducible exact True.intro)
                refine ⟨qo + 1, by omega, by omega, ?_⟩
                rw [es2]
                (refine Fg_re [(0, _)] (by simp) (by intro p hp; simp only [List.mem_cons, List.not_mem_nil, or_false] at hp; rcases hp with rfl <;> refine ⟨rfl, ?_⟩ <;> first | exact ir_still _ | simp [stillR, V.still]) rfl ?_) <;> (try (refine ev ?_; try with_reducible exact True.intro)) <;> (repeat' (first | exact True.intro | omega | exact CanE_ptr rfl (by simp) | refine ⟨?_, ?_⟩ | exact of_eq_true (CanE_nil _ _ _) | exact CanE_of rfl (by simp; done) | exact CanE_of rfl rfl | (refine CanE_msl rfl ?_ rfl; simp [irows]; done) | (refine CanE_msl rfl ?_ rfl; simp [irows]; omega) | (refine CanE_frz ?_ ?_; (focus ((refine ev ?_; try with_reducible exact True.intro); done)); (intro q hq k s0 l0; simp; done))))
            · rw [Bool.true_or] at es
              (refine ev2 @hc2 @hm2 ?_; try with_reducible exact True.intro)
              refine ⟨qo + 1, by omega, by omega, ?_⟩
              rw [es]
              (refine Fg_re [(0, _)] (by simp) (by intro p hp; simp only [List.mem_cons, List.not_mem_nil, or_false] at hp; rcases hp with rfl <;> refine ⟨rfl, ?_⟩ <;> first | exact ir_still _ | simp [stillR, V.still]) rfl ?_) <;> (try (refine ev ?_; try with_reducible exact True.intro)) <;> (repeat' (first | exact True.intro | omega | exact CanE_ptr rfl (by simp) | refine ⟨?_, ?_⟩ | exact of_eq_true (CanE_nil _ _ _) | exact CanE_of rfl (by simp; done) | exact CanE_of rfl rfl | (refine CanE_msl rfl ?_ rfl; simp [irows]; done) | (refine CanE_msl rfl ?_ rfl; simp [irows]; omega) | (refine CanE_frz ?_ ?_; (focus ((refine ev ?_; try with_reducible exact True.intro); done)); (intro q hq k s0 l0; simp; done))))
          · have hqn : qo = (bgV S).length := by omega
            subst hqn
            rw [List.take_length, hany, hbk]
            obtain ⟨d, hd⟩ : ∃ d, decide (l.b ∈ cpM Rr l.a) = d := ⟨_, rfl⟩
            rw [hd] at ch ⊢
            (refine ev1 @hc2 ?_; try with_reducible exact True.intro)
            refine PFK_of cc ?_
            (refine ev ?_; try with_reducible exact True.intro)
            refine PFK_of ch ?_
            cases d
            · (refine ev ?_; try with_reducible exact True.intro)
              exact ⟨i + 1, by omega, by omega, by (refine Fg_re [] (by simp) (by intro p hp; cases hp) rfl ?_) <;> (try (refine ev ?_; try with_reducible exact True.intro)) <;> (repeat' (first | exact True.intro | omega | exact CanE_ptr rfl (by simp) | refine ⟨?_, ?_⟩ | exact of_eq_true (CanE_nil _ _ _) | exact CanE_of rfl (by simp; done) | exact CanE_of rfl rfl | (refine CanE_msl rfl ?_ rfl; simp [irows]; done) | (refine CanE_msl rfl ?_ rfl; simp [irows]; omega) | (refine CanE_frz ?_ ?_; (focus ((refine ev ?_; try with_reducible exact True.intro); done)); (intro q hq k s0 l0; simp; done))))⟩
            · (refine ev ?_; try with_reducible exact True.intro)
              exact ⟨i + 1, by omega, by omega, by (refine Fg_re [] (by simp) (by intro p hp; cases hp) rfl ?_) <;> (try (refine ev ?_; try with_reducible exact True.intro)) <;> (repeat' (first | exact True.intro | omega | exact CanE_ptr rfl (by simp) | refine ⟨?_, ?_⟩ | exact of_eq_true (CanE_nil _ _ _) | exact CanE_of rfl (by simp; done) | exact CanE_of rfl rfl | (refine CanE_msl rfl ?_ rfl; simp [irows]; done) | (refine CanE_msl rfl ?_ rfl; simp [irows]; omega) | (refine CanE_frz ?_ ?_; (focus ((refine ev ?_; try with_reducible exact True.intro); done)); (intro q hq k s0 l0; simp; done))))⟩
    · (refine ev1 @hc ?_; try with_reducible exact True.intro)
      exact laxV_refl _
end Go.Ml
end
section
set_option linter.unusedSimpArgs false
namespace Go.Ml
def OutOk (P : Program) (fid : Nat) (o : OutF) : Prop :=
  ∀ args σ r σ', o.sem args σ r σ' → ∀ w M D (vals : Array Value), rdL w D (XS M D) args vals.toList → SRel w D M σ → Calls P fid vals w (Post M D w σ.length r σ')
def Fits (P : Program) (ν : Nat → Option Nat) (T : Nat → Option Fn) : Prop :=
  ∀ fid f F, ν fid = some f → T f = some F → (∃ fn, P.funcs[fid]? = some fn ∧ trFn P ν fn = some F) ∨ ∃ o, F.body = .lib o ∧ OutOk P fid o
theorem no_lib {T : Nat → Option Fn} {j : Job} {x : Out} (h : Run T j x) : ∀ o st, j ≠ .code (.lib o) st := by
  induction h with
  | gc ρ hn hρ h ih => intro o st e; cases e; exact ih o _ rfl
  | forget he ho hk h ih => intro o st e; cases e; exact ih o _ rfl
  | re W h h' ih => intro o st e; cases e; exact ih o _ rfl
  | _ => intro o st e; cases e
theorem trC_lib {P : Program} {ν : Nat → Option Nat} {nt : Nat} {o : OutF} : ∀ c : Code, trC P ν nt c ≠ some (.lib o) := by
  intro c h
  unfold trC at h
  cases c <;> simp at h
  all_goals (try (split at h <;> simp at h))
theorem trFn_lib {P : Program} {ν : Nat → Option Nat} {fn : Func} {F : Fn} {o : OutF} (h : trFn P ν fn = some F) (hb : F.body = .lib o) : False := by
  unfold trFn at h
  split at h <;> first | (cases h; done) | skip
  split at h <;> first | (cases h; done) | skip
  rename_i b rs' hb' hrs'
  split at h <;> first | (cases h; done) | skip
  simp only [Option.some.injEq] at h
  subst h
  simp only [] at hb
  subst hb
  exact trC_lib _ hb'
section
variable {P : Program} {ν : Nat → Option Nat} {T : Nat → Option Fn}
theorem okK_cons {m : Nat} {x : OpI} {l : List OpI} (h : okK m (x :: l) = true) : okK m l = true ∧ ∀ y ∈ l, y.i.makes = true → y.k ≠ x.k ∧ y.k < m := by
  have hm : ∀ (l : List OpI), okK m l = true → ∀ y ∈ l, y.i.makes = true → y.k < m := by
    intro l
    induction l with
    | nil => intro _ y hy; cases hy
    | cons z l ih =>
      intro h y hy hmk
      simp only [okK, Bool.and_eq_true] at h
      rcases List.mem_cons.1 hy with rfl | hy
      · have := h.1
        rw [if_pos hmk] at this
        simp only [Bool.and_eq_true, decide_eq_true_eq] at this
        exact this.1
      · exact ih h.2 y hy hmk
  simp only [okK, Bool.and_eq_true] at h
  refine ⟨h.2, fun y hy hmk => ⟨?_, hm l h.2 y hy hmk⟩⟩
  by_cases hx : x.i.makes = true
  · have := h.1
    rw [if_pos hx] at this
    simp only [Bool.and_eq_true, decide_eq_true_eq, List.all_eq_true] at this
    have := this.2 y hy
    simpa [hmk] using this
  · have := h.1
    rw [if_neg hx] at this
    simp only [beq_iff_eq] at this
    have := hm l h.2 y hy hmk
    omega
theorem okK_lt {m : Nat} : ∀ (l : List OpI), okK m l = true → ∀ x ∈ l, x.i.makes = true → x.k < m
  | [], _, y, hy, _ => by cases hy
  | z :: l, h, y, hy, hmk => by
    simp only [okK, Bool.and_eq_true] at h
    rcases List.mem_cons.1 hy with rfl | hy
    · have := h.1
      rw [if_pos hmk] at this
      simp only [Bool.and_eq_true, decide_eq_true_eq] at this
      exact this.1
    · exact okK_lt l h.2 y hy hmk
theorem okK_ne {m : Nat} : ∀ (l : List OpI), okK m l = true → ∀ (i j : Nat) (x y : OpI), l[i]? = some x → l[j]? = some y → i ≠ j → x.i.makes = true → x.k ≠ y.k
  | [], _, i, j, x, y, hx, _, _, _ => by simp at hx
  | z :: l, h, i, j, x, y, hx, hy, hij, hmk => by
    obtain ⟨k1, k2⟩ := okK_cons h
    cases i with
    | zero =>
      simp at hx; subst hx
      cases j with
      | zero => exact absurd rfl hij
      | succ j =>
        have hy' : y ∈ l := List.mem_of_getElem? (by simpa using hy)
        by_cases hmy : y.i.makes = true
        · exact fun e => (k2 y hy' hmy).1 e.symm
        · -- one that makes none has the number m
          have hm : ∀ (l : List OpI), okK m l = true → ∀ y ∈ l, y.i.makes ≠ true → y.k = m := by
            intro l
            induction l with
            | nil => intro _ y hy; cases hy
            | cons z l ih =>
              intro h y hy hn
              simp only [okK, Bool.and_eq_true] at h
              rcases List.mem_cons.1 hy with rfl | hy
              · have := h.1
                rw [if_neg hn] at this
                simpa using this
              · exact ih h.2 y hy hn
          have := hm l k1 y hy' hmy
          have h3 := okK_lt _ h z (by simp) hmk
          omega
    | succ i =>
      have hx' : x ∈ l := List.mem_of_getElem? (by simpa using hx)
      cases j with
      | zero =>
        simp at hy; subst hy
        exact (k2 x hx' hmk).1
      | succ j => exact okK_ne l k1 i j x y (by simpa using hx) (by simpa using hy) (by omega) hmk
theorem opsOk_cons {o : OpI} {l : List OpI} {st st1 st2 : St} (h1 : OpOk P ν o st st1) (h2 : OpsOk P ν l st1 st2) : OpsOk P ν (o :: l) st st2 := by
  obtain ⟨a1, a2, a3, a4⟩ := h1
  obtain ⟨b1, b2, b3, b4⟩ := h2
  refine ⟨b1.trans a1, b2.trans a2, Nat.le_trans a3 b3, ?_⟩
  intro ops dr nt m k rest htr hk M w0 D0 D a w hs hid Q hQ
  cases rest with
  | nil => simp [trOps] at htr
  | cons r rest =>
    simp only [trOps] at htr
    split at htr <;> first | (cases htr; done) | skip
    rename_i x hx
    split at htr <;> first | (cases htr; done) | skip
    rename_i l' hl'
    simp only [Option.some.injEq, List.cons.injEq] at htr
    obtain ⟨rfl, rfl⟩ := htr
    obtain ⟨k1, k2⟩ := okK_cons hk
    have key := a4 ops dr nt m k r hx M w0 D0 D a w hs (hid x (by simp)) (wpList P ops Q rest) Q (fun D' a' w' hs' hun => by
      refine b4 ops dr nt m _ rest hl' k1 M w0 D0 D' a' w' hs' (fun y hy hmk => ?_) Q hQ
      rw [a1]
      obtain ⟨e1, e2⟩ := hid y (by simp [hy]) hmk
      exact ⟨Nat.lt_of_lt_of_le e1 a3, hun _ (Nat.le_add_right _ _) e1 e2 (fun h => (k2 y hy hmk).1 (by omega))⟩)
    unfold wpList
    split
    · rename_i hw; rw [if_pos hw] at key; exact .inl key
    · rename_i hw; rw [if_neg hw] at key; exact key
theorem trC_inv {nt : Nat} {cc : Code} {c : C} (h : trC P ν nt cc = some c) : match c with
    | .skip => cc = .skip
    | .reg d m l => ∃ id ops, cc = .region id ops d ∧ trOps P ν ops d nt m 0 ops.toList = some l
    | .seq x y => ∃ a b, cc = .seq a b ∧ trC P ν nt a = some x ∧ trC P ν nt b = some y
    | .cond s x y => ∃ o a b, cc = .cond o a b ∧ trS o = some s ∧ trC P ν nt a = some x ∧ trC P ν nt b = some y
    | .block id x => ∃ a, cc = .block id a ∧ trC P ν nt a = some x
    | .loop x => ∃ a, cc = .loop a ∧ trC P ν nt a = some x
    | .exit id => cc = .exit id
    | .ret => cc = .ret
    | .lib _ => False := by
  cases cc with
  | skip => simp only [trC, Option.some.injEq] at h; subst h; rfl
  | region id ops d =>
    simp only [trC, Option.map_eq_some_iff] at h
    obtain ⟨l, h1, rfl⟩ := h
    exact ⟨id, ops, rfl, h1⟩
  | seq a b =>
    simp only [trC] at h
    split at h <;> first | (cases h; done) | skip
    rename_i x y h1 h2
    simp only [Option.some.injEq] at h; subst h
    exact ⟨a, b, rfl, h1, h2⟩
  | cond o a b =>
    simp only [trC] at h
    split at h <;> first | (cases h; done) | skip
    rename_i s x y h1 h2 h3
    simp only [Option.some.injEq] at h; subst h
    exact ⟨o, a, b, rfl, h1, h2, h3⟩
  | block id a =>
    simp only [trC, Option.map_eq_some_iff] at h
    obtain ⟨x, h1, rfl⟩ := h
    exact ⟨a, rfl, h1⟩
  | loop a =>
    simp only [trC, Option.map_eq_some_iff] at h
    obtain ⟨x, h1, rfl⟩ := h
    exact ⟨a, rfl, h1⟩
  | exit id => simp only [trC, Option.some.injEq] at h; subst h; rfl
  | ret => simp only [trC, Option.some.injEq] at h; subst h; rfl
  | _ => simp [trC] at h
theorem loop_of {c : C} {e : Ex} {st st' : St} (hk : st'.keep = st.keep) (h : LoopOk P ν c e st st') : CodeOk P ν (.loop c) e st st' := by
  refine ⟨hk, ?_⟩
  intro nt cc htr M w0 D0 D a w hs Q hQ
  obtain ⟨cb, rfl, hb⟩ := trC_inv htr
  intro b k cs
  obtain ⟨x, a', w', q, harr⟩ := h nt cb hb M w0 D0 D a w hs Q hQ b k cs
  exact ⟨x, a', w', q, .of_steps (.one step_loop) harr⟩
theorem exOf_ne {e : Ex} (h : e ≠ .normal) : exOf e ≠ .normal := by cases e <;> simp [exOf] at h ⊢
theorem then_of {next : Act → World → Prop} {Q : Exit → Act → World → Prop} {e : Ex} (h : e ≠ .normal) {a : Act} {w : World} (hq : Q (exOf e) a w) : Exit.then next Q (exOf e) a w := by
  cases e <;> first | (simp at h; done) | exact hq
def getRes (tmps : Array Value) : ResultVar → Sem Value
  | .tmp t => pure (tmps.getD t undef)
  | .cell q t => do loadVar t (← asAddr (tmps.getD q undef))
theorem results_eq (fn : Func) (tmps : Array Value) : results fn tmps = (do let vs ← fn.results.mapM (getRes tmps); pure (if h : vs.size = 1 then vs[0] else .tuple vs)) := rfl
theorem fnOk_lib (hT : Fits P ν T) {f : Nat} {args : List V} {σ : Store} {F : Fn} {o : OutF} {r : V} {σ' : Store} (hf : T f = some F) (hb : F.body = .lib o) (h : o.sem args σ r σ') : FnOk P ν f args σ r σ' := by
  intro fid hfid w M D vals hv hS
  rcases hT fid f F hfid hf with ⟨fn, hfn, htr⟩ | ⟨o', e, hO⟩
  · exact (trFn_lib htr hb).elim
  · rw [hb] at e
    cases e
    exact hO args σ r σ' h w M D vals hv hS
theorem fnOk_fn (hT : Fits P ν T) {f : Nat} {args : List V} {σ : Store} {F : Fn} {e : Ex} {st' : St} {rs : List V} (hf : T f = some F) (hl : args.length = F.nargs) (hnl : ∀ o, F.body ≠ .lib o)
    (ih : CodeOk P ν F.body e (St.enter args σ) st') (he : e = .normal ∨ e = .ret) (hr : F.res.mapM (Res.get st') = some rs) : FnOk P ν f args σ (packRes rs) st'.objs := by
  intro fid hfid w M D vals hv hS
  rcases hT fid f F hfid hf with ⟨fn, hfn, htr⟩ | ⟨o, e, _⟩
  case inr => exact (hnl o e).elim
  unfold trFn at htr
  split at htr <;> first | (cases htr; done) | skip
  rename_i body hbody
  split at htr <;> first | (cases htr; done) | skip
  rename_i b rs' hb hrs'
  split at htr <;> first | (cases htr; done) | skip
  rename_i hle
  simp only [Option.some.injEq] at htr; subst htr
  have hvl : vals.size = args.length := by simpa using (rdL_length _ _ hv).symm
  refine calls_of_wp hfn hbody ?_
  have hs0 : SR fn.ntmps M w D (St.enter args σ) D { tmps := vals ++ Array.replicate (fn.ntmps - vals.size) undef, defers := [] } w := by
    refine ⟨?_, ?_, rfl, hS, Gr.refl _ _, fun o d h => .inl ⟨o, d, h, rfl⟩, fun o _ => DSle.refl _⟩
    · intro t
      simp only [St.enter]
      by_cases ht : t < args.length
      · obtain ⟨y, h1, h2⟩ := rdL_get _ _ hv t args[t] (by simp [ht])
        have e1 : argE args t = args[t] := by simp [argE, ht]
        rw [e1]
        have e2 : (vals ++ Array.replicate (fn.ntmps - vals.size) undef).getD t undef = y := by
          rw [Array.getD_eq_getD_getElem?, Array.getElem?_append_left (by omega)]
          rw [← Array.getElem?_toList, h1]; rfl
        rw [e2]; exact h2
      · have e1 : argE args t = .any := by simp [argE, List.getD, List.getElem?_eq_none (Nat.le_of_not_lt ht)]
        rw [e1]; simp only [rd]
    · simp only [Array.size_append, Array.size_replicate]; simp only [] at hl; omega
  refine ih.2 fn.ntmps body hb M w D D _ w hs0 _ ?_
  intro D' a' w' hs'
  have hres : ∃ v, (results fn a'.tmps).run P w' = .ok v w' ∧ rd w' D' (XS M D') (packRes rs) v := by
    have hlist : ∀ (vars : List ResultVar) (rl : List Res) (vl : List V), vars.mapM (trRes P) = some rl → rl.mapM (Res.get st') = some vl →
        ∃ ys : List Value, (vars.mapM (getRes a'.tmps)).run P w' = .ok ys w' ∧ rdL w' D' (XS M D') vl ys := by
      intro vars
      induction vars with
      | nil => intro rl vl h1 h2; simp at h1; subst h1; simp at h2; subst h2; exact ⟨[], by simp, by simp [rdL]⟩
      | cons x vars ihv =>
        intro rl vl h1 h2
        simp only [List.mapM_cons, Option.pure_def, Option.bind_eq_bind, Option.bind_eq_some_iff, Option.some.injEq] at h1
        obtain ⟨r, hr1, rl', hr2, rfl⟩ := h1
        simp only [List.mapM_cons, Option.pure_def, Option.bind_eq_bind, Option.bind_eq_some_iff, Option.some.injEq] at h2
        obtain ⟨z, hz1, vl', hz2, rfl⟩ := h2
        obtain ⟨ys, k1, k2⟩ := ihv rl' vl' hr2 hz2
        cases x with
        | tmp t =>
          simp only [trRes, Option.some.injEq] at hr1; subst hr1
          simp only [Res.get, Option.some.injEq] at hz1; subst hz1
          refine ⟨a'.tmps.getD t undef :: ys, ?_, by simp only [rdL]; exact ⟨_, _, rfl, hs'.env t, k2⟩⟩
          have hg : (getRes a'.tmps (.tmp t)).run P w' = .ok (a'.tmps.getD t undef) w' := rfl
          simp only [List.mapM_cons, Sem.run_bind, Sem.run_pure, Result.andThen_ok, k1, hg]
        | cell q t =>
          simp only [trRes, Option.map_eq_some_iff] at hr1
          obtain ⟨⟨n, g⟩, hg, rfl⟩ := hr1
          simp only [Res.get] at hz1
          split at hz1 <;> first | (cases hz1; done) | skip
          rename_i row off hrow
          obtain ⟨u, j1, j2⟩ := run_load_agg hs'.store hg hrow (hs'.env q) hz1
          obtain ⟨bl, oo, hptr, _⟩ := rowAt_rd hs'.store hrow (hs'.env q)
          refine ⟨u :: ys, ?_, by simp only [rdL]; exact ⟨_, _, rfl, j2, k2⟩⟩
          have j1' : (loadVar t ⟨bl, oo + off, none⟩).run P w' = .ok u w' := by
            rw [hptr] at j1
            simpa [Instr.loadAt, Instr.sureAddr] using j1
          have hg : (getRes a'.tmps (.cell q t)).run P w' = .ok u w' := by
            simp only [getRes, hptr, asAddr, Sem.run_bind, Sem.run_pure, Result.andThen_ok, j1']
          simp only [List.mapM_cons, Sem.run_bind, Sem.run_pure, Result.andThen_ok, k1, hg]
    obtain ⟨ys, k1, k2⟩ := hlist fn.results.toList rs' rs hrs' hr
    refine ⟨if h : ys.toArray.size = 1 then ys.toArray[0] else .tuple ys.toArray, ?_, ?_⟩
    · have : (fn.results.mapM (getRes a'.tmps)).run P w' = .ok ys.toArray w' := by
        rw [← Array.toArray_toList (xs := fn.results), List.mapM_toArray, Sem.run_map, k1]; rfl
      rw [results_eq]
      simp only [Sem.run_bind, this, Result.andThen_ok, Sem.run_pure]
    · have hlen := rdL_length _ _ k2
      have gen : ∀ (rs : List V) (ys : List Value), rdL w' D' (XS M D') rs ys → rs.length = ys.length → rd w' D' (XS M D') (packRes rs) (if h : ys.toArray.size = 1 then ys.toArray[0] else .tuple ys.toArray) := by
        intro rs ys h hl
        cases rs with
        | nil =>
          cases ys with
          | nil => simp only [packRes]; rw [dif_neg (by simp)]; simp only [rd]; exact ⟨_, rfl, h⟩
          | cons y ys => simp at hl
        | cons x xs =>
          cases ys with
          | nil => simp at hl
          | cons y ys =>
            cases xs with
            | nil =>
              cases ys with
              | nil =>
                simp only [rdL] at h
                obtain ⟨y', ys', h0, h1, h2⟩ := h
                cases h0
                simpa [packRes] using h1
              | cons y' ys => simp at hl
            | cons x' xs =>
              cases ys with
              | nil => simp at hl
              | cons y' ys =>
                simp only [packRes]
                rw [dif_neg (by simp)]
                simp only [rd]
                exact ⟨_, rfl, h⟩
      exact gen rs ys k2 hlen
  obtain ⟨v, hv1, hv2⟩ := hres
  have hfin : bodyPost P fn (Post M D w σ.length (packRes rs) st'.objs) .ret a' w' :=
    ⟨hs'.df, v, hv1, v, D', rfl, hv2, hs'.store, hs'.gr, hs'.fr, fun o ho => hs'.kp o (by rw [ih.1]; exact ho)⟩
  rcases he with rfl | rfl <;> exact hfin
theorem trOps_get {ops : Array Oper} {dr : Bool} {nt m : Nat} : ∀ {k : Nat} {rest : List Oper} {l : List OpI}, trOps P ν ops dr nt m k rest = some l →
    l.length = rest.length ∧ ∀ (i : Nat) (x : OpI), l[i]? = some x → ∃ o k', rest[i]? = some o ∧ trOp P ν ops dr nt m k' o = some x
  | k, [], l, h => by simp only [trOps, Option.some.injEq] at h; subst h; simp
  | k, o :: rest, l, h => by
    simp only [trOps] at h
    split at h <;> first | (cases h; done) | skip
    rename_i x hx
    split at h <;> first | (cases h; done) | skip
    rename_i l' hl'
    simp only [Option.some.injEq] at h; subst h
    obtain ⟨e1, e2⟩ := trOps_get hl'
    refine ⟨by simp [e1], fun i y hi => ?_⟩
    cases i with
    | zero => simp at hi; subst hi; exact ⟨o, k, rfl, hx⟩
    | succ i => simpa using e2 i y (by simpa using hi)
theorem trOp_aft {ops : Array Oper} {nt m k : Nat} {o : Oper} {x : OpI} (h : trOp P ν ops true nt m k o = some x) : x.aft = trAft o := by
  unfold trOp at h
  split at h <;> first | (cases h; done) | skip
  split at h <;> first | (cases h; done) | skip
  simp only [Option.some.injEq] at h; subst h
  rfl
theorem ready_iff {ops : Array Oper} {nt m : Nat} {l : List OpI} (h : trOps P ν ops true nt m 0 ops.toList = some l) {done : List Nat} {listed : Array Bool} (hs : listed.size = ops.size)
    (hl : ∀ i, listed.getD i false = true ↔ i ∈ done) {i : Nat} : i ∈ Region.ready .any ops listed ↔ readyB l done i = true := by
  obtain ⟨e1, e2⟩ := trOps_get h
  rw [mem_ready]
  have hlt : ∀ {i : Nat}, i < ops.size → (listed.getD i true = false ↔ i ∉ done) := by
    intro i hi
    have : listed.getD i true = listed.getD i false := by
      rw [Array.getD_eq_getD_getElem?, Array.getD_eq_getD_getElem?, Array.getElem?_eq_getElem (by omega)]; rfl
    rw [this]
    constructor
    · intro h1 h2; rw [(hl i).2 h2] at h1; cases h1
    · intro h1
      cases hb : listed.getD i false with
      | false => rfl
      | true => exact absurd ((hl i).1 hb) h1
  constructor
  · rintro ⟨h1, o, ho, h2⟩
    have hi := (Array.getElem?_eq_some_iff.1 ho).1
    have hil : i < l.length := by rw [e1]; simpa using hi
    obtain ⟨o', k', ho', hx⟩ := e2 i l[i] (by simp [hil])
    have : o' = o := by rw [Array.getElem?_toList] at ho'; rw [ho] at ho'; exact (Option.some.inj ho').symm
    subst this
    unfold readyB
    rw [List.getElem?_eq_getElem hil]
    simp only [Bool.and_eq_true, Bool.not_eq_true', List.all_eq_true]
    refine ⟨?_, ?_⟩
    · have := (hlt hi).1 h1
      simpa using this
    · intro e he
      rw [trOp_aft hx] at he
      simp only [trAft, List.mem_map, List.mem_filter] at he
      obtain ⟨ed, ⟨h3, h4⟩, rfl⟩ := he
      have := h2 ed (by simpa using h3) h4
      simpa using (hl _).1 this
  · intro hr
    unfold readyB at hr
    split at hr <;> first | (cases hr; done) | skip
    rename_i x hx
    simp only [Bool.and_eq_true, Bool.not_eq_true', List.all_eq_true] at hr
    obtain ⟨o, k', ho, htr⟩ := e2 i x hx
    have ho' : ops[i]? = some o := by rwa [Array.getElem?_toList] at ho
    have hi := (Array.getElem?_eq_some_iff.1 ho').1
    refine ⟨(hlt hi).2 (by simpa using hr.1), o, ho', ?_⟩
    intro e he hb
    refine (hl _).2 ?_
    have := hr.2 e.on (by rw [trOp_aft htr]; simp only [trAft, List.mem_map, List.mem_filter]; exact ⟨e, ⟨by simpa using he, hb⟩, rfl⟩)
    simpa using this
theorem sound (hm : P.follows .mixedOrders = true) (hT : Fits P ν T) {j : Job} {o : Out} (h : Run T j o) : Sound P ν j o := by
  induction h with
  | skip st =>
    refine ⟨⟨rfl, ?_⟩, fun x h => by cases h⟩
    intro nt cc htr M w0 D0 D a w hs Q hQ
    have hc : cc = .skip := trC_inv htr
    subst hc
    exact Go.wp_skip (hQ D a w hs)
  | @reg m l st st' hk h ih =>
    obtain ⟨_, i1, i2, i3, i4⟩ := ih
    refine ⟨⟨i2, ?_⟩, fun x h => by cases h⟩
    intro nt cc htr M w0 D0 D a w hs Q hQ
    obtain ⟨id, ops, rfl, hops⟩ := trC_inv htr
    refine wp_region_list ?_
    refine i4 ops false nt m 0 ops.toList hops hk M w0 D0 D a w ⟨hs.env, hs.tm, hs.df, hs.mem m, hs.gr, hs.fr, hs.kp⟩ (fun x hx hmk => ?_) Q (fun D' a' w' h => hQ D' a' w' h)
    have hkm : x.k < m := by
      have : ∀ (l : List OpI), okK m l = true → ∀ x ∈ l, x.i.makes = true → x.k < m := by
        intro l
        induction l with
        | nil => intro _ y hy; cases hy
        | cons z l ih =>
          intro h y hy hmk
          simp only [okK, Bool.and_eq_true] at h
          rcases List.mem_cons.1 hy with rfl | hy
          · have := h.1
            rw [if_pos hmk] at this
            simp only [Bool.and_eq_true, decide_eq_true_eq] at this
            exact this.1
          · exact ih h.2 y hy hmk
      exact this l hk x hx hmk
    simp only [List.length_append, List.length_replicate]
    exact ⟨by omega, hs.store.far _ (by omega)⟩
  | @regD m l st st' hk h ih =>
    obtain ⟨_, i1, i2, i3, i4⟩ := ih
    refine ⟨⟨i2, ?_⟩, fun x h => by cases h⟩
    intro nt cc htr M w0 D0 D a w hs Q hQ
    obtain ⟨id, ops, rfl, hops⟩ := trC_inv htr
    refine wp_region_any hm ?_
    have hsd : SR nt M w0 D0 st D a { w with drawn := w.drawn + 1 } := by
      have hE : Ext w D (XS M D) { w with drawn := w.drawn + 1 } D (XS M D) := ⟨Nat.le_refl _, fun _ _ _ => rfl, fun _ _ h => h, fun _ => DSle.refl _⟩
      refine ⟨fun t => rd_mono _ _ hE (hs.env t), hs.tm, hs.df, ?_, ⟨hs.gr.size, hs.gr.os, hs.gr.tape, hs.gr.output, hs.gr.block⟩, hs.fr, hs.kp⟩
      refine ⟨fun o d ho => ?_, hs.store.alive, hs.store.inj, hs.store.far, hs.store.mlt⟩
      obtain ⟨ob, c, e, g1, g2, g3, g4, g5, g6, g7, g8, g9, g10, g11⟩ := hs.store.live o d ho
      refine ⟨ob, c, e, g1, g2, g3, g4, g5, g6, g7, g8, g9, g10, fun i x hi => ?_⟩
      obtain ⟨k0, y, k1, k2⟩ := g11 i x hi
      exact ⟨k0, y, k1, rd_mono _ _ hE k2⟩
    refine i4 ops nt m hops hk M w0 D0 D a _ ⟨hsd.env, hsd.tm, hsd.df, hsd.mem m, hsd.gr, hsd.fr, hsd.kp⟩ (fun i x hx _ hmk => ?_) Q (fun D' a' w' h => hQ D' a' w' h) _ _ (by simp) (fun i => ?_) ?_
    · have hkm : x.k < m := okK_lt l hk x (List.mem_of_getElem? hx) hmk
      simp only [List.length_append, List.length_replicate]
      exact ⟨by omega, hsd.store.far _ (by omega)⟩
    · simp only [Array.getD_eq_getD_getElem?, Array.getElem?_replicate]
      split <;> simp
    · simp
  | @anyN l done st h =>
    refine ⟨rfl, rfl, rfl, Nat.le_refl _, ?_⟩
    intro ops nt m htr hk M w0 D0 D a w hs hid Q hQ fuel listed h1 h2 h3
    refine wpAny_done ?_ (hQ D a w hs) fuel
    apply List.eq_nil_iff_forall_not_mem.2
    intro i hi
    rw [ready_iff htr h1 h2, h i] at hi
    cases hi
  | @anyC l done st st' i0 h0 f h h' ih ih' =>
    obtain ⟨_, b1, b2, b3, _⟩ := ih' i0 h0
    obtain ⟨x0, hx0⟩ : ∃ x0, l[i0]? = some x0 := by
      unfold readyB at h0
      split at h0 <;> first | (cases h0; done) | skip
      exact ⟨_, by assumption⟩
    obtain ⟨_, a1, a2, a3, _⟩ := ih i0 x0 hx0 h0
    refine ⟨rfl, b1.trans a1, b2.trans a2, Nat.le_trans a3 b3, ?_⟩
    intro ops nt m htr hk M w0 D0 D a w hs hid Q hQ fuel listed h1 h2 h3
    have hready : ∀ i, i ∈ Region.ready .any ops listed ↔ readyB l done i = true := fun i => ready_iff htr h1 h2
    have hpos : fuel ≠ 0 := by
      rintro rfl
      have hi := (hready i0).2 h0
      have := (mem_ready.1 hi).1
      obtain ⟨_, o, ho, _⟩ := mem_ready.1 hi
      have hlt := (Array.getElem?_eq_some_iff.1 ho).1
      have hmem : false ∈ listed.toList := by
        have : listed[i0]'(by omega) = false := by
          rw [Array.getD_eq_getD_getElem?, Array.getElem?_eq_getElem (by omega)] at this
          simpa using this
        rw [← this]; simp
      have := List.count_pos_iff.2 hmem
      omega
    obtain ⟨fuel, rfl⟩ := Nat.exists_eq_succ_of_ne_zero hpos
    refine ⟨fun hnil => ?_, fun i hi => ?_⟩
    · have := (hready i0).2 h0
      rw [hnil] at this; cases this
    · have hr := (hready i).1 hi
      obtain ⟨e1, e2⟩ := trOps_get htr
      obtain ⟨_, o, ho, _⟩ := mem_ready.1 hi
      have hlt := (Array.getElem?_eq_some_iff.1 ho).1
      have hil : i < l.length := by rw [e1]; simpa using hlt
      obtain ⟨o', k', ho', hx⟩ := e2 i l[i] (by simp [hil])
      have : o' = o := by rw [Array.getElem?_toList] at ho'; rw [ho] at ho'; exact (Option.some.inj ho').symm
      subst this
      have hli : l[i]? = some l[i] := by simp [hil]
      have hnd : i ∉ done := by
        unfold readyB at hr
        rw [hli] at hr
        simp only [Bool.and_eq_true, Bool.not_eq_true'] at hr
        simpa using hr.1
      obtain ⟨_, c1, c2, c3, c4⟩ := ih i l[i] hli hr
      obtain ⟨_, d1, d2, d3, d4⟩ := ih' i hr
      have key := c4 ops true nt m k' o' hx M w0 D0 D a w hs (fun hmk => hid i l[i] hli hnd hmk) (wpAny P .any ops Q fuel (listed.setIfInBounds i true)) Q (fun D' a' w' hs' hun => by
        refine d4 ops nt m htr hk M w0 D0 D' a' w' hs' (fun j y hy hj hmk => ?_) Q hQ fuel _ (by simpa using h1) (fun j => ?_) ?_
        · simp only [List.mem_cons, not_or] at hj
          rw [c1]
          obtain ⟨g1, g2⟩ := hid j y hy hj.2 hmk
          refine ⟨Nat.lt_of_lt_of_le g1 c3, hun _ (Nat.le_add_right _ _) g1 g2 ?_⟩
          intro he
          have hne := okK_ne l hk j i y l[i] hy hli hj.1 hmk
          omega
        · rw [Array.getD_eq_getD_getElem?, Array.getElem?_setIfInBounds]
          by_cases hij : i = j
          · subst hij
            simp [h1, hlt]
          · rw [if_neg hij, ← Array.getD_eq_getD_getElem?, h2 j]
            simp only [List.mem_cons]
            constructor
            · exact .inr
            · rintro (h | h)
              · exact absurd h.symm hij
              · exact h
        · have hfi : listed[i]'(by omega) = false := by
            have := (mem_ready.1 hi).1
            rw [Array.getD_eq_getD_getElem?, Array.getElem?_eq_getElem (by omega)] at this
            simpa using this
          rw [Array.toList_setIfInBounds, List.count_set (by simpa using (by omega : i < listed.size))]
          have h4 : listed.toList[i]'(by simpa using (by omega : i < listed.size)) = false := by simpa using hfi
          have h5 : 0 < listed.toList.count false := List.count_pos_iff.2 (by rw [← h4]; exact List.getElem_mem _)
          simp only [h4, beq_self_eq_true, if_true]
          have : (true == false) = false := rfl
          simp only [this, Bool.false_eq_true, if_false]
          omega)
      unfold wpOp
      simp only [ho]
      split
      · rename_i hw; rw [if_pos hw] at key; exact .inl key
      · rename_i hw; rw [if_neg hw] at key; exact key
  | @seqN a b st st1 o h h' ih ih' =>
    cases o with
    | fn r σ => trivial
    | code e st2 =>
    obtain ⟨⟨i1, i2⟩, _⟩ := ih
    obtain ⟨⟨j1, j2⟩, _⟩ := ih'
    refine ⟨⟨j1.trans i1, ?_⟩, fun x h => by cases h⟩
    intro nt cc htr M w0 D0 D a w hs Q hQ
    obtain ⟨ca, cb, rfl, ha, hb⟩ := trC_inv htr
    refine Go.wp_seq (i2 nt ca ha M w0 D0 D a w hs _ fun D' a' w' hs' => ?_)
    exact j2 nt cb hb M w0 D0 D' a' w' hs' Q hQ
  | @seqE a b st e st1 he h ih =>
    obtain ⟨⟨i1, i2⟩, _⟩ := ih
    refine ⟨⟨i1, ?_⟩, fun x h => by cases h⟩
    intro nt cc htr M w0 D0 D a w hs Q hQ
    obtain ⟨ca, cb, rfl, ha, hb⟩ := trC_inv htr
    exact Go.wp_seq (i2 nt ca ha M w0 D0 D a w hs _ fun D' a' w' hs' => then_of he (hQ D' a' w' hs'))
  | @cond x a b st t o hx h ih =>
    cases o with
    | fn r σ => trivial
    | code e st2 =>
    obtain ⟨⟨i1, i2⟩, _⟩ := ih
    refine ⟨⟨i1, ?_⟩, fun x h => by cases h⟩
    intro nt cc htr M w0 D0 D a w hs Q hQ
    obtain ⟨oc, ca, cb, rfl, h1, ha, hb⟩ := trC_inv htr
    have hv := rd_src hs.env h1
    rw [hx] at hv
    simp only [rd] at hv
    refine Go.wp_cond hv (i2 nt _ ?_ M w0 D0 D _ w hs Q hQ)
    cases t
    · exact hb
    · exact ha
  | @block id c st e st1 h ih =>
    obtain ⟨⟨i1, i2⟩, _⟩ := ih
    refine ⟨⟨i1, ?_⟩, fun x h => by cases h⟩
    intro nt cc htr M w0 D0 D a w hs Q hQ
    obtain ⟨ca, rfl, ha⟩ := trC_inv htr
    refine Go.wp_block (i2 nt ca ha M w0 D0 D a w hs _ fun D' a' w' hs' => ?_)
    have := hQ D' a' w' hs'
    cases e with
    | normal => exact this
    | ret => exact this
    | exit id' =>
      simp only [exOf, exIn, Exit.inBlock] at this ⊢
      by_cases hid : id' = id
      · simp only [hid, if_true] at this ⊢; exact this
      · simp only [hid, if_false] at this ⊢; exact this
  | @loopN c st st1 o h h' ih ih' =>
    cases o with
    | fn r σ => trivial
    | code e st2 =>
    obtain ⟨⟨i1, i2⟩, _⟩ := ih
    obtain ⟨⟨j1, _⟩, j2⟩ := ih'
    have key : LoopOk P ν c e st st2 := by
      intro nt cc htr M w0 D0 D a w hs Q hQ b k cs
      obtain ⟨x, a1, w1, ⟨D1, hx, hs1⟩, harr⟩ := i2 nt cc htr M w0 D0 D a w hs (fun x a' w' => ∃ D', x = .normal ∧ SR nt M w0 D0 st1 D' a' w') (fun D' a' w' h => ⟨D', rfl, h⟩) b (.inLoop cc :: k) cs
      subst hx
      obtain ⟨x2, a2, w2, q2, harr2⟩ := j2 c rfl nt cc htr M w0 D0 D1 a1 w1 hs1 Q hQ b k cs
      exact ⟨x2, a2, w2, q2, .of_steps (Steps.trans harr (.one step_inLoop)) harr2⟩
    exact ⟨loop_of (j1.trans i1) key, fun x hx => by cases hx; exact key⟩
  | @loopE c st e st1 he h ih =>
    obtain ⟨⟨i1, i2⟩, _⟩ := ih
    have key : LoopOk P ν c e st st1 := by
      intro nt cc htr M w0 D0 D a w hs Q hQ b k cs
      obtain ⟨x, a1, w1, ⟨D1, hx, hs1⟩, harr⟩ := i2 nt cc htr M w0 D0 D a w hs (fun x a' w' => ∃ D', x = exOf e ∧ SR nt M w0 D0 st1 D' a' w') (fun D' a' w' h => ⟨D', rfl, h⟩) b (.inLoop cc :: k) cs
      subst hx
      exact ⟨_, a1, w1, hQ D1 a1 w1 hs1, .pass (x := .inLoop cc) rfl (fun _ _ => .inl (exOf_ne he)) harr⟩
    exact ⟨loop_of i1 key, fun x hx => by cases hx; exact key⟩
  | exit id st =>
    refine ⟨⟨rfl, ?_⟩, fun x h => by cases h⟩
    intro nt cc htr M w0 D0 D a w hs Q hQ
    have hc : cc = .exit id := trC_inv htr
    subst hc
    exact Go.wp_exit (hQ D a w hs)
  | ret st =>
    refine ⟨⟨rfl, ?_⟩, fun x h => by cases h⟩
    intro nt cc htr M w0 D0 D a w hs Q hQ
    have hc : cc = .ret := trC_inv htr
    subst hc
    exact Go.wp_ret (hQ D a w hs)
  | @gc c st o ρ hn hρ h ih =>
    cases o with
    | fn r σ => trivial
    | code e st2 =>
    obtain ⟨⟨i1, i2⟩, i3⟩ := ih
    refine ⟨⟨i1, ?_⟩, ?_⟩
    · intro nt cc htr M w0 D0 D a w hs Q hQ
      exact i2 nt cc htr M w0 D0 _ a w (hs.gc hn hρ) Q hQ
    · intro x hx nt cc htr M w0 D0 D a w hs Q hQ
      exact i3 x hx nt cc htr M w0 D0 _ a w (hs.gc hn hρ) Q hQ
  | nil st =>
    refine ⟨rfl, rfl, rfl, Nat.le_refl _, ?_⟩
    intro ops dr nt m k rest htr hk M w0 D0 D a w hs hid Q hQ
    cases rest with
    | nil => exact hQ D a w hs
    | cons r rest =>
      simp only [trOps] at htr
      split at htr <;> first | (cases htr; done) | skip
      split at htr <;> first | (cases htr; done) | skip
  | @cons o l st st1 out h h' ih ih' =>
    cases out with
    | fn r σ => trivial
    | code e st2 => exact ⟨ih'.1, opsOk_cons ih.2 ih'.2⟩
  | off hg he => exact ⟨rfl, opOk_off hg he⟩
  | op hg h => exact ⟨rfl, opOk_op hg h⟩
  | callP hg hi ha h hR ih => exact ⟨rfl, opOk_callP hg hi ha ih hR⟩
  | callR ρ hn hρ hg hi h ih => exact ⟨rfl, opOk_callR hn hρ hg hi ih⟩
  | callG hg hi ha h hR ih => exact ⟨rfl, opOk_callG hg hi ha ih hR⟩
  | callI hg hi h hl hb ih => exact ⟨rfl, opOk_callI hg hi ih hl hb⟩
  | @fn f args σ F e st' rs hf hl h he hr ih => exact fnOk_fn hT hf hl (fun o e => no_lib h o (St.enter args σ) (by rw [e])) ih.1 he hr
  | lib hf hb h => exact fnOk_lib hT hf hb h
  | frz h hr ih => exact fnOk_frz hr ih
  | gcF ρ hn hρ h ih => exact fnOk_gcF hn hρ ih
  | @forget c st st2 o he ho hk h' ih =>
    cases o with
    | fn r σ => trivial
    | code e st3 =>
    obtain ⟨⟨i1, i2⟩, i3⟩ := ih
    refine ⟨⟨i1.trans hk, ?_⟩, ?_⟩
    · intro nt cc htr M w0 D0 D a w hs Q hQ
      exact i2 nt cc htr M w0 D0 _ a w (hs.forget he ho hk) Q hQ
    · intro x hx nt cc htr M w0 D0 D a w hs Q hQ
      exact i3 x hx nt cc htr M w0 D0 _ a w (hs.forget he ho hk) Q hQ
  | @re c st st2 o W h h' ih =>
    cases o with
    | fn r σ => trivial
    | code e st3 =>
    obtain ⟨⟨i1, i2⟩, i3⟩ := ih
    refine ⟨⟨i1.trans h.keep, ?_⟩, ?_⟩
    · intro nt cc htr M w0 D0 D a w hs Q hQ
      exact i2 nt cc htr M w0 D0 _ a w (hs.re h) Q hQ
    · intro x hx nt cc htr M w0 D0 D a w hs Q hQ
      exact i3 x hx nt cc htr M w0 D0 _ a w (hs.re h) Q hQ
  | reF W ha h hs hr ih => exact fnOk_reF ha hs hr ih
  | laxF ha h hr ih => exact fnOk_laxF ha hr ih
end
end Go.Ml
end
section
set_option linter.unusedSimpArgs false
set_option linter.unusedVariables false
namespace Go.Ml
open Go.ChangeShapes Go.WideShapes Go.ChangeAt Go.RowKit
def nuOf : List (Nat × Nat × Fn) → Nat → Option Nat
  | [], _ => none
  | x :: l, i => if x.1 = i then some x.2.1 else nuOf l i
def tbOf : List (Nat × Nat × Fn) → Nat → Option Fn
  | [], _ => none
  | x :: l, k => if x.2.1 = k then some x.2.2 else tbOf l k
theorem nuOf_mem : ∀ {l : List (Nat × Nat × Fn)} {i k : Nat}, nuOf l i = some k → ∃ x ∈ l, x.1 = i ∧ x.2.1 = k
  | [], _, _, h => by simp [nuOf] at h
  | x :: l, i, k, h => by
    simp only [nuOf] at h
    split at h
    · rename_i e; exact ⟨x, by simp, e, by simpa using h⟩
    · obtain ⟨y, hy, e⟩ := nuOf_mem h; exact ⟨y, by simp [hy], e⟩
theorem tbOf_mem : ∀ {l : List (Nat × Nat × Fn)} {k : Nat} {F : Fn}, tbOf l k = some F → ∃ x ∈ l, x.2.1 = k ∧ x.2.2 = F
  | [], _, _, h => by simp [tbOf] at h
  | x :: l, i, k, h => by
    simp only [tbOf] at h
    split at h
    · rename_i e; exact ⟨x, by simp, e, by simpa using h⟩
    · obtain ⟨y, hy, e⟩ := tbOf_mem h; exact ⟨y, by simp [hy], e⟩
theorem eq_of_nodup_map {α β : Type} {f : α → β} : ∀ {l : List α}, (l.map f).Nodup → ∀ {x y}, x ∈ l → y ∈ l → f x = f y → x = y
  | [], _, _, _, h, _, _ => by cases h
  | a :: l, hn, x, y, hx, hy, e => by
    simp only [List.map_cons, List.nodup_cons] at hn
    rcases List.mem_cons.1 hx with rfl | hx' <;> rcases List.mem_cons.1 hy with rfl | hy'
    · rfl
    · exact absurd (e ▸ List.mem_map_of_mem hy') hn.1
    · exact absurd (e ▸ List.mem_map_of_mem hx') hn.1
    · exact eq_of_nodup_map hn.2 hx' hy' e
theorem fits_of {P : Program} {l : List (Nat × Nat × Fn)} (hnd : (l.map (·.2.1)).Nodup) (h : ∀ x ∈ l, (∃ fn, P.funcs[x.1]? = some fn ∧ trFn P (nuOf l) fn = some x.2.2) ∨ ∃ o, x.2.2.body = .lib o ∧ OutOk P x.1 o) : Fits P (nuOf l) (tbOf l) := by
  intro fid f F h1 h2
  obtain ⟨x, hx, e1, e2⟩ := nuOf_mem h1
  obtain ⟨y, hy, e3, e4⟩ := tbOf_mem h2
  have : x = y := eq_of_nodup_map hnd hx hy (e2.trans e3.symm)
  subst this
  rw [← e1, ← e4]
  exact h x hx
theorem calls_of {P : Program} {l : List (Nat × Nat × Fn)} (hm : P.follows .mixedOrders = true) (hT : Fits P (nuOf l) (tbOf l)) {f fid : Nat} {args : List V} {r : V} (h : PF (tbOf l) f args r) (hf : nuOf l fid = some f)
    {w : World} {vals : Array Value} (hr : rdL w DM.none (fun _ => False) args vals.toList) :
    Calls P fid vals w fun e w' => (∃ v D X, e = .returned v ∧ rd w' D X r v) ∧ Below w.heap.size w w' := by
  have hs := sound hm hT h
  have hX : XS (fun _ => False) DM.none = fun _ => False := by
    funext b; simp [XS, DM.none]
  refine (hs fid hf w (fun _ => False) DM.none vals (by rw [hX]; exact hr) ⟨?_, ?_, ?_, ?_, ?_⟩).mono fun e w' hp => ?_
  · intro o d h; cases h
  · intro o ob h; simp [objAt] at h
  · intro o o' d d' h; cases h
  · intro o _; rfl
  · intro b h; exact h.elim
  · obtain ⟨v, D', e1, e2, e3, e4, _⟩ := hp
    refine ⟨⟨v, D', _, e1, e2⟩, ⟨e4.os, e4.tape, e4.output, e4.size, fun k hk => e4.block k hk ?_⟩⟩
    rintro ⟨o, d, h, _⟩; cases h
theorem calls_true {P : Program} {l : List (Nat × Nat × Fn)} (hm : P.follows .mixedOrders = true) (hT : Fits P (nuOf l) (tbOf l)) {f fid : Nat} {args : List V} (h : PF (tbOf l) f args (.bool true)) (hf : nuOf l fid = some f)
    {w : World} {vals : Array Value} (hr : rdL w DM.none (fun _ => False) args vals.toList) :
    Calls P fid vals w fun e w' => e = .returned (.bool true) ∧ Below w.heap.size w w' :=
  (calls_of hm hT h hf hr).mono fun e w' hp => by
    obtain ⟨⟨v, D, X, rfl, e2⟩, hb⟩ := hp
    have : v = .bool true := by simpa [rd] using e2
    exact ⟨by rw [this], hb⟩
end Go.Ml
end
section
set_option linter.unusedSimpArgs false
set_option linter.unusedVariables false
namespace Go.Ml
open Go.ChangeShapes Go.WideShapes Go.ChangeAt Go.RowKit
inductive Lf where
  | int (k : IntKind)
  | bool
  | str
  | sl (row : List Lf)
mutual
def Mt : Lf → V → Prop
  | .int k, v => ∃ n, v = .int k n ∧ (Lit.int k n).wf = true
  | .bool, v => ∃ b, v = .bool b
  | .str, v => ∃ s, v = .str s ∧ s.length ≤ maxLen
  | .sl row, v => ∃ rows : List (List V), v = .sl row.length rows ∧ rows.length ≤ maxLen ∧ ∀ r ∈ rows, MtL row r
def MtL : List Lf → List V → Prop
  | [], vs => vs = []
  | l :: ls, vs => ∃ v vs', vs = v :: vs' ∧ Mt l v ∧ MtL ls vs'
end
def shFs (P : Program) (sh : TypeId → Option (List Lf)) : List Field → Nat → Option (List Lf)
  | [], _ => some []
  | f :: fs, off => match sh f.type, shFs P sh fs (off + P.cellsOf f.type) with
    | some r, some rs => if f.offset = off ∧ r.length = P.cellsOf f.type then some (r ++ rs) else none
    | _, _ => none
def shapeOf (P : Program) : Nat → TypeId → Option (List Lf)
  | 0, _ => none
  | n + 1, t => match P.underlying t with
    | some (.int k) => some [.int k]
    | some .bool => some [.bool]
    | some .string => some [.str]
    | some (.slice e) => match shapeOf P n e with
      | some r => if r.length = P.cellsOf e ∧ 0 < r.length then some [.sl r] else none
      | none => none
    | some (.struct fs) => match shFs P (shapeOf P n) fs.toList 0 with
      | some r => if r.length = P.cellsOf t then some r else none
      | none => none
    | _ => none
theorem mtL_append {l1 l2 : List Lf} {v1 v2 : List V} (h1 : MtL l1 v1) (h2 : MtL l2 v2) : MtL (l1 ++ l2) (v1 ++ v2) := by
  induction l1 generalizing v1 with
  | nil => simp only [MtL] at h1; subst h1; simpa using h2
  | cons l l1 ih =>
    simp only [MtL] at h1
    obtain ⟨v, vs, rfl, a, b⟩ := h1
    simp only [List.cons_append, MtL]
    exact ⟨v, vs ++ v2, rfl, a, ih b⟩
theorem mtL_len {l : List Lf} {v : List V} (h : MtL l v) : v.length = l.length := by
  induction l generalizing v with
  | nil => simp only [MtL] at h; subst h; rfl
  | cons x l ih =>
    simp only [MtL] at h
    obtain ⟨v, vs, rfl, a, b⟩ := h
    simp [ih b]
theorem mt_leaf : ∀ {l : Lf} {v : V}, Mt l v → v.leaf = true := by
  intro l v h
  cases l <;> simp only [Mt] at h
  · obtain ⟨n, rfl, _⟩ := h; rfl
  · obtain ⟨b, rfl⟩ := h; rfl
  · obtain ⟨s, rfl, _⟩ := h; rfl
  · obtain ⟨rows, rfl, _⟩ := h; rfl
theorem mtL_leaf {l : List Lf} {v : List V} (h : MtL l v) : ∀ x ∈ v, x.leaf = true := by
  induction l generalizing v with
  | nil => simp only [MtL] at h; subst h; intro x hx; cases hx
  | cons y l ih =>
    simp only [MtL] at h
    obtain ⟨v, vs, rfl, a, b⟩ := h
    intro x hx
    rcases List.mem_cons.1 hx with rfl | hx
    · exact mt_leaf a
    · exact ih b x hx
theorem rdRows_of {w : World} {D : DM} {X : Nat → Prop} {b sz : Nat} : ∀ (off : Nat) (rows : List (List V)),
    (∀ i r, rows[i]? = some r → r.length = sz ∧ rdCells w D X b (off + i * sz) r) → rdRows w D X b sz off rows
  | _, [], _ => by simp [rdRows]
  | off, r :: rows, h => by
    simp only [rdRows]
    have h0 := h 0 r rfl
    refine ⟨h0.1, by simpa using h0.2, rdRows_of (off + sz) rows fun i r' hi => ?_⟩
    have := h (i + 1) r' (by simpa using hi)
    rwa [show off + (i + 1) * sz = off + sz + i * sz by rw [Nat.succ_mul]; omega] at this
theorem rdCells_of_rdL {w : World} {D : DM} {X : Nat → Prop} {b : Nat} : ∀ (off : Nat) (vs : List V) (cs : List Value), rdL w D X vs cs → (∀ x ∈ vs, x.leaf = true) →
    (∀ i, i < cs.length → w.cell? ⟨b, off + i, none⟩ = cs[i]?) → rdCells w D X b off vs
  | _, [], _, _, _, _ => by simp [rdCells]
  | off, v :: vs, cs, h, hl, hc => by
    simp only [rdL] at h
    obtain ⟨y, ys, rfl, h1, h2⟩ := h
    simp only [rdCells]
    refine ⟨hl v (by simp), ⟨y, by simpa using hc 0 (by simp), h1⟩, rdCells_of_rdL (off + 1) vs ys h2 (fun x hx => hl x (by simp [hx])) fun i hi => ?_⟩
    have := hc (i + 1) (by simpa using hi)
    rw [show off + 1 + i = off + (i + 1) by omega, this]
    simp
section
variable {H : Type} {enc : TypeId × Value → H} {P : Program} {w : World}
theorem shape_rd : ∀ (n : Nat) {t : TypeId} {L : List Lf} {fuel : Nat} {cs : List Value} {x : DataW H × List MemPlace}, shapeOf P n t = some L →
    DataW.trod enc P w 0 (fun _ => true) true fuel t cs = some x → ∃ vs, MtL L vs ∧ rdL w DM.none (fun _ => False) vs cs
  | 0, t, L, fuel, cs, x, h, _ => by simp [shapeOf] at h
  | n + 1, t, L, fuel, cs, x, h, hx => by
    cases fuel with
    | zero => simp [DataW.trod] at hx
    | succ fuel =>
    simp only [shapeOf] at h
    split at h
    · rename_i k hu
      simp only [Option.some.injEq] at h; subst h
      obtain ⟨m, rfl, _, hw⟩ := DataW.trod_int hu hx
      exact ⟨[.int k m], by simp [MtL, Mt, hw], by simp [rdL, rd]⟩
    · rename_i hu
      simp only [Option.some.injEq] at h; subst h
      rw [DataW.trod_step] at hx
      unfold DataW.trodStep at hx
      rw [hu] at hx
      split at hx <;> simp_all
      rename_i b
      exact ⟨[.bool b], by simp [MtL, Mt], by simp [rdL, rd]⟩
    · rename_i hu
      simp only [Option.some.injEq] at h; subst h
      rw [DataW.trod_step] at hx
      unfold DataW.trodStep at hx
      rw [hu] at hx
      split at hx <;> simp_all
      rename_i s
      exact ⟨[.str s.data.toList], by simp [MtL, Mt]; exact hx.1, by simp [rdL, rd]⟩
    · rename_i e hu
      split at h <;> first | (cases h; done) | skip
      rename_i r hr
      split at h <;> first | (cases h; done) | skip
      rename_i hsz
      simp only [Option.some.injEq] at h; subst h
      rcases DataW.trod_slice hu hx with ⟨rfl, _⟩ | ⟨a, len, cap, elems, rest, m, _, rfl, _, hb, hl, hm, hlen, hel, _, _⟩
      · exact ⟨[.sl r.length []], by simp [MtL, Mt], by simp only [rdL, rd]; exact ⟨_, [], rfl, ⟨none, 0, rfl, Nat.le_refl _, .inl (by trivial)⟩, rfl⟩⟩
      · have hel' : ∀ i, i < len → ∃ cs', w.cells? 0 (a.add (i * P.cellsOf e)) (P.cellsOf e) = some cs' ∧ ∃ vs, MtL r vs ∧ rdL w DM.none (fun _ => False) vs cs' := by
          intro i hi
          have h1 := hel i hi
          have h2 : elems[i]? = some (elems[i]'(by omega)) := List.getElem?_eq_getElem (by omega)
          rw [h2, Option.bind_eq_some_iff] at h1
          obtain ⟨cs', k1, k2⟩ := h1
          exact ⟨cs', k1, shape_rd n hr k2⟩
        have hch : ∀ i, ∃ p : List Value × List V, i < len → w.cells? 0 (a.add (i * P.cellsOf e)) (P.cellsOf e) = some p.1 ∧ MtL r p.2 ∧ rdL w DM.none (fun _ => False) p.2 p.1 := by
          intro i
          by_cases hi : i < len
          · obtain ⟨cs', k1, vs, k2, k3⟩ := hel' i hi
            exact ⟨(cs', vs), fun _ => ⟨k1, k2, k3⟩⟩
          · exact ⟨([], []), fun h => absurd h hi⟩
        obtain ⟨f, hf⟩ := Classical.axiomOfChoice hch
        have hrow : ∀ i vs, ((List.range len).map fun i => (f i).2)[i]? = some vs → i < len ∧ vs = (f i).2 := by
          intro i vs hi
          rw [List.getElem?_map, Option.map_eq_some_iff] at hi
          obtain ⟨j, h1, h2⟩ := hi
          obtain ⟨h3, h4⟩ := List.getElem?_eq_some_iff.1 h1
          rw [List.getElem_range] at h4
          subst h4
          exact ⟨by simpa using h3, h2.symm⟩
        refine ⟨[.sl r.length ((List.range len).map fun i => (f i).2)], ?_, ?_⟩
        · simp only [MtL, Mt]
          refine ⟨_, [], rfl, ⟨_, rfl, by simp; exact Nat.le_trans hl hm, fun rr hrr => ?_⟩, rfl⟩
          obtain ⟨i, hi⟩ := List.mem_iff_getElem?.1 hrr
          obtain ⟨h1, rfl⟩ := hrow i rr hi
          exact (hf i h1).2.1
        · simp only [rdL, rd]
          refine ⟨_, [], rfl, ⟨some a, cap, by simp, by simpa using hl, ?_⟩, rfl⟩
          by_cases h0 : len = 0
          · left; subst h0; rfl
          · right
            obtain ⟨b, off, spot⟩ := a
            have hspot : spot = none := by
              obtain ⟨_, _, hc⟩ := World.cells?_some (hf 0 (by omega)).1
              have hlen0 := (World.cells?_some (hf 0 (by omega)).1).2.1
              have hc0 := hc 0 (by omega)
              have hlt0 : 0 < (f 0).1.length := by omega
              rw [List.getElem?_eq_getElem hlt0] at hc0
              simpa [Addr.add] using World.cell?_spot hc0
            subst hspot
            have hb' : b < w.heap.size := by
              have := World.cells?_block (hf 0 (by omega)).1 (by omega)
              simpa [Addr.add] using this
            refine ⟨b, off, rfl, hb', fun h => h, rdRows_of _ _ fun i rr hi => ?_⟩
            obtain ⟨h1, rfl⟩ := hrow i rr hi
            obtain ⟨g1, g2, g3⟩ := hf i h1
            obtain ⟨_, hl2, hc⟩ := World.cells?_some g1
            refine ⟨mtL_len g2, rdCells_of_rdL _ _ _ g3 (mtL_leaf g2) fun j hj => ?_⟩
            have := hc j (by omega)
            rw [← this, hsz.1]
            congr 1
            simp only [addr_add]
    · rename_i fs hu
      split at h <;> first | (cases h; done) | skip
      rename_i r hr
      split at h <;> first | (cases h; done) | skip
      rename_i hsz
      simp only [Option.some.injEq] at h; subst h
      rw [DataW.trod_step] at hx
      unfold DataW.trodStep at hx
      rw [hu] at hx
      simp only [] at hx
      split at hx <;> first | (cases hx; done) | skip
      rename_i hlen
      rw [Option.map_eq_some_iff] at hx
      obtain ⟨xs, hxs, _⟩ := hx
      have key : ∀ (fl : List Field) (off : Nat) (r : List Lf) (xs : List (DataW H × List MemPlace)), shFs P (shapeOf P n) fl off = some r →
          (fl.mapM fun f => DataW.trod enc P w 0 (fun _ => true) true fuel f.type ((cs.drop f.offset).take (P.cellsOf f.type))) = some xs →
          ∃ vs, MtL r vs ∧ rdL w DM.none (fun _ => False) vs ((cs.drop off).take r.length) := by
        intro fl
        induction fl with
        | nil =>
          intro off r xs h _
          simp only [shFs, Option.some.injEq] at h; subst h
          exact ⟨[], by simp [MtL], by simp [rdL]⟩
        | cons f fl ih =>
          intro off r xs h hm
          simp only [shFs] at h
          split at h <;> first | (cases h; done) | skip
          rename_i r1 rs h1 h2
          split at h <;> first | (cases h; done) | skip
          rename_i hc
          simp only [Option.some.injEq] at h; subst h
          simp only [List.mapM_cons, Option.pure_def, Option.bind_eq_bind, Option.bind_eq_some_iff, Option.some.injEq] at hm
          obtain ⟨y, hy, ys, hys, rfl⟩ := hm
          obtain ⟨v1, a1, a2⟩ := shape_rd n h1 hy
          obtain ⟨v2, b1, b2⟩ := ih _ rs ys h2 hys
          refine ⟨v1 ++ v2, mtL_append a1 b1, ?_⟩
          have e : (cs.drop off).take (r1 ++ rs).length = (cs.drop off).take r1.length ++ (cs.drop (off + P.cellsOf f.type)).take rs.length := by
            rw [List.length_append, List.take_add, List.drop_drop, hc.2]
          rw [e]
          rw [hc.1, ← hc.2] at a2
          exact rdL_append _ _ _ _ a2 b2
      obtain ⟨vs, a1, a2⟩ := key fs.toList 0 r xs hr hxs
      refine ⟨vs, a1, ?_⟩
      rw [List.drop_zero, List.take_of_length_le (by omega)] at a2
      exact a2
    · cases h
theorem shape_in (n : Nat) {t : TypeId} {L : List Lf} {v : Value} {d : DataW H} {ps : List MemPlace} (hs : shapeOf P n t = some L) (h : DataW.Trod enc P w 0 (fun _ => true) true t v d ps) :
    ∃ vs, MtL L vs ∧ rdL w DM.none (fun _ => False) vs v.cells.toList := by
  obtain ⟨fuel, hf⟩ := h
  exact shape_rd n hs hf
end
end Go.Ml
namespace Go.Ml
open Go.ChangeShapes Go.WideShapes Go.ChangeAt Go.RowKit
def argV (g : Bool) (vs : List V) : V := if g = true then .agg vs else vs.headD .any
def ArgsMt : List (Bool × List Lf) → List V → Prop
  | [], vs => vs = []
  | s :: ss, vs => ∃ cs rest, vs = argV s.1 cs :: rest ∧ MtL s.2 cs ∧ ArgsMt ss rest
def argOk (P : Program) (t : TypeId) (s : Bool × List Lf) : Bool :=
  match P.underlying t with
  | some (.struct _) => s.1
  | some (.int _) | some .bool | some .string | some (.slice _) => !s.1
  | _ => false
def argsOk (P : Program) : List TypeId → List (Bool × List Lf) → Prop
  | [], ss => ss = []
  | t :: ts, ss => ∃ s rest, ss = s :: rest ∧ shapeOf P 20 t = some s.2 ∧ argOk P t s = true ∧ argsOk P ts rest
theorem args_in {H : Type} {enc : TypeId × Value → H} {P : Program} {w : World} {r : Reach} {b : Nat} : ∀ {ts : List TypeId} {ss : List (Bool × List Lf)} {vs : List Value} {ds : List (DataW H)} {ps : List MemPlace},
    argsOk P ts ss → (∀ (j : Nat) t v, ts[j]? = some t → vs[j]? = some v → Value.okWide P w r b t v) → DataW.TrodAll enc P w 0 (fun _ => true) true ts vs ds ps →
    ∃ Vs, ArgsMt ss Vs ∧ rdL w DM.none (fun _ => False) Vs vs
  | [], ss, [], ds, ps, h, _, _ => by simp only [argsOk] at h; subst h; exact ⟨[], rfl, by simp [rdL]⟩
  | [], _, _ :: _, ds, ps, _, _, ht => by cases ds <;> exact ht.elim
  | _ :: _, _, [], ds, ps, _, _, ht => by cases ds <;> exact ht.elim
  | t :: ts, ss, v :: vs, [], ps, _, _, ht => ht.elim
  | t :: ts, ss, v :: vs, d :: ds, ps, h, hw, ht => by
    simp only [argsOk] at h
    obtain ⟨s, rest, rfl, h1, h2, h3⟩ := h
    obtain ⟨p, q, k1, k2, _⟩ := ht
    obtain ⟨Vs, a1, a2⟩ := args_in h3 (fun j t' v' hj hv => hw (j + 1) t' v' (by simpa using hj) (by simpa using hv)) k2
    obtain ⟨cs, c1, c2⟩ := shape_in 20 h1 k1
    have hok := hw 0 t v rfl rfl
    refine ⟨argV s.1 cs :: Vs, ⟨cs, Vs, rfl, c1, a1⟩, ?_⟩
    simp only [rdL]
    refine ⟨v, vs, rfl, ?_, a2⟩
    unfold argOk at h2
    have one : (∀ cs', v ≠ .agg cs') → s.1 = false → s.2.length = 1 → rd w DM.none (fun _ => False) (argV s.1 cs) v := by
      intro hv hs hl
      have hvc : v.cells.toList = [v] := by cases v <;> first | rfl | (exact absurd rfl (hv _))
      rw [hvc] at c2
      have := mtL_len c1
      rw [hl] at this
      cases cs with
      | nil => simp at this
      | cons x xs =>
        simp only [rdL] at c2
        obtain ⟨y, ys, e, e2, _⟩ := c2
        simp only [List.cons.injEq] at e
        rw [hs]
        simp only [argV, Bool.false_eq_true, if_false, List.headD_cons]
        rw [e.1]; exact e2
    unfold shapeOf at h1
    split at h2
    · rename_i fs hu
      rw [h2]
      simp only [Value.okWide, hu] at hok
      obtain ⟨cs', rfl, _⟩ := hok
      simp only [argV, if_true, rd]
      exact ⟨cs', rfl, c2⟩
    · rename_i k hu
      rw [hu] at h1
      simp only [Option.some.injEq] at h1
      obtain ⟨n, rfl⟩ := okWide_int hu hok
      exact one (by intro cs' e; cases e) (by simpa using h2) (by rw [← h1]; rfl)
    · rename_i hu
      rw [hu] at h1
      simp only [Option.some.injEq] at h1
      obtain ⟨n, rfl⟩ := okWide_bool hu hok
      exact one (by intro cs' e; cases e) (by simpa using h2) (by rw [← h1]; rfl)
    · rename_i hu
      rw [hu] at h1
      simp only [Option.some.injEq] at h1
      obtain ⟨n, rfl⟩ := okWide_string hu hok
      exact one (by intro cs' e; cases e) (by simpa using h2) (by rw [← h1]; rfl)
    · rename_i e hu
      rw [hu] at h1
      simp only [] at h1
      obtain ⟨a0, l0, c0, rfl⟩ := okWide_slice hu hok
      refine one (by intro cs' e; cases e) (by simpa using h2) ?_
      split at h1 <;> first | (cases h1; done) | skip
      split at h1 <;> first | (cases h1; done) | skip
      simp only [Option.some.injEq] at h1
      rw [← h1]; rfl
    · cases h2
theorem trodAll_below {H : Type} {enc : TypeId × Value → H} {P : Program} (hl : laidOutB P = true) {W W' : World} (hb : Below W.heap.size W W') : ∀ {ts : List TypeId} {vs : List Value} {ds : List (DataW H)} {ps : List MemPlace},
    (ts.all fun t => P.readableRec t && decide (t < P.types.size)) = true → DataW.TrodAll enc P W 0 (fun _ => true) true ts vs ds ps → (∀ x ∈ ps, x.block < W.heap.size) →
    DataW.TrodAll enc P W' 0 (fun b => decide (b < W.heap.size)) true ts vs ds ps
  | [], [], [], ps, _, h, _ => h
  | [], _ :: _, ds, ps, _, ht, _ => by cases ds <;> exact ht.elim
  | [], [], _ :: _, ps, _, ht, _ => ht.elim
  | _ :: _, [], ds, ps, _, ht, _ => by cases ds <;> exact ht.elim
  | t :: ts, v :: vs, [], ps, _, ht, _ => ht.elim
  | t :: ts, v :: vs, d :: ds, ps, h, ht, hlt => by
    simp only [List.all_cons, Bool.and_eq_true, decide_eq_true_eq] at h
    obtain ⟨p, q, k1, k2, rfl⟩ := ht
    exact ⟨p, q, Below.trod hl h.1.1 h.1.2 k1 hb fun x hx => hlt x (by simp [hx]), trodAll_below hl hb (by simpa using h.2) k2 fun x hx => hlt x (by simp [hx]), rfl⟩
end Go.Ml
end
section
set_option linter.unusedSimpArgs false
set_option linter.unusedVariables false
namespace Go.Ml
theorem dec_list {α : Type} {row : List Lf} {f : α → List V} {W : α → Prop} (h : ∀ r, MtL row r → ∃ x, r = f x ∧ W x) {v : V} (hv : Mt (.sl row) v) : ∃ l : List α, v = .sl row.length (l.map f) ∧ wfL W l := by
  simp only [Mt] at hv
  obtain ⟨rows, rfl, hl, hr⟩ := hv
  have key : ∀ rows : List (List V), (∀ r ∈ rows, MtL row r) → ∃ l : List α, rows = l.map f ∧ ∀ x ∈ l, W x := by
    intro rows
    induction rows with
    | nil => intro _; exact ⟨[], rfl, by simp⟩
    | cons r rows ih =>
      intro hr
      obtain ⟨x, rfl, hx⟩ := h r (hr r (by simp))
      obtain ⟨l, rfl, hl⟩ := ih fun r hr' => hr r (by simp [hr'])
      exact ⟨x :: l, rfl, by simpa using ⟨hx, hl⟩⟩
  obtain ⟨l, rfl, hw⟩ := key rows hr
  exact ⟨l, rfl, by simpa [maxLen] using hl, hw⟩
theorem dec_one {l : Lf} {r : List V} (h : MtL [l] r) : ∃ v, r = [v] ∧ Mt l v := by
  simp only [MtL] at h
  obtain ⟨v, vs, rfl, h1, rfl⟩ := h
  exact ⟨v, rfl, h1⟩
theorem dec_bytes {v : V} (h : Mt (.sl [.int .u8]) v) : ∃ l : List UInt8, v = .sl 1 (l.map fun b => [.int .u8 b.toNat]) ∧ l.length ≤ 9223372036854775807 := by
  obtain ⟨l, rfl, hl⟩ := dec_list (f := fun b : UInt8 => [V.int .u8 b.toNat]) (W := fun _ => True) (fun r hr => by
    obtain ⟨v, rfl, g⟩ := dec_one hr
    simp only [Mt] at g
    obtain ⟨n, rfl, hn⟩ := g
    simp only [Lit.wf, Bool.and_eq_true, decide_eq_true_eq] at hn
    have h1 : IntKind.u8.min = 0 := by decide
    have h2 : IntKind.u8.max = 255 := by decide
    rw [h1, h2] at hn
    refine ⟨UInt8.ofNat n.toNat, ?_, trivial⟩
    have e : (((UInt8.ofNat n.toNat).toNat : Nat) : Int) = n := by
      rw [UInt8.toNat_ofNat', Nat.mod_eq_of_lt (by omega)]; omega
    rw [e]) h
  exact ⟨l, rfl, hl.1⟩
def AllP {α : Type} (P : α → Prop) : List α → Prop
  | [] => True
  | x :: l => P x ∧ AllP P l
theorem AllP.mem {α : Type} {P : α → Prop} : ∀ {l : List α}, AllP P l → ∀ x ∈ l, P x
  | [], _, x, hx => by cases hx
  | y :: l, h, x, hx => by
    rcases List.mem_cons.1 hx with rfl | hx
    · exact h.1
    · exact AllP.mem h.2 x hx
end Go.Ml
namespace Go.Ml
theorem trod_len {H : Type} {enc : TypeId × Value → H} {P : Program} {w : World} {b : Nat} {sp : Nat → Bool} {hd : Bool} : ∀ {ts : List TypeId} {vs : List Value} {ds : List (DataW H)} {ps : List MemPlace},
    DataW.TrodAll enc P w b sp hd ts vs ds ps → ds.length = ts.length
  | [], [], [], _, _ => rfl
  | [], [], _ :: _, _, h => h.elim
  | [], _ :: _, ds, _, h => by cases ds <;> exact h.elim
  | _ :: _, [], ds, _, h => by cases ds <;> exact h.elim
  | _ :: _, _ :: _, [], _, h => h.elim
  | t :: ts, v :: vs, d :: ds, ps, h => by
    obtain ⟨p, q, _, h2, _⟩ := h
    simp [trod_len h2]
end Go.Ml
end
