/- A small language for the functions of this claim, its soundness, contracts. -/
import Derived.Test.YtfehnjcefmdljabPart2
section
set_option linter.unusedSimpArgs false
set_option linter.unusedVariables false
set_option maxRecDepth 100000
set_option maxHeartbeats 4000000
namespace Go.Ml
def F_laws_markIntS : Fn := ⟨2, 19, [.tmp 4], (.seq (.reg false 0 [oN 4 (.mov (cI 0))]) (.seq (.seq (.reg false 0 [oN 5 (.mov (cI 0))]) (.block 0 (.loop (.seq (.seq (.reg false 0 [oN 6 (oV 5), oN 7 (oV 0), oN 8 (.len (.t 7)), oN 9 (.bin .lss (.t 6) (.t 8))]) (.cond (.t 9) .skip (.exit 0))) (.seq (.block 1 (.seq (.reg false 0 [oN 12 (oV 0), oN 13 (oV 5), oN 14 (oV 1), oN 15 (.idx 1 (.t 12) (.t 13)), oS (.store 1 (.t 15) (.t 14))]) (.reg false 0 [oN 16 (oV 1), oN 17 (.bin .add (.t 16) (cI 1)), oN 1 (oV 17)]))) (.reg false 0 [oN 10 (oV 5), oN 11 (.bin .add (.t 10) (cI 1)), oN 5 (oV 11)])))))) (.seq (.reg false 0 [oN 18 (oV 1), oN 4 (oV 18)]) .ret)))⟩
structure D_laws_markIntS (T : Nat → Option Fn) : Prop where
  hT : T 57 = some F_laws_markIntS
def F_laws_heldIntS : Fn := ⟨2, 21, [.tmp 4], (.seq (.reg false 0 [oN 4 (.mov (cI 0))]) (.seq (.seq (.reg false 0 [oN 5 (.mov (cI 0))]) (.block 0 (.loop (.seq (.seq (.reg false 0 [oN 6 (oV 5), oN 7 (oV 0), oN 8 (.len (.t 7)), oN 9 (.bin .lss (.t 6) (.t 8))]) (.cond (.t 9) .skip (.exit 0))) (.seq (.block 1 (.seq (.seq (.reg false 0 [oN 12 (oV 0), oN 13 (oV 5), oN 14 (.idx 1 (.t 12) (.t 13)), oN 15 (.load 1 false (.t 14)), oN 16 (oV 1), oN 17 (.bin .neq (.t 15) (.t 16))]) (.cond (.t 17) (.seq (.reg false 0 [oN 4 (.mov (cI (-1)))]) .ret) .skip)) (.reg false 0 [oN 18 (oV 1), oN 19 (.bin .add (.t 18) (cI 1)), oN 1 (oV 19)]))) (.reg false 0 [oN 10 (oV 5), oN 11 (.bin .add (.t 10) (cI 1)), oN 5 (oV 11)])))))) (.seq (.reg false 0 [oN 20 (oV 1), oN 4 (oV 20)]) .ret)))⟩
structure D_laws_heldIntS (T : Nat → Option Fn) : Prop where
  hT : T 59 = some F_laws_heldIntS
theorem po_toIntS {T : Nat → Option Fn} (h : D_laws_toIntS T) {l : List Int} (hl : l.length ≤ 1048576 := by first | omega | assumption | (simp; omega)) : PO T 6 [ints l] (ints l) := by
  refine po_end2 (fun _ _ => false) h.hT rfl rfl ?_
  dsimp only [F_laws_toIntS, oN, oS, oG, oK, oA, oH, oV, cI, St.enter, List.length_cons, List.length_nil, Nat.zero_add]
  (refine ew ?_; try with_reducible exact True.intro)
  refine ⟨by omega, ?_⟩
  rw [ir_rep]
  refine loop_at (fun _ _ => false) (α := Nat) (fun i => ⟨argE [ints l, .any, .any, .msl 0 0 l.length, iv (i : Nat)], [some ⟨1, irows (fillTo l 0 i)⟩], 0, 0, [], []⟩) (fun i => i ≤ l.length) (fun i => l.length - i) rfl 0 ?_ ?_ ?_
  · omega
  · (refine Fg_env ?_) <;> (try (refine ew1 @fillTo_zero ?_; try with_reducible exact True.intro)) <;> (repeat' (first | refine ⟨?_, ?_⟩ | exact EvV_int (by omega) | exact EvV_of (by simp) | exact EvV_nil _))
  · intro i hi
    have e1 := fillTo_len l 0 hi
    (refine ew1 @e1 ?_; try with_reducible exact True.intro)
    refine brK_dec (fun hb => ?_) fun hb => ?_ <;> (refine ew2 @hb @e1 ?_; try with_reducible exact True.intro)
    · have e2 := fillTo_set l 0 (i := i) (by omega)
      have e3 : (default : Int) = 0 := rfl
      rw [e3] at e2
      rw [e2]
      exact ⟨i + 1, by omega, by omega, by (refine Fg_env ?_) <;> (try (refine ew ?_; try with_reducible exact True.intro)) <;> (repeat' (first | refine ⟨?_, ?_⟩ | exact EvV_int (by omega) | exact EvV_of (by simp) | exact EvV_nil _))⟩
    · have : i = l.length := by omega
      subst this
      rw [fillTo_all]
      exact fin_ints rfl
def cnt (n : Nat) (k : Int) : List Int := (List.range n).map fun i => k + ((i : Nat) : Int)
theorem cnt_len (n : Nat) (k : Int) : (cnt n k).length = n := by simp [cnt]
theorem cnt_at {n i : Nat} (k : Int) (h : i < n) : (cnt n k).getD i 0 = k + (i : Nat) := by
  simp [cnt, List.getD_eq_getElem?_getD, h]
def cntTo (l : List Int) (k : Int) (i : Nat) : List Int := cnt i k ++ l.drop i
theorem cntTo_0 (l : List Int) (k : Int) : cntTo l k 0 = l := by simp [cntTo, cnt]
theorem cntTo_all (l : List Int) (k : Int) : cntTo l k l.length = cnt l.length k := by simp [cntTo]
theorem cntTo_len (l : List Int) (k : Int) {i : Nat} (h : i ≤ l.length) : (cntTo l k i).length = l.length := by simp [cntTo, cnt_len]; omega
theorem cntTo_set (l : List Int) (k : Int) {i : Nat} (h : i < l.length) : (cntTo l k i).set i (k + (i : Nat)) = cntTo l k (i + 1) := by
  unfold cntTo
  rw [List.set_append_right _ _ (by rw [cnt_len]; exact Nat.le_refl _), cnt_len, Nat.sub_self, List.drop_eq_getElem_cons h, List.set_cons_zero]
  unfold cnt
  rw [List.range_succ, List.map_append]
  simp
theorem mk_markIntS {T : Nat → Option Fn} (h : D_laws_markIntS T) {l : List Int} {k : Int} (hl : l.length ≤ 1048576 := by first | omega | assumption | (simp; omega)) (hk : 0 ≤ k ∧ k ≤ 1000000000000 := by first | omega | assumption | (simp; omega)) :
    Mk T 57 (ints l) k (ints (cnt l.length k)) (k + l.length) := by
  refine mk_iff fun σ v os ho hn => ?_
  rcases ho.ints_inv with ⟨rfl, rfl, rfl⟩ | ⟨o, rfl, h1, rfl⟩
  · have : ∃ r σ', Run T (.fn 57 [.sl 1 [], iv k] σ) (.fn r σ') ∧ (r = iv k ∧ σ' = σ) := by
      refine run_end (fun _ _ => false) h.hT rfl rfl ?_
      dsimp only [F_laws_markIntS, oN, oS, oG, oK, oA, oH, oV, cI, St.enter, List.length_cons, List.length_nil, Nat.zero_add]
      (refine ew ?_; try with_reducible exact True.intro)
      refine loop_at (fun _ _ => false) (α := Nat) (fun i => ⟨argE [.sl 1 [], iv k, .any, .any, .any, iv 0], σ, σ.length, 0, [], []⟩) (fun i => i = 0) (fun i => i) rfl 0 ?_ ?_ ?_
      · rfl
      · (refine Fg_env ?_) <;> (try (refine ew ?_; try with_reducible exact True.intro)) <;> (repeat' (first | refine ⟨?_, ?_⟩ | exact EvV_int (by omega) | exact EvV_of (by simp) | exact EvV_nil _))
      · rintro i rfl
        (refine ew ?_; try with_reducible exact True.intro)
        refine brK_dec (fun hc => absurd hc (by omega)) fun hc => ?_
        (refine ew ?_; try with_reducible exact True.intro)
    obtain ⟨r, σ', h2, rfl, rfl⟩ := this
    exact ⟨σ', by simpa using h2, ho, Fr.refl _ _⟩
  · have hlt := objAt_lt h1
    have : ∃ r σ', Run T (.fn 57 [.msl o 0 l.length, iv k] σ) (.fn r σ') ∧ (r = iv (k + l.length) ∧ objAt σ' o = some ⟨1, irows (cnt l.length k)⟩ ∧ Fr [o] σ σ') := by
      refine run_end (fun _ _ => false) h.hT rfl rfl ?_
      dsimp only [F_laws_markIntS, oN, oS, oG, oK, oA, oH, oV, cI, St.enter, List.length_cons, List.length_nil, Nat.zero_add]
      (refine ew ?_; try with_reducible exact True.intro)
      refine loop_at (fun _ _ => false) (α := Nat × Store) (fun q => ⟨argE [.msl o 0 l.length, iv (k + (q.1 : Nat)), .any, .any, .any, iv (q.1 : Nat)], q.2, σ.length, 0, [], []⟩) (fun q => q.1 ≤ l.length ∧ objAt q.2 o = some ⟨1, irows (cntTo l k q.1)⟩ ∧ Fr [o] σ q.2) (fun q => l.length - q.1) rfl (0, σ) ?_ ?_ ?_
      · exact ⟨by omega, by rw [cntTo_0]; exact h1, Fr.refl _ _⟩
      · (refine Fg_env ?_) <;> (try (refine ew ?_; try with_reducible exact True.intro)) <;> (repeat' (first | refine ⟨?_, ?_⟩ | exact EvV_int (by omega) | exact EvV_of (by simp) | exact EvV_nil _))
      · rintro ⟨i, s⟩ ⟨hi, h2, h3⟩
        dsimp only at hi h2 h3
        have e1 := cntTo_len l k hi
        have hls := h3.len
        (refine ew1 @h2 ?_; try with_reducible exact True.intro)
        refine brK_dec (fun hc => ?_) fun hc => ?_ <;> (refine ew3 @hc @h2 @e1 ?_; try with_reducible exact True.intro)
        · have e2 := cntTo_set l k (i := i) (by omega)
          rw [e2]
          refine ⟨(i + 1, s.set o (some ⟨1, irows (cntTo l k (i + 1))⟩)), by dsimp only; omega, ⟨by dsimp only; omega, ?_, ?_⟩, by (refine Fg_env ?_) <;> (try (refine ew ?_; try with_reducible exact True.intro)) <;> (repeat' (first | refine ⟨?_, ?_⟩ | exact EvV_int (by omega) | exact EvV_of (by simp) | exact EvV_nil _))⟩
          · dsimp only; exact objAt_seteq (by omega)
          · dsimp only; exact h3.trans (fr_set (by simp))
        · have : i = l.length := by omega
          subst this
          exact ⟨rfl, by rw [cntTo_all], h3⟩
    obtain ⟨r, σ', h2, rfl, h3, h4⟩ := this
    have := owV_ints h3
    rw [cnt_len] at this
    exact ⟨σ', h2, this, h4⟩
theorem c_heldIntS {T : Nat → Option Fn} (h : D_laws_heldIntS T) {n : Nat} {k : Int} (hl : n ≤ 1048576 := by first | omega | assumption | (simp; omega)) (hk : 0 ≤ k ∧ k ≤ 1000000000000 := by first | omega | assumption | (simp; omega)) :
    PF T 59 [ints (cnt n k), iv k] (iv (k + n)) := by
  have hcl := cnt_len n k
  refine pf_end (fun _ _ => false) h.hT rfl rfl ?_
  dsimp only [F_laws_heldIntS, oN, oS, oG, oK, oA, oH, oV, cI]
  (refine ev ?_; try with_reducible exact True.intro)
  refine loop_at (fun _ _ => false) (α := Nat) (fun i => ⟨argE [ints (cnt n k), iv (k + (i : Nat)), .any, .any, .any, iv (i : Nat)], [], 0, 0, [], []⟩) (fun i => i ≤ n) (fun i => n - i) rfl 0 ?_ ?_ ?_
  · omega
  · (refine Fg_env ?_) <;> (try (refine ev ?_; try with_reducible exact True.intro)) <;> (repeat' (first | refine ⟨?_, ?_⟩ | exact EvV_int (by omega) | exact EvV_of (by simp) | exact EvV_nil _))
  · intro i hi
    (refine ev1 @hcl ?_; try with_reducible exact True.intro)
    refine brK_dec (fun hc => ?_) fun hc => ?_ <;> (refine ev2 @hc @hcl ?_; try with_reducible exact True.intro)
    · have := cnt_at k (show i < n by omega)
      (refine ev1 @this ?_; try with_reducible exact True.intro)
      exact ⟨i + 1, by omega, by omega, by (refine Fg_env ?_) <;> (try (refine ev ?_; try with_reducible exact True.intro)) <;> (repeat' (first | refine ⟨?_, ?_⟩ | exact EvV_int (by omega) | exact EvV_of (by simp) | exact EvV_nil _))⟩
    · have : i = n := by omega
      subst this
      rfl
end Go.Ml
end
section
set_option linter.unusedSimpArgs false
set_option linter.unusedVariables false
namespace Go.Ml
theorem Mk.go {T : Nat → Option Fn} {f : Nat} {t t' : V} {k k' : Int} (h : Mk T f t k t' k') {σ : Store} {v : V} {os : List Nat} (ho : OwV σ v t os) (hn : os.Nodup) :
    ∃ σ', Run T (.fn f [v, .int .i64 k] σ) (.fn (.int .i64 k') σ') ∧ OwV σ' v t' os ∧ Fr os σ σ' := by
  obtain ⟨σ', a, b, c, d⟩ := h σ v os ho hn
  exact ⟨σ', a, b, ⟨c, d⟩⟩
def V.sca : V → Bool
  | .int _ _ => true
  | .bool _ => true
  | _ => false
theorem owV_sca {σ : Store} {x : V} (h : x.sca = true) : OwV σ x x [] := by cases x <;> simp_all [V.sca, OwV]
theorem OwV.sca_inv {σ : Store} {v x : V} {os : List Nat} (h : OwV σ v x os) (hx : x.sca = true) : v = x ∧ os = [] := by
  cases x <;> simp_all [V.sca, OwV]
structure Cs (σ : Store) (cs ts : List V) (os : List Nat) : Prop where
  ow : OwL σ cs ts os
  nd : os.Nodup
theorem set_at {α : Type} {l : List α} {i : Nat} {x : α} (h : l[i]? = some x) : l.set i x = l := by
  apply List.ext_getElem?
  intro n
  rw [List.getElem?_set]
  split
  · subst_vars
    split
    · exact h.symm
    · rename_i hlt; rw [List.getElem?_eq_none (by omega)]
  · rfl
section
variable {σ σ' : Store} {cs ts : List V} {os : List Nat}
theorem Cs.lt (h : Cs σ cs ts os) : ∀ q ∈ os, q < σ.length := h.ow.lt
theorem Cs.frame (h : Cs σ cs ts os) (f : ∀ q ∈ os, objAt σ' q = objAt σ q) : Cs σ' cs ts os := ⟨h.ow.frame f, h.nd⟩
theorem Cs.fr {os' : List Nat} (h : Cs σ cs ts os) (f : Fr os' σ σ') (hd : ∀ q ∈ os, q ∉ os') : Cs σ' cs ts os := h.frame fun q hq => f.old q (h.lt q hq) (hd q hq)
theorem Cs.snoc (h : Cs σ cs ts os) {x : Option Obj} : Cs (σ ++ [x]) cs ts os := h.frame fun q hq => objAt_snoc_lt (h.lt q hq)
theorem Cs.set (h : Cs σ cs ts os) {o : Nat} {x : Option Obj} (ho : o ∉ os) : Cs (σ.set o x) cs ts os := h.frame fun q hq => objAt_setne fun e => ho (e ▸ hq)
theorem Cs.sca (h : Cs σ cs ts os) (c : Nat) (x : V) {t : V} (ht : ts[c]? = some t) (hs : t.sca = true := by rfl) (hx : x.sca = true := by rfl) : Cs σ (cs.set c x) (ts.set c x) os := by
  obtain ⟨vc, oc, j1, j2, j3, j4, j5⟩ := h.ow.focus c t h.nd ht
  obtain ⟨rfl, rfl⟩ := j2.sca_inv hs
  exact ⟨j5 σ x x (owV_sca hx) fun _ _ _ => rfl, h.nd⟩
theorem Cs.call {T : Nat → Option Fn} {f : Nat} {t t' v : V} {k k' : Int} (h : Cs σ cs ts os) (c : Nat) (hm : Mk T f t k t' k') (hv : cs[c]? = some v) (ht : ts[c]? = some t) :
    ∃ σ', Run T (.fn f [v, .int .i64 k] σ) (.fn (.int .i64 k') σ') ∧ Cs σ' cs (ts.set c t') os ∧ Fr os σ σ' := by
  obtain ⟨vc, oc, j1, j2, j3, j4, j5⟩ := h.ow.focus c t h.nd ht
  rw [hv] at j1
  cases j1
  obtain ⟨σ', m1, m2, m3⟩ := hm.go j2 j3
  refine ⟨σ', m1, ⟨?_, h.nd⟩, m3.mono j4⟩
  have := j5 σ' v t' m2 fun q hq' hq => m3.old q (h.lt q hq') hq
  rwa [set_at hv] at this
theorem Cs.part {T : Nat → Option Fn} {f : Nat} {t2 t2' : List V} {k k' : Int} (h : Cs σ cs ts os) (n m : Nat) (hm : Mk T f (.agg t2) k (.agg t2') k') (ht : (ts.drop n).take m = t2) (hn : n + m ≤ ts.length) :
    ∃ σ', Run T (.fn f [.agg ((cs.drop n).take m), .int .i64 k] σ) (.fn (.int .i64 k') σ') ∧ Cs σ' cs (ts.take n ++ t2' ++ ts.drop (n + m)) os ∧ Fr os σ σ' := by
  have e : ts = ts.take n ++ (t2 ++ ts.drop (n + m)) := by
    rw [← ht]
    conv => lhs; rw [← List.take_append_drop n ts, ← List.take_append_drop m (ts.drop n), List.drop_drop]
  have lt2 : t2.length = m := by rw [← ht]; simp; omega
  have h1 := h.ow
  rw [e] at h1
  obtain ⟨c1, c2, o1, o2, rfl, rfl, a1, a2⟩ := owL_split h1
  have l1 := a1.len
  obtain ⟨c3, c4, o3, o4, rfl, rfl, a3, a4⟩ := owL_split a2
  have l2 := a3.len
  have nd := h.nd
  have l1' : c1.length = n := by rw [l1]; simp; omega
  have e2 : ((c1 ++ (c3 ++ c4)).drop n).take m = c3 := by
    rw [← l1', List.drop_left, ← lt2, ← l2, List.take_left]
  rw [e2]
  simp only [List.nodup_append, List.mem_append] at nd
  obtain ⟨nd1, ⟨nd3, nd4, d34⟩, d1⟩ := nd
  obtain ⟨σ', m1, m2, m3⟩ := hm.go (owV_agg a3) nd3
  obtain ⟨cs', e3, m4⟩ := m2.agg_inv
  cases e3
  have lt := h.lt
  refine ⟨σ', m1, ⟨?_, h.nd⟩, m3.mono (by simp +contextual)⟩
  rw [List.append_assoc]
  refine owL_append (a1.frame fun q hq => m3.old q (lt q (by simp [hq])) fun hk => d1 q hq q (.inl hk) rfl) (owL_append m4 (a4.frame fun q hq => m3.old q (lt q (by simp [hq])) fun hk => d34 q hk q hq rfl))
theorem Cs.got {σ2 : Store} {r t : V} {os2 : List Nat} (h : Cs σ cs ts os) (g : Got σ σ2 r t os2) : Cs σ2 (cs ++ [r]) (ts ++ [t]) (os ++ os2) := by
  refine ⟨owL_append (h.ow.frame fun q hq => g.old q (h.lt q hq)) (by simpa using owL_v g.ow owL_nil), ?_⟩
  rw [List.nodup_append]
  refine ⟨h.nd, g.nd, fun x hx y hy e => ?_⟩
  have := h.lt x hx
  have := g.fresh y hy
  omega
theorem cs_nil : Cs σ [] [] [] := ⟨owL_nil, .nil⟩
theorem Cs.res (h : Cs σ cs ts os) (c : Nat) {v t : V} (hv : cs[c]? = some v) (ht : ts[c]? = some t) (hd : DepLe FD t) : resolve σ FD v = some t := by
  obtain ⟨vc, oc, j1, j2, _⟩ := h.ow.focus c t h.nd ht
  rw [hv] at j1
  cases j1
  exact ow_res FD j2 hd
end
theorem OwV.row_inv {σ : Store} {v : V} {sz : Nat} {rows : List (List V)} {os : List Nat} {i : Nat} {row : List V} (h : OwV σ v (.sl sz rows) os) (hn : os.Nodup) (hi : rows[i]? = some row) :
    ∃ o R cs oc, v = .msl o 0 rows.length ∧ objAt σ o = some ⟨sz, R⟩ ∧ R.length = rows.length ∧ R[i]? = some cs ∧ Cs σ cs row oc ∧ (∀ q ∈ oc, q ∈ os) ∧ o ∈ os ∧ o ∉ oc ∧
      (∀ σ' cs' row', Cs σ' cs' row' oc → objAt σ' o = some ⟨sz, R.set i cs'⟩ → Fr (o :: oc) σ σ' → OwV σ' v (.sl sz (rows.set i row')) os) := by
  simp only [OwV] at h
  rcases h with ⟨rfl, _, _⟩ | ⟨o, R, os', rfl, h2, rfl, h3⟩
  · simp at hi
  rw [List.nodup_cons] at hn
  have hlt := h3.lt
  obtain ⟨cs, oc, k1, k2, k3, k4, k5⟩ := h3.focus i row hn.2 hi
  refine ⟨o, R, cs, oc, rfl, h2, h3.len, k1, ⟨k2, k3⟩, fun q hq => by simp [k4 q hq], by simp, fun k => hn.1 (k4 o k), ?_⟩
  intro σ' cs' row' hc ho hf
  simp only [OwV]
  refine .inr ⟨o, _, os', by simp, ho, rfl, k5 σ' cs' row' hc.ow fun q hq hnq => hf.old q (hlt q hq) fun hk => ?_⟩
  rcases List.mem_cons.1 hk with rfl | hk
  · exact hn.1 hq
  · exact hnq hk
theorem OwV.sl_inv {σ : Store} {v : V} {sz : Nat} {rows : List (List V)} {os : List Nat} (h : OwV σ v (.sl sz rows) os) :
    (rows = [] ∧ v = .sl sz [] ∧ os = []) ∨ ∃ o R os', v = .msl o 0 rows.length ∧ objAt σ o = some ⟨sz, R⟩ ∧ R.length = rows.length ∧ os = o :: os' ∧ OwR σ R rows os' := by
  simp only [OwV] at h
  rcases h with ⟨rfl, h1, h2⟩ | ⟨o, R, os', rfl, h2, rfl, h3⟩
  · exact .inl ⟨rfl, h1, h2⟩
  · exact .inr ⟨o, R, os', rfl, h2, h3.len, rfl, h3⟩
theorem OwV.obj {σ : Store} {o n : Nat} {sz : Nat} {rows : List (List V)} {os : List Nat} (h : OwV σ (.msl o 0 n) (.sl sz rows) os) : ∃ R, objAt σ o = some ⟨sz, R⟩ ∧ R.length = n := by
  rcases h.sl_inv with ⟨_, e, _⟩ | ⟨o, R, os', e, h2, h3, _, _⟩
  · cases e
  · cases e; exact ⟨R, h2, h3⟩
theorem szL_at {α : Type} [Inhabited α] (f : α → Nat) {l : List α} {i : Nat} (h : i < l.length) : l.length + f (l.getD i default) ≤ szL f l := by
  have h1 := sumTo_succ f h
  have h2 := sumTo_le f l (i + 1)
  unfold szL
  omega
theorem RefK_mk {T : Nat → Option Fn} {f : Nat} {as : List Src} {dst : Option Nat} {env : Nat → V} {σ σ' : Store} {kp bs : Nat} {rs ms : List Nat} {k : St → Prop} {as' : List V} {r : V}
    (h : Run T (.fn f as' σ) (.fn r σ')) (ha : (as.map fun s => s.ev env) = as') (hl : σ.length ≤ σ'.length) (hb : σ.length ≤ bs) (hk : k ⟨updO env dst r, σ', kp, bs, rs, ms⟩) : RefK T f as dst ⟨env, σ, kp, bs, rs, ms⟩ k := by
  subst ha
  exact RefK_idn h hl hb hk
def mkL {α : Type} (f : Int → α → α) (c : α → Nat) : Int → List α → List α
  | _, [] => []
  | k, x :: l => f k x :: mkL f c (k + c x) l
def cnL {α : Type} (c : α → Nat) (l : List α) (i : Nat) : Nat := ((l.take i).map c).sum
theorem cnL_0 {α : Type} (c : α → Nat) (l : List α) : cnL c l 0 = 0 := by simp [cnL]
theorem cnL_s {α : Type} [Inhabited α] (c : α → Nat) (l : List α) {i : Nat} (h : i < l.length) : cnL c l (i + 1) = cnL c l i + c (l.getD i default) := by
  unfold cnL
  have e : l.take (i + 1) = l.take i ++ [l.getD i default] := by
    rw [List.take_add_one, List.getElem?_eq_getElem h, List.getD_eq_getElem?_getD, List.getElem?_eq_getElem h]; rfl
  rw [e, List.map_append, List.sum_append]
  simp
theorem cnL_cons {α : Type} (c : α → Nat) (x : α) (l : List α) (i : Nat) : cnL c (x :: l) (i + 1) = c x + cnL c l i := by simp [cnL]
theorem cnL_le {α : Type} (c : α → Nat) : ∀ (l : List α) {i : Nat}, i ≤ l.length → cnL c l i ≤ cnL c l l.length
  | [], i, h => by simp at h; subst h; exact Nat.le_refl _
  | x :: l, 0, h => by simp [cnL_0]
  | x :: l, i + 1, h => by
    rw [cnL_cons, List.length_cons, cnL_cons]
    have := cnL_le c l (i := i) (by simpa using h)
    omega
theorem mkL_len {α : Type} (f : Int → α → α) (c : α → Nat) : ∀ (k : Int) (l : List α), (mkL f c k l).length = l.length
  | _, [] => rfl
  | k, x :: l => by simp [mkL, mkL_len f c _ l]
theorem mkL_at {α : Type} [Inhabited α] (f : Int → α → α) (c : α → Nat) : ∀ (k : Int) (l : List α) (i : Nat), i < l.length → (mkL f c k l).getD i default = f (k + cnL c l i) (l.getD i default)
  | _, [], i, h => by simp at h
  | k, x :: l, 0, h => by simp [mkL, cnL_0]
  | k, x :: l, i + 1, h => by
    rw [cnL_cons, mkL, List.getD_cons_succ, List.getD_cons_succ, mkL_at f c _ l i (by simpa using h)]
    congr 1
    omega
def mkTo {α : Type} (f : Int → α → α) (c : α → Nat) (k : Int) (l : List α) (i : Nat) : List α := (mkL f c k l).take i ++ l.drop i
theorem mkTo_0 {α : Type} (f : Int → α → α) (c : α → Nat) (k : Int) (l : List α) : mkTo f c k l 0 = l := by simp [mkTo]
theorem mkTo_all {α : Type} (f : Int → α → α) (c : α → Nat) (k : Int) (l : List α) : mkTo f c k l l.length = mkL f c k l := by
  unfold mkTo
  rw [List.drop_length, List.append_nil, List.take_of_length_le (by rw [mkL_len]; exact Nat.le_refl _)]
theorem mkTo_len {α : Type} (f : Int → α → α) (c : α → Nat) (k : Int) (l : List α) {i : Nat} (h : i ≤ l.length) : (mkTo f c k l i).length = l.length := by
  simp [mkTo, mkL_len]; omega
theorem mkTo_at {α : Type} [Inhabited α] (f : Int → α → α) (c : α → Nat) (k : Int) (l : List α) {i : Nat} (h : i < l.length) : (mkTo f c k l i).getD i default = l.getD i default := by
  have e : ((mkL f c k l).take i).length = i := by simp [mkL_len]; omega
  unfold mkTo
  rw [List.getD_eq_getElem?_getD, List.getElem?_append_right (by omega), e, Nat.sub_self, List.getElem?_drop, Nat.add_zero, ← List.getD_eq_getElem?_getD]
theorem mkTo_set {α : Type} [Inhabited α] (f : Int → α → α) (c : α → Nat) (k : Int) (l : List α) {i : Nat} (h : i < l.length) : (mkTo f c k l i).set i (f (k + cnL c l i) (l.getD i default)) = mkTo f c k l (i + 1) := by
  have e : ((mkL f c k l).take i).length = i := by simp [mkL_len]; omega
  have h2 := mkL_at f c k l i h
  have h3 : i < (mkL f c k l).length := by rw [mkL_len]; exact h
  rw [List.getD_eq_getElem?_getD, List.getElem?_eq_getElem h3] at h2
  unfold mkTo
  rw [List.set_append_right _ _ (by omega), e, Nat.sub_self, List.drop_eq_getElem_cons h, List.set_cons_zero, ← h2]
  have e2 : (mkL f c k l).take (i + 1) = (mkL f c k l).take i ++ [(mkL f c k l)[i]] := by
    rw [List.take_add_one, List.getElem?_eq_getElem h3]; rfl
  rw [e2, List.append_assoc]
  rfl
end Go.Ml
end
section
set_option linter.unusedSimpArgs false
set_option linter.unusedVariables false
namespace Go.Ml
theorem mapL_eq (g : Nat → Option Nat) : ∀ l : List V, mapV.mapL g l = l.map (mapV g)
  | [] => rfl
  | x :: l => by simp only [mapV.mapL, List.map_cons, mapL_eq g l]
section
variable {σ σ2 : Store} {m : Nat}
theorem mapM_shift {n : Nat} (ih : ∀ v t : V, resolve σ n v = some t → resolve σ2 n (mapV (shiftN m) v) = some t) : ∀ (l l' : List V), l.mapM (resolve σ n) = some l' → (l.map (mapV (shiftN m))).mapM (resolve σ2 n) = some l'
  | [], l', h => by simpa using h
  | x :: l, l', h => by
    simp only [List.mapM_cons, Option.pure_def, Option.bind_eq_bind, Option.bind_eq_some_iff, List.map_cons] at h ⊢
    obtain ⟨a, ha, b, hb, e⟩ := h
    exact ⟨a, ih x a ha, b, mapM_shift ih l b hb, e⟩
theorem mapM_shiftR {n : Nat} (ih : ∀ v t : V, resolve σ n v = some t → resolve σ2 n (mapV (shiftN m) v) = some t) : ∀ (l : List (List V)) (l' : List (List V)), (l.mapM fun (r : List V) => r.mapM (resolve σ n)) = some l' →
    ((l.map fun r => r.map (mapV (shiftN m))).mapM fun (r : List V) => r.mapM (resolve σ2 n)) = some l'
  | [], l', h => by simpa using h
  | x :: l, l', h => by
    simp only [List.mapM_cons, Option.pure_def, Option.bind_eq_bind, Option.bind_eq_some_iff, List.map_cons] at h ⊢
    obtain ⟨a, ha, b, hb, e⟩ := h
    exact ⟨a, mapM_shift ih x a ha, b, mapM_shiftR ih l b hb, e⟩
theorem res_shift (hs : ∀ o, objAt σ2 (m + o) = (objAt σ o).map (mapO (shiftN m))) : ∀ (n : Nat) (v t : V), resolve σ n v = some t → resolve σ2 n (mapV (shiftN m) v) = some t
  | 0, _, _, h => by simp [resolve] at h
  | n + 1, v, t, h => by
    have ih := res_shift hs n
    cases v with
    | msl o s l =>
      simp only [mapV, shiftN, resolve, hs] at h ⊢
      cases ho : objAt σ o with
      | none => rw [ho] at h; cases h
      | some ob =>
        rw [ho] at h
        simp only [Option.map_some, mapO, List.length_map] at h ⊢
        split at h
        · rename_i hl
          rw [if_pos hl]
          obtain ⟨rows, h1, rfl⟩ := Option.map_eq_some_iff.1 h
          rw [Option.map_eq_some_iff]
          refine ⟨rows, ?_, rfl⟩
          rw [← List.map_drop, ← List.map_take]
          exact mapM_shiftR ih _ _ h1
        · cases h
    | ptr o r off =>
      simp only [mapV, shiftN, resolve, hs] at h ⊢
      cases ho : objAt σ o with
      | none => rw [ho] at h; cases h
      | some ob =>
        rw [ho] at h
        simp only [Option.map_some, mapO, List.getElem?_map] at h ⊢
        cases hr : ob.rows[r]? with
        | none => rw [hr] at h; cases h
        | some row =>
          rw [hr] at h
          simp only [Option.map_some] at h ⊢
          obtain ⟨row', h1, rfl⟩ := Option.map_eq_some_iff.1 h
          rw [Option.map_eq_some_iff]
          exact ⟨row', mapM_shift ih _ _ h1, rfl⟩
    | agg cs =>
      simp only [mapV, resolve] at h ⊢
      obtain ⟨cs', h1, rfl⟩ := Option.map_eq_some_iff.1 h
      rw [Option.map_eq_some_iff, mapL_eq]
      exact ⟨cs', mapM_shift ih _ _ h1, rfl⟩
    | tup cs =>
      simp only [mapV, resolve] at h ⊢
      obtain ⟨cs', h1, rfl⟩ := Option.map_eq_some_iff.1 h
      rw [Option.map_eq_some_iff, mapL_eq]
      exact ⟨cs', mapM_shift ih _ _ h1, rfl⟩
    | any => simp [resolve] at h
    | one => simpa only [mapV, resolve] using h
    | int k n => simpa only [mapV, resolve] using h
    | bool b => simpa only [mapV, resolve] using h
    | str b => simpa only [mapV, resolve] using h
    | nils => simpa only [mapV, resolve] using h
    | sl a b => simpa only [mapV, resolve] using h
    | fptr a b => simpa only [mapV, resolve] using h
end
def OwX (σ : Store) : List V → List (Bool × V) → List Nat → Prop
  | vs, [], os => vs = [] ∧ os = []
  | vs, (b, t) :: ts, os => ∃ v vs' o1 o2, vs = v :: vs' ∧ os = o1 ++ o2 ∧ (if b = true then OwV σ v t o1 else resolve σ FD v = some t ∧ o1 = []) ∧ OwX σ vs' ts o2
theorem OwX.shift {σ σ2 : Store} {n : Nat} (hs : ∀ o, objAt σ2 (n + o) = (objAt σ o).map (mapO (shiftN n))) : ∀ {ts : List (Bool × V)} {vs : List V} {os : List Nat}, OwX σ vs ts os → OwX σ2 (vs.map (mapV (shiftN n))) ts (os.map (n + ·))
  | [], vs, os, h => by simp only [OwX] at h ⊢; obtain ⟨rfl, rfl⟩ := h; exact ⟨rfl, rfl⟩
  | (b, t) :: ts, vs, os, h => by
    simp only [OwX] at h ⊢
    obtain ⟨v, vs', o1, o2, rfl, rfl, h1, h2⟩ := h
    refine ⟨_, _, o1.map (n + ·), o2.map (n + ·), rfl, by rw [List.map_append], ?_, OwX.shift hs h2⟩
    cases b with
    | true => simp only [if_true] at h1 ⊢; exact OwV.shift hs h1
    | false =>
      simp only [Bool.false_eq_true, if_false] at h1 ⊢
      exact ⟨res_shift hs _ _ _ h1.1, by rw [h1.2]; rfl⟩
structure GotX (σ σ2 : Store) (vs : List V) (ts : List (Bool × V)) (os : List Nat) : Prop where
  ow : OwX σ2 vs ts os
  nd : os.Nodup
  fresh : ∀ o ∈ os, σ.length ≤ o
  old : ∀ o, o < σ.length → objAt σ2 o = objAt σ o
  len : σ.length ≤ σ2.length
theorem fin_bool {σ : Store} {b : Bool} : Fin σ (.bool b) (.bool b) := fin_of (os := []) (by simp [OwV]) .nil
end Go.Ml
end
section
set_option linter.unusedSimpArgs false
set_option linter.unusedVariables false
namespace Go.Ml
theorem dep_int (n : Nat) (q : IntKind) (k : Int) : DepLe (n + 1) (.int q k) := by simp [DepLe]
theorem dep_bool (n : Nat) (b : Bool) : DepLe (n + 1) (.bool b) := by simp [DepLe]
theorem dep_ints (n : Nat) (l : List Int) : DepLe (n + 2) (ints l) := by
  simp only [DepLe]
  intro r hr c hc
  simp only [irows, List.mem_map] at hr
  obtain ⟨x, _, rfl⟩ := hr
  simp only [List.mem_cons, List.not_mem_nil, or_false] at hc
  subst hc; simp [DepLe]
theorem dep_sl {α : Type} {f : α → List V} {n k : Nat} {l : List α} (h : ∀ x, ∀ c ∈ f x, DepLe n c) : DepLe (n + 1) (.sl k (l.map f)) := by
  simp only [DepLe]
  intro r hr c hc
  obtain ⟨x, _, rfl⟩ := List.mem_map.1 hr
  exact h x c hc
theorem dc_lk (n : Nat) (x : Lk) : ∀ c ∈ x.cells, DepLe (n + 2) c := by
  simp only [List.forall_mem_cons]; exact ⟨dep_int _ _ _, dep_int _ _ _, dep_bool _ _, dep_ints _ _, dep_ints _ _, dep_bool _ _, dep_ints _ _, dep_ints _ _, dep_bool _ _, dep_ints _ _, dep_ints _ _, by simp⟩
theorem dep_lks (n : Nat) (l : List Lk) : DepLe (n + 3) (lksV l) := dep_sl fun x => dc_lk n x
end Go.Ml
end
section
set_option linter.unusedSimpArgs false
set_option linter.unusedVariables false
set_option maxRecDepth 100000
set_option maxHeartbeats 4000000
namespace Go.Ml
def F_spec_l07Near : Fn := ⟨2, 33, [.tmp 4], (.seq (.reg false 0 [oN 4 (.mov (.c (.nils)))]) (.seq (.reg false 1 [oN 8 (.mkSl 1 [.int .i64 0] 0 []), oK 5 1 (oV 8)]) (.seq (.seq (.reg false 0 [oN 9 (oV 0), oN 10 (.len (.t 9)), oN 11 (.mov (cI 0))]) (.block 0 (.loop (.seq (.reg false 0 [oN 12 (.bin .lss (.t 11) (.t 10))]) (.seq (.cond (.t 12) .skip (.exit 0)) (.seq (.block 1 (.seq (.reg false 1 [oK 13 1 (.idx 11 (.t 9) (.t 11)), oK 14 1 (.load 11 true (.t 13)), oN 7 (.alloc [.int .i64 0, .int .i64 0, .bool false, .nils, .nils, .bool false, .nils, .nils, .bool false, .nils, .nils]), ⟨none, none, 1, .store 11 (.t 7) (.t 14), []⟩]) (.seq (.seq (.reg false 0 [oN 15 (.fld 0 (.t 7)), oN 16 (.load 1 false (.t 15)), oN 17 (oV 1), oN 18 (.bin .eql (.t 16) (.t 17))]) (.cond (.t 18) (.reg false 0 [oN 19 (oV 5), oN 20 (.fld 1 (.t 7)), oN 21 (.load 1 false (.t 20)), oN 22 (.call 237 [(.t 19), (.t 21)]), oN 5 (oV 22)]) .skip)) (.seq (.reg false 0 [oN 23 (.fld 1 (.t 7)), oN 24 (.load 1 false (.t 23)), oN 25 (oV 1), oN 26 (.bin .eql (.t 24) (.t 25))]) (.cond (.t 26) (.reg false 0 [oN 27 (oV 5), oN 28 (.fld 0 (.t 7)), oN 29 (.load 1 false (.t 28)), oN 30 (.call 237 [(.t 27), (.t 29)]), oN 5 (oV 30)]) .skip))))) (.reg false 0 [oN 31 (.bin .add (.t 11) (cI 1)), oN 11 (oV 31)]))))))) (.seq (.reg false 0 [oN 32 (oV 5), oN 4 (oV 32)]) .ret))))⟩
structure D_spec_l07Near (T : Nat → Option Fn) : Prop where
  hT : T 238 = some F_spec_l07Near
  d_spec_l07Put : D_spec_l07Put T
def F_impl_neighborsOf : Fn := ⟨2, 35, [.tmp 4], (.seq (.reg false 0 [oN 4 (.mov (.c (.nils)))]) (.seq (.reg false 1 [oN 8 (.mkSl 1 [.int .i64 0] 0 []), oK 5 1 (oV 8)]) (.seq (.seq (.reg false 0 [oN 9 (oV 0), oN 10 (.len (.t 9)), oN 11 (.mov (cI 0))]) (.block 0 (.loop (.seq (.reg false 0 [oN 12 (.bin .lss (.t 11) (.t 10))]) (.seq (.cond (.t 12) .skip (.exit 0)) (.seq (.block 1 (.seq (.reg false 1 [oK 13 1 (.idx 11 (.t 9) (.t 11)), oK 14 1 (.load 11 true (.t 13)), oN 7 (.alloc [.int .i64 0, .int .i64 0, .bool false, .nils, .nils, .bool false, .nils, .nils, .bool false, .nils, .nils]), ⟨none, none, 1, .store 11 (.t 7) (.t 14), []⟩]) (.seq (.reg false 0 [oN 15 (.fld 0 (.t 7)), oN 16 (.load 1 false (.t 15)), oN 17 (oV 1), oN 18 (.bin .eql (.t 16) (.t 17))]) (.cond (.t 18) (.reg false 2 [oK 19 2 (oV 5), oK 20 2 (.fld 1 (.t 7)), oK 21 2 (.load 1 false (.t 20)), oN 22 (.mkSl 1 [.int .i64 0] 1 [(0, (.t 21))]), oK 23 1 (.app 1 8 (.t 19) (.t 22)), oK 5 2 (oV 23)]) (.seq (.reg false 0 [oN 24 (.fld 1 (.t 7)), oN 25 (.load 1 false (.t 24)), oN 26 (oV 1), oN 27 (.bin .eql (.t 25) (.t 26))]) (.cond (.t 27) (.reg false 2 [oK 28 2 (oV 5), oK 29 2 (.fld 0 (.t 7)), oK 30 2 (.load 1 false (.t 29)), oN 31 (.mkSl 1 [.int .i64 0] 1 [(0, (.t 30))]), oK 32 1 (.app 1 8 (.t 28) (.t 31)), oK 5 2 (oV 32)]) .skip)))))) (.reg false 0 [oN 33 (.bin .add (.t 11) (cI 1)), oN 11 (oV 33)]))))))) (.seq (.reg false 0 [oN 34 (oV 5), oN 4 (oV 34)]) .ret))))⟩
structure D_impl_neighborsOf (T : Nat → Option Fn) : Prop where
  hT : T 239 = some F_impl_neighborsOf
theorem lkLess_iff {k l : Lk} : lkLess k l = true ↔ k.a < l.a ∨ (k.a = l.a ∧ k.b < l.b) := by simp [lkLess]
theorem lkLess_trans {k l m : Lk} (h : lkLess k l = true) (h2 : lkLess l m = true) : lkLess k m = true := by
  rw [lkLess_iff] at *; omega
theorem lksOk_adj {l : List Lk} (h : lksOk l = true) {i : Nat} (hi : i + 1 < l.length) : lkLess (l.getD i default) (l.getD (i + 1) default) = true := by
  have := allB_iff.1 h (i + 1) hi
  unfold lksAt at this
  simp only [Bool.and_eq_true, Bool.or_eq_true, decide_eq_true_eq] at this
  rcases this.2 with h | h
  · omega
  · exact h
theorem lksOk_lt {l : List Lk} (h : lksOk l = true) : ∀ (j i : Nat), i < j → j < l.length → lkLess (l.getD i default) (l.getD j default) = true
  | 0, i, hi, _ => by omega
  | j + 1, i, hi, hj => by
    have ha := lksOk_adj h hj
    by_cases e : i = j
    · subst e; exact ha
    · exact lkLess_trans (lksOk_lt h j i (by omega) (by omega)) ha
theorem getD_get {α : Type} [Inhabited α] {l : List α} {i : Nat} (h : i < l.length) : l.getD i default = l[i] := by
  rw [List.getD_eq_getElem?_getD, List.getElem?_eq_getElem h]; rfl
theorem lksOk_pw {l : List Lk} (h : lksOk l = true) : l.Pairwise fun k l => lkLess k l = true ∧ 0 ≤ k.a ∧ k.a < k.b ∧ 0 ≤ l.a ∧ l.a < l.b := by
  rw [List.pairwise_iff_getElem]
  intro i j hi hj hij
  have h1 := lksOk_lt h j i hij hj
  have h2 := lkOk_nd (lksOk_at h hi)
  have h3 := lkOk_nd (lksOk_at h hj)
  rw [getD_get hi, getD_get hj] at h1
  rw [getD_get hi] at h2
  rw [getD_get hj] at h3
  exact ⟨h1, h2.1, h2.2.1, h3.1, h3.2.1⟩
theorem lksOk_mem {l : List Lk} (h : lksOk l = true) {x : Lk} (hx : x ∈ l) : lkOk x = true := by
  obtain ⟨i, hi⟩ := List.mem_iff_getElem?.1 hx
  have hlt := (List.getElem?_eq_some_iff.1 hi).1
  have := lksOk_at h hlt
  rwa [List.getD_eq_getElem?_getD, hi] at this
def nbOf (v : Int) (x : Lk) : Option Int := if x.a = v then some x.b else if x.b = v then some x.a else none
def nbStep (v : Int) (out : List Int) (x : Lk) : List Int := if x.b = v then putI (if x.a = v then putI out x.b else out) x.a else (if x.a = v then putI out x.b else out)
def nbS (l : List Lk) (v : Int) (i : Nat) : List Int := (l.take i).foldl (nbStep v) []
def nbI (l : List Lk) (v : Int) (i : Nat) : List Int := (l.take i).filterMap (nbOf v)
theorem nbS_0 (l : List Lk) (v : Int) : nbS l v 0 = [] := by simp [nbS]
theorem nbI_0 (l : List Lk) (v : Int) : nbI l v 0 = [] := by simp [nbI]
theorem take_snoc {α : Type} [Inhabited α] {l : List α} {i : Nat} (h : i < l.length) : l.take (i + 1) = l.take i ++ [l.getD i default] := by
  rw [List.take_add_one, List.getElem?_eq_getElem h, List.getD_eq_getElem?_getD, List.getElem?_eq_getElem h]; rfl
theorem nbS_s (l : List Lk) (v : Int) {i : Nat} (h : i < l.length) : nbS l v (i + 1) = nbStep v (nbS l v i) (l.getD i default) := by
  unfold nbS; rw [take_snoc h, List.foldl_append]; rfl
theorem nbI_s (l : List Lk) (v : Int) {i : Nat} (h : i < l.length) : nbI l v (i + 1) = nbI l v i ++ (match nbOf v (l.getD i default) with | some n => [n] | none => []) := by
  unfold nbI; rw [take_snoc h, List.filterMap_append, List.filterMap_cons]
  cases nbOf v (l.getD i default) <;> rfl
theorem nbI_len (l : List Lk) (v : Int) (i : Nat) : (nbI l v i).length ≤ i := by
  unfold nbI
  exact Nat.le_trans (List.length_filterMap_le _ _) (by simp; omega)
theorem nbStep_len (v : Int) (out : List Int) (x : Lk) : (nbStep v out x).length ≤ out.length + 2 := by
  have h1 := putI_len (if x.a = v then putI out x.b else out) x.a
  have h2 := putI_len out x.b
  unfold nbStep
  split at h1 <;> (split <;> (try split) <;> omega)
theorem nbS_len (l : List Lk) (v : Int) {i : Nat} (h : i ≤ l.length) : (nbS l v i).length ≤ 2 * i := by
  induction i with
  | zero => simp [nbS_0]
  | succ i ih =>
    rw [nbS_s l v h]
    have := ih (by omega)
    have := nbStep_len v (nbS l v i) (l.getD i default)
    omega
theorem nbStep_mem {v : Int} {out : List Int} {x : Lk} {a : Int} : a ∈ nbStep v out x ↔ a ∈ out ∨ (x.a = v ∧ a = x.b) ∨ (x.b = v ∧ a = x.a) := by
  unfold nbStep
  split <;> split <;> simp_all [putI_mem] <;> (constructor <;> rintro (h | h) <;> simp_all)
theorem nbF_mem {v : Int} : ∀ (l : List Lk) (out : List Int) (a : Int), a ∈ l.foldl (nbStep v) out ↔ a ∈ out ∨ ∃ x ∈ l, (x.a = v ∧ a = x.b) ∨ (x.b = v ∧ a = x.a)
  | [], out, a => by simp
  | x :: l, out, a => by
    rw [List.foldl_cons, nbF_mem l, nbStep_mem]
    simp only [List.mem_cons, exists_eq_or_imp, or_assoc]
theorem nbStep_asc {v : Int} {out : List Int} {x : Lk} (h : Asc out) : Asc (nbStep v out x) := by
  unfold nbStep
  split <;> split <;> first | exact putI_asc (putI_asc h) | exact putI_asc h | exact h
theorem nbF_asc {v : Int} : ∀ (l : List Lk) (out : List Int), Asc out → Asc (l.foldl (nbStep v) out)
  | [], out, h => h
  | x :: l, out, h => nbF_asc l _ (nbStep_asc h)
theorem nb_eq {l : List Lk} (h : lksOk l = true) (v : Int) : nbS l v l.length = nbI l v l.length := by
  unfold nbS nbI
  rw [List.take_length]
  refine asc_ext (nbF_asc _ _ .nil) ?_ fun a => ?_
  · refine List.Pairwise.filterMap _ ?_ (lksOk_pw h)
    rintro k m ⟨h1, h2, h3, h4, h5⟩ b hb b' hb'
    rw [lkLess_iff] at h1
    unfold nbOf at hb hb'
    split at hb <;> split at hb' <;> (try split at hb) <;> (try split at hb') <;> simp_all <;> omega
  · rw [nbF_mem, List.mem_filterMap]
    simp only [List.not_mem_nil, false_or]
    constructor
    · rintro ⟨x, hx, h1⟩
      refine ⟨x, hx, ?_⟩
      have := lkOk_nd (lksOk_mem h hx)
      unfold nbOf
      rcases h1 with ⟨h1, rfl⟩ | ⟨h1, rfl⟩
      · rw [if_pos h1]
      · rw [if_neg (by omega), if_pos h1]
    · rintro ⟨x, hx, h1⟩
      refine ⟨x, hx, ?_⟩
      unfold nbOf at h1
      split at h1
      · simp_all
      · split at h1 <;> simp_all
theorem c_l07Near {T : Nat → Option Fn} (h : D_spec_l07Near T) {l : List Lk} {v : Int} (hw : wfL Lk.wf l := by first | omega | assumption | (simp; omega)) (hl : l.length ≤ 1048576 := by first | omega | assumption | (simp; omega)) (hok : lksOk l = true := by assumption) : PF T 238 [lksV l, iv v] (ints (nbI l v l.length)) := by
  rw [← nb_eq hok]
  refine pf_endL (fun _ _ => false) h.hT rfl rfl ?_
  dsimp only [F_spec_l07Near, oN, oS, oG, oK, oA, oH, oV, cI]
  (refine ev ?_; try with_reducible exact True.intro)
  refine loop_at (fun _ _ => false) (α := Nat) (fun i => ⟨argE [.any, iv v, .any, .any, .nils, ints (nbS l v i), .any, .any, .any, lksV l, iv (l.length : Nat), iv (i : Nat)], [], 0, 0, [], []⟩) (fun i => i ≤ l.length) (fun i => l.length - i) rfl 0 ?_ ?_ ?_
  · omega
  · rw [nbS_0, show ints [] = .sl 1 [] from rfl]
    (refine Fg_re [] (by simp) (by intro p hp; cases hp) rfl ?_) <;> (try (refine ev ?_; try with_reducible exact True.intro)) <;> (repeat' (first | exact True.intro | omega | exact CanE_ptr rfl (by simp) | refine ⟨?_, ?_⟩ | exact of_eq_true (CanE_nil _ _ _) | exact CanE_of rfl (by simp; done) | exact CanE_of rfl rfl | (refine CanE_msl rfl ?_ rfl; simp [irows]; done) | (refine CanE_msl rfl ?_ rfl; simp [irows]; omega) | (refine CanE_frz ?_ ?_; (focus ((refine ev ?_; try with_reducible exact True.intro); done)); (intro q hq k s0 l0; simp; done))))
  · intro i hi
    have hnl := nbS_len l v hi
    (refine ev ?_; try with_reducible exact True.intro)
    refine brK_dec (fun hc => ?_) fun hc => ?_ <;> (refine ev2 @hc @mg ?_; try with_reducible exact True.intro)
    · have hil : i < l.length := by omega
      have es := nbS_s l v hil
      unfold nbStep at es
      by_cases ha : (l.getD i default).a = v
      · have c1 := c_l07Put h.d_spec_l07Put (l := nbS l v i) (n := (l.getD i default).b) (by omega)
        simp only [if_pos ha] at es
        by_cases hb : (l.getD i default).b = v
        · have := lkOk_nd (lksOk_at hok hil)
          omega
        · rw [if_neg hb] at es
          (refine ev1 @ha ?_; try with_reducible exact True.intro)
          refine PFK_of c1 ?_
          (refine ev1 @hb ?_; try with_reducible exact True.intro)
          rw [← es]
          exact ⟨i + 1, by omega, by omega, by (refine Fg_re [] (by simp) (by intro p hp; cases hp) rfl ?_) <;> (try (refine ev ?_; try with_reducible exact True.intro)) <;> (repeat' (first | exact True.intro | omega | exact CanE_ptr rfl (by simp) | refine ⟨?_, ?_⟩ | exact of_eq_true (CanE_nil _ _ _) | exact CanE_of rfl (by simp; done) | exact CanE_of rfl rfl | (refine CanE_msl rfl ?_ rfl; simp [irows]; done) | (refine CanE_msl rfl ?_ rfl; simp [irows]; omega) | (refine CanE_frz ?_ ?_; (focus ((refine ev ?_; try with_reducible exact True.intro); done)); (intro q hq k s0 l0; simp; done))))⟩
      · have c1 := c_l07Put h.d_spec_l07Put (l := nbS l v i) (n := (l.getD i default).a) (by omega)
        simp only [if_neg ha] at es
        by_cases hb : (l.getD i default).b = v
        · rw [if_pos hb] at es
          (refine ev2 @ha @hb ?_; try with_reducible exact True.intro)
          refine PFK_of c1 ?_
          (refine ev ?_; try with_reducible exact True.intro)
          rw [← es]
          exact ⟨i + 1, by omega, by omega, by (refine Fg_re [] (by simp) (by intro p hp; cases hp) rfl ?_) <;> (try (refine ev ?_; try with_reducible exact True.intro)) <;> (repeat' (first | exact True.intro | omega | exact CanE_ptr rfl (by simp) | refine ⟨?_, ?_⟩ | exact of_eq_true (CanE_nil _ _ _) | exact CanE_of rfl (by simp; done) | exact CanE_of rfl rfl | (refine CanE_msl rfl ?_ rfl; simp [irows]; done) | (refine CanE_msl rfl ?_ rfl; simp [irows]; omega) | (refine CanE_frz ?_ ?_; (focus ((refine ev ?_; try with_reducible exact True.intro); done)); (intro q hq k s0 l0; simp; done))))⟩
        · rw [if_neg hb] at es
          (refine ev2 @ha @hb ?_; try with_reducible exact True.intro)
          rw [← es]
          exact ⟨i + 1, by omega, by omega, by (refine Fg_re [] (by simp) (by intro p hp; cases hp) rfl ?_) <;> (try (refine ev ?_; try with_reducible exact True.intro)) <;> (repeat' (first | exact True.intro | omega | exact CanE_ptr rfl (by simp) | refine ⟨?_, ?_⟩ | exact of_eq_true (CanE_nil _ _ _) | exact CanE_of rfl (by simp; done) | exact CanE_of rfl rfl | (refine CanE_msl rfl ?_ rfl; simp [irows]; done) | (refine CanE_msl rfl ?_ rfl; simp [irows]; omega) | (refine CanE_frz ?_ ?_; (focus ((refine ev ?_; try with_reducible exact True.intro); done)); (intro q hq k s0 l0; simp; done))))⟩
    · have : i = l.length := by omega
      subst this
      exact laxV_refl _
theorem po_neighborsOf {T : Nat → Option Fn} (h : D_impl_neighborsOf T) {l : List Lk} {v : Int} (hw : wfL Lk.wf l := by first | omega | assumption | (simp; omega)) (hl : l.length ≤ 1048576 := by first | omega | assumption | (simp; omega)) : PO T 239 [lksV l, iv v] (ints (nbI l v l.length)) := by
  refine po_end2 (fun _ _ => false) h.hT rfl rfl ?_
  dsimp only [F_impl_neighborsOf, oN, oS, oG, oK, oA, oH, oV, cI, St.enter, List.length_cons, List.length_nil, Nat.zero_add]
  (refine ew ?_; try with_reducible exact True.intro)
  refine loop_at (fun _ _ => false) (α := Nat × List Int) (fun q => ⟨argE [lksV l, iv v, .any, .any, .nils, slV q.2.length, .any, .any, .any, lksV l, iv (l.length : Nat), iv (q.1 : Nat)], slS 1 (irows q.2), 0, 0, [], []⟩) (fun q => q.1 ≤ l.length ∧ q.2 = nbI l v q.1) (fun q => l.length - q.1) rfl (0, []) ?_ ?_ ?_
  · exact ⟨by omega, (nbI_0 l v).symm⟩
  · (refine Fg_re [] (by simp) (by intro p hp; cases hp) rfl ?_) <;> (try (refine ew ?_; try with_reducible exact True.intro)) <;> (repeat' (first | exact True.intro | omega | exact CanE_ptr rfl (by simp) | refine ⟨?_, ?_⟩ | exact of_eq_true (CanE_nil _ _ _) | exact CanE_of rfl (by simp; done) | exact CanE_of rfl rfl | (refine CanE_msl rfl ?_ rfl; simp [irows]; done) | (refine CanE_msl rfl ?_ rfl; simp [irows]; omega) | (refine CanE_frz ?_ ?_; (focus ((refine ew ?_; try with_reducible exact True.intro); done)); (intro q hq k s0 l0; simp; done))))
  · rintro ⟨i, xs⟩ ⟨hi, hx0⟩
    dsimp only at hi hx0
    have hx : xs.length ≤ 1048576 := by rw [hx0]; have := nbI_len l v i; omega
    by_cases hc : (i : Int) < (l.length : Nat)
    · have hil : i < l.length := by omega
      have es := nbI_s l v hil
      rw [← hx0] at es
      unfold nbOf at es
      by_cases ha : (l.getD i default).a = v
      · rw [if_pos ha] at es
        (rcases xs with _ | ⟨x, xs⟩ <;> simp only [List.length_nil, List.length_cons, slV_0, slV_s, slI_nil, slI_cons] at hx ⊢)
        · (refine ew3 @hc @mg @ha ?_; try with_reducible exact True.intro)
          exact ⟨by omega, (i + 1, ([]) ++ [(l.getD i default).b]), by dsimp only; omega, ⟨by dsimp only; omega, es.symm⟩, by (simp only [← irows_snoc]; refine Fg_push (k := 2) (still_isnoc _ _) rfl ?_; (try (refine ew ?_; try with_reducible exact True.intro)); (repeat' (first | exact True.intro | omega | exact CanE_push (by simp) (by simp) (by simp) | refine ⟨?_, ?_⟩ | exact CanE_of rfl (by simp))))⟩
        · (refine ew3 @hc @mg @ha ?_; try with_reducible exact True.intro)
          exact ⟨by omega, (i + 1, (x :: xs) ++ [(l.getD i default).b]), by dsimp only; omega, ⟨by dsimp only; omega, es.symm⟩, by (simp only [← irows_snoc]; refine Fg_push (k := 3) (still_isnoc _ _) rfl ?_; (try (refine ew ?_; try with_reducible exact True.intro)); (repeat' (first | exact True.intro | omega | exact CanE_push (by simp) (by simp) (by simp) | refine ⟨?_, ?_⟩ | exact CanE_of rfl (by simp))))⟩
      · by_cases hb : (l.getD i default).b = v
        · rw [if_neg ha, if_pos hb] at es
          (rcases xs with _ | ⟨x, xs⟩ <;> simp only [List.length_nil, List.length_cons, slV_0, slV_s, slI_nil, slI_cons] at hx ⊢)
          · (refine ew4 @hc @mg @ha @hb ?_; try with_reducible exact True.intro)
            exact ⟨by omega, (i + 1, ([]) ++ [(l.getD i default).a]), by dsimp only; omega, ⟨by dsimp only; omega, es.symm⟩, by (simp only [← irows_snoc]; refine Fg_push (k := 2) (still_isnoc _ _) rfl ?_; (try (refine ew ?_; try with_reducible exact True.intro)); (repeat' (first | exact True.intro | omega | exact CanE_push (by simp) (by simp) (by simp) | refine ⟨?_, ?_⟩ | exact CanE_of rfl (by simp))))⟩
          · (refine ew4 @hc @mg @ha @hb ?_; try with_reducible exact True.intro)
            exact ⟨by omega, (i + 1, (x :: xs) ++ [(l.getD i default).a]), by dsimp only; omega, ⟨by dsimp only; omega, es.symm⟩, by (simp only [← irows_snoc]; refine Fg_push (k := 3) (still_isnoc _ _) rfl ?_; (try (refine ew ?_; try with_reducible exact True.intro)); (repeat' (first | exact True.intro | omega | exact CanE_push (by simp) (by simp) (by simp) | refine ⟨?_, ?_⟩ | exact CanE_of rfl (by simp))))⟩
        · rw [if_neg ha, if_neg hb, List.append_nil] at es
          (rcases xs with _ | ⟨x, xs⟩ <;> simp only [List.length_nil, List.length_cons, slV_0, slV_s, slI_nil, slI_cons] at hx ⊢)
          · (refine ew4 @hc @mg @ha @hb ?_; try with_reducible exact True.intro)
            exact ⟨(i + 1, []), by dsimp only; omega, ⟨by dsimp only; omega, es.symm⟩, by (refine Fg_re [] (by simp) (by intro p hp; cases hp) rfl ?_) <;> (try (refine ew ?_; try with_reducible exact True.intro)) <;> (repeat' (first | exact True.intro | omega | exact CanE_ptr rfl (by simp) | refine ⟨?_, ?_⟩ | exact of_eq_true (CanE_nil _ _ _) | exact CanE_of rfl (by simp; done) | exact CanE_of rfl rfl | (refine CanE_msl rfl ?_ rfl; simp [irows]; done) | (refine CanE_msl rfl ?_ rfl; simp [irows]; omega) | (refine CanE_frz ?_ ?_; (focus ((refine ew ?_; try with_reducible exact True.intro); done)); (intro q hq k s0 l0; simp; done))))⟩
          · (refine ew4 @hc @mg @ha @hb ?_; try with_reducible exact True.intro)
            exact ⟨(i + 1, x :: xs), by dsimp only; omega, ⟨by dsimp only; omega, es.symm⟩, by (refine Fg_re [(0, _)] (by simp) (by intro p hp; simp only [List.mem_cons, List.not_mem_nil, or_false] at hp; rcases hp with rfl <;> refine ⟨rfl, ?_⟩ <;> first | exact ir_still _ | simp [stillR, V.still]) rfl ?_) <;> (try (refine ew ?_; try with_reducible exact True.intro)) <;> (repeat' (first | exact True.intro | omega | exact CanE_ptr rfl (by simp) | refine ⟨?_, ?_⟩ | exact of_eq_true (CanE_nil _ _ _) | exact CanE_of rfl (by simp; done) | exact CanE_of rfl rfl | (refine CanE_msl rfl ?_ rfl; simp [irows]; done) | (refine CanE_msl rfl ?_ rfl; simp [irows]; omega) | (refine CanE_frz ?_ ?_; (focus ((refine ew ?_; try with_reducible exact True.intro); done)); (intro q hq k s0 l0; simp; done))))⟩
    · have : i = l.length := by omega
      subst this
      rw [← hx0]
      (rcases xs with _ | ⟨x, xs⟩ <;> simp only [List.length_nil, List.length_cons, slV_0, slV_s, slI_nil, slI_cons] at hx ⊢)
      · (refine ew1 @hc ?_; try with_reducible exact True.intro)
        exact fin_nil
      · (refine ew1 @hc ?_; try with_reducible exact True.intro)
        exact fin_ints (o := 0) (l := x :: xs) rfl
end Go.Ml
end
section
set_option linter.unusedSimpArgs false
set_option linter.unusedVariables false
set_option maxRecDepth 100000
set_option maxHeartbeats 4000000
namespace Go.Ml
abbrev nbA (s : List Lk) (x : Int) : List Int := nbI s x s.length
inductive Rch (s : List Lk) (v : Int) : Int → Prop
  | base : Rch s v v
  | step {a b : Int} : Rch s v a → b ∈ nbA s a → Rch s v b
theorem nbA_mem {s : List Lk} {x b : Int} : b ∈ nbA s x ↔ ∃ l ∈ s, nbOf x l = some b := by
  unfold nbA nbI
  rw [List.take_length, List.mem_filterMap]
theorem nbA_bd {s : List Lk} (h : lksOk s = true) {x b : Int} (hb : b ∈ nbA s x) : 0 ≤ b ∧ b < 10 ∧ 0 ≤ x ∧ x < 10 := by
  obtain ⟨l, hl, e⟩ := nbA_mem.1 hb
  have := lkOk_nd (lksOk_mem h hl)
  unfold nbOf at e
  split at e
  · cases e; omega
  · split at e
    · cases e; omega
    · cases e
theorem rch_bd {s : List Lk} (h : lksOk s = true) {v b : Int} (hr : Rch s v b) : b = v ∨ (0 ≤ b ∧ b < 10 ∧ 0 ≤ v ∧ v < 10) := by
  induction hr with
  | base => exact .inl rfl
  | step ha hb ih =>
    have := nbA_bd h hb
    rcases ih with rfl | ih
    · exact .inr ⟨this.1, this.2.1, this.2.2⟩
    · exact .inr ⟨this.1, this.2.1, ih.2.2⟩
theorem rch_len {s : List Lk} (h : lksOk s = true) {v : Int} {l : List Int} (hn : l.Nodup) (hl : ∀ a ∈ l, Rch s v a) : l.length ≤ 10 := by
  by_cases hv : 0 ≤ v ∧ v < 10
  · have := nodup_le (a := l) (b := [0, 1, 2, 3, 4, 5, 6, 7, 8, 9]) hn fun a ha => by
      have hb : 0 ≤ a ∧ a < 10 := by
        rcases rch_bd h (hl a ha) with rfl | k
        · exact hv
        · exact ⟨k.1, k.2.1⟩
      simp only [List.mem_cons, List.not_mem_nil, or_false]
      omega
    simpa using this
  · have := nodup_le (a := l) (b := [v]) hn fun a ha => by
      rcases rch_bd h (hl a ha) with rfl | k
      · simp
      · exact absurd k.2.2 hv
    simp at this
    omega
def cpRow (s : List Lk) (out : List Int) (x : Int) : List Int := (nbA s x).foldl putI out
def cpRound (s : List Lk) (out : List Int) : List Int := out.foldl (cpRow s) out
def cpS (s : List Lk) (v : Int) : Nat → List Int
  | 0 => [v]
  | n + 1 => cpRound s (cpS s v n)
theorem putF_mem : ∀ (l out : List Int) (a : Int), a ∈ l.foldl putI out ↔ a ∈ out ∨ a ∈ l
  | [], out, a => by simp
  | x :: l, out, a => by
    rw [List.foldl_cons, putF_mem l, putI_mem, List.mem_cons]
    constructor
    · rintro ((h | h) | h)
      · exact .inr (.inl h)
      · exact .inl h
      · exact .inr (.inr h)
    · rintro (h | h | h)
      · exact .inl (.inr h)
      · exact .inl (.inl h)
      · exact .inr h
theorem putF_asc : ∀ (l out : List Int), Asc out → Asc (l.foldl putI out)
  | [], out, h => h
  | x :: l, out, h => putF_asc l _ (putI_asc h)
theorem cpF_mem {s : List Lk} : ∀ (l out : List Int) (a : Int), a ∈ l.foldl (cpRow s) out ↔ a ∈ out ∨ ∃ x ∈ l, a ∈ nbA s x
  | [], out, a => by simp
  | x :: l, out, a => by
    rw [List.foldl_cons, cpF_mem l]
    unfold cpRow
    rw [putF_mem, or_assoc]
    simp only [List.mem_cons, exists_eq_or_imp]
theorem cpF_asc {s : List Lk} : ∀ (l out : List Int), Asc out → Asc (l.foldl (cpRow s) out)
  | [], out, h => h
  | x :: l, out, h => cpF_asc l _ (putF_asc _ _ h)
theorem cpS_asc (s : List Lk) (v : Int) : ∀ n, Asc (cpS s v n)
  | 0 => by unfold Asc cpS; simp
  | n + 1 => cpF_asc _ _ (cpS_asc s v n)
theorem cpS_rch (s : List Lk) (v : Int) : ∀ n, ∀ a ∈ cpS s v n, Rch s v a
  | 0, a, h => by simp [cpS] at h; subst h; exact .base
  | n + 1, a, h => by
    rcases (cpF_mem _ _ _).1 h with h | ⟨x, hx, h⟩
    · exact cpS_rch s v n a h
    · exact .step (cpS_rch s v n x hx) h
theorem cpS_base (s : List Lk) (v : Int) : ∀ n, v ∈ cpS s v n
  | 0 => by simp [cpS]
  | n + 1 => (cpF_mem _ _ _).2 (.inl (cpS_base s v n))
theorem cpS_len {s : List Lk} (h : lksOk s = true) (v : Int) (n : Nat) : (cpS s v n).length ≤ 10 := rch_len h (asc_nodup (cpS_asc s v n)) (cpS_rch s v n)
def Closed (s : List Lk) (l : List Int) : Prop := ∀ a ∈ l, ∀ b ∈ nbA s a, b ∈ l
theorem cpS_grow {s : List Lk} (v : Int) : ∀ n, Closed s (cpS s v n) ∨ n + 1 ≤ (cpS s v n).length
  | 0 => .inr (by simp [cpS])
  | n + 1 => by
    have hsub : ∀ a ∈ cpS s v n, a ∈ cpS s v (n + 1) := fun a ha => (cpF_mem _ _ _).2 (.inl ha)
    rcases Classical.em (Closed s (cpS s v n)) with hc | hc
    · left
      intro a ha b hb
      have ha' : a ∈ cpS s v n := by
        rcases (cpF_mem _ _ _).1 ha with h | ⟨x, hx, h⟩
        · exact h
        · exact hc x hx a h
      exact hsub b (hc a ha' b hb)
    · right
      have hl := (cpS_grow v n).resolve_left hc
      have : ∃ a ∈ cpS s v n, ∃ b ∈ nbA s a, b ∉ cpS s v n := by
        refine Classical.byContradiction fun hne => hc fun a ha b hb => Classical.byContradiction fun hnb => hne ⟨a, ha, b, hb, hnb⟩
      obtain ⟨a, ha, b, hb, hnb⟩ := this
      have := nodup_le (a := b :: cpS s v n) (b := cpS s v (n + 1)) (List.nodup_cons.2 ⟨hnb, asc_nodup (cpS_asc s v n)⟩) fun x hx => by
        rcases List.mem_cons.1 hx with rfl | hx
        · exact (cpF_mem _ _ _).2 (.inr ⟨a, ha, hb⟩)
        · exact hsub x hx
      simp only [List.length_cons] at this
      omega
theorem cpS_closed {s : List Lk} (h : lksOk s = true) (v : Int) : Closed s (cpS s v 10) := by
  rcases cpS_grow (s := s) v 10 with hc | hc
  · exact hc
  · have := cpS_len h v 10; omega
def cpV (s : List Lk) (v : Int) : List Int := cpS s v 10
theorem cpV_mem {s : List Lk} (h : lksOk s = true) {v a : Int} : a ∈ cpV s v ↔ Rch s v a := by
  constructor
  · exact cpS_rch s v 10 a
  · intro hr
    induction hr with
    | base => exact cpS_base s v 10
    | step _ hb ih => exact cpS_closed h v _ ih _ hb
def cpM (s : List Lk) (v : Int) : List Int := if lksOk s = true then cpV s v else []
theorem cpM_t {s : List Lk} {v : Int} (h : lksOk s = true) : cpM s v = cpV s v := if_pos h
theorem cpM_f {s : List Lk} {v : Int} (h : lksOk s = false) : cpM s v = [] := if_neg (by rw [h]; simp)
theorem cpM_len (s : List Lk) (v : Int) : (cpM s v).length ≤ 10 := by
  unfold cpM
  split
  · rename_i h; exact cpS_len h v 10
  · simp
theorem sortI_asc {l : List Int} (hn : l.Nodup) : Asc (sortI l) := by
  have h1 : (sortI l).Pairwise fun a b => (decide (a ≤ b)) = true := by
    unfold sortI
    exact List.pairwise_mergeSort (fun a b c h1 h2 => by simp at *; omega) (fun a b => by simp; omega) l
  have h2 : (sortI l).Nodup := (List.mergeSort_perm l _).nodup_iff.2 hn
  unfold Asc
  refine (h1.and h2).imp fun ⟨h, hne⟩ => ?_
  have : _ ≤ _ := of_decide_eq_true h
  omega
theorem sortI_mem {l : List Int} {a : Int} : a ∈ sortI l ↔ a ∈ l := (List.mergeSort_perm l _).mem_iff
theorem sortI_len (l : List Int) : (sortI l).length = l.length := List.length_mergeSort _
theorem sort_cp {s : List Lk} (h : lksOk s = true) {v : Int} {l : List Int} (hn : l.Nodup) (hv : v ∈ l) (hr : ∀ a ∈ l, Rch s v a) (hc : Closed s l) : sortI l = cpV s v := by
  refine asc_ext (sortI_asc hn) (cpS_asc s v 10) fun a => ?_
  rw [sortI_mem, cpV_mem h]
  constructor
  · exact hr a
  · intro hra
    induction hra with
    | base => exact hv
    | step _ hb ih => exact hc _ ih _ hb
def addN (l : List Int) (u : Int) : List Int := if u ∈ l then l else l ++ [u]
def addF (l : List Int) (us : List Int) (j : Nat) : List Int := (us.take j).foldl addN l
theorem addF_0 (l us : List Int) : addF l us 0 = l := by simp [addF]
theorem addF_s (l us : List Int) {j : Nat} (h : j < us.length) : addF l us (j + 1) = addN (addF l us j) (us.getD j 0) := by
  unfold addF
  rw [List.take_add_one, List.getElem?_eq_getElem h, List.getD_eq_getElem?_getD, List.getElem?_eq_getElem h]
  simp only [Option.toList, Option.getD, List.foldl_append, List.foldl_cons, List.foldl_nil]
theorem addN_mem {l : List Int} {u a : Int} : a ∈ addN l u ↔ a ∈ l ∨ a = u := by
  unfold addN
  split
  · rename_i h
    constructor
    · exact .inl
    · rintro (k | rfl)
      · exact k
      · exact h
  · simp
theorem addN_nd {l : List Int} {u : Int} (h : l.Nodup) : (addN l u).Nodup := by
  unfold addN
  split
  · exact h
  · rename_i hu
    rw [List.nodup_append]
    exact ⟨h, by simp, fun a ha b hb e => by simp at hb; subst hb; exact hu (e ▸ ha)⟩
theorem addG_mem : ∀ (us l : List Int) (a : Int), a ∈ us.foldl addN l ↔ a ∈ l ∨ a ∈ us
  | [], l, a => by simp
  | u :: us, l, a => by
    rw [List.foldl_cons, addG_mem us, addN_mem, List.mem_cons, or_assoc]
theorem addG_nd : ∀ (us l : List Int), l.Nodup → (us.foldl addN l).Nodup
  | [], l, h => h
  | u :: us, l, h => addG_nd us _ (addN_nd h)
theorem addG_pre : ∀ (us l : List Int), ∃ r, us.foldl addN l = l ++ r
  | [], l => ⟨[], by simp⟩
  | u :: us, l => by
    obtain ⟨r, e⟩ := addG_pre us (addN l u)
    rw [List.foldl_cons, e]
    unfold addN
    split
    · exact ⟨r, rfl⟩
    · exact ⟨u :: r, by simp⟩
structure Bfs (s : List Lk) (v : Int) (i : Nat) (l : List Int) : Prop where
  nd : l.Nodup
  mem : v ∈ l
  rch : ∀ a ∈ l, Rch s v a
  le : i ≤ l.length
  cl : ∀ j, j < i → ∀ b ∈ nbA s (l.getD j 0), b ∈ l
theorem Bfs.start (s : List Lk) (v : Int) : Bfs s v 0 [v] := ⟨by simp, by simp, fun a h => by simp at h; subst h; exact .base, by simp, fun j h => absurd h (Nat.not_lt_zero _)⟩
theorem Bfs.next {s : List Lk} {v : Int} {i : Nat} {l : List Int} (h : Bfs s v i l) (hi : i < l.length) : Bfs s v (i + 1) ((nbA s (l.getD i 0)).foldl addN l) := by
  obtain ⟨r, e⟩ := addG_pre (nbA s (l.getD i 0)) l
  have hm := addG_mem (nbA s (l.getD i 0)) l
  have hli : l.getD i 0 ∈ l := by rw [List.getD_eq_getElem?_getD, List.getElem?_eq_getElem hi]; exact List.getElem_mem hi
  refine ⟨addG_nd _ _ h.nd, (hm v).2 (.inl h.mem), fun a ha => ?_, by rw [e, List.length_append]; omega, fun j hj b hb => ?_⟩
  · rcases (hm a).1 ha with ha | ha
    · exact h.rch a ha
    · exact .step (h.rch _ hli) ha
  · have hjl : j < l.length := by omega
    have ej : ((nbA s (l.getD i 0)).foldl addN l).getD j 0 = l.getD j 0 := by
      rw [e, List.getD_eq_getElem?_getD, List.getD_eq_getElem?_getD, List.getElem?_append_left hjl]
    rw [ej] at hb
    by_cases hji : j = i
    · subst hji; exact (hm b).2 (.inr hb)
    · exact (hm b).2 (.inl (h.cl j (by omega) b hb))
theorem Bfs.len {s : List Lk} (hk : lksOk s = true) {v : Int} {i : Nat} {l : List Int} (h : Bfs s v i l) : l.length ≤ 10 := rch_len hk h.nd h.rch
theorem Bfs.fin {s : List Lk} (hk : lksOk s = true) {v : Int} {l : List Int} (h : Bfs s v l.length l) : sortI l = cpV s v :=
  sort_cp hk h.nd h.mem h.rch fun a ha b hb => by
    obtain ⟨j, hj⟩ := List.mem_iff_getElem?.1 ha
    have hjl := (List.getElem?_eq_some_iff.1 hj).1
    exact h.cl j hjl b (by rw [List.getD_eq_getElem?_getD, hj]; exact hb)
end Go.Ml
end
section
set_option linter.unusedSimpArgs false
set_option linter.unusedVariables false
namespace Go.Ml
structure Grow (s : Store) (v : V) (sz : Nat) (A ts : List (List V)) : Prop where
  ex : ∃ os, OwR s A ts os ∧ os.Nodup ∧ ((A = [] ∧ v = .nils) ∨ ∃ o, v = .msl o 0 A.length ∧ objAt s o = some ⟨sz, A⟩ ∧ o ∉ os)
section
variable {s s1 σ2 S : Store} {v : V} {sz : Nat} {A ts : List (List V)}
theorem Grow.len (h : Grow s v sz A ts) : A.length = ts.length := by obtain ⟨os, a, _⟩ := h.ex; exact a.len
theorem Grow.cases (h : Grow s v sz A ts) : (A = [] ∧ ts = [] ∧ v = .nils) ∨ ∃ o, v = .msl o 0 A.length ∧ objAt s o = some ⟨sz, A⟩ ∧ o < s.length := by
  have hl := h.len
  obtain ⟨os, a, b, c⟩ := h.ex
  rcases c with ⟨rfl, rfl⟩ | ⟨o, rfl, h1, h2⟩
  · exact .inl ⟨rfl, List.eq_nil_of_length_eq_zero (by simpa using hl.symm), rfl⟩
  · exact .inr ⟨o, rfl, h1, objAt_lt h1⟩
theorem Grow.frame (h : Grow s v sz A ts) (f : ∀ o, o < s.length → objAt S o = objAt s o) : Grow S v sz A ts := by
  obtain ⟨os, a, b, c⟩ := h.ex
  refine ⟨os, a.frame fun q hq => f q (a.lt q hq), b, ?_⟩
  rcases c with c | ⟨o, rfl, h1, h2⟩
  · exact .inl c
  · exact .inr ⟨o, rfl, (f o (objAt_lt h1)).trans h1, h2⟩
theorem Grow.fin (h : Grow s v sz A ts) : Fin s v (.sl sz ts) := by
  have hl := h.len
  obtain ⟨os, a, b, c⟩ := h.ex
  rcases c with ⟨rfl, rfl⟩ | ⟨o, rfl, h1, h2⟩
  · have : ts = [] := List.eq_nil_of_length_eq_zero (by simpa using hl.symm)
    subst this; exact fin_nil
  · rw [hl]
    refine fin_of (os := o :: os) ?_ (List.nodup_cons.2 ⟨h2, b⟩)
    simp only [OwV]
    exact .inr ⟨o, A, os, rfl, h1, rfl, a⟩
theorem Grow.app {cs tcs : List V} {os2 : List Nat} {id2 : Nat} (h : Grow s v sz A ts) (hs : ∀ o, o < s.length → objAt s1 o = objAt s o) (hl : s.length ≤ s1.length) (g : Got s1 σ2 (.agg cs) (.agg tcs) os2)
    (h0 : s.length ≤ id2) (hid : id2 < s1.length) (h2 : objAt S id2 = some ⟨sz, A ++ [cs]⟩)
    (hf : ∀ q, q ≠ id2 → (q < s.length ∨ s1.length ≤ q) → (∀ n, v ≠ .msl q 0 n) → objAt S q = objAt σ2 q) : Grow S (.msl id2 0 (A.length + 1)) sz (A ++ [cs]) (ts ++ [tcs]) := by
  obtain ⟨os, a, b, c⟩ := h.ex
  have a' := a.frame (σ' := σ2) fun q hq => by
    have := a.lt q hq
    rw [g.old q (by omega), hs q this]
  obtain ⟨cs', e, hc⟩ := g.ow.agg_inv
  cases e
  have hlt := a.lt
  have hv : ∀ q ∈ os ++ os2, ∀ n, v ≠ .msl q 0 n := by
    intro q hq n
    rcases c with ⟨_, rfl⟩ | ⟨o, rfl, h1, h2⟩
    · simp
    · intro e
      have e2 : o = q := by injection e
      rw [e2] at h1 h2
      rcases List.mem_append.1 hq with hq | hq
      · exact h2 hq
      · have := g.fresh q hq
        have := objAt_lt h1
        omega
  have hne : ∀ q ∈ os ++ os2, q ≠ id2 ∧ (q < s.length ∨ s1.length ≤ q) := by
    intro q hq
    rcases List.mem_append.1 hq with hq | hq
    · have := hlt q hq; exact ⟨by omega, by omega⟩
    · have := g.fresh q hq; exact ⟨by omega, by omega⟩
  have fr : ∀ q ∈ os ++ os2, objAt S q = objAt σ2 q := fun q hq => hf q (hne q hq).1 (hne q hq).2 (hv q hq)
  refine ⟨os ++ os2, owR_append (a'.frame fun q hq => fr q (List.mem_append_left _ hq)) (owR_1 (hc.frame fun q hq => fr q (List.mem_append_right _ hq))), ?_, .inr ⟨id2, by simp, h2, fun hm => (hne id2 hm).1 rfl⟩⟩
  rw [List.nodup_append]
  refine ⟨b, g.nd, fun x hx y hy e => ?_⟩
  have := hlt x hx
  have := g.fresh y hy
  omega
end
end Go.Ml
end
section
set_option linter.unusedSimpArgs false
set_option linter.unusedVariables false
namespace Go.Ml
structure Ep (s : Store) (cs ts : List V) (os : List Nat) (L : List (Nat × Obj)) : Prop where
  c : Cs s cs ts os
  l : ∀ q ∈ L, objAt s q.1 = some q.2 ∧ q.1 ∉ os
section
variable {s σ2 : Store} {cs ts : List V} {os os2 : List Nat} {L : List (Nat × Obj)}
theorem Ep.lt (E : Ep s cs ts os L) : ∀ q ∈ L, q.1 < s.length := fun q hq => objAt_lt (E.l q hq).1
theorem Ep.snoc (E : Ep s cs ts os L) {x : Option Obj} : Ep (s ++ [x]) cs ts os L := ⟨E.c.snoc, fun q hq => ⟨(objAt_snoc_lt (E.lt q hq)).trans (E.l q hq).1, (E.l q hq).2⟩⟩
theorem Ep.res (E : Ep s cs ts os L) (c : Nat) {v t : V} (hv : cs[c]? = some v) (ht : ts[c]? = some t) (hd : DepLe FD t) : resolve s FD v = some t := E.c.res c hv ht hd
theorem Ep.leaf (E : Ep s cs ts os L) (c : Nat) {v t : V} (hv : cs[c]? = some v) (ht : ts[c]? = some t) (hl : t.leaf = true := by rfl) : v.leaf = true := by
  obtain ⟨vc, oc, j1, j2, _⟩ := E.c.ow.focus c t E.c.nd ht
  rw [hv] at j1
  cases j1
  exact j2.leaf hl
theorem Ep.got {s1 : Store} {rs trs : List V} (E : Ep s cs ts os L) (h1 : ∀ o, o < s.length → objAt s1 o = objAt s o) (hl : s.length ≤ s1.length) (ho : OwL σ2 rs trs os2) (hn : os2.Nodup) (hf : ∀ o ∈ os2, s1.length ≤ o)
    (old : ∀ o, o < s1.length → objAt σ2 o = objAt s1 o) : Ep σ2 (cs ++ rs) (ts ++ trs) (os ++ os2) L := by
  have hlt := E.c.lt
  refine ⟨⟨owL_append (E.c.ow.frame fun q hq => ?_) ho, ?_⟩, fun q hq => ⟨?_, ?_⟩⟩
  · have := hlt q hq
    rw [old q (by omega), h1 q this]
  · rw [List.nodup_append]
    refine ⟨E.c.nd, hn, fun x hx y hy e => ?_⟩
    have := hlt x hx
    have := hf y hy
    omega
  · have := E.lt q hq
    rw [old _ (by omega), h1 _ this]; exact (E.l q hq).1
  · intro hm
    have := E.lt q hq
    rcases List.mem_append.1 hm with hm | hm
    · exact (E.l q hq).2 hm
    · have := hf _ hm; omega
theorem Ep.call {T : Nat → Option Fn} {f : Nat} {t t' v : V} {k k' : Int} (E : Ep s cs ts os L) (c : Nat) (hm : Mk T f t k t' k') (hv : cs[c]? = some v) (ht : ts[c]? = some t) :
    ∃ s', Run T (.fn f [v, .int .i64 k] s) (.fn (.int .i64 k') s') ∧ Ep s' cs (ts.set c t') os L ∧ s.length ≤ s'.length := by
  obtain ⟨s', h1, h2, h3⟩ := E.c.call c hm hv ht
  exact ⟨s', h1, ⟨h2, fun q hq => ⟨(h3.old _ (E.lt q hq) (E.l q hq).2).trans (E.l q hq).1, (E.l q hq).2⟩⟩, h3.len⟩
theorem Ep.part {T : Nat → Option Fn} {f : Nat} {t2 t2' r2 : List V} {k k' : Int} (E : Ep s cs ts os L) (n m : Nat) (hm : Mk T f (.agg t2) k (.agg t2') k') (hr : (cs.drop n).take m = r2) (ht : (ts.drop n).take m = t2) (hn : n + m ≤ ts.length) :
    ∃ s', Run T (.fn f [.agg r2, .int .i64 k] s) (.fn (.int .i64 k') s') ∧ Ep s' cs (ts.take n ++ t2' ++ ts.drop (n + m)) os L ∧ s.length ≤ s'.length := by
  obtain ⟨s', h1, h2, h3⟩ := E.c.part n m hm ht hn
  rw [hr] at h1
  exact ⟨s', h1, ⟨h2, fun q hq => ⟨(h3.old _ (E.lt q hq) (E.l q hq).2).trans (E.l q hq).1, (E.l q hq).2⟩⟩, h3.len⟩
end
section
variable {σ : Store} {os : List Nat}
theorem OwL.cd {cs : List V} {x : Cd} (h : OwL σ cs x.cells os) : ∃ c2 c3 c4, cs = [iv x.node, .bool x.total.neg, c2, c3, c4] := by
  obtain ⟨cs, rfl, h1⟩ := h.int_inv
  obtain ⟨cs, rfl, h2⟩ := h1.bool_inv
  match cs, h2.len with
  | [a, b, c], _ => exact ⟨a, b, c, rfl⟩
theorem OwL.tr {cs : List V} {x : List Tn} (h : OwL σ cs [tnsV x] os) : ∃ c0, cs = [c0] := by
  match cs, h.len with
  | [a], _ => exact ⟨a, rfl⟩
theorem owL_1 {v t : V} (h : OwV σ v t os) : OwL σ [v] [t] os := by simpa using owL_v h owL_nil
end
end Go.Ml
namespace Go.Ml
theorem numK_any (l : List Nat) (k : List Nat → Prop) : numK l k = k l := nr rfl
theorem or_sc (p : Prop) : (p ∨ True) = True := by simp
end Go.Ml
namespace Go.Ml
def sh (n0 n x : Nat) : Nat := if x < n0 then x else x + (n - n0)
end Go.Ml
namespace Go.Ml
end Go.Ml
end
section
set_option linter.unusedSimpArgs false
set_option linter.unusedVariables false
namespace Go.Ml
theorem mapO_ints (g : Nat → Option Nat) (l : List Int) : mapO g ⟨1, irows l⟩ = ⟨1, irows l⟩ := by
  unfold mapO
  congr 1
  simp only [irows, List.map_map]
  rfl
end Go.Ml
namespace Go.Ml
theorem reach_ints {σ : Store} {v : V} {l : List Int} {os : List Nat} (h : OwV σ v (ints l) os) : ∀ n, ∀ o ∈ reach σ n v, o ∈ os := by
  intro n o ho
  rcases h.ints_inv with ⟨_, rfl, _⟩ | ⟨q, rfl, h1, rfl⟩
  · cases n <;> simp [reach] at ho
  · cases n with
    | zero => simp [reach] at ho
    | succ n =>
      simp only [reach, h1, List.mem_cons, List.mem_flatMap] at ho
      rcases ho with rfl | ⟨r, hr, c, hc, ho⟩
      · simp
      · have hs := ir_still l r hr c hc
        cases n with
        | zero => simp [reach] at ho
        | succ n => rw [reach_still hs] at ho; cases ho
end Go.Ml
namespace Go.Ml
theorem Ep.push {s : Store} {cs ts : List V} {os : List Nat} {L : List (Nat × Obj)} {ob : Obj} (E : Ep s cs ts os L) : Ep (s ++ [some ob]) cs ts os (L ++ [(s.length, ob)]) := by
  refine ⟨E.c.snoc, fun q hq => ?_⟩
  rcases List.mem_append.1 hq with hq | hq
  · exact E.snoc.l q hq
  · simp only [List.mem_cons, List.not_mem_nil, or_false] at hq
    subst hq
    exact ⟨objAt_snoc _ _, fun hm => absurd (E.c.lt _ hm) (Nat.lt_irrefl _)⟩
theorem Ep.reach {s : Store} {cs ts : List V} {os : List Nat} {L : List (Nat × Obj)} (E : Ep s cs ts os L) (c : Nat) {v : V} {l : List Int} (hv : cs[c]? = some v) (ht : ts[c]? = some (ints l)) (n : Nat) : ∀ o ∈ reach s n v, o ∈ os := by
  intro o ho
  obtain ⟨vc, oc, j1, j2, _, j4, _⟩ := E.c.ow.focus c _ E.c.nd ht
  rw [hv] at j1
  cases j1
  exact j4 o (reach_ints j2 n o ho)
end Go.Ml
end
section
set_option linter.unusedSimpArgs false
set_option linter.unusedVariables false
namespace Go.Ml
abbrev Gd := Nat → Nat → Bool
def gset (g : Gd) (i j : Nat) (b : Bool) : Gd := fun x y => if x = i ∧ y = j then b else g x y
def grow (g : Gd) (a : Nat) : List (List V) := (List.range 10).map fun j => [.bool (g a j)]
theorem grow_set {g : Gd} {a j : Nat} {b : Bool} : (grow g a).set j [.bool b] = grow (gset g a j b) a := by
  apply List.ext_getElem?
  intro n
  rw [List.getElem?_set]
  simp only [grow, List.getElem?_map, List.length_map, List.length_range]
  by_cases hn : n < 10
  · rw [List.getElem?_range hn]
    by_cases e : j = n
    · rw [if_pos e, if_pos (by omega)]
      simp only [Option.map_some, gset]
      rw [if_pos (by simp [e])]
    · rw [if_neg e]
      simp only [Option.map_some, gset]
      rw [if_neg (by omega)]
  · rw [List.getElem?_eq_none (by simp; omega)]
    split
    · split
      · omega
      · rfl
    · rfl
theorem grow_ne {g : Gd} {a c j : Nat} {b : Bool} (h : c ≠ a) : grow (gset g a j b) c = grow g c := by
  unfold grow gset
  apply List.map_congr_left
  intro k _
  rw [if_neg (by omega)]
end Go.Ml
end
section
set_option linter.unusedSimpArgs false
set_option linter.unusedVariables false
namespace Go.Ml
def onR (b : Nat) : List (List V) := (List.range 10).map fun i => [.msl (b + i) 0 10]
def gst (g : Gd) : Store := some ⟨1, [[.msl 1 0 10]]⟩ :: some ⟨1, onR 2⟩ :: (List.range 10).map fun a => some ⟨1, grow g a⟩
theorem gst_len (g : Gd) : (gst g).length = 12 := by simp [gst]
structure GridAt (s : Store) (b : Nat) (g : Gd) : Prop where
  p : objAt s b = some ⟨1, [[.msl (b + 1) 0 10]]⟩
  on : objAt s (b + 1) = some ⟨1, onR (b + 2)⟩
  row : ∀ a, a < 10 → objAt s (b + 2 + a) = some ⟨1, grow g a⟩
theorem gst_row {g : Gd} {a : Nat} (ha : a < 10) : objAt (gst g) (2 + a) = some ⟨1, grow g a⟩ := by
  rw [Nat.add_comm]
  show ((List.range 10).map fun a => some (⟨1, grow g a⟩ : Obj))[a]?.getD none = _
  rw [List.getElem?_map, List.getElem?_range ha]; rfl
theorem GridAt.lt {s : Store} {b : Nat} {g : Gd} (h : GridAt s b g) : b + 12 ≤ s.length := by
  have := objAt_lt (h.row 9 (by omega)); omega
theorem GridAt.frame {s s2 : Store} {b : Nat} {g : Gd} (h : GridAt s b g) (hs : ∀ q, b ≤ q → q < b + 12 → objAt s2 q = objAt s q) : GridAt s2 b g :=
  ⟨(hs _ (by omega) (by omega)).trans h.p, (hs _ (by omega) (by omega)).trans h.on, fun a ha => (hs _ (by omega) (by omega)).trans (h.row a ha)⟩
theorem GridAt.set {s : Store} {b : Nat} {g : Gd} (h : GridAt s b g) {i j : Nat} {x : Bool} (hi : i < 10) (hj : j < 10) : GridAt (s.set (b + 2 + i) (some ⟨1, (grow g i).set j [.bool x]⟩)) b (gset g i j x) := by
  have hl := h.lt
  refine ⟨(objAt_setne (by omega)).trans h.p, (objAt_setne (by omega)).trans h.on, fun a ha => ?_⟩
  by_cases e : a = i
  · subst e
    rw [objAt_seteq (by omega), grow_set]
  · rw [objAt_setne (by omega), h.row a ha, grow_ne e]
theorem mapO_on {ρ : Nat → Option Nat} {b b' : Nat} (h : ∀ i, i < 10 → ρ (b + i) = some (b' + i)) : mapO ρ ⟨1, onR b⟩ = ⟨1, onR b'⟩ := by
  unfold mapO onR
  congr 1
  rw [List.map_map]
  apply List.map_congr_left
  intro i hi
  simp [mapV, h i (List.mem_range.1 hi)]
theorem mapO_grow (f : Nat → Option Nat) (g : Gd) (a : Nat) : mapO f ⟨1, grow g a⟩ = ⟨1, grow g a⟩ := by
  unfold mapO
  congr 1
theorem place_range {b j : Nat} : ∀ n, j < n → place ((List.range n).map (b + ·)) (b + j) = some j := by
  intro n hj
  have h1 : ((List.range n).map (b + ·))[j]? = some (b + j) := by rw [List.getElem?_map, List.getElem?_range hj]; rfl
  have h2 : ((List.range n).map (b + ·)).Nodup := by
    refine List.pairwise_map.2 (List.nodup_range.imp fun hne e => hne (by omega))
  exact place_get h2 h1
def g12 (b : Nat) : List Nat := (List.range 12).map (b + ·)
theorem gst_range (g : Gd) : gst g = (List.range 12).map fun j => objAt (gst g) j := by
  apply List.ext_getElem?
  intro n
  rw [List.getElem?_map]
  by_cases h : n < 12
  · rw [List.getElem?_range h]
    simp only [Option.map_some, objAt]
    rw [List.getElem?_eq_getElem (by rw [gst_len]; exact h)]; rfl
  · rw [List.getElem?_eq_none (by rw [gst_len]; omega), List.getElem?_eq_none (by simp; omega)]; rfl
theorem mapO_row {ρ : Nat → Option Nat} {o o' : Nat} (h : ρ o = some o') {s l : Nat} : mapO ρ ⟨1, [[.msl o s l]]⟩ = ⟨1, [[.msl o' s l]]⟩ := by
  simp [mapO, mapV, h]
theorem GridAt.gc {s : Store} {b : Nat} {g : Gd} (h : GridAt s b g) : gcS (g12 b) s = gst g := by
  rw [gst_range g]
  unfold gcS
  rw [g12, List.map_map]
  apply List.map_congr_left
  intro j hj
  have hj := List.mem_range.1 hj
  show (objAt s (b + j)).map (mapO (place ((List.range 12).map (b + ·)))) = objAt (gst g) j
  by_cases h0 : j = 0
  · subst h0
    rw [Nat.add_zero, h.p]
    exact congrArg some (mapO_row (place_range 12 (by omega : 1 < 12)))
  by_cases h1 : j = 1
  · subst h1
    rw [h.on]
    refine congrArg some (mapO_on fun i hi => ?_)
    rw [show b + 2 + i = b + (2 + i) by omega]
    exact place_range 12 (by omega)
  obtain ⟨a, rfl⟩ : ∃ a, j = 2 + a := ⟨j - 2, by omega⟩
  rw [← Nat.add_assoc, h.row a (by omega), gst_row (by omega)]
  exact congrArg some (mapO_grow _ _ _)
end Go.Ml
namespace Go.Ml
end Go.Ml
end
section
set_option linter.unusedSimpArgs false
set_option linter.unusedVariables false
set_option maxRecDepth 100000
set_option maxHeartbeats 4000000
namespace Go.Ml
def F_spec_ComponentOf : Fn := ⟨2, 40, [.tmp 4], (.seq (.reg false 0 [oN 4 (.mov (.c (.nils)))]) (.seq (.seq (.reg false 0 [oN 11 (oV 0), oN 12 (.call 193 [(.t 11)]), oN 13 (.un .not (.t 12))]) (.cond (.t 13) (.seq (.reg false 0 [oN 4 (.mov (.c (.nils)))]) .ret) .skip)) (.seq (.reg false 1 [oK 14 1 (oV 1), oN 15 (.mkSl 1 [.int .i64 0] 1 [(0, (.t 14))]), oK 5 1 (oV 15)]) (.seq (.seq (.reg false 0 [oN 6 (.mov (cI 0))]) (.block 0 (.loop (.seq (.seq (.reg false 0 [oN 16 (oV 6), oN 17 (.bin .lss (.t 16) (cI 10))]) (.cond (.t 17) .skip (.exit 0))) (.seq (.block 1 (.seq (.reg false 0 [oN 20 (oV 5), oN 21 (.len (.t 20)), oN 22 (.mov (cI 0))]) (.block 2 (.loop (.seq (.reg false 0 [oN 23 (.bin .lss (.t 22) (.t 21))]) (.seq (.cond (.t 23) .skip (.exit 2)) (.seq (.block 3 (.seq (.reg false 0 [oN 24 (.idx 1 (.t 20) (.t 22)), oN 25 (.load 1 false (.t 24)), oN 8 (oV 25)]) (.seq (.reg false 0 [oN 26 (oV 0), oN 27 (oV 8), oN 28 (.call 238 [(.t 26), (.t 27)]), oN 29 (.len (.t 28)), oN 30 (.mov (cI 0))]) (.block 4 (.loop (.seq (.reg false 0 [oN 31 (.bin .lss (.t 30) (.t 29))]) (.seq (.cond (.t 31) .skip (.exit 4)) (.seq (.block 5 (.seq (.reg false 0 [oN 32 (.idx 1 (.t 28) (.t 30)), oN 33 (.load 1 false (.t 32)), oN 10 (oV 33)]) (.reg false 0 [oN 34 (oV 5), oN 35 (oV 10), oN 36 (.call 237 [(.t 34), (.t 35)]), oN 5 (oV 36)]))) (.reg false 0 [oN 37 (.bin .add (.t 30) (cI 1)), oN 30 (oV 37)]))))))))) (.reg false 0 [oN 38 (.bin .add (.t 22) (cI 1)), oN 22 (oV 38)])))))))) (.reg false 0 [oN 18 (oV 6), oN 19 (.bin .add (.t 18) (cI 1)), oN 6 (oV 19)])))))) (.seq (.reg false 0 [oN 39 (oV 5), oN 4 (oV 39)]) .ret)))))⟩
structure D_spec_ComponentOf (T : Nat → Option Fn) : Prop where
  hT : T 340 = some F_spec_ComponentOf
  d_spec_IsLinkSet : D_spec_IsLinkSet T
  d_spec_l07Put : D_spec_l07Put T
  d_spec_l07Near : D_spec_l07Near T
def F_sort_Ints : Fn := ⟨1, 1, [], .lib .sortInts⟩
structure D_sort_Ints (T : Nat → Option Fn) : Prop where
  hT : T 403 = some F_sort_Ints
def F_impl_componentOf : Fn := ⟨2, 40, [.tmp 4], (.seq (.reg false 0 [oN 4 (.mov (.c (.nils)))]) (.seq (.reg false 1 [oK 9 1 (oV 1), oN 10 (.mkSl 1 [.int .i64 0] 1 [(0, (.t 9))]), oK 5 1 (oV 10)]) (.seq (.seq (.reg false 0 [oN 6 (.mov (cI 0))]) (.block 0 (.loop (.seq (.seq (.reg false 0 [oN 11 (oV 6), oN 12 (oV 5), oN 13 (.len (.t 12)), oN 14 (.bin .lss (.t 11) (.t 13))]) (.cond (.t 14) .skip (.exit 0))) (.seq (.block 1 (.seq (.reg false 0 [oN 17 (oV 0), oN 18 (oV 5), oN 19 (oV 6), oN 20 (.idx 1 (.t 18) (.t 19)), oN 21 (.load 1 false (.t 20)), oN 22 (.call 239 [(.t 17), (.t 21)]), oN 23 (.len (.t 22)), oN 24 (.mov (cI 0))]) (.block 2 (.loop (.seq (.reg false 0 [oN 25 (.bin .lss (.t 24) (.t 23))]) (.seq (.cond (.t 25) .skip (.exit 2)) (.seq (.block 3 (.seq (.reg false 0 [oN 26 (.idx 1 (.t 22) (.t 24)), oN 27 (.load 1 false (.t 26)), oN 8 (oV 27)]) (.seq (.reg false 0 [oN 28 (oV 5), oN 29 (oV 8), oN 30 (.call 236 [(.t 28), (.t 29)]), oN 31 (.un .not (.t 30))]) (.cond (.t 31) (.reg false 2 [oK 32 2 (oV 5), oK 33 2 (oV 8), oN 34 (.mkSl 1 [.int .i64 0] 1 [(0, (.t 33))]), oK 35 1 (.app 1 8 (.t 32) (.t 34)), oK 5 2 (oV 35)]) .skip)))) (.reg false 0 [oN 36 (.bin .add (.t 24) (cI 1)), oN 24 (oV 36)])))))))) (.reg false 0 [oN 15 (oV 6), oN 16 (.bin .add (.t 15) (cI 1)), oN 6 (oV 16)])))))) (.seq (.reg false 0 [oN 37 (oV 5), oN 38 (.call 403 [(.t 37)])]) (.seq (.reg false 0 [oN 39 (oV 5), oN 4 (oV 39)]) .ret)))))⟩
structure D_impl_componentOf (T : Nat → Option Fn) : Prop where
  hT : T 343 = some F_impl_componentOf
  d_impl_hasInt : D_impl_hasInt T
  d_impl_neighborsOf : D_impl_neighborsOf T
  d_sort_Ints : D_sort_Ints T
def F_impl_ComponentOf : Fn := ⟨2, 11, [.tmp 4], (.seq (.reg false 0 [oN 4 (.mov (.c (.nils)))]) (.seq (.seq (.reg false 0 [oN 5 (oV 0), oN 6 (.call 89 [(.t 5)]), oN 7 (.un .not (.t 6))]) (.cond (.t 7) (.seq (.reg false 0 [oN 4 (.mov (.c (.nils)))]) .ret) .skip)) (.seq (.reg false 0 [oN 8 (oV 0), oN 9 (oV 1), oN 10 (.call 343 [(.t 8), (.t 9)]), oN 4 (oV 10)]) .ret)))⟩
structure D_impl_ComponentOf (T : Nat → Option Fn) : Prop where
  hT : T 341 = some F_impl_ComponentOf
  d_impl_IsLinkSet : D_impl_IsLinkSet T
  d_impl_componentOf : D_impl_componentOf T
def F_spec_IsGrounded : Fn := ⟨1, 22, [.tmp 2], (.seq (.reg false 0 [oN 2 (.mov (.c (.bool false)))]) (.seq (.reg false 0 [oN 6 (oV 0), oN 7 (.call 340 [(.t 6), (cI 0)]), oN 3 (oV 7)]) (.seq (.seq (.reg false 0 [oN 8 (oV 0), oN 9 (.call 222 [(.t 8)]), oN 10 (.len (.t 9)), oN 11 (.mov (cI 0))]) (.block 0 (.loop (.seq (.reg false 0 [oN 12 (.bin .lss (.t 11) (.t 10))]) (.seq (.cond (.t 12) .skip (.exit 0)) (.seq (.block 1 (.seq (.reg false 0 [oN 13 (.idx 1 (.t 9) (.t 11)), oN 14 (.load 1 false (.t 13)), oN 5 (oV 14)]) (.seq (.reg false 0 [oN 15 (oV 3), oN 16 (oV 5), oN 17 (.call 235 [(.t 15), (.t 16)]), oN 18 (.un .not (.t 17))]) (.cond (.t 18) (.seq (.reg false 0 [oN 2 (.mov (.c (.bool false)))]) .ret) .skip)))) (.reg false 0 [oN 19 (.bin .add (.t 11) (cI 1)), oN 11 (oV 19)]))))))) (.seq (.reg false 0 [oN 20 (oV 0), oN 21 (.call 193 [(.t 20)]), oN 2 (oV 21)]) .ret))))⟩
structure D_spec_IsGrounded (T : Nat → Option Fn) : Prop where
  hT : T 338 = some F_spec_IsGrounded
  d_spec_IsLinkSet : D_spec_IsLinkSet T
  d_spec_NodesOf : D_spec_NodesOf T
  d_spec_l07Has : D_spec_l07Has T
  d_spec_ComponentOf : D_spec_ComponentOf T
def F_impl_IsGrounded : Fn := ⟨1, 30, [.tmp 2], (.seq (.reg false 0 [oN 2 (.mov (.c (.bool false)))]) (.seq (.seq (.reg false 0 [oN 6 (oV 0), oN 7 (.call 89 [(.t 6)]), oN 8 (.un .not (.t 7))]) (.cond (.t 8) (.seq (.reg false 0 [oN 2 (.mov (.c (.bool false)))]) .ret) .skip)) (.seq (.reg false 0 [oN 9 (oV 0), oN 10 (.call 343 [(.t 9), (cI 0)]), oN 3 (oV 10)]) (.seq (.seq (.reg false 0 [oN 11 (oV 0), oN 12 (.len (.t 11)), oN 13 (.mov (cI 0))]) (.block 0 (.loop (.seq (.reg false 0 [oN 14 (.bin .lss (.t 13) (.t 12))]) (.seq (.cond (.t 14) .skip (.exit 0)) (.seq (.block 1 (.seq (.reg false 1 [oK 15 1 (.idx 11 (.t 11) (.t 13)), oK 16 1 (.load 11 true (.t 15)), oN 5 (.alloc [.int .i64 0, .int .i64 0, .bool false, .nils, .nils, .bool false, .nils, .nils, .bool false, .nils, .nils]), ⟨none, none, 1, .store 11 (.t 5) (.t 16), []⟩]) (.seq (.reg false 0 [oN 17 (oV 3), oN 18 (.fld 0 (.t 5)), oN 19 (.load 1 false (.t 18)), oN 20 (.call 236 [(.t 17), (.t 19)]), oN 21 (.un .not (.t 20)), oN 22 (oV 21), oG 22 false 23 (oV 3), oG 22 false 24 (.fld 1 (.t 5)), oG 22 false 25 (.load 1 false (.t 24)), oG 22 false 26 (.call 236 [(.t 23), (.t 25)]), oG 22 false 27 (.un .not (.t 26)), oN 28 (.pick (.t 22) (.c (.bool true)) (.t 27))]) (.cond (.t 28) (.seq (.reg false 0 [oN 2 (.mov (.c (.bool false)))]) .ret) .skip)))) (.reg false 0 [oN 29 (.bin .add (.t 13) (cI 1)), oN 13 (oV 29)]))))))) (.seq (.reg false 0 [oN 2 (.mov (.c (.bool true)))]) .ret)))))⟩
structure D_impl_IsGrounded (T : Nat → Option Fn) : Prop where
  hT : T 339 = some F_impl_IsGrounded
  d_impl_IsLinkSet : D_impl_IsLinkSet T
  d_impl_hasInt : D_impl_hasInt T
  d_impl_componentOf : D_impl_componentOf T
def cpT (s : List Lk) (O : List Int) (j : Nat) : List Int := (O.take j).foldl (cpRow s) O
def pF (cur nb : List Int) (q : Nat) : List Int := (nb.take q).foldl putI cur
theorem fold_s {β : Type} (f : β → Int → β) (b : β) (l : List Int) {j : Nat} (h : j < l.length) : (l.take (j + 1)).foldl f b = f ((l.take j).foldl f b) (l.getD j 0) := by
  rw [List.take_add_one, List.getElem?_eq_getElem h, List.getD_eq_getElem?_getD, List.getElem?_eq_getElem h]
  simp only [Option.toList, Option.getD, List.foldl_append, List.foldl_cons, List.foldl_nil]
theorem cpT_0 (s : List Lk) (O : List Int) : cpT s O 0 = O := by simp [cpT]
theorem cpT_s (s : List Lk) (O : List Int) {j : Nat} (h : j < O.length) : cpT s O (j + 1) = cpRow s (cpT s O j) (O.getD j 0) := fold_s _ _ _ h
theorem pF_0 (cur nb : List Int) : pF cur nb 0 = cur := by simp [pF]
theorem pF_s (cur nb : List Int) {q : Nat} (h : q < nb.length) : pF cur nb (q + 1) = putI (pF cur nb q) (nb.getD q 0) := fold_s _ _ _ h
theorem cpT_inv {s : List Lk} {v : Int} {O : List Int} (h1 : Asc O) (h2 : ∀ a ∈ O, Rch s v a) (j : Nat) : Asc (cpT s O j) ∧ ∀ a ∈ cpT s O j, Rch s v a := by
  refine ⟨cpF_asc _ _ h1, fun a ha => ?_⟩
  rcases (cpF_mem _ _ _).1 ha with h | ⟨x, hx, h⟩
  · exact h2 a h
  · exact .step (h2 x (List.mem_of_mem_take hx)) h
theorem pF_inv {s : List Lk} {v x : Int} {cur : List Int} (h1 : Asc cur) (h2 : ∀ a ∈ cur, Rch s v a) (hx : Rch s v x) (q : Nat) : Asc (pF cur (nbA s x) q) ∧ ∀ a ∈ pF cur (nbA s x) q, Rch s v a := by
  refine ⟨putF_asc _ _ h1, fun a ha => ?_⟩
  rcases (putF_mem _ _ _).1 ha with h | h
  · exact h2 a h
  · exact .step hx (List.mem_of_mem_take h)
theorem c_sComponentOf {T : Nat → Option Fn} (h : D_spec_ComponentOf T) {s : List Lk} {v : Int} (hw : wfL Lk.wf s := by first | omega | assumption | (simp; omega)) (hl : s.length ≤ 1048576 := by first | omega | assumption | (simp; omega)) : PF T 340 [lksV s, iv v] (ints (cpM s v)) := by
  have ci := c_sIsLinkSet h.d_spec_IsLinkSet hw
  cases hb : lksOk s
  · rw [hb] at ci
    rw [cpM_f hb]
    refine pf_endL (fun _ _ => false) h.hT rfl rfl ?_
    dsimp only [F_spec_ComponentOf, oN, oS, oG, oK, oA, oH, oV, cI]
    (refine ev ?_; try with_reducible exact True.intro)
    refine PFK_of ci ?_
    (refine ev ?_; try with_reducible exact True.intro)
    exact of_eq_true (LaxV_nil 1)
  rw [hb] at ci
  rw [cpM_t hb]
  refine pf_endL (fun _ _ => false) h.hT rfl rfl ?_
  dsimp only [F_spec_ComponentOf, oN, oS, oG, oK, oA, oH, oV, cI]
  (refine ev ?_; try with_reducible exact True.intro)
  refine PFK_of ci ?_
  (refine ev ?_; try with_reducible exact True.intro)
  refine loop_at (fun _ _ => false) (α := Nat) (fun n => ⟨argE [lksV s, .any, .any, .any, .any, ints (cpS s v n), iv (n : Nat)], [], 0, 0, [], []⟩) (fun n => n ≤ 10) (fun n => 10 - n) rfl 0 ?_ ?_ ?_
  · omega
  · rw [show cpS s v 0 = [v] from rfl]
    simp only [irow1]
    (refine Fg_re [] (by simp) (by intro p hp; cases hp) rfl ?_) <;> (try (refine ev ?_; try with_reducible exact True.intro)) <;> (repeat' (first | exact True.intro | omega | exact CanE_ptr rfl (by simp) | refine ⟨?_, ?_⟩ | exact of_eq_true (CanE_nil _ _ _) | exact CanE_of rfl (by simp; done) | exact CanE_of rfl rfl | (refine CanE_msl rfl ?_ rfl; simp [irows]; done) | (refine CanE_msl rfl ?_ rfl; simp [irows]; omega) | (refine CanE_frz ?_ ?_; (focus ((refine ev ?_; try with_reducible exact True.intro); done)); (intro q hq k s0 l0; simp; done))))
  · intro n hn
    have hO1 := cpS_asc s v n
    have hO2 := cpS_rch s v n
    have hO3 := cpS_len hb v n
    have hnx : cpS s v (n + 1) = cpT s (cpS s v n) (cpS s v n).length := by
      show (cpS s v n).foldl (cpRow s) (cpS s v n) = _
      unfold cpT; rw [List.take_length]
    have hfin : ¬ (n : Int) < 10 → cpV s v = cpS s v n := fun h => by unfold cpV; rw [show n = 10 by omega]
    generalize cpS s v n = O at *
    by_cases hc : (n : Int) < 10
    · (refine ev1 @hc ?_; try with_reducible exact True.intro)
      refine loop_at (fun _ _ => false) (α := Nat) (fun j => ⟨argE [lksV s, .any, .any, .any, .any, ints (cpT s O j), iv (n : Nat), .any, .any, .any, .any, .any, .any, .any, .any, .any, .any, .any, .any, .any, ints O, iv (O.length : Nat), iv (j : Nat)], [], 0, 0, [], []⟩) (fun j => j ≤ O.length) (fun j => O.length - j) rfl 0 ?_ ?_ ?_
      · omega
      · rw [cpT_0]; (refine Fg_env ?_) <;> (try (refine ev ?_; try with_reducible exact True.intro)) <;> (repeat' (first | refine ⟨?_, ?_⟩ | exact EvV_int (by omega) | exact EvV_of (by simp) | exact EvV_nil _))
      · intro j hj
        obtain ⟨hT1, hT2⟩ := cpT_inv hO1 hO2 j
        by_cases hcj : (j : Int) < (O.length : Nat)
        · have hjl : j < O.length := by omega
          have es := cpT_s s O hjl
          have hxr : Rch s v (O.getD j 0) := hO2 _ (by rw [List.getD_eq_getElem?_getD, List.getElem?_eq_getElem hjl]; exact List.getElem_mem hjl)
          generalize hxe : O.getD j 0 = x at es hxr
          have cn := c_l07Near h.d_spec_l07Near (l := s) (v := x) hw hl hb
          have hnb := nbI_len s x s.length
          have hpi := fun q => pF_inv (s := s) (v := v) (x := x) hT1 hT2 hxr q
          unfold nbA at hpi
          have hrow : cpRow s (cpT s O j) x = pF (cpT s O j) (nbI s x s.length) (nbI s x s.length).length := by unfold cpRow pF; rw [List.take_length]
          rw [hrow] at es
          clear hrow
          generalize cpT s O j = cur at *
          generalize nbI s x s.length = nb at *
          (refine ev2 @hcj @hxe ?_; try with_reducible exact True.intro)
          refine PFK_of cn ?_
          (refine ev ?_; try with_reducible exact True.intro)
          refine loop_at (fun _ _ => false) (α := Nat) (fun q => ⟨argE [lksV s, .any, .any, .any, .any, ints (pF cur nb q), iv (n : Nat), .any, .any, .any, .any, .any, .any, .any, .any, .any, .any, .any, .any, .any, ints O, iv (O.length : Nat), iv (j : Nat), .any, .any, .any, .any, .any, ints nb, iv (nb.length : Nat), iv (q : Nat)], [], 0, 0, [], []⟩) (fun q => q ≤ nb.length) (fun q => nb.length - q) rfl 0 ?_ ?_ ?_
          · omega
          · rw [pF_0]; (refine Fg_env ?_) <;> (try (refine ev ?_; try with_reducible exact True.intro)) <;> (repeat' (first | refine ⟨?_, ?_⟩ | exact EvV_int (by omega) | exact EvV_of (by simp) | exact EvV_nil _))
          · intro q hq
            obtain ⟨k1, k2⟩ := hpi q
            have k3 := rch_len hb (asc_nodup k1) k2
            by_cases hcq : (q : Int) < (nb.length : Nat)
            · have hql : q < nb.length := by omega
              have e2 := pF_s cur nb hql
              have c1 := c_l07Put h.d_spec_l07Put (l := pF cur nb q) (n := nb.getD q 0) (by omega)
              rw [← e2] at c1
              (refine ev1 @hcq ?_; try with_reducible exact True.intro)
              refine PFK_of c1 ?_
              (refine ev ?_; try with_reducible exact True.intro)
              exact ⟨q + 1, by omega, by omega, by (refine Fg_env ?_) <;> (try (refine ev ?_; try with_reducible exact True.intro)) <;> (repeat' (first | refine ⟨?_, ?_⟩ | exact EvV_int (by omega) | exact EvV_of (by simp) | exact EvV_nil _))⟩
            · have hqe : q = nb.length := by omega
              subst hqe
              rw [← es]
              (refine ev1 @hcq ?_; try with_reducible exact True.intro)
              exact ⟨j + 1, by omega, by omega, by (refine Fg_env ?_) <;> (try (refine ev ?_; try with_reducible exact True.intro)) <;> (repeat' (first | refine ⟨?_, ?_⟩ | exact EvV_int (by omega) | exact EvV_of (by simp) | exact EvV_nil _))⟩
        · have hje : j = O.length := by omega
          subst hje
          rw [← hnx]
          (refine ev1 @hcj ?_; try with_reducible exact True.intro)
          exact ⟨n + 1, by omega, by omega, by (refine Fg_env ?_) <;> (try (refine ev ?_; try with_reducible exact True.intro)) <;> (repeat' (first | refine ⟨?_, ?_⟩ | exact EvV_int (by omega) | exact EvV_of (by simp) | exact EvV_nil _))⟩
    · rw [hfin hc]
      (refine ev1 @hc ?_; try with_reducible exact True.intro)
      exact laxV_refl _
theorem RefK_sort {T : Nat → Option Fn} {f : Nat} {F : Fn} {as : List Src} {dst : Option Nat} {env : Nat → V} {xs : List Int} {kp bs : Nat} {rs ms : List Nat} {k : St → Prop} (hT : T f = some F) (hb : F.body = .lib .sortInts)
    (ha : as.map (fun s => s.ev env) = [.msl 0 0 xs.length]) (h0 : 0 < xs.length) (hl : xs.length ≤ 1099511627776) (hk : k ⟨updO env dst (.tup []), [some ⟨1, irows (sortI xs)⟩], kp, bs, rs, ms⟩) :
    RefK T f as dst ⟨env, [some ⟨1, irows xs⟩], kp, bs, rs, ms⟩ k := by
  have hg : gcS [0] [some ⟨1, irows xs⟩] = [some ⟨1, irows xs⟩] := by
    show [(objAt [some ⟨1, irows xs⟩] 0).map (mapO (place [0]))] = _
    show [some (mapO (place [0]) ⟨1, irows xs⟩)] = _
    rw [mapO_ints]
  have hr : Run T (.fn f [.msl 0 0 xs.length] (gcS [0] [some ⟨1, irows xs⟩])) (.fn (.tup []) [some ⟨1, irows (sortI xs)⟩]) := by
    rw [hg]
    exact .lib hT hb ⟨0, xs, rfl, h0, hl, rfl, rfl, rfl⟩
  have hm : (as.map fun s => mapV (place [0]) (s.ev env)) = [.msl 0 0 xs.length] := by
    have : (as.map fun s => mapV (place [0]) (s.ev env)) = (as.map fun s => s.ev env).map (mapV (place [0])) := by rw [List.map_map]; rfl
    rw [this, ha]; rfl
  have e1 : putBack [0] [some ⟨1, irows xs⟩] [some ⟨1, irows (sortI xs)⟩] = [some ⟨1, irows (sortI xs)⟩] := by
    show [some (mapO (back [0] 1) ⟨1, irows (sortI xs)⟩)] ++ [] = _
    rw [mapO_ints]; rfl
  refine ⟨_, .ref [0] (by simp) (fun o ho => by simp at ho; subst ho; rfl) (by rw [hm]; exact hr), ?_⟩
  have e2 : mapV (back [0] ([some ⟨1, irows xs⟩] : Store).length) (.tup []) = .tup [] := rfl
  simp only [e1, e2]
  exact hk
theorem po_componentOf {T : Nat → Option Fn} (h : D_impl_componentOf T) {s : List Lk} {v : Int} (hw : wfL Lk.wf s := by first | omega | assumption | (simp; omega)) (hl : s.length ≤ 1048576 := by first | omega | assumption | (simp; omega)) (hb : lksOk s = true := by assumption) : PO T 343 [lksV s, iv v] (ints (cpV s v)) := by
  refine po_end2 (fun x d => x == 403) h.hT rfl rfl ?_
  dsimp only [F_impl_componentOf, oN, oS, oG, oK, oA, oH, oV, cI, St.enter, List.length_cons, List.length_nil, Nat.zero_add]
  (refine ew ?_; try with_reducible exact True.intro)
  refine loop_at (fun x d => x == 403) (α := Nat × List Int) (fun q => ⟨argE [lksV s, .any, .any, .any, .any, .msl 0 0 q.2.length, iv (q.1 : Nat)], [some ⟨1, irows q.2⟩], 0, 0, [], []⟩) (fun q => Bfs s v q.1 q.2) (fun q => 11 - q.1) rfl (0, [v]) ?_ ?_ ?_
  · exact Bfs.start s v
  · (refine Fg_re [(0, _)] (by simp) (by intro p hp; simp only [List.mem_cons, List.not_mem_nil, or_false] at hp; rcases hp with rfl <;> refine ⟨rfl, ?_⟩ <;> first | exact ir_still _ | simp [stillR, V.still]) rfl ?_) <;> (try (refine ew ?_; try with_reducible exact True.intro)) <;> (repeat' (first | exact True.intro | omega | exact CanE_ptr rfl (by simp) | refine ⟨?_, ?_⟩ | exact of_eq_true (CanE_nil _ _ _) | exact CanE_of rfl (by simp; done) | exact CanE_of rfl rfl | (refine CanE_msl rfl ?_ rfl; simp [irows]; done) | (refine CanE_msl rfl ?_ rfl; simp [irows]; omega) | (refine CanE_frz ?_ ?_; (focus ((refine ew ?_; try with_reducible exact True.intro); done)); (intro q hq k s0 l0; simp; done))))
  · rintro ⟨i, xs⟩ hB
    dsimp only at hB
    have hx10 := hB.len hb
    have hile := hB.le
    have hx0 := List.length_pos_of_mem hB.mem
    by_cases hc : (i : Int) < (xs.length : Nat)
    · have hil : i < xs.length := by omega
      have hnx := hB.next hil
      have hrx : (irows xs)[i]? = some [iv (xs.getD i 0)] := by
        unfold irows
        rw [List.getElem?_map, List.getElem?_eq_getElem hil, List.getD_eq_getElem?_getD, List.getElem?_eq_getElem hil]; rfl
      generalize hxe : xs.getD i 0 = x at hnx hrx
      have cn := (po_neighborsOf h.d_impl_neighborsOf (l := s) (v := x) hw hl).frz (dep_ints _ _)
      have hnb := nbI_len s x s.length
      rw [show (nbA s x).foldl addN xs = addF xs (nbI s x s.length) (nbI s x s.length).length by unfold addF nbA; rw [List.take_length]] at hnx
      generalize nbI s x s.length = nb at *
      (refine ew2 @hc @hrx ?_; try with_reducible exact True.intro)
      refine PFK_of cn ?_
      (refine ew ?_; try with_reducible exact True.intro)
      refine loop_at (fun x d => x == 403) (α := Nat × List Int) (fun q => ⟨argE [lksV s, .any, .any, .any, .any, .msl 0 0 q.2.length, iv (i : Nat), .any, .any, .any, .any, .any, .any, .any, .any, .any, .any, .any, .any, .any, .any, .any, ints nb, iv (nb.length : Nat), iv (q.1 : Nat)], [some ⟨1, irows q.2⟩], 0, 0, [], []⟩) (fun q => q.1 ≤ nb.length ∧ q.2 = addF xs nb q.1 ∧ q.2.length ≤ xs.length + q.1 ∧ 0 < q.2.length) (fun q => nb.length - q.1) rfl (0, xs) ?_ ?_ ?_
      · exact ⟨by omega, (addF_0 _ _).symm, by dsimp only; omega, hx0⟩
      · (refine Fg_re [(0, _)] (by simp) (by intro p hp; simp only [List.mem_cons, List.not_mem_nil, or_false] at hp; rcases hp with rfl <;> refine ⟨rfl, ?_⟩ <;> first | exact ir_still _ | simp [stillR, V.still]) rfl ?_) <;> (try (refine ew ?_; try with_reducible exact True.intro)) <;> (repeat' (first | exact True.intro | omega | exact CanE_ptr rfl (by simp) | refine ⟨?_, ?_⟩ | exact of_eq_true (CanE_nil _ _ _) | exact CanE_of rfl (by simp; done) | exact CanE_of rfl rfl | (refine CanE_msl rfl ?_ rfl; simp [irows]; done) | (refine CanE_msl rfl ?_ rfl; simp [irows]; omega) | (refine CanE_frz ?_ ?_; (focus ((refine ew ?_; try with_reducible exact True.intro); done)); (intro q hq k s0 l0; simp; done))))
      · rintro ⟨q, ys⟩ ⟨hq, hy, hyl, hy0⟩
        dsimp only at hq hy hyl hy0
        by_cases hcq : (q : Int) < (nb.length : Nat)
        · have hql : q < nb.length := by omega
          have es := addF_s xs nb hql
          rw [← hy] at es
          unfold addN at es
          generalize hue : nb.getD q 0 = u at es
          have ch := c_hasInt h.d_impl_hasInt (l := ys) (n := u) (by omega)
          by_cases hu : u ∈ ys
          · rw [if_pos hu] at es
            rw [decide_eq_true hu] at ch
            (refine ew2 @hcq @hue ?_; try with_reducible exact True.intro)
            refine PFK_of ch ?_
            (refine ew ?_; try with_reducible exact True.intro)
            exact ⟨(q + 1, ys), by dsimp only; omega, ⟨by dsimp only; omega, es.symm, by dsimp only; omega, hy0⟩, by (refine Fg_re [(0, _)] (by simp) (by intro p hp; simp only [List.mem_cons, List.not_mem_nil, or_false] at hp; rcases hp with rfl <;> refine ⟨rfl, ?_⟩ <;> first | exact ir_still _ | simp [stillR, V.still]) rfl ?_) <;> (try (refine ew ?_; try with_reducible exact True.intro)) <;> (repeat' (first | exact True.intro | omega | exact CanE_ptr rfl (by simp) | refine ⟨?_, ?_⟩ | exact of_eq_true (CanE_nil _ _ _) | exact CanE_of rfl (by simp; done) | exact CanE_of rfl rfl | (refine CanE_msl rfl ?_ rfl; simp [irows]; done) | (refine CanE_msl rfl ?_ rfl; simp [irows]; omega) | (refine CanE_frz ?_ ?_; (focus ((refine ew ?_; try with_reducible exact True.intro); done)); (intro q hq k s0 l0; simp; done))))⟩
          · rw [if_neg hu] at es
            rw [decide_eq_false hu] at ch
            (refine ew2 @hcq @hue ?_; try with_reducible exact True.intro)
            refine PFK_of ch ?_
            rcases ys with _ | ⟨y, ys⟩
            · simp at hy0
            simp only [List.length_cons] at hyl hy0 ⊢
            (refine ew ?_; try with_reducible exact True.intro)
            refine ⟨by omega, (q + 1, (y :: ys) ++ [u]), by dsimp only; omega, ⟨by dsimp only; omega, es.symm, by dsimp only; simp; omega, by simp⟩, ?_⟩
            simp only [irows_snoc]
            rw [show ys.length + 1 + 1 = (y :: ys ++ [u]).length by simp]
            (refine Fg_re [(2, _)] (by simp) (by intro p hp; simp only [List.mem_cons, List.not_mem_nil, or_false] at hp; rcases hp with rfl <;> refine ⟨rfl, ?_⟩ <;> first | exact ir_still _ | simp [stillR, V.still]) rfl ?_) <;> (try (refine ew ?_; try with_reducible exact True.intro)) <;> (repeat' (first | exact True.intro | omega | exact CanE_ptr rfl (by simp) | refine ⟨?_, ?_⟩ | exact of_eq_true (CanE_nil _ _ _) | exact CanE_of rfl (by simp; done) | exact CanE_of rfl rfl | (refine CanE_msl rfl ?_ rfl; simp [irows]; done) | (refine CanE_msl rfl ?_ rfl; simp [irows]; omega) | (refine CanE_frz ?_ ?_; (focus ((refine ew ?_; try with_reducible exact True.intro); done)); (intro q hq k s0 l0; simp; done))))
        · have hqe : q = nb.length := by omega
          subst hqe
          rw [← hy] at hnx
          (refine ew1 @hcq ?_; try with_reducible exact True.intro)
          exact ⟨(i + 1, ys), by dsimp only; omega, hnx, by (refine Fg_re [(0, _)] (by simp) (by intro p hp; simp only [List.mem_cons, List.not_mem_nil, or_false] at hp; rcases hp with rfl <;> refine ⟨rfl, ?_⟩ <;> first | exact ir_still _ | simp [stillR, V.still]) rfl ?_) <;> (try (refine ew ?_; try with_reducible exact True.intro)) <;> (repeat' (first | exact True.intro | omega | exact CanE_ptr rfl (by simp) | refine ⟨?_, ?_⟩ | exact of_eq_true (CanE_nil _ _ _) | exact CanE_of rfl (by simp; done) | exact CanE_of rfl rfl | (refine CanE_msl rfl ?_ rfl; simp [irows]; done) | (refine CanE_msl rfl ?_ rfl; simp [irows]; omega) | (refine CanE_frz ?_ ?_; (focus ((refine ew ?_; try with_reducible exact True.intro); done)); (intro q hq k s0 l0; simp; done))))⟩
    · have hie : i = xs.length := by omega
      rw [hie] at hB
      have hfin := hB.fin hb
      (refine ew1 @hc ?_; try with_reducible exact True.intro)
      refine RefK_sort h.d_sort_Ints.hT rfl rfl hx0 (by omega) ?_
      (refine ew ?_; try with_reducible exact True.intro)
      rw [← hfin, ← sortI_len xs]
      exact fin_ints (o := 0) (l := sortI xs) rfl
end Go.Ml
end
section
set_option linter.unusedSimpArgs false
set_option linter.unusedVariables false
set_option maxRecDepth 100000
set_option maxHeartbeats 4000000
namespace Go.Ml
theorem po_iComponentOf {T : Nat → Option Fn} (h : D_impl_ComponentOf T) {s : List Lk} {v : Int} (hw : wfL Lk.wf s := by first | omega | assumption | (simp; omega)) (hl : s.length ≤ 1048576 := by first | omega | assumption | (simp; omega)) : PO T 341 [lksV s, iv v] (ints (cpM s v)) := by
  have ci := c_iIsLinkSet h.d_impl_IsLinkSet hw
  cases hb : lksOk s
  · rw [hb] at ci
    rw [cpM_f hb]
    refine po_end2 (fun x d => x == 343) h.hT rfl rfl ?_
    dsimp only [F_impl_ComponentOf, oN, oS, oG, oK, oA, oH, oV, cI, St.enter, List.length_cons, List.length_nil, Nat.zero_add]
    (refine ew ?_; try with_reducible exact True.intro)
    refine PFK_of ci ?_
    (refine ew ?_; try with_reducible exact True.intro)
    exact fin_nil
  · rw [hb] at ci
    rw [cpM_t hb]
    have cn := po_componentOf h.d_impl_componentOf (v := v) hw hl hb
    refine po_end2 (fun x d => x == 343) h.hT rfl rfl ?_
    dsimp only [F_impl_ComponentOf, oN, oS, oG, oK, oA, oH, oV, cI, St.enter, List.length_cons, List.length_nil, Nat.zero_add]
    (refine ew ?_; try with_reducible exact True.intro)
    refine PFK_of ci ?_
    (refine ew ?_; try with_reducible exact True.intro)
    refine RefK_got cn (by (refine ew ?_; try with_reducible exact True.intro)) ?_
    intro r σ2 os g
    (refine ew ?_; try with_reducible exact True.intro)
    exact fin_got g
end Go.Ml
end
section
set_option linter.unusedSimpArgs false
set_option linter.unusedVariables false
set_option maxRecDepth 100000
set_option maxHeartbeats 4000000
namespace Go.Ml
theorem po_toBigInt {T : Nat → Option Fn} (h : D_laws_toBigInt T) {z : Bi} (hl : z.mag.length ≤ 1048576 := by first | omega | assumption | (simp; omega)) : PO T 63 [biV z] (biV z) := by
  refine po_end2 (fun x d => x == 6) h.hT rfl rfl ?_
  dsimp only [F_laws_toBigInt, oN, oS, oG, oK, oA, oH, oV, cI, St.enter, List.length_cons, List.length_nil, Nat.zero_add]
  (refine ew ?_; try with_reducible exact True.intro)
  refine RefK_got (po_toIntS h.d_laws_toIntS (l := z.mag) (by omega)) (by (refine ew ?_; try with_reducible exact True.intro)) ?_
  intro r σ2 os g
  have g1 := g.at 1 (by simp) rfl
  have g2 := g.at 2 (by simp) rfl
  have gl : 3 ≤ σ2.length := g.len
  have lf := g.lf rfl
  have lb := g.lfb rfl
  have fr : ∀ o ∈ os, 3 ≤ o := g.fresh
  (refine ew4 @g1 @g2 @lf @lb ?_; try with_reducible exact True.intro)
  refine fin_of (owV_agg (owL_bool (owL_v (g.ow.frame fun o ho => ?_) owL_nil))) (by simpa using g.nd)
  have := fr o ho
  rw [objAt_setne (by omega), objAt_setne (by omega)]
theorem po_toRat {T : Nat → Option Fn} (h : D_laws_toRat T) {r : R} (hl : r.mag.length + r.den.length ≤ 1048576 := by first | omega | assumption | (simp; omega)) : PO T 48 [ratV r] (ratV r) := by
  refine po_end2 (fun x d => x == 6 || x == 63) h.hT rfl rfl ?_
  dsimp only [F_laws_toRat, oN, oS, oG, oK, oA, oH, oV, cI, St.enter, List.length_cons, List.length_nil, Nat.zero_add]
  (refine ew ?_; try with_reducible exact True.intro)
  refine RefK_got (po_toBigInt h.d_laws_toBigInt (z := r.num) (by show r.mag.length ≤ _; omega)) (by (refine ew ?_; try with_reducible exact True.intro)) ?_
  intro r1 σ1 o1 g
  obtain ⟨v1, rfl, k1⟩ := g.ow.bi_inv
  have a0 := g.at 0 (by simp) rfl
  have a1 := g.at 1 (by simp) rfl
  have a2 := g.at 2 (by simp) rfl
  have gl : 3 ≤ σ1.length := g.len
  have lf := cells_lf (k1.leaf rfl)
  have lb := k1.leaf rfl
  have f1 : ∀ o ∈ o1, 3 ≤ o := g.fresh
  (refine ew5 @a0 @a1 @a2 @lf @lb ?_; try with_reducible exact True.intro)
  refine RefK_got (po_toIntS h.d_laws_toIntS (l := r.den) (by omega)) (by (refine ew ?_; try with_reducible exact True.intro)) ?_
  intro v2 σ2 o2 g2
  have b1 := g2.old 1 (by simp; omega)
  have b2 := g2.old 2 (by simp; omega)
  have gl2 : σ1.length ≤ σ2.length := by simpa using g2.len
  have lf2 := cells_lf (g2.ow.leaf rfl)
  have lb2 := g2.ow.leaf rfl
  have f2 : ∀ o ∈ o2, σ1.length ≤ o := by simpa using g2.fresh
  (refine ew6 @b1 @b2 @a1 @lf2 @lb2 @lb ?_; try with_reducible exact True.intro)
  refine fin_of (owV_agg (owL_bool (owL_v (k1.frame fun o ho => ?_) (owL_v (g2.ow.frame fun o ho => ?_) owL_nil)))) ?_
  · have := f1 o ho
    have := k1.lt o ho
    rw [objAt_setne (by omega), objAt_setne (by omega), g2.old o (by simp; omega), objAt_setne (by omega)]
  · have := f2 o ho
    rw [objAt_setne (by omega), objAt_setne (by omega)]
  · rw [List.append_nil, List.nodup_append]
    refine ⟨by simpa using g.nd, g2.nd, fun a ha b hb e => ?_⟩
    have := k1.lt a ha
    have := f2 b hb
    omega
end Go.Ml
end
section
set_option linter.unusedSimpArgs false
set_option linter.unusedVariables false
set_option maxRecDepth 100000
set_option maxHeartbeats 4000000
namespace Go.Ml
def F_laws_markRatS : Fn := ⟨2, 38, [.tmp 4], (.seq (.reg false 0 [oN 4 (.mov (cI 0))]) (.seq (.seq (.reg false 0 [oN 5 (.mov (cI 0))]) (.block 0 (.loop (.seq (.seq (.reg false 0 [oN 6 (oV 5), oN 7 (oV 0), oN 8 (.len (.t 7)), oN 9 (.bin .lss (.t 6) (.t 8))]) (.cond (.t 9) .skip (.exit 0))) (.seq (.block 1 (.seq (.reg false 0 [oN 12 (oV 0), oN 13 (oV 5), oN 14 (oV 1), oN 15 (.bin .rem (.t 14) (cI 3)), oN 16 (.bin .eql (.t 15) (cI 0)), oN 17 (.idx 3 (.t 12) (.t 13)), oN 18 (.fld 0 (.t 17)), oN 19 (.fld 0 (.t 18)), oS (.store 1 (.t 19) (.t 16))]) (.seq (.reg false 0 [oN 20 (oV 1), oN 21 (.bin .add (.t 20) (cI 1)), oN 1 (oV 21)]) (.seq (.reg false 0 [oN 22 (oV 0), oN 23 (oV 5), oN 24 (.idx 3 (.t 22) (.t 23)), oN 25 (.fld 0 (.t 24)), oN 26 (.fld 1 (.t 25)), oN 27 (.load 1 false (.t 26)), oN 28 (oV 1), oN 29 (.call 57 [(.t 27), (.t 28)]), oN 1 (oV 29)]) (.reg false 0 [oN 30 (oV 0), oN 31 (oV 5), oN 32 (.idx 3 (.t 30) (.t 31)), oN 33 (.fld 2 (.t 32)), oN 34 (.load 1 false (.t 33)), oN 35 (oV 1), oN 36 (.call 57 [(.t 34), (.t 35)]), oN 1 (oV 36)]))))) (.reg false 0 [oN 10 (oV 5), oN 11 (.bin .add (.t 10) (cI 1)), oN 5 (oV 11)])))))) (.seq (.reg false 0 [oN 37 (oV 1), oN 4 (oV 37)]) .ret)))⟩
structure D_laws_markRatS (T : Nat → Option Fn) : Prop where
  hT : T 312 = some F_laws_markRatS
  d_laws_markIntS : D_laws_markIntS T
def F_laws_markPointS : Fn := ⟨2, 69, [.tmp 4], (.seq (.reg false 0 [oN 4 (.mov (cI 0))]) (.seq (.seq (.reg false 0 [oN 5 (.mov (cI 0))]) (.block 0 (.loop (.seq (.seq (.reg false 0 [oN 6 (oV 5), oN 7 (oV 0), oN 8 (.len (.t 7)), oN 9 (.bin .lss (.t 6) (.t 8))]) (.cond (.t 9) .skip (.exit 0))) (.seq (.block 1 (.seq (.reg false 0 [oN 12 (oV 0), oN 13 (oV 5), oN 14 (oV 1), oN 15 (.bin .rem (.t 14) (cI 3)), oN 16 (.bin .eql (.t 15) (cI 0)), oN 17 (.idx 6 (.t 12) (.t 13)), oN 18 (.fld 0 (.t 17)), oN 19 (.fld 0 (.t 18)), oN 20 (.fld 0 (.t 19)), oS (.store 1 (.t 20) (.t 16))]) (.seq (.reg false 0 [oN 21 (oV 1), oN 22 (.bin .add (.t 21) (cI 1)), oN 1 (oV 22)]) (.seq (.reg false 0 [oN 23 (oV 0), oN 24 (oV 5), oN 25 (.idx 6 (.t 23) (.t 24)), oN 26 (.fld 0 (.t 25)), oN 27 (.fld 0 (.t 26)), oN 28 (.fld 1 (.t 27)), oN 29 (.load 1 false (.t 28)), oN 30 (oV 1), oN 31 (.call 57 [(.t 29), (.t 30)]), oN 1 (oV 31)]) (.seq (.reg false 0 [oN 32 (oV 0), oN 33 (oV 5), oN 34 (.idx 6 (.t 32) (.t 33)), oN 35 (.fld 0 (.t 34)), oN 36 (.fld 2 (.t 35)), oN 37 (.load 1 false (.t 36)), oN 38 (oV 1), oN 39 (.call 57 [(.t 37), (.t 38)]), oN 1 (oV 39)]) (.seq (.reg false 0 [oN 40 (oV 0), oN 41 (oV 5), oN 42 (oV 1), oN 43 (.bin .rem (.t 42) (cI 3)), oN 44 (.bin .eql (.t 43) (cI 0)), oN 45 (.idx 6 (.t 40) (.t 41)), oN 46 (.fld 3 (.t 45)), oN 47 (.fld 0 (.t 46)), oN 48 (.fld 0 (.t 47)), oS (.store 1 (.t 48) (.t 44))]) (.seq (.reg false 0 [oN 49 (oV 1), oN 50 (.bin .add (.t 49) (cI 1)), oN 1 (oV 50)]) (.seq (.reg false 0 [oN 51 (oV 0), oN 52 (oV 5), oN 53 (.idx 6 (.t 51) (.t 52)), oN 54 (.fld 3 (.t 53)), oN 55 (.fld 0 (.t 54)), oN 56 (.fld 1 (.t 55)), oN 57 (.load 1 false (.t 56)), oN 58 (oV 1), oN 59 (.call 57 [(.t 57), (.t 58)]), oN 1 (oV 59)]) (.reg false 0 [oN 60 (oV 0), oN 61 (oV 5), oN 62 (.idx 6 (.t 60) (.t 61)), oN 63 (.fld 3 (.t 62)), oN 64 (.fld 2 (.t 63)), oN 65 (.load 1 false (.t 64)), oN 66 (oV 1), oN 67 (.call 57 [(.t 65), (.t 66)]), oN 1 (oV 67)]))))))))) (.reg false 0 [oN 10 (oV 5), oN 11 (.bin .add (.t 10) (cI 1)), oN 5 (oV 11)])))))) (.seq (.reg false 0 [oN 68 (oV 1), oN 4 (oV 68)]) .ret)))⟩
structure D_laws_markPointS (T : Nat → Option Fn) : Prop where
  hT : T 334 = some F_laws_markPointS
  d_laws_markIntS : D_laws_markIntS T
def F_laws_markLinkS : Fn := ⟨2, 111, [.tmp 4], (.seq (.reg false 0 [oN 4 (.mov (cI 0))]) (.seq (.seq (.reg false 0 [oN 5 (.mov (cI 0))]) (.block 0 (.loop (.seq (.seq (.reg false 0 [oN 6 (oV 5), oN 7 (oV 0), oN 8 (.len (.t 7)), oN 9 (.bin .lss (.t 6) (.t 8))]) (.cond (.t 9) .skip (.exit 0))) (.seq (.block 1 (.seq (.reg false 0 [oN 12 (oV 0), oN 13 (oV 5), oN 14 (oV 1), oN 15 (.idx 11 (.t 12) (.t 13)), oN 16 (.fld 0 (.t 15)), oS (.store 1 (.t 16) (.t 14))]) (.seq (.reg false 0 [oN 17 (oV 1), oN 18 (.bin .add (.t 17) (cI 1)), oN 1 (oV 18)]) (.seq (.reg false 0 [oN 19 (oV 0), oN 20 (oV 5), oN 21 (oV 1), oN 22 (.idx 11 (.t 19) (.t 20)), oN 23 (.fld 1 (.t 22)), oS (.store 1 (.t 23) (.t 21))]) (.seq (.reg false 0 [oN 24 (oV 1), oN 25 (.bin .add (.t 24) (cI 1)), oN 1 (oV 25)]) (.seq (.reg false 0 [oN 26 (oV 0), oN 27 (oV 5), oN 28 (oV 1), oN 29 (.bin .rem (.t 28) (cI 3)), oN 30 (.bin .eql (.t 29) (cI 0)), oN 31 (.idx 11 (.t 26) (.t 27)), oN 32 (.fld 2 (.t 31)), oN 33 (.fld 0 (.t 32)), oN 34 (.fld 0 (.t 33)), oS (.store 1 (.t 34) (.t 30))]) (.seq (.reg false 0 [oN 35 (oV 1), oN 36 (.bin .add (.t 35) (cI 1)), oN 1 (oV 36)]) (.seq (.reg false 0 [oN 37 (oV 0), oN 38 (oV 5), oN 39 (.idx 11 (.t 37) (.t 38)), oN 40 (.fld 2 (.t 39)), oN 41 (.fld 0 (.t 40)), oN 42 (.fld 1 (.t 41)), oN 43 (.load 1 false (.t 42)), oN 44 (oV 1), oN 45 (.call 57 [(.t 43), (.t 44)]), oN 1 (oV 45)]) (.seq (.reg false 0 [oN 46 (oV 0), oN 47 (oV 5), oN 48 (.idx 11 (.t 46) (.t 47)), oN 49 (.fld 2 (.t 48)), oN 50 (.fld 2 (.t 49)), oN 51 (.load 1 false (.t 50)), oN 52 (oV 1), oN 53 (.call 57 [(.t 51), (.t 52)]), oN 1 (oV 53)]) (.seq (.reg false 0 [oN 54 (oV 0), oN 55 (oV 5), oN 56 (oV 1), oN 57 (.bin .rem (.t 56) (cI 3)), oN 58 (.bin .eql (.t 57) (cI 0)), oN 59 (.idx 11 (.t 54) (.t 55)), oN 60 (.fld 5 (.t 59)), oN 61 (.fld 0 (.t 60)), oN 62 (.fld 0 (.t 61)), oS (.store 1 (.t 62) (.t 58))]) (.seq (.reg false 0 [oN 63 (oV 1), oN 64 (.bin .add (.t 63) (cI 1)), oN 1 (oV 64)]) (.seq (.reg false 0 [oN 65 (oV 0), oN 66 (oV 5), oN 67 (.idx 11 (.t 65) (.t 66)), oN 68 (.fld 5 (.t 67)), oN 69 (.fld 0 (.t 68)), oN 70 (.fld 1 (.t 69)), oN 71 (.load 1 false (.t 70)), oN 72 (oV 1), oN 73 (.call 57 [(.t 71), (.t 72)]), oN 1 (oV 73)]) (.seq (.reg false 0 [oN 74 (oV 0), oN 75 (oV 5), oN 76 (.idx 11 (.t 74) (.t 75)), oN 77 (.fld 5 (.t 76)), oN 78 (.fld 2 (.t 77)), oN 79 (.load 1 false (.t 78)), oN 80 (oV 1), oN 81 (.call 57 [(.t 79), (.t 80)]), oN 1 (oV 81)]) (.seq (.reg false 0 [oN 82 (oV 0), oN 83 (oV 5), oN 84 (oV 1), oN 85 (.bin .rem (.t 84) (cI 3)), oN 86 (.bin .eql (.t 85) (cI 0)), oN 87 (.idx 11 (.t 82) (.t 83)), oN 88 (.fld 8 (.t 87)), oN 89 (.fld 0 (.t 88)), oN 90 (.fld 0 (.t 89)), oS (.store 1 (.t 90) (.t 86))]) (.seq (.reg false 0 [oN 91 (oV 1), oN 92 (.bin .add (.t 91) (cI 1)), oN 1 (oV 92)]) (.seq (.reg false 0 [oN 93 (oV 0), oN 94 (oV 5), oN 95 (.idx 11 (.t 93) (.t 94)), oN 96 (.fld 8 (.t 95)), oN 97 (.fld 0 (.t 96)), oN 98 (.fld 1 (.t 97)), oN 99 (.load 1 false (.t 98)), oN 100 (oV 1), oN 101 (.call 57 [(.t 99), (.t 100)]), oN 1 (oV 101)]) (.reg false 0 [oN 102 (oV 0), oN 103 (oV 5), oN 104 (.idx 11 (.t 102) (.t 103)), oN 105 (.fld 8 (.t 104)), oN 106 (.fld 2 (.t 105)), oN 107 (.load 1 false (.t 106)), oN 108 (oV 1), oN 109 (.call 57 [(.t 107), (.t 108)]), oN 1 (oV 109)]))))))))))))))))) (.reg false 0 [oN 10 (oV 5), oN 11 (.bin .add (.t 10) (cI 1)), oN 5 (oV 11)])))))) (.seq (.reg false 0 [oN 110 (oV 1), oN 4 (oV 110)]) .ret)))⟩
structure D_laws_markLinkS (T : Nat → Option Fn) : Prop where
  hT : T 118 = some F_laws_markLinkS
  d_laws_markIntS : D_laws_markIntS T
def F_laws_markParentS : Fn := ⟨2, 104, [.tmp 4], (.seq (.reg false 0 [oN 4 (.mov (cI 0))]) (.seq (.seq (.reg false 0 [oN 5 (.mov (cI 0))]) (.block 0 (.loop (.seq (.seq (.reg false 0 [oN 6 (oV 5), oN 7 (oV 0), oN 8 (.len (.t 7)), oN 9 (.bin .lss (.t 6) (.t 8))]) (.cond (.t 9) .skip (.exit 0))) (.seq (.block 1 (.seq (.reg false 0 [oN 12 (oV 0), oN 13 (oV 5), oN 14 (oV 1), oN 15 (.idx 10 (.t 12) (.t 13)), oN 16 (.fld 0 (.t 15)), oS (.store 1 (.t 16) (.t 14))]) (.seq (.reg false 0 [oN 17 (oV 1), oN 18 (.bin .add (.t 17) (cI 1)), oN 1 (oV 18)]) (.seq (.reg false 0 [oN 19 (oV 0), oN 20 (oV 5), oN 21 (oV 1), oN 22 (.bin .rem (.t 21) (cI 3)), oN 23 (.bin .eql (.t 22) (cI 0)), oN 24 (.idx 10 (.t 19) (.t 20)), oN 25 (.fld 1 (.t 24)), oN 26 (.fld 0 (.t 25)), oN 27 (.fld 0 (.t 26)), oS (.store 1 (.t 27) (.t 23))]) (.seq (.reg false 0 [oN 28 (oV 1), oN 29 (.bin .add (.t 28) (cI 1)), oN 1 (oV 29)]) (.seq (.reg false 0 [oN 30 (oV 0), oN 31 (oV 5), oN 32 (.idx 10 (.t 30) (.t 31)), oN 33 (.fld 1 (.t 32)), oN 34 (.fld 0 (.t 33)), oN 35 (.fld 1 (.t 34)), oN 36 (.load 1 false (.t 35)), oN 37 (oV 1), oN 38 (.call 57 [(.t 36), (.t 37)]), oN 1 (oV 38)]) (.seq (.reg false 0 [oN 39 (oV 0), oN 40 (oV 5), oN 41 (.idx 10 (.t 39) (.t 40)), oN 42 (.fld 1 (.t 41)), oN 43 (.fld 2 (.t 42)), oN 44 (.load 1 false (.t 43)), oN 45 (oV 1), oN 46 (.call 57 [(.t 44), (.t 45)]), oN 1 (oV 46)]) (.seq (.reg false 0 [oN 47 (oV 0), oN 48 (oV 5), oN 49 (oV 1), oN 50 (.bin .rem (.t 49) (cI 3)), oN 51 (.bin .eql (.t 50) (cI 0)), oN 52 (.idx 10 (.t 47) (.t 48)), oN 53 (.fld 4 (.t 52)), oN 54 (.fld 0 (.t 53)), oN 55 (.fld 0 (.t 54)), oS (.store 1 (.t 55) (.t 51))]) (.seq (.reg false 0 [oN 56 (oV 1), oN 57 (.bin .add (.t 56) (cI 1)), oN 1 (oV 57)]) (.seq (.reg false 0 [oN 58 (oV 0), oN 59 (oV 5), oN 60 (.idx 10 (.t 58) (.t 59)), oN 61 (.fld 4 (.t 60)), oN 62 (.fld 0 (.t 61)), oN 63 (.fld 1 (.t 62)), oN 64 (.load 1 false (.t 63)), oN 65 (oV 1), oN 66 (.call 57 [(.t 64), (.t 65)]), oN 1 (oV 66)]) (.seq (.reg false 0 [oN 67 (oV 0), oN 68 (oV 5), oN 69 (.idx 10 (.t 67) (.t 68)), oN 70 (.fld 4 (.t 69)), oN 71 (.fld 2 (.t 70)), oN 72 (.load 1 false (.t 71)), oN 73 (oV 1), oN 74 (.call 57 [(.t 72), (.t 73)]), oN 1 (oV 74)]) (.seq (.reg false 0 [oN 75 (oV 0), oN 76 (oV 5), oN 77 (oV 1), oN 78 (.bin .rem (.t 77) (cI 3)), oN 79 (.bin .eql (.t 78) (cI 0)), oN 80 (.idx 10 (.t 75) (.t 76)), oN 81 (.fld 7 (.t 80)), oN 82 (.fld 0 (.t 81)), oN 83 (.fld 0 (.t 82)), oS (.store 1 (.t 83) (.t 79))]) (.seq (.reg false 0 [oN 84 (oV 1), oN 85 (.bin .add (.t 84) (cI 1)), oN 1 (oV 85)]) (.seq (.reg false 0 [oN 86 (oV 0), oN 87 (oV 5), oN 88 (.idx 10 (.t 86) (.t 87)), oN 89 (.fld 7 (.t 88)), oN 90 (.fld 0 (.t 89)), oN 91 (.fld 1 (.t 90)), oN 92 (.load 1 false (.t 91)), oN 93 (oV 1), oN 94 (.call 57 [(.t 92), (.t 93)]), oN 1 (oV 94)]) (.reg false 0 [oN 95 (oV 0), oN 96 (oV 5), oN 97 (.idx 10 (.t 95) (.t 96)), oN 98 (.fld 7 (.t 97)), oN 99 (.fld 2 (.t 98)), oN 100 (.load 1 false (.t 99)), oN 101 (oV 1), oN 102 (.call 57 [(.t 100), (.t 101)]), oN 1 (oV 102)]))))))))))))))) (.reg false 0 [oN 10 (oV 5), oN 11 (.bin .add (.t 10) (cI 1)), oN 5 (oV 11)])))))) (.seq (.reg false 0 [oN 103 (oV 1), oN 4 (oV 103)]) .ret)))⟩
structure D_laws_markParentS (T : Nat → Option Fn) : Prop where
  hT : T 119 = some F_laws_markParentS
  d_laws_markIntS : D_laws_markIntS T
def F_laws_markConditionalS : Fn := ⟨2, 55, [.tmp 4], (.seq (.reg false 0 [oN 4 (.mov (cI 0))]) (.seq (.seq (.reg false 0 [oN 5 (.mov (cI 0))]) (.block 0 (.loop (.seq (.seq (.reg false 0 [oN 6 (oV 5), oN 7 (oV 0), oN 8 (.len (.t 7)), oN 9 (.bin .lss (.t 6) (.t 8))]) (.cond (.t 9) .skip (.exit 0))) (.seq (.block 1 (.seq (.reg false 0 [oN 12 (oV 0), oN 13 (oV 5), oN 14 (oV 1), oN 15 (.idx 5 (.t 12) (.t 13)), oN 16 (.fld 0 (.t 15)), oS (.store 1 (.t 16) (.t 14))]) (.seq (.reg false 0 [oN 17 (oV 1), oN 18 (.bin .add (.t 17) (cI 1)), oN 1 (oV 18)]) (.seq (.reg false 0 [oN 19 (oV 0), oN 20 (oV 5), oN 21 (oV 1), oN 22 (.bin .rem (.t 21) (cI 3)), oN 23 (.bin .eql (.t 22) (cI 0)), oN 24 (.idx 5 (.t 19) (.t 20)), oN 25 (.fld 1 (.t 24)), oN 26 (.fld 0 (.t 25)), oN 27 (.fld 0 (.t 26)), oS (.store 1 (.t 27) (.t 23))]) (.seq (.reg false 0 [oN 28 (oV 1), oN 29 (.bin .add (.t 28) (cI 1)), oN 1 (oV 29)]) (.seq (.reg false 0 [oN 30 (oV 0), oN 31 (oV 5), oN 32 (.idx 5 (.t 30) (.t 31)), oN 33 (.fld 1 (.t 32)), oN 34 (.fld 0 (.t 33)), oN 35 (.fld 1 (.t 34)), oN 36 (.load 1 false (.t 35)), oN 37 (oV 1), oN 38 (.call 57 [(.t 36), (.t 37)]), oN 1 (oV 38)]) (.seq (.reg false 0 [oN 39 (oV 0), oN 40 (oV 5), oN 41 (.idx 5 (.t 39) (.t 40)), oN 42 (.fld 1 (.t 41)), oN 43 (.fld 2 (.t 42)), oN 44 (.load 1 false (.t 43)), oN 45 (oV 1), oN 46 (.call 57 [(.t 44), (.t 45)]), oN 1 (oV 46)]) (.reg false 0 [oN 47 (oV 0), oN 48 (oV 5), oN 49 (.idx 5 (.t 47) (.t 48)), oN 50 (.fld 4 (.t 49)), oN 51 (.load 1 false (.t 50)), oN 52 (oV 1), oN 53 (.call 119 [(.t 51), (.t 52)]), oN 1 (oV 53)])))))))) (.reg false 0 [oN 10 (oV 5), oN 11 (.bin .add (.t 10) (cI 1)), oN 5 (oV 11)])))))) (.seq (.reg false 0 [oN 54 (oV 1), oN 4 (oV 54)]) .ret)))⟩
structure D_laws_markConditionalS (T : Nat → Option Fn) : Prop where
  hT : T 385 = some F_laws_markConditionalS
  d_laws_markIntS : D_laws_markIntS T
  d_laws_markParentS : D_laws_markParentS T
def F_laws_markRatSS : Fn := ⟨2, 19, [.tmp 4], (.seq (.reg false 0 [oN 4 (.mov (cI 0))]) (.seq (.seq (.reg false 0 [oN 5 (.mov (cI 0))]) (.block 0 (.loop (.seq (.seq (.reg false 0 [oN 6 (oV 5), oN 7 (oV 0), oN 8 (.len (.t 7)), oN 9 (.bin .lss (.t 6) (.t 8))]) (.cond (.t 9) .skip (.exit 0))) (.seq (.block 1 (.reg false 0 [oN 12 (oV 0), oN 13 (oV 5), oN 14 (.idx 1 (.t 12) (.t 13)), oN 15 (.load 1 false (.t 14)), oN 16 (oV 1), oN 17 (.call 312 [(.t 15), (.t 16)]), oN 1 (oV 17)])) (.reg false 0 [oN 10 (oV 5), oN 11 (.bin .add (.t 10) (cI 1)), oN 5 (oV 11)])))))) (.seq (.reg false 0 [oN 18 (oV 1), oN 4 (oV 18)]) .ret)))⟩
structure D_laws_markRatSS (T : Nat → Option Fn) : Prop where
  hT : T 302 = some F_laws_markRatSS
  d_laws_markRatS : D_laws_markRatS T
def R.ct (x : R) : Nat := 1 + x.mag.length + x.den.length
def R.mk3 (k : Int) (x : R) : R := ⟨decide ((k).tmod 3 = 0), cnt x.mag.length (k + 1), cnt x.den.length (k + 1 + x.mag.length)⟩
def Pt.ct (x : Pt) : Nat := 1 + x.x.mag.length + x.x.den.length + 1 + x.y.mag.length + x.y.den.length
def Pt.mk3 (k : Int) (x : Pt) : Pt := ⟨⟨decide ((k).tmod 3 = 0), cnt x.x.mag.length (k + 1), cnt x.x.den.length (k + 1 + x.x.mag.length)⟩, ⟨decide ((k + 1 + x.x.mag.length + x.x.den.length).tmod 3 = 0), cnt x.y.mag.length (k + 1 + x.x.mag.length + x.x.den.length + 1), cnt x.y.den.length (k + 1 + x.x.mag.length + x.x.den.length + 1 + x.y.mag.length)⟩⟩
def Lk.ct (x : Lk) : Nat := 1 + 1 + 1 + x.w.mag.length + x.w.den.length + 1 + x.dx.mag.length + x.dx.den.length + 1 + x.dy.mag.length + x.dy.den.length
def Lk.mk3 (k : Int) (x : Lk) : Lk := ⟨k, k + 1, ⟨decide ((k + 1 + 1).tmod 3 = 0), cnt x.w.mag.length (k + 1 + 1 + 1), cnt x.w.den.length (k + 1 + 1 + 1 + x.w.mag.length)⟩, ⟨decide ((k + 1 + 1 + 1 + x.w.mag.length + x.w.den.length).tmod 3 = 0), cnt x.dx.mag.length (k + 1 + 1 + 1 + x.w.mag.length + x.w.den.length + 1), cnt x.dx.den.length (k + 1 + 1 + 1 + x.w.mag.length + x.w.den.length + 1 + x.dx.mag.length)⟩, ⟨decide ((k + 1 + 1 + 1 + x.w.mag.length + x.w.den.length + 1 + x.dx.mag.length + x.dx.den.length).tmod 3 = 0), cnt x.dy.mag.length (k + 1 + 1 + 1 + x.w.mag.length + x.w.den.length + 1 + x.dx.mag.length + x.dx.den.length + 1), cnt x.dy.den.length (k + 1 + 1 + 1 + x.w.mag.length + x.w.den.length + 1 + x.dx.mag.length + x.dx.den.length + 1 + x.dy.mag.length)⟩⟩
theorem mk_markLinkS {T : Nat → Option Fn} (h : D_laws_markLinkS T) {l : List Lk} {k : Int} (hl : szL Lk.sz l ≤ 1048576 := by first | omega | assumption | (simp; omega)) (hk : 0 ≤ k ∧ k + cnL Lk.ct l l.length ≤ 1000000000000 := by first | omega | assumption | (simp; omega)) :
    Mk T 118 (lksV l) k (lksV (mkL Lk.mk3 Lk.ct k l)) (k + cnL Lk.ct l l.length) := by
  refine mk_iff fun σ v os ho hn => ?_
  have hll : l.length ≤ 1048576 := by unfold szL at hl; omega
  rcases ho.sl_inv with ⟨e, rfl, rfl⟩ | ⟨o, R0, os', rfl, _, _, hos, _⟩
  · have el : l = [] := by simpa using e
    subst el
    have : ∃ r σ', Run T (.fn 118 [.sl 11 [], iv k] σ) (.fn r σ') ∧ (r = iv k ∧ σ' = σ) := by
      refine run_end (fun _ _ => false) h.hT rfl rfl ?_
      dsimp only [F_laws_markLinkS, oN, oS, oG, oK, oA, oH, oV, cI, St.enter, List.length_cons, List.length_nil, Nat.zero_add]
      (refine ew ?_; try with_reducible exact True.intro)
      refine loop_at (fun _ _ => false) (α := Nat) (fun i => ⟨argE [.sl 11 [], iv k, .any, .any, .any, iv 0], σ, σ.length, 0, [], []⟩) (fun i => i = 0) (fun i => i) rfl 0 ?_ ?_ ?_
      · rfl
      · (refine Fg_env ?_) <;> (try (refine ew ?_; try with_reducible exact True.intro)) <;> (repeat' (first | refine ⟨?_, ?_⟩ | exact EvV_int (by omega) | exact EvV_of (by simp) | exact EvV_nil _))
      · rintro i rfl
        (refine ew ?_; try with_reducible exact True.intro)
        refine brK_dec (fun hc => absurd hc (by omega)) fun hc => ?_
        (refine ew ?_; try with_reducible exact True.intro)
    obtain ⟨r, σ', h2, rfl, rfl⟩ := this
    exact ⟨σ', by simpa [cnL] using h2, ho, Fr.refl _ _⟩
  · rw [List.length_map] at ho ⊢
    have : ∃ r σ', Run T (.fn 118 [.msl o 0 l.length, iv k] σ) (.fn r σ') ∧ (r = iv (k + cnL Lk.ct l l.length) ∧ OwV σ' (.msl o 0 l.length) (lksV (mkTo Lk.mk3 Lk.ct k l l.length)) os ∧ Fr os σ σ') := by
      refine run_end (fun x d => x == 57) h.hT rfl rfl ?_
      dsimp only [F_laws_markLinkS, oN, oS, oG, oK, oA, oH, oV, cI, St.enter, List.length_cons, List.length_nil, Nat.zero_add]
      (refine ew ?_; try with_reducible exact True.intro)
      refine loop_at (fun x d => x == 57) (α := Nat × Store) (fun q => ⟨argE [.msl o 0 l.length, iv (k + cnL Lk.ct l q.1), .any, .any, .any, iv (q.1 : Nat)], q.2, σ.length, 0, [], []⟩) (fun q => q.1 ≤ l.length ∧ OwV q.2 (.msl o 0 l.length) (lksV (mkTo Lk.mk3 Lk.ct k l q.1)) os ∧ Fr os σ q.2) (fun q => l.length - q.1) rfl (0, σ) ?_ ?_ ?_
      · exact ⟨by omega, by rw [mkTo_0]; exact ho, Fr.refl _ _⟩
      · (refine Fg_env ?_) <;> (try (refine ew1 @cnL_0 ?_; try with_reducible exact True.intro)) <;> (repeat' (first | refine ⟨?_, ?_⟩ | exact EvV_int (by omega) | exact EvV_of (by simp) | exact EvV_nil _))
      · rintro ⟨i, s⟩ ⟨hi, h2, h3⟩
        dsimp only at hi h2 h3
        have hls := h3.len
        obtain ⟨A, hob, hM⟩ := h2.obj
        (refine ew1 @hob ?_; try with_reducible exact True.intro)
        refine brK_dec (fun hc => ?_) fun hc => ?_
        · have hil : i < l.length := by omega
          obtain ⟨o', M', cs, oc, hv, hob', hM', hRi, hcs, hoc, hoo, hno, hre⟩ := h2.row_inv hn (i := i) (mg? (by rw [mkTo_len _ _ _ _ hi]; exact hil))
          rw [List.length_map, mkTo_len _ _ _ _ hi] at hv
          cases hv
          rw [hob] at hob'
          cases hob'
          rw [mkTo_at _ _ _ _ hil] at hcs
          obtain ⟨x, hx⟩ : ∃ x, l.getD i default = x := ⟨_, rfl⟩
          rw [hx] at hcs
          have hcn := cnL_s Lk.ct l hil
          have hcl := cnL_le Lk.ct l (i := i + 1) hil
          have hms := mkTo_set Lk.mk3 Lk.ct k l hil
          rw [hx] at hcn hms
          rw [hcn] at hcl
          obtain ⟨kk, hkk⟩ : ∃ kk, k + (cnL Lk.ct l i : Int) = kk := ⟨_, rfl⟩
          obtain ⟨c0, c1, c2, c3, c4, c5, c6, c7, c8, c9, c10, rfl⟩ : ∃ c0 c1 c2 c3 c4 c5 c6 c7 c8 c9 c10, cs = [c0, c1, c2, c3, c4, c5, c6, c7, c8, c9, c10] := by
            have := hcs.ow.len
            match cs, this with
            | [a0, a1, a2, a3, a4, a5, a6, a7, a8, a9, a10], _ => exact ⟨a0, a1, a2, a3, a4, a5, a6, a7, a8, a9, a10, rfl⟩
          have hlo := objAt_lt hob
          have rs : ∀ r, (A.set i r)[i]? = some r := fun r => by rw [List.getElem?_set_self (by omega)]
          have hct : Lk.ct x = 1 + 1 + 1 + x.w.mag.length + x.w.den.length + 1 + x.dx.mag.length + x.dx.den.length + 1 + x.dy.mag.length + x.dy.den.length := rfl
          have hxs : Lk.sz x ≤ 1048576 := by
            have := szL_at Lk.sz hil
            rw [hx] at this
            omega
          simp only [Lk.sz, R.sz] at hxs
          have F0 : Fr (o :: oc) s s := Fr.refl _ _
          have hcs := hcs.sca 0 (.int .i64 (kk)) rfl
          have hcs := hcs.sca 1 (.int .i64 (kk + 1)) rfl
          have hcs := hcs.sca 2 (.bool (decide ((kk + 1 + 1).tmod 3 = 0))) rfl
          (refine ew7 @hkk @hc @hob @hRi @hlo @rs @List.set_set.{0} ?_; try with_reducible exact True.intro)
          have hcs := hcs.set (x := some ⟨11, A.set i [.int .i64 (kk), .int .i64 (kk + 1), .bool (decide ((kk + 1 + 1).tmod 3 = 0)), c3, c4, c5, c6, c7, c8, c9, c10]⟩) hno
          have G0 := F0.trans (fr_set (σ := s) (o := o) (x := some ⟨11, A.set i [.int .i64 (kk), .int .i64 (kk + 1), .bool (decide ((kk + 1 + 1).tmod 3 = 0)), c3, c4, c5, c6, c7, c8, c9, c10]⟩) (by simp))
          obtain ⟨s1, hr, hcs, hf1⟩ := hcs.call 3 (mk_markIntS h.d_laws_markIntS (l := x.w.mag) (k := kk + 1 + 1 + 1) (by omega) (by omega)) rfl rfl
          refine RefK_mk hr rfl hf1.len (by simp) ?_
          have hb1 := (hf1.old o (by simpa using hlo) hno).trans (objAt_seteq hlo)
          have hl1 := objAt_lt hb1
          have F1 := G0.trans (hf1.mono (by simp +contextual))
          (refine ew4 @hb1 @rs @hl1 @List.set_set.{0} ?_; try with_reducible exact True.intro)
          have G1 := F1
          obtain ⟨s2, hr, hcs, hf2⟩ := hcs.call 4 (mk_markIntS h.d_laws_markIntS (l := x.w.den) (k := kk + 1 + 1 + 1 + x.w.mag.length) (by omega) (by omega)) rfl rfl
          refine RefK_mk hr rfl hf2.len (by simp) ?_
          have hb2 := (hf2.old o hl1 hno).trans hb1
          have hl2 := objAt_lt hb2
          have F2 := G1.trans (hf2.mono (by simp +contextual))
          have hcs := hcs.sca 5 (.bool (decide ((kk + 1 + 1 + 1 + x.w.mag.length + x.w.den.length).tmod 3 = 0))) rfl
          (refine ew4 @hb2 @rs @hl2 @List.set_set.{0} ?_; try with_reducible exact True.intro)
          have hcs := hcs.set (x := some ⟨11, A.set i [.int .i64 (kk), .int .i64 (kk + 1), .bool (decide ((kk + 1 + 1).tmod 3 = 0)), c3, c4, .bool (decide ((kk + 1 + 1 + 1 + x.w.mag.length + x.w.den.length).tmod 3 = 0)), c6, c7, c8, c9, c10]⟩) hno
          have G2 := F2.trans (fr_set (σ := s2) (o := o) (x := some ⟨11, A.set i [.int .i64 (kk), .int .i64 (kk + 1), .bool (decide ((kk + 1 + 1).tmod 3 = 0)), c3, c4, .bool (decide ((kk + 1 + 1 + 1 + x.w.mag.length + x.w.den.length).tmod 3 = 0)), c6, c7, c8, c9, c10]⟩) (by simp))
          obtain ⟨s3, hr, hcs, hf3⟩ := hcs.call 6 (mk_markIntS h.d_laws_markIntS (l := x.dx.mag) (k := kk + 1 + 1 + 1 + x.w.mag.length + x.w.den.length + 1) (by omega) (by omega)) rfl rfl
          refine RefK_mk hr rfl hf3.len (by simp) ?_
          have hb3 := (hf3.old o (by simpa using hl2) hno).trans (objAt_seteq hl2)
          have hl3 := objAt_lt hb3
          have F3 := G2.trans (hf3.mono (by simp +contextual))
          (refine ew4 @hb3 @rs @hl3 @List.set_set.{0} ?_; try with_reducible exact True.intro)
          have G3 := F3
          obtain ⟨s4, hr, hcs, hf4⟩ := hcs.call 7 (mk_markIntS h.d_laws_markIntS (l := x.dx.den) (k := kk + 1 + 1 + 1 + x.w.mag.length + x.w.den.length + 1 + x.dx.mag.length) (by omega) (by omega)) rfl rfl
          refine RefK_mk hr rfl hf4.len (by simp) ?_
          have hb4 := (hf4.old o hl3 hno).trans hb3
          have hl4 := objAt_lt hb4
          have F4 := G3.trans (hf4.mono (by simp +contextual))
          have hcs := hcs.sca 8 (.bool (decide ((kk + 1 + 1 + 1 + x.w.mag.length + x.w.den.length + 1 + x.dx.mag.length + x.dx.den.length).tmod 3 = 0))) rfl
          (refine ew4 @hb4 @rs @hl4 @List.set_set.{0} ?_; try with_reducible exact True.intro)
          have hcs := hcs.set (x := some ⟨11, A.set i [.int .i64 (kk), .int .i64 (kk + 1), .bool (decide ((kk + 1 + 1).tmod 3 = 0)), c3, c4, .bool (decide ((kk + 1 + 1 + 1 + x.w.mag.length + x.w.den.length).tmod 3 = 0)), c6, c7, .bool (decide ((kk + 1 + 1 + 1 + x.w.mag.length + x.w.den.length + 1 + x.dx.mag.length + x.dx.den.length).tmod 3 = 0)), c9, c10]⟩) hno
          have G4 := F4.trans (fr_set (σ := s4) (o := o) (x := some ⟨11, A.set i [.int .i64 (kk), .int .i64 (kk + 1), .bool (decide ((kk + 1 + 1).tmod 3 = 0)), c3, c4, .bool (decide ((kk + 1 + 1 + 1 + x.w.mag.length + x.w.den.length).tmod 3 = 0)), c6, c7, .bool (decide ((kk + 1 + 1 + 1 + x.w.mag.length + x.w.den.length + 1 + x.dx.mag.length + x.dx.den.length).tmod 3 = 0)), c9, c10]⟩) (by simp))
          obtain ⟨s5, hr, hcs, hf5⟩ := hcs.call 9 (mk_markIntS h.d_laws_markIntS (l := x.dy.mag) (k := kk + 1 + 1 + 1 + x.w.mag.length + x.w.den.length + 1 + x.dx.mag.length + x.dx.den.length + 1) (by omega) (by omega)) rfl rfl
          refine RefK_mk hr rfl hf5.len (by simp) ?_
          have hb5 := (hf5.old o (by simpa using hl4) hno).trans (objAt_seteq hl4)
          have hl5 := objAt_lt hb5
          have F5 := G4.trans (hf5.mono (by simp +contextual))
          (refine ew4 @hb5 @rs @hl5 @List.set_set.{0} ?_; try with_reducible exact True.intro)
          have G5 := F5
          obtain ⟨s6, hr, hcs, hf6⟩ := hcs.call 10 (mk_markIntS h.d_laws_markIntS (l := x.dy.den) (k := kk + 1 + 1 + 1 + x.w.mag.length + x.w.den.length + 1 + x.dx.mag.length + x.dx.den.length + 1 + x.dy.mag.length) (by omega) (by omega)) rfl rfl
          refine RefK_mk hr rfl hf6.len (by simp) ?_
          have hb6 := (hf6.old o hl5 hno).trans hb5
          have hl6 := objAt_lt hb6
          have F6 := G5.trans (hf6.mono (by simp +contextual))
          (refine ew4 @hb6 @rs @hl6 @List.set_set.{0} ?_; try with_reducible exact True.intro)
          refine ⟨(i + 1, s6), by dsimp only; omega, ⟨by dsimp only; omega, ?_, ?_⟩, by (refine Fg_env ?_) <;> (try (refine ew ?_; try with_reducible exact True.intro)) <;> (repeat' (first | refine ⟨?_, ?_⟩ | exact EvV_int (by omega) | exact EvV_of (by simp) | exact EvV_nil _))⟩
          · dsimp only
            rw [← hms, hkk]
            show OwV _ _ (.sl 11 (List.map Lk.cells _)) _
            rw [List.map_set]
            exact hre _ _ _ hcs hb6 F6
          · exact h3.trans (F6.mono (by simpa using ⟨hoo, hoc⟩))
        · have : i = l.length := by omega
          subst this
          (refine ew1 @hc ?_; try with_reducible exact True.intro)
          exact ⟨h2, h3⟩
    obtain ⟨r, σ', h2, rfl, h3, h4⟩ := this
    rw [mkTo_all] at h3
    exact ⟨σ', h2, h3, h4⟩
def Pa.ct (x : Pa) : Nat := 1 + 1 + x.share.mag.length + x.share.den.length + 1 + x.dx.mag.length + x.dx.den.length + 1 + x.dy.mag.length + x.dy.den.length
def Pa.mk3 (k : Int) (x : Pa) : Pa := ⟨k, ⟨decide ((k + 1).tmod 3 = 0), cnt x.share.mag.length (k + 1 + 1), cnt x.share.den.length (k + 1 + 1 + x.share.mag.length)⟩, ⟨decide ((k + 1 + 1 + x.share.mag.length + x.share.den.length).tmod 3 = 0), cnt x.dx.mag.length (k + 1 + 1 + x.share.mag.length + x.share.den.length + 1), cnt x.dx.den.length (k + 1 + 1 + x.share.mag.length + x.share.den.length + 1 + x.dx.mag.length)⟩, ⟨decide ((k + 1 + 1 + x.share.mag.length + x.share.den.length + 1 + x.dx.mag.length + x.dx.den.length).tmod 3 = 0), cnt x.dy.mag.length (k + 1 + 1 + x.share.mag.length + x.share.den.length + 1 + x.dx.mag.length + x.dx.den.length + 1), cnt x.dy.den.length (k + 1 + 1 + x.share.mag.length + x.share.den.length + 1 + x.dx.mag.length + x.dx.den.length + 1 + x.dy.mag.length)⟩⟩
def Cd.ct (x : Cd) : Nat := 1 + 1 + x.total.mag.length + x.total.den.length + cnL Pa.ct x.ps x.ps.length
def Cd.mk3 (k : Int) (x : Cd) : Cd := ⟨k, ⟨decide ((k + 1).tmod 3 = 0), cnt x.total.mag.length (k + 1 + 1), cnt x.total.den.length (k + 1 + 1 + x.total.mag.length)⟩, mkL Pa.mk3 Pa.ct (k + 1 + 1 + x.total.mag.length + x.total.den.length) x.ps⟩
def Tn.ct (x : Tn) : Nat := 1 + 1 + cnL Lk.ct x.own x.own.length + 1 + 1 + x.cond.total.mag.length + x.cond.total.den.length + cnL Pa.ct x.cond.ps x.cond.ps.length + cnL Lk.ct x.msgs x.msgs.length + 1 + x.energy.mag.length + x.energy.den.length
def Tn.mk3 (k : Int) (x : Tn) : Tn := ⟨k, k + 1, mkL Lk.mk3 Lk.ct (k + 1 + 1) x.own, ⟨k + 1 + 1 + cnL Lk.ct x.own x.own.length, ⟨decide ((k + 1 + 1 + cnL Lk.ct x.own x.own.length + 1).tmod 3 = 0), cnt x.cond.total.mag.length (k + 1 + 1 + cnL Lk.ct x.own x.own.length + 1 + 1), cnt x.cond.total.den.length (k + 1 + 1 + cnL Lk.ct x.own x.own.length + 1 + 1 + x.cond.total.mag.length)⟩, mkL Pa.mk3 Pa.ct (k + 1 + 1 + cnL Lk.ct x.own x.own.length + 1 + 1 + x.cond.total.mag.length + x.cond.total.den.length) x.cond.ps⟩, mkL Lk.mk3 Lk.ct (k + 1 + 1 + cnL Lk.ct x.own x.own.length + 1 + 1 + x.cond.total.mag.length + x.cond.total.den.length + cnL Pa.ct x.cond.ps x.cond.ps.length) x.msgs, ⟨decide ((k + 1 + 1 + cnL Lk.ct x.own x.own.length + 1 + 1 + x.cond.total.mag.length + x.cond.total.den.length + cnL Pa.ct x.cond.ps x.cond.ps.length + cnL Lk.ct x.msgs x.msgs.length).tmod 3 = 0), cnt x.energy.mag.length (k + 1 + 1 + cnL Lk.ct x.own x.own.length + 1 + 1 + x.cond.total.mag.length + x.cond.total.den.length + cnL Pa.ct x.cond.ps x.cond.ps.length + cnL Lk.ct x.msgs x.msgs.length + 1), cnt x.energy.den.length (k + 1 + 1 + cnL Lk.ct x.own x.own.length + 1 + 1 + x.cond.total.mag.length + x.cond.total.den.length + cnL Pa.ct x.cond.ps x.cond.ps.length + cnL Lk.ct x.msgs x.msgs.length + 1 + x.energy.mag.length)⟩⟩
end Go.Ml
end
section
set_option linter.unusedSimpArgs false
set_option linter.unusedVariables false
set_option maxRecDepth 100000
set_option maxHeartbeats 4000000
namespace Go.Ml
def F_laws_markBigInt : Fn := ⟨2, 10, [.tmp 4], (.seq (.reg false 1 [oN 2 (.box (.t 0)), oK 4 1 (.mov (cI 0))]) (.seq (.reg false 0 [oN 5 (.fld 1 (.t 2)), oN 6 (.load 1 false (.t 5)), oN 7 (oV 1), oN 8 (.call 57 [(.t 6), (.t 7)]), oN 1 (oV 8)]) (.seq (.reg false 0 [oN 9 (oV 1), oN 4 (oV 9)]) .ret)))⟩
structure D_laws_markBigInt (T : Nat → Option Fn) : Prop where
  hT : T 56 = some F_laws_markBigInt
  d_laws_markIntS : D_laws_markIntS T
def F_laws_markRat : Fn := ⟨2, 14, [.tmp 4], (.seq (.reg false 1 [oN 2 (.box (.t 0)), oK 4 1 (.mov (cI 0))]) (.seq (.reg false 0 [oN 5 (.fld 0 (.t 2)), oN 6 (.load 2 true (.t 5)), oN 7 (oV 1), oN 8 (.call 56 [(.t 6), (.t 7)]), oN 1 (oV 8)]) (.seq (.reg false 0 [oN 9 (.fld 2 (.t 2)), oN 10 (.load 1 false (.t 9)), oN 11 (oV 1), oN 12 (.call 57 [(.t 10), (.t 11)]), oN 1 (oV 12)]) (.seq (.reg false 0 [oN 13 (oV 1), oN 4 (oV 13)]) .ret))))⟩
structure D_laws_markRat (T : Nat → Option Fn) : Prop where
  hT : T 41 = some F_laws_markRat
  d_laws_markBigInt : D_laws_markBigInt T
  d_laws_markIntS : D_laws_markIntS T
def F_laws_markLink : Fn := ⟨2, 18, [.tmp 4], (.seq (.reg false 1 [oN 2 (.box (.t 0)), oK 4 1 (.mov (cI 0))]) (.seq (.reg false 0 [oN 5 (.fld 2 (.t 2)), oN 6 (.load 3 true (.t 5)), oN 7 (oV 1), oN 8 (.call 41 [(.t 6), (.t 7)]), oN 1 (oV 8)]) (.seq (.reg false 0 [oN 9 (.fld 5 (.t 2)), oN 10 (.load 3 true (.t 9)), oN 11 (oV 1), oN 12 (.call 41 [(.t 10), (.t 11)]), oN 1 (oV 12)]) (.seq (.reg false 0 [oN 13 (.fld 8 (.t 2)), oN 14 (.load 3 true (.t 13)), oN 15 (oV 1), oN 16 (.call 41 [(.t 14), (.t 15)]), oN 1 (oV 16)]) (.seq (.reg false 0 [oN 17 (oV 1), oN 4 (oV 17)]) .ret)))))⟩
structure D_laws_markLink (T : Nat → Option Fn) : Prop where
  hT : T 17 = some F_laws_markLink
  d_laws_markRat : D_laws_markRat T
end Go.Ml
end
section
set_option linter.unusedSimpArgs false
set_option linter.unusedVariables false
set_option maxRecDepth 100000
set_option maxHeartbeats 4000000
namespace Go.Ml
def F_laws_heldRatS : Fn := ⟨2, 44, [.tmp 4], (.seq (.reg false 0 [oN 4 (.mov (cI 0))]) (.seq (.seq (.reg false 0 [oN 5 (.mov (cI 0))]) (.block 0 (.loop (.seq (.seq (.reg false 0 [oN 6 (oV 5), oN 7 (oV 0), oN 8 (.len (.t 7)), oN 9 (.bin .lss (.t 6) (.t 8))]) (.cond (.t 9) .skip (.exit 0))) (.seq (.block 1 (.seq (.seq (.reg false 0 [oN 12 (oV 0), oN 13 (oV 5), oN 14 (.idx 3 (.t 12) (.t 13)), oN 15 (.fld 0 (.t 14)), oN 16 (.fld 0 (.t 15)), oN 17 (.load 1 false (.t 16)), oN 18 (oV 1), oN 19 (.bin .rem (.t 18) (cI 3)), oN 20 (.bin .eql (.t 19) (cI 0)), oN 21 (.beq true (.t 17) (.t 20))]) (.cond (.t 21) (.seq (.reg false 0 [oN 4 (.mov (cI (-1)))]) .ret) .skip)) (.seq (.reg false 0 [oN 22 (oV 1), oN 23 (.bin .add (.t 22) (cI 1)), oN 1 (oV 23)]) (.seq (.reg false 0 [oN 24 (oV 0), oN 25 (oV 5), oN 26 (.idx 3 (.t 24) (.t 25)), oN 27 (.fld 0 (.t 26)), oN 28 (.fld 1 (.t 27)), oN 29 (.load 1 false (.t 28)), oN 30 (oV 1), oN 31 (.call 59 [(.t 29), (.t 30)]), oN 1 (oV 31)]) (.seq (.seq (.reg false 0 [oN 32 (oV 1), oN 33 (.bin .lss (.t 32) (cI 0))]) (.cond (.t 33) (.seq (.reg false 0 [oN 4 (.mov (cI (-1)))]) .ret) .skip)) (.seq (.reg false 0 [oN 34 (oV 0), oN 35 (oV 5), oN 36 (.idx 3 (.t 34) (.t 35)), oN 37 (.fld 2 (.t 36)), oN 38 (.load 1 false (.t 37)), oN 39 (oV 1), oN 40 (.call 59 [(.t 38), (.t 39)]), oN 1 (oV 40)]) (.seq (.reg false 0 [oN 41 (oV 1), oN 42 (.bin .lss (.t 41) (cI 0))]) (.cond (.t 42) (.seq (.reg false 0 [oN 4 (.mov (cI (-1)))]) .ret) .skip)))))))) (.reg false 0 [oN 10 (oV 5), oN 11 (.bin .add (.t 10) (cI 1)), oN 5 (oV 11)])))))) (.seq (.reg false 0 [oN 43 (oV 1), oN 4 (oV 43)]) .ret)))⟩
structure D_laws_heldRatS (T : Nat → Option Fn) : Prop where
  hT : T 313 = some F_laws_heldRatS
  d_laws_heldIntS : D_laws_heldIntS T
def F_laws_heldPointS : Fn := ⟨2, 81, [.tmp 4], (.seq (.reg false 0 [oN 4 (.mov (cI 0))]) (.seq (.seq (.reg false 0 [oN 5 (.mov (cI 0))]) (.block 0 (.loop (.seq (.seq (.reg false 0 [oN 6 (oV 5), oN 7 (oV 0), oN 8 (.len (.t 7)), oN 9 (.bin .lss (.t 6) (.t 8))]) (.cond (.t 9) .skip (.exit 0))) (.seq (.block 1 (.seq (.seq (.reg false 0 [oN 12 (oV 0), oN 13 (oV 5), oN 14 (.idx 6 (.t 12) (.t 13)), oN 15 (.fld 0 (.t 14)), oN 16 (.fld 0 (.t 15)), oN 17 (.fld 0 (.t 16)), oN 18 (.load 1 false (.t 17)), oN 19 (oV 1), oN 20 (.bin .rem (.t 19) (cI 3)), oN 21 (.bin .eql (.t 20) (cI 0)), oN 22 (.beq true (.t 18) (.t 21))]) (.cond (.t 22) (.seq (.reg false 0 [oN 4 (.mov (cI (-1)))]) .ret) .skip)) (.seq (.reg false 0 [oN 23 (oV 1), oN 24 (.bin .add (.t 23) (cI 1)), oN 1 (oV 24)]) (.seq (.reg false 0 [oN 25 (oV 0), oN 26 (oV 5), oN 27 (.idx 6 (.t 25) (.t 26)), oN 28 (.fld 0 (.t 27)), oN 29 (.fld 0 (.t 28)), oN 30 (.fld 1 (.t 29)), oN 31 (.load 1 false (.t 30)), oN 32 (oV 1), oN 33 (.call 59 [(.t 31), (.t 32)]), oN 1 (oV 33)]) (.seq (.seq (.reg false 0 [oN 34 (oV 1), oN 35 (.bin .lss (.t 34) (cI 0))]) (.cond (.t 35) (.seq (.reg false 0 [oN 4 (.mov (cI (-1)))]) .ret) .skip)) (.seq (.reg false 0 [oN 36 (oV 0), oN 37 (oV 5), oN 38 (.idx 6 (.t 36) (.t 37)), oN 39 (.fld 0 (.t 38)), oN 40 (.fld 2 (.t 39)), oN 41 (.load 1 false (.t 40)), oN 42 (oV 1), oN 43 (.call 59 [(.t 41), (.t 42)]), oN 1 (oV 43)]) (.seq (.seq (.reg false 0 [oN 44 (oV 1), oN 45 (.bin .lss (.t 44) (cI 0))]) (.cond (.t 45) (.seq (.reg false 0 [oN 4 (.mov (cI (-1)))]) .ret) .skip)) (.seq (.seq (.reg false 0 [oN 46 (oV 0), oN 47 (oV 5), oN 48 (.idx 6 (.t 46) (.t 47)), oN 49 (.fld 3 (.t 48)), oN 50 (.fld 0 (.t 49)), oN 51 (.fld 0 (.t 50)), oN 52 (.load 1 false (.t 51)), oN 53 (oV 1), oN 54 (.bin .rem (.t 53) (cI 3)), oN 55 (.bin .eql (.t 54) (cI 0)), oN 56 (.beq true (.t 52) (.t 55))]) (.cond (.t 56) (.seq (.reg false 0 [oN 4 (.mov (cI (-1)))]) .ret) .skip)) (.seq (.reg false 0 [oN 57 (oV 1), oN 58 (.bin .add (.t 57) (cI 1)), oN 1 (oV 58)]) (.seq (.reg false 0 [oN 59 (oV 0), oN 60 (oV 5), oN 61 (.idx 6 (.t 59) (.t 60)), oN 62 (.fld 3 (.t 61)), oN 63 (.fld 0 (.t 62)), oN 64 (.fld 1 (.t 63)), oN 65 (.load 1 false (.t 64)), oN 66 (oV 1), oN 67 (.call 59 [(.t 65), (.t 66)]), oN 1 (oV 67)]) (.seq (.seq (.reg false 0 [oN 68 (oV 1), oN 69 (.bin .lss (.t 68) (cI 0))]) (.cond (.t 69) (.seq (.reg false 0 [oN 4 (.mov (cI (-1)))]) .ret) .skip)) (.seq (.reg false 0 [oN 70 (oV 0), oN 71 (oV 5), oN 72 (.idx 6 (.t 70) (.t 71)), oN 73 (.fld 3 (.t 72)), oN 74 (.fld 2 (.t 73)), oN 75 (.load 1 false (.t 74)), oN 76 (oV 1), oN 77 (.call 59 [(.t 75), (.t 76)]), oN 1 (oV 77)]) (.seq (.reg false 0 [oN 78 (oV 1), oN 79 (.bin .lss (.t 78) (cI 0))]) (.cond (.t 79) (.seq (.reg false 0 [oN 4 (.mov (cI (-1)))]) .ret) .skip)))))))))))))) (.reg false 0 [oN 10 (oV 5), oN 11 (.bin .add (.t 10) (cI 1)), oN 5 (oV 11)])))))) (.seq (.reg false 0 [oN 80 (oV 1), oN 4 (oV 80)]) .ret)))⟩
structure D_laws_heldPointS (T : Nat → Option Fn) : Prop where
  hT : T 386 = some F_laws_heldPointS
  d_laws_heldIntS : D_laws_heldIntS T
def F_laws_heldLinkS : Fn := ⟨2, 133, [.tmp 4], (.seq (.reg false 0 [oN 4 (.mov (cI 0))]) (.seq (.seq (.reg false 0 [oN 5 (.mov (cI 0))]) (.block 0 (.loop (.seq (.seq (.reg false 0 [oN 6 (oV 5), oN 7 (oV 0), oN 8 (.len (.t 7)), oN 9 (.bin .lss (.t 6) (.t 8))]) (.cond (.t 9) .skip (.exit 0))) (.seq (.block 1 (.seq (.seq (.reg false 0 [oN 12 (oV 0), oN 13 (oV 5), oN 14 (.idx 11 (.t 12) (.t 13)), oN 15 (.fld 0 (.t 14)), oN 16 (.load 1 false (.t 15)), oN 17 (oV 1), oN 18 (.bin .neq (.t 16) (.t 17))]) (.cond (.t 18) (.seq (.reg false 0 [oN 4 (.mov (cI (-1)))]) .ret) .skip)) (.seq (.reg false 0 [oN 19 (oV 1), oN 20 (.bin .add (.t 19) (cI 1)), oN 1 (oV 20)]) (.seq (.seq (.reg false 0 [oN 21 (oV 0), oN 22 (oV 5), oN 23 (.idx 11 (.t 21) (.t 22)), oN 24 (.fld 1 (.t 23)), oN 25 (.load 1 false (.t 24)), oN 26 (oV 1), oN 27 (.bin .neq (.t 25) (.t 26))]) (.cond (.t 27) (.seq (.reg false 0 [oN 4 (.mov (cI (-1)))]) .ret) .skip)) (.seq (.reg false 0 [oN 28 (oV 1), oN 29 (.bin .add (.t 28) (cI 1)), oN 1 (oV 29)]) (.seq (.seq (.reg false 0 [oN 30 (oV 0), oN 31 (oV 5), oN 32 (.idx 11 (.t 30) (.t 31)), oN 33 (.fld 2 (.t 32)), oN 34 (.fld 0 (.t 33)), oN 35 (.fld 0 (.t 34)), oN 36 (.load 1 false (.t 35)), oN 37 (oV 1), oN 38 (.bin .rem (.t 37) (cI 3)), oN 39 (.bin .eql (.t 38) (cI 0)), oN 40 (.beq true (.t 36) (.t 39))]) (.cond (.t 40) (.seq (.reg false 0 [oN 4 (.mov (cI (-1)))]) .ret) .skip)) (.seq (.reg false 0 [oN 41 (oV 1), oN 42 (.bin .add (.t 41) (cI 1)), oN 1 (oV 42)]) (.seq (.reg false 0 [oN 43 (oV 0), oN 44 (oV 5), oN 45 (.idx 11 (.t 43) (.t 44)), oN 46 (.fld 2 (.t 45)), oN 47 (.fld 0 (.t 46)), oN 48 (.fld 1 (.t 47)), oN 49 (.load 1 false (.t 48)), oN 50 (oV 1), oN 51 (.call 59 [(.t 49), (.t 50)]), oN 1 (oV 51)]) (.seq (.seq (.reg false 0 [oN 52 (oV 1), oN 53 (.bin .lss (.t 52) (cI 0))]) (.cond (.t 53) (.seq (.reg false 0 [oN 4 (.mov (cI (-1)))]) .ret) .skip)) (.seq (.reg false 0 [oN 54 (oV 0), oN 55 (oV 5), oN 56 (.idx 11 (.t 54) (.t 55)), oN 57 (.fld 2 (.t 56)), oN 58 (.fld 2 (.t 57)), oN 59 (.load 1 false (.t 58)), oN 60 (oV 1), oN 61 (.call 59 [(.t 59), (.t 60)]), oN 1 (oV 61)]) (.seq (.seq (.reg false 0 [oN 62 (oV 1), oN 63 (.bin .lss (.t 62) (cI 0))]) (.cond (.t 63) (.seq (.reg false 0 [oN 4 (.mov (cI (-1)))]) .ret) .skip)) (.seq (.seq (.reg false 0 [oN 64 (oV 0), oN 65 (oV 5), oN 66 (.idx 11 (.t 64) (.t 65)), oN 67 (.fld 5 (.t 66)), oN 68 (.fld 0 (.t 67)), oN 69 (.fld 0 (.t 68)), oN 70 (.load 1 false (.t 69)), oN 71 (oV 1), oN 72 (.bin .rem (.t 71) (cI 3)), oN 73 (.bin .eql (.t 72) (cI 0)), oN 74 (.beq true (.t 70) (.t 73))]) (.cond (.t 74) (.seq (.reg false 0 [oN 4 (.mov (cI (-1)))]) .ret) .skip)) (.seq (.reg false 0 [oN 75 (oV 1), oN 76 (.bin .add (.t 75) (cI 1)), oN 1 (oV 76)]) (.seq (.reg false 0 [oN 77 (oV 0), oN 78 (oV 5), oN 79 (.idx 11 (.t 77) (.t 78)), oN 80 (.fld 5 (.t 79)), oN 81 (.fld 0 (.t 80)), oN 82 (.fld 1 (.t 81)), oN 83 (.load 1 false (.t 82)), oN 84 (oV 1), oN 85 (.call 59 [(.t 83), (.t 84)]), oN 1 (oV 85)]) (.seq (.seq (.reg false 0 [oN 86 (oV 1), oN 87 (.bin .lss (.t 86) (cI 0))]) (.cond (.t 87) (.seq (.reg false 0 [oN 4 (.mov (cI (-1)))]) .ret) .skip)) (.seq (.reg false 0 [oN 88 (oV 0), oN 89 (oV 5), oN 90 (.idx 11 (.t 88) (.t 89)), oN 91 (.fld 5 (.t 90)), oN 92 (.fld 2 (.t 91)), oN 93 (.load 1 false (.t 92)), oN 94 (oV 1), oN 95 (.call 59 [(.t 93), (.t 94)]), oN 1 (oV 95)]) (.seq (.seq (.reg false 0 [oN 96 (oV 1), oN 97 (.bin .lss (.t 96) (cI 0))]) (.cond (.t 97) (.seq (.reg false 0 [oN 4 (.mov (cI (-1)))]) .ret) .skip)) (.seq (.seq (.reg false 0 [oN 98 (oV 0), oN 99 (oV 5), oN 100 (.idx 11 (.t 98) (.t 99)), oN 101 (.fld 8 (.t 100)), oN 102 (.fld 0 (.t 101)), oN 103 (.fld 0 (.t 102)), oN 104 (.load 1 false (.t 103)), oN 105 (oV 1), oN 106 (.bin .rem (.t 105) (cI 3)), oN 107 (.bin .eql (.t 106) (cI 0)), oN 108 (.beq true (.t 104) (.t 107))]) (.cond (.t 108) (.seq (.reg false 0 [oN 4 (.mov (cI (-1)))]) .ret) .skip)) (.seq (.reg false 0 [oN 109 (oV 1), oN 110 (.bin .add (.t 109) (cI 1)), oN 1 (oV 110)]) (.seq (.reg false 0 [oN 111 (oV 0), oN 112 (oV 5), oN 113 (.idx 11 (.t 111) (.t 112)), oN 114 (.fld 8 (.t 113)), oN 115 (.fld 0 (.t 114)), oN 116 (.fld 1 (.t 115)), oN 117 (.load 1 false (.t 116)), oN 118 (oV 1), oN 119 (.call 59 [(.t 117), (.t 118)]), oN 1 (oV 119)]) (.seq (.seq (.reg false 0 [oN 120 (oV 1), oN 121 (.bin .lss (.t 120) (cI 0))]) (.cond (.t 121) (.seq (.reg false 0 [oN 4 (.mov (cI (-1)))]) .ret) .skip)) (.seq (.reg false 0 [oN 122 (oV 0), oN 123 (oV 5), oN 124 (.idx 11 (.t 122) (.t 123)), oN 125 (.fld 8 (.t 124)), oN 126 (.fld 2 (.t 125)), oN 127 (.load 1 false (.t 126)), oN 128 (oV 1), oN 129 (.call 59 [(.t 127), (.t 128)]), oN 1 (oV 129)]) (.seq (.reg false 0 [oN 130 (oV 1), oN 131 (.bin .lss (.t 130) (cI 0))]) (.cond (.t 131) (.seq (.reg false 0 [oN 4 (.mov (cI (-1)))]) .ret) .skip)))))))))))))))))))))))) (.reg false 0 [oN 10 (oV 5), oN 11 (.bin .add (.t 10) (cI 1)), oN 5 (oV 11)])))))) (.seq (.reg false 0 [oN 132 (oV 1), oN 4 (oV 132)]) .ret)))⟩
structure D_laws_heldLinkS (T : Nat → Option Fn) : Prop where
  hT : T 229 = some F_laws_heldLinkS
  d_laws_heldIntS : D_laws_heldIntS T
def F_laws_heldRatSS : Fn := ⟨2, 21, [.tmp 4], (.seq (.reg false 0 [oN 4 (.mov (cI 0))]) (.seq (.seq (.reg false 0 [oN 5 (.mov (cI 0))]) (.block 0 (.loop (.seq (.seq (.reg false 0 [oN 6 (oV 5), oN 7 (oV 0), oN 8 (.len (.t 7)), oN 9 (.bin .lss (.t 6) (.t 8))]) (.cond (.t 9) .skip (.exit 0))) (.seq (.block 1 (.seq (.reg false 0 [oN 12 (oV 0), oN 13 (oV 5), oN 14 (.idx 1 (.t 12) (.t 13)), oN 15 (.load 1 false (.t 14)), oN 16 (oV 1), oN 17 (.call 313 [(.t 15), (.t 16)]), oN 1 (oV 17)]) (.seq (.reg false 0 [oN 18 (oV 1), oN 19 (.bin .lss (.t 18) (cI 0))]) (.cond (.t 19) (.seq (.reg false 0 [oN 4 (.mov (cI (-1)))]) .ret) .skip)))) (.reg false 0 [oN 10 (oV 5), oN 11 (.bin .add (.t 10) (cI 1)), oN 5 (oV 11)])))))) (.seq (.reg false 0 [oN 20 (oV 1), oN 4 (oV 20)]) .ret)))⟩
structure D_laws_heldRatSS (T : Nat → Option Fn) : Prop where
  hT : T 303 = some F_laws_heldRatSS
  d_laws_heldRatS : D_laws_heldRatS T
def F_laws_heldBigInt : Fn := ⟨2, 12, [.tmp 4], (.seq (.reg false 1 [oN 2 (.box (.t 0)), oK 4 1 (.mov (cI 0))]) (.seq (.reg false 0 [oN 5 (.fld 1 (.t 2)), oN 6 (.load 1 false (.t 5)), oN 7 (oV 1), oN 8 (.call 59 [(.t 6), (.t 7)]), oN 1 (oV 8)]) (.seq (.seq (.reg false 0 [oN 9 (oV 1), oN 10 (.bin .lss (.t 9) (cI 0))]) (.cond (.t 10) (.seq (.reg false 0 [oN 4 (.mov (cI (-1)))]) .ret) .skip)) (.seq (.reg false 0 [oN 11 (oV 1), oN 4 (oV 11)]) .ret))))⟩
structure D_laws_heldBigInt (T : Nat → Option Fn) : Prop where
  hT : T 58 = some F_laws_heldBigInt
  d_laws_heldIntS : D_laws_heldIntS T
def F_laws_heldRat : Fn := ⟨2, 18, [.tmp 4], (.seq (.reg false 1 [oN 2 (.box (.t 0)), oK 4 1 (.mov (cI 0))]) (.seq (.reg false 0 [oN 5 (.fld 0 (.t 2)), oN 6 (.load 2 true (.t 5)), oN 7 (oV 1), oN 8 (.call 58 [(.t 6), (.t 7)]), oN 1 (oV 8)]) (.seq (.seq (.reg false 0 [oN 9 (oV 1), oN 10 (.bin .lss (.t 9) (cI 0))]) (.cond (.t 10) (.seq (.reg false 0 [oN 4 (.mov (cI (-1)))]) .ret) .skip)) (.seq (.reg false 0 [oN 11 (.fld 2 (.t 2)), oN 12 (.load 1 false (.t 11)), oN 13 (oV 1), oN 14 (.call 59 [(.t 12), (.t 13)]), oN 1 (oV 14)]) (.seq (.seq (.reg false 0 [oN 15 (oV 1), oN 16 (.bin .lss (.t 15) (cI 0))]) (.cond (.t 16) (.seq (.reg false 0 [oN 4 (.mov (cI (-1)))]) .ret) .skip)) (.seq (.reg false 0 [oN 17 (oV 1), oN 4 (oV 17)]) .ret))))))⟩
structure D_laws_heldRat (T : Nat → Option Fn) : Prop where
  hT : T 42 = some F_laws_heldRat
  d_laws_heldBigInt : D_laws_heldBigInt T
  d_laws_heldIntS : D_laws_heldIntS T
end Go.Ml
end
section
set_option linter.unusedSimpArgs false
set_option linter.unusedVariables false
set_option maxRecDepth 100000
set_option maxHeartbeats 4000000
namespace Go.Ml
def toSF (z : List V) (bytes sz f : Nat) : Fn := ⟨1, 23, [.tmp 2], (.seq (.reg false 0 [oN 2 (.mov (.c (.nils)))]) (.seq (.reg false 1 [oK 5 1 (oV 0), oK 6 1 (.len (.t 5)), oN 7 (.make z bytes (.t 6)), oK 3 1 (oV 7)]) (.seq (.seq (.reg false 0 [oN 4 (.mov (cI 0))]) (.block 0 (.loop (.seq (.seq (.reg false 0 [oN 8 (oV 4), oN 9 (oV 0), oN 10 (.len (.t 9)), oN 11 (.bin .lss (.t 8) (.t 10))]) (.cond (.t 11) .skip (.exit 0))) (.seq (.block 1 (.reg false 0 [oN 14 (oV 3), oN 15 (oV 4), oN 16 (oV 0), oN 17 (oV 4), oN 18 (.idx sz (.t 16) (.t 17)), oN 19 (.load sz true (.t 18)), oN 20 (.call f [(.t 19)]), oN 21 (.idx sz (.t 14) (.t 15)), oS (.store sz (.t 21) (.t 20))])) (.reg false 0 [oN 12 (oV 4), oN 13 (.bin .add (.t 12) (cI 1)), oN 4 (oV 13)])))))) (.seq (.reg false 0 [oN 22 (oV 3), oN 2 (oV 22)]) .ret))))⟩
theorem rep_get {α : Type} (A : List α) (z : α) {n i : Nat} (ha : A.length = i) (h : i < n) : (A ++ List.replicate (n - i) z)[i]? = some z := by
  rw [List.getElem?_append_right (by omega), ha, Nat.sub_self, show n - i = (n - (i + 1)) + 1 by omega, List.replicate_succ]; rfl
theorem rep_set {α : Type} (A : List α) (z x : α) {n i : Nat} (ha : A.length = i) (h : i < n) : (A ++ List.replicate (n - i) z).set i x = (A ++ [x]) ++ List.replicate (n - (i + 1)) z := by
  rw [List.set_append_right _ _ (by omega), ha, Nat.sub_self, show n - i = (n - (i + 1)) + 1 by omega, List.replicate_succ]; simp
theorem take_map_succ {α : Type} [Inhabited α] (cl : α → List V) (l : List α) {i : Nat} (h : i < l.length) : (l.take (i + 1)).map cl = (l.take i).map cl ++ [cl (l.getD i default)] := by
  rw [List.take_add_one, List.getElem?_eq_getElem h, List.getD_eq_getElem?_getD, List.getElem?_eq_getElem h, List.map_append]; rfl
theorem resC_still {σ : Store} : ∀ {cs : List V}, (∀ v ∈ cs, v.still = true) → resC σ cs = some cs
  | [], _ => rfl
  | c :: cs, h => by
    simp only [resC]
    rw [res_still (n := 10) (h c (by simp)), resC_still fun v hv => h v (by simp [hv])]
theorem res_agg_still {σ : Store} {cs : List V} (h : ∀ v ∈ cs, v.still = true) : resolve σ FD (.agg cs) = some (.agg cs) := by
  show (cs.mapM (resolve σ 11)).map V.agg = _
  rw [mapM_still (n := 10) h]; rfl
theorem po_toS {T : Nat → Option Fn} {n f bytes : Nat} {z : List V} {α : Type} [Inhabited α] {cl : α → List V} {l : List α} (hT : T n = some (toSF z bytes z.length f)) (hb : bytes ≤ 1024) (hl : l.length ≤ 1048576)
    (hcl : ∀ x ∈ l, (cl x).length = z.length ∧ (∀ v ∈ cl x, v.still = true) ∧ (cl x).all V.leaf = true) (hpo : ∀ x ∈ l, PO T f [.agg (cl x)] (.agg (cl x))) : PO T n [.sl z.length (l.map cl)] (.sl z.length (l.map cl)) := by

  refine po_end2 (fun x _ => x == f) hT rfl rfl ?_
  dsimp only [toSF, oN, oS, oG, oK, oA, oH, oV, cI]
  (refine ew ?_; try with_reducible exact True.intro)
  have hbl : l.length * bytes ≤ 1048576 * 1024 := Nat.mul_le_mul hl hb
  refine ⟨by omega, ?_⟩
  refine loop_at (fun x _ => x == f) (α := Nat × Store × List (List V)) (fun q => ⟨argE [.sl z.length (l.map cl), .any, .any, .msl 0 0 l.length, iv (q.1 : Nat)], q.2.1, 0, 0, [], []⟩) (fun q => q.1 ≤ l.length ∧ q.2.2.length = q.1 ∧ objAt q.2.1 0 = some ⟨z.length, q.2.2 ++ List.replicate (l.length - q.1) z⟩ ∧ OwRs 1 q.2.1 q.2.2 ((l.take q.1).map cl) ∧ 1 ≤ q.2.1.length) (fun q => l.length - q.1) rfl (0, [some ⟨z.length, List.replicate l.length z⟩], []) ?_ ?_ ?_
  · exact ⟨by omega, rfl, rfl, by simpa using owRs_nil, by simp⟩
  · (refine Fg_env ?_) <;> (try (refine ew ?_; try with_reducible exact True.intro)) <;> (repeat' (first | refine ⟨?_, ?_⟩ | exact EvV_int (by omega) | exact EvV_of (by simp) | exact EvV_nil _))
  · rintro ⟨i, s, A⟩ ⟨hi, hA, h0, hO, hs⟩
    dsimp only at hi hA h0 hO hs
    (refine ew1 @h0 ?_; try with_reducible exact True.intro)
    refine brK_dec (fun hc => ?_) fun hc => ?_ <;> (refine ew3 @hc @mg @h0 ?_; try with_reducible exact True.intro)
    · have hil : i < l.length := by omega
      have hx := getD_mem hil
      obtain ⟨x, hxe⟩ : ∃ x, l.getD i default = x := ⟨_, rfl⟩
      have hts := take_map_succ cl l hil
      rw [hxe] at hx hts ⊢
      obtain ⟨e1, e2, e3⟩ := hcl x hx
      have e4 : ∀ σ : Store, resC σ (cl x) = some (cl x) := fun σ => resC_still e2
      have e5 : ∀ σ : Store, resolve σ FD (.agg (cl x)) = some (.agg (cl x)) := fun σ => res_agg_still e2
      have eb : (f == f) = true := by simp
      (refine ew3 @e1 @e4 @eb ?_; try with_reducible exact True.intro)
      refine RefK_got (hpo x hx) (by (refine ew1 @e5 ?_; try with_reducible exact True.intro)) ?_
      intro r σ2 os g
      obtain ⟨cs, rfl, k1⟩ := g.ow.agg_inv
      have g0 := g.at 0 (by omega) h0
      have gl := g.len
      have lf := cells_agg (k1.leaf e3)
      have cl1 : cs.length = z.length := by rw [k1.len, e1]
      have r1 := rep_get A z hA hil
      have r2 := rep_set A z cs hA hil
      (refine ew5 @g0 @lf @cl1 @r1 @List.drop_length.{0} ?_; try with_reducible exact True.intro)
      rw [r2]
      refine ⟨(i + 1, σ2.set 0 (some ⟨z.length, (A ++ [cs]) ++ List.replicate (l.length - (i + 1)) z⟩), A ++ [cs]), by dsimp only; omega, ⟨by dsimp only; omega, by simp [hA], ?_, ?_, by simp; omega⟩, by (refine Fg_env ?_) <;> (try (refine ew ?_; try with_reducible exact True.intro)) <;> (repeat' (first | refine ⟨?_, ?_⟩ | exact EvV_int (by omega) | exact EvV_of (by simp) | exact EvV_nil _))⟩
      · dsimp only; exact objAt_seteq (by omega)
      · dsimp only
        rw [hts]
        exact (hO.got g hs).set (by omega)
    · have ei : i = l.length := by omega
      subst ei
      rw [Nat.sub_self, List.replicate_zero, List.append_nil] at h0
      rw [List.take_length] at hO
      have := hO.fin h0 (by omega)
      rw [List.length_map] at this
      exact this
end Go.Ml
end
section
set_option linter.unusedSimpArgs false
set_option linter.unusedVariables false
set_option maxRecDepth 100000
namespace Go.Ml
def F_laws_eqPoint : Fn := ⟨2, 17, [.tmp 4], (.seq (.reg false 2 [oN 2 (.box (.t 0)), oK 3 1 (.box (.t 1)), oK 4 2 (.mov (.c (.bool false)))]) (.seq (.seq (.reg false 0 [oN 5 (.fld 0 (.t 2)), oN 6 (.load 3 true (.t 5)), oN 7 (.fld 0 (.t 3)), oN 8 (.load 3 true (.t 7)), oN 9 (.call 40 [(.t 6), (.t 8)]), oN 10 (.un .not (.t 9))]) (.cond (.t 10) (.seq (.reg false 0 [oN 4 (.mov (.c (.bool false)))]) .ret) .skip)) (.seq (.seq (.reg false 0 [oN 11 (.fld 3 (.t 2)), oN 12 (.load 3 true (.t 11)), oN 13 (.fld 3 (.t 3)), oN 14 (.load 3 true (.t 13)), oN 15 (.call 40 [(.t 12), (.t 14)]), oN 16 (.un .not (.t 15))]) (.cond (.t 16) (.seq (.reg false 0 [oN 4 (.mov (.c (.bool false)))]) .ret) .skip)) (.seq (.reg false 0 [oN 4 (.mov (.c (.bool true)))]) .ret))))⟩
structure D_laws_eqPoint (T : Nat → Option Fn) : Prop where
  hT : T 33 = some F_laws_eqPoint
  d_laws_eqRat : D_laws_eqRat T
def F_laws_eqPointS : Fn := ⟨2, 27, [.tmp 4], (.seq (.reg false 0 [oN 4 (.mov (.c (.bool false)))]) (.seq (.seq (.reg false 0 [oN 6 (oV 0), oN 7 (.len (.t 6)), oN 8 (oV 1), oN 9 (.len (.t 8)), oN 10 (.bin .neq (.t 7) (.t 9))]) (.cond (.t 10) (.seq (.reg false 0 [oN 4 (.mov (.c (.bool false)))]) .ret) .skip)) (.seq (.seq (.reg false 0 [oN 5 (.mov (cI 0))]) (.block 0 (.loop (.seq (.seq (.reg false 0 [oN 11 (oV 5), oN 12 (oV 0), oN 13 (.len (.t 12)), oN 14 (.bin .lss (.t 11) (.t 13))]) (.cond (.t 14) .skip (.exit 0))) (.seq (.block 1 (.seq (.reg true 0 [oN 17 (oV 0), oN 18 (oV 5), oA 19 0 (.idx 6 (.t 17) (.t 18)) [0, 1], oA 20 0 (.load 6 true (.t 19)) [2], oN 21 (oV 1), oN 22 (oV 5), oA 23 0 (.idx 6 (.t 21) (.t 22)) [4, 5], oA 24 0 (.load 6 true (.t 23)) [6], oA 25 0 (.call 33 [(.t 20), (.t 24)]) [3, 7], oA 26 0 (.un .not (.t 25)) [8]]) (.cond (.t 26) (.seq (.reg false 0 [oN 4 (.mov (.c (.bool false)))]) .ret) .skip))) (.reg false 0 [oN 15 (oV 5), oN 16 (.bin .add (.t 15) (cI 1)), oN 5 (oV 16)])))))) (.seq (.reg false 0 [oN 4 (.mov (.c (.bool true)))]) .ret))))⟩
structure D_laws_eqPointS (T : Nat → Option Fn) : Prop where
  hT : T 13 = some F_laws_eqPointS
  d_laws_eqPoint : D_laws_eqPoint T
def F_laws_szLink : Fn := ⟨2, 24, [.tmp 4], (.seq (.reg false 1 [oN 2 (.box (.t 0)), oK 4 1 (.mov (cI 0))]) (.seq (.reg false 0 [oN 5 (.fld 2 (.t 2)), oN 6 (.load 3 true (.t 5)), oN 7 (oV 1), oN 8 (.call 46 [(.t 6), (.t 7)]), oN 1 (oV 8)]) (.seq (.seq (.reg false 0 [oN 9 (oV 1), oN 10 (.bin .lss (.t 9) (cI 0))]) (.cond (.t 10) (.seq (.reg false 0 [oN 4 (.mov (cI (-1)))]) .ret) .skip)) (.seq (.reg false 0 [oN 11 (.fld 5 (.t 2)), oN 12 (.load 3 true (.t 11)), oN 13 (oV 1), oN 14 (.call 46 [(.t 12), (.t 13)]), oN 1 (oV 14)]) (.seq (.seq (.reg false 0 [oN 15 (oV 1), oN 16 (.bin .lss (.t 15) (cI 0))]) (.cond (.t 16) (.seq (.reg false 0 [oN 4 (.mov (cI (-1)))]) .ret) .skip)) (.seq (.reg false 0 [oN 17 (.fld 8 (.t 2)), oN 18 (.load 3 true (.t 17)), oN 19 (oV 1), oN 20 (.call 46 [(.t 18), (.t 19)]), oN 1 (oV 20)]) (.seq (.seq (.reg false 0 [oN 21 (oV 1), oN 22 (.bin .lss (.t 21) (cI 0))]) (.cond (.t 22) (.seq (.reg false 0 [oN 4 (.mov (cI (-1)))]) .ret) .skip)) (.seq (.reg false 0 [oN 23 (oV 1), oN 4 (oV 23)]) .ret))))))))⟩
structure D_laws_szLink (T : Nat → Option Fn) : Prop where
  hT : T 43 = some F_laws_szLink
  d_laws_szRat : D_laws_szRat T
def F_laws_toLink : Fn := ⟨1, 23, [.cell 2 11 true], (.seq (.reg false 2 [oN 1 (.box (.t 0)), oK 2 1 (.alloc [.int .i64 0, .int .i64 0, .bool false, .nils, .nils, .bool false, .nils, .nils, .bool false, .nils, .nils])]) (.seq (.reg false 1 [oN 3 (.alloc [.int .i64 0, .int .i64 0, .bool false, .nils, .nils, .bool false, .nils, .nils, .bool false, .nils, .nils])]) (.seq (.reg false 0 [oN 4 (.fld 0 (.t 1)), oN 5 (.load 1 false (.t 4)), oN 6 (.fld 0 (.t 3)), oS (.store 1 (.t 6) (.t 5))]) (.seq (.reg false 0 [oN 7 (.fld 1 (.t 1)), oN 8 (.load 1 false (.t 7)), oN 9 (.fld 1 (.t 3)), oS (.store 1 (.t 9) (.t 8))]) (.seq (.reg false 0 [oN 10 (.fld 2 (.t 1)), oN 11 (.load 3 true (.t 10)), oN 12 (.call 48 [(.t 11)]), oN 13 (.fld 2 (.t 3)), oS (.store 3 (.t 13) (.t 12))]) (.seq (.reg false 0 [oN 14 (.fld 5 (.t 1)), oN 15 (.load 3 true (.t 14)), oN 16 (.call 48 [(.t 15)]), oN 17 (.fld 5 (.t 3)), oS (.store 3 (.t 17) (.t 16))]) (.seq (.reg false 0 [oN 18 (.fld 8 (.t 1)), oN 19 (.load 3 true (.t 18)), oN 20 (.call 48 [(.t 19)]), oN 21 (.fld 8 (.t 3)), oS (.store 3 (.t 21) (.t 20))]) (.seq (.reg false 0 [oN 22 (.load 11 true (.t 3)), oS (.store 11 (.t 2) (.t 22))]) .ret))))))))⟩
structure D_laws_toLink (T : Nat → Option Fn) : Prop where
  hT : T 44 = some F_laws_toLink
  d_laws_toRat : D_laws_toRat T
def F_laws_eqLink : Fn := ⟨2, 33, [.tmp 4], (.seq (.reg false 2 [oN 2 (.box (.t 0)), oK 3 1 (.box (.t 1)), oK 4 2 (.mov (.c (.bool false)))]) (.seq (.seq (.reg false 0 [oN 5 (.fld 0 (.t 2)), oN 6 (.load 1 false (.t 5)), oN 7 (.fld 0 (.t 3)), oN 8 (.load 1 false (.t 7)), oN 9 (.bin .neq (.t 6) (.t 8))]) (.cond (.t 9) (.seq (.reg false 0 [oN 4 (.mov (.c (.bool false)))]) .ret) .skip)) (.seq (.seq (.reg false 0 [oN 10 (.fld 1 (.t 2)), oN 11 (.load 1 false (.t 10)), oN 12 (.fld 1 (.t 3)), oN 13 (.load 1 false (.t 12)), oN 14 (.bin .neq (.t 11) (.t 13))]) (.cond (.t 14) (.seq (.reg false 0 [oN 4 (.mov (.c (.bool false)))]) .ret) .skip)) (.seq (.seq (.reg false 0 [oN 15 (.fld 2 (.t 2)), oN 16 (.load 3 true (.t 15)), oN 17 (.fld 2 (.t 3)), oN 18 (.load 3 true (.t 17)), oN 19 (.call 40 [(.t 16), (.t 18)]), oN 20 (.un .not (.t 19))]) (.cond (.t 20) (.seq (.reg false 0 [oN 4 (.mov (.c (.bool false)))]) .ret) .skip)) (.seq (.seq (.reg false 0 [oN 21 (.fld 5 (.t 2)), oN 22 (.load 3 true (.t 21)), oN 23 (.fld 5 (.t 3)), oN 24 (.load 3 true (.t 23)), oN 25 (.call 40 [(.t 22), (.t 24)]), oN 26 (.un .not (.t 25))]) (.cond (.t 26) (.seq (.reg false 0 [oN 4 (.mov (.c (.bool false)))]) .ret) .skip)) (.seq (.seq (.reg false 0 [oN 27 (.fld 8 (.t 2)), oN 28 (.load 3 true (.t 27)), oN 29 (.fld 8 (.t 3)), oN 30 (.load 3 true (.t 29)), oN 31 (.call 40 [(.t 28), (.t 30)]), oN 32 (.un .not (.t 31))]) (.cond (.t 32) (.seq (.reg false 0 [oN 4 (.mov (.c (.bool false)))]) .ret) .skip)) (.seq (.reg false 0 [oN 4 (.mov (.c (.bool true)))]) .ret)))))))⟩
structure D_laws_eqLink (T : Nat → Option Fn) : Prop where
  hT : T 16 = some F_laws_eqLink
  d_laws_eqRat : D_laws_eqRat T
def F_laws_szLinkS : Fn := ⟨2, 27, [.tmp 4], (.seq (.reg false 0 [oN 4 (.mov (cI 0))]) (.seq (.reg false 0 [oN 6 (oV 1), oN 7 (oV 0), oN 8 (.len (.t 7)), oN 9 (.bin .sub (.t 6) (.t 8)), oN 1 (oV 9)]) (.seq (.seq (.reg false 0 [oN 10 (oV 1), oN 11 (.bin .lss (.t 10) (cI 0))]) (.cond (.t 11) (.seq (.reg false 0 [oN 4 (.mov (cI (-1)))]) .ret) .skip)) (.seq (.seq (.reg false 0 [oN 5 (.mov (cI 0))]) (.block 0 (.loop (.seq (.seq (.reg false 0 [oN 12 (oV 5), oN 13 (oV 0), oN 14 (.len (.t 13)), oN 15 (.bin .lss (.t 12) (.t 14))]) (.cond (.t 15) .skip (.exit 0))) (.seq (.block 1 (.seq (.reg false 0 [oN 18 (oV 0), oN 19 (oV 5), oN 20 (.idx 11 (.t 18) (.t 19)), oN 21 (.load 11 true (.t 20)), oN 22 (oV 1), oN 23 (.call 43 [(.t 21), (.t 22)]), oN 1 (oV 23)]) (.seq (.reg false 0 [oN 24 (oV 1), oN 25 (.bin .lss (.t 24) (cI 0))]) (.cond (.t 25) (.seq (.reg false 0 [oN 4 (.mov (cI (-1)))]) .ret) .skip)))) (.reg false 0 [oN 16 (oV 5), oN 17 (.bin .add (.t 16) (cI 1)), oN 5 (oV 17)])))))) (.seq (.reg false 0 [oN 26 (oV 1), oN 4 (oV 26)]) .ret)))))⟩
structure D_laws_szLinkS (T : Nat → Option Fn) : Prop where
  hT : T 19 = some F_laws_szLinkS
  d_laws_szLink : D_laws_szLink T
def F_laws_toLinkS : Fn := ⟨1, 23, [.tmp 2], (.seq (.reg false 0 [oN 2 (.mov (.c (.nils)))]) (.seq (.reg false 1 [oK 5 1 (oV 0), oK 6 1 (.len (.t 5)), oN 7 (.make [.int .i64 0, .int .i64 0, .bool false, .nils, .nils, .bool false, .nils, .nils, .bool false, .nils, .nils] 184 (.t 6)), oK 3 1 (oV 7)]) (.seq (.seq (.reg false 0 [oN 4 (.mov (cI 0))]) (.block 0 (.loop (.seq (.seq (.reg false 0 [oN 8 (oV 4), oN 9 (oV 0), oN 10 (.len (.t 9)), oN 11 (.bin .lss (.t 8) (.t 10))]) (.cond (.t 11) .skip (.exit 0))) (.seq (.block 1 (.reg false 0 [oN 14 (oV 3), oN 15 (oV 4), oN 16 (oV 0), oN 17 (oV 4), oN 18 (.idx 11 (.t 16) (.t 17)), oN 19 (.load 11 true (.t 18)), oN 20 (.call 44 [(.t 19)]), oN 21 (.idx 11 (.t 14) (.t 15)), oS (.store 11 (.t 21) (.t 20))])) (.reg false 0 [oN 12 (oV 4), oN 13 (.bin .add (.t 12) (cI 1)), oN 4 (oV 13)])))))) (.seq (.reg false 0 [oN 22 (oV 3), oN 2 (oV 22)]) .ret))))⟩
structure D_laws_toLinkS (T : Nat → Option Fn) : Prop where
  hT : T 21 = some F_laws_toLinkS
  d_laws_toLink : D_laws_toLink T
def F_laws_eqLinkS : Fn := ⟨2, 27, [.tmp 4], (.seq (.reg false 0 [oN 4 (.mov (.c (.bool false)))]) (.seq (.seq (.reg false 0 [oN 6 (oV 0), oN 7 (.len (.t 6)), oN 8 (oV 1), oN 9 (.len (.t 8)), oN 10 (.bin .neq (.t 7) (.t 9))]) (.cond (.t 10) (.seq (.reg false 0 [oN 4 (.mov (.c (.bool false)))]) .ret) .skip)) (.seq (.seq (.reg false 0 [oN 5 (.mov (cI 0))]) (.block 0 (.loop (.seq (.seq (.reg false 0 [oN 11 (oV 5), oN 12 (oV 0), oN 13 (.len (.t 12)), oN 14 (.bin .lss (.t 11) (.t 13))]) (.cond (.t 14) .skip (.exit 0))) (.seq (.block 1 (.seq (.reg true 0 [oN 17 (oV 0), oN 18 (oV 5), oA 19 0 (.idx 11 (.t 17) (.t 18)) [0, 1], oA 20 0 (.load 11 true (.t 19)) [2], oN 21 (oV 1), oN 22 (oV 5), oA 23 0 (.idx 11 (.t 21) (.t 22)) [4, 5], oA 24 0 (.load 11 true (.t 23)) [6], oA 25 0 (.call 16 [(.t 20), (.t 24)]) [3, 7], oA 26 0 (.un .not (.t 25)) [8]]) (.cond (.t 26) (.seq (.reg false 0 [oN 4 (.mov (.c (.bool false)))]) .ret) .skip))) (.reg false 0 [oN 15 (oV 5), oN 16 (.bin .add (.t 15) (cI 1)), oN 5 (oV 16)])))))) (.seq (.reg false 0 [oN 4 (.mov (.c (.bool true)))]) .ret))))⟩
structure D_laws_eqLinkS (T : Nat → Option Fn) : Prop where
  hT : T 23 = some F_laws_eqLinkS
  d_laws_eqLink : D_laws_eqLink T
theorem c_szLink {T : Nat → Option Fn} (h : D_laws_szLink T) {x : Lk} {left : Int} (hw : x.wf := by first | omega | assumption | (simp; omega)) (h0 : 0 ≤ left ∧ left ≤ 1048576 := by first | omega | assumption | (simp; omega)) : PF T 43 [lkV x, iv left] (iv (szr left x.sz)) := by
  obtain ⟨w0, w1, w2⟩ := hw
  refine pf_end (fun _ _ => false) h.hT rfl rfl ?_
  dsimp only [F_laws_szLink, oN, oS, oG, oK, oA, oH, oV, cI]
  (refine ev ?_; try with_reducible exact True.intro)
  refine PFK_of (c_szRat h.d_laws_szRat (r := x.w) w0 ⟨by omega, by omega⟩) ?_
  (refine ev ?_; try with_reducible exact True.intro)
  have k0 := @szr_le left (x.w.sz)
  refine brK_dec (fun hb0 => ?_) fun hb0 => ?_ <;> (refine ev1 @hb0 ?_; try with_reducible exact True.intro)
  · rw [show x.sz = (x.w.sz) + (x.dx.sz + x.dy.sz) from by (unfold Lk.sz; omega), szr_neg hb0 h0.1]
  refine PFK_of (c_szRat h.d_laws_szRat (r := x.dx) w1 ⟨by omega, by omega⟩) ?_
  (refine ev ?_; try with_reducible exact True.intro)
  rw [szr_add hb0]
  have k1 := @szr_le left (x.w.sz + x.dx.sz)
  refine brK_dec (fun hb1 => ?_) fun hb1 => ?_ <;> (refine ev1 @hb1 ?_; try with_reducible exact True.intro)
  · rw [show x.sz = (x.w.sz + x.dx.sz) + (x.dy.sz) from by (unfold Lk.sz; omega), szr_neg hb1 h0.1]
  refine PFK_of (c_szRat h.d_laws_szRat (r := x.dy) w2 ⟨by omega, by omega⟩) ?_
  (refine ev ?_; try with_reducible exact True.intro)
  rw [szr_add hb1]
  have k2 := @szr_le left (x.w.sz + x.dx.sz + x.dy.sz)
  refine brK_dec (fun hb2 => ?_) fun hb2 => ?_ <;> (refine ev1 @hb2 ?_; try with_reducible exact True.intro)
  · rw [show x.sz = x.w.sz + x.dx.sz + x.dy.sz from rfl, szr_neg0 hb2 h0.1]
  · rfl
theorem c_toLink {T : Nat → Option Fn} (h : D_laws_toLink T) {x : Lk} (hl : x.sz ≤ 1048576 := by first | omega | assumption | (simp; omega)) : PF T 44 [lkV x] (lkV x) := by
  unfold Lk.sz at hl
  refine pf_end (fun _ _ => false) h.hT rfl rfl ?_
  dsimp only [F_laws_toLink, oN, oS, oG, oK, oA, oH, oV, cI]
  (refine ev ?_; try with_reducible exact True.intro)
  refine PFK_of (c_toRat h.d_laws_toRat (r := x.w) (by omega)) ?_
  (refine ev ?_; try with_reducible exact True.intro)
  refine PFK_of (c_toRat h.d_laws_toRat (r := x.dx) (by omega)) ?_
  (refine ev ?_; try with_reducible exact True.intro)
  refine PFK_of (c_toRat h.d_laws_toRat (r := x.dy) (by omega)) ?_
  (refine ev ?_; try with_reducible exact True.intro)
theorem c_eqLink {T : Nat → Option Fn} (h : D_laws_eqLink T) {x y : Lk} (hx : x.wf := by first | omega | assumption | (simp; omega)) (hy : y.wf := by first | omega | assumption | (simp; omega)) : PF T 16 [lkV x, lkV y] (.bool (decide (x = y))) := by
  obtain ⟨w0, w1, w2⟩ := hx
  obtain ⟨v0, v1, v2⟩ := hy
  refine pf_end (fun _ _ => false) h.hT rfl rfl ?_
  dsimp only [F_laws_eqLink, oN, oS, oG, oK, oA, oH, oV, cI]
  (refine ev ?_; try with_reducible exact True.intro)
  refine brK_dec (fun hb0 => ?_) fun hb0 => ?_ <;> (refine ev1 @hb0 ?_; try with_reducible exact True.intro)
  rotate_left
  · cases x; cases y; simp_all
  refine brK_dec (fun hb1 => ?_) fun hb1 => ?_ <;> (refine ev1 @hb1 ?_; try with_reducible exact True.intro)
  rotate_left
  · cases x; cases y; simp_all
  refine PFK_of (c_eqRat h.d_laws_eqRat (y := x.w) (z := y.w) w0 v0) ?_
  (refine ev ?_; try with_reducible exact True.intro)
  refine brK_dec (fun hb2 => ?_) fun hb2 => ?_ <;> (refine ev1 @hb2 ?_; try with_reducible exact True.intro)
  rotate_left
  · cases x; cases y; simp_all
  refine PFK_of (c_eqRat h.d_laws_eqRat (y := x.dx) (z := y.dx) w1 v1) ?_
  (refine ev ?_; try with_reducible exact True.intro)
  refine brK_dec (fun hb3 => ?_) fun hb3 => ?_ <;> (refine ev1 @hb3 ?_; try with_reducible exact True.intro)
  rotate_left
  · cases x; cases y; simp_all
  refine PFK_of (c_eqRat h.d_laws_eqRat (y := x.dy) (z := y.dy) w2 v2) ?_
  (refine ev ?_; try with_reducible exact True.intro)
  refine brK_dec (fun hb4 => ?_) fun hb4 => ?_ <;> (refine ev1 @hb4 ?_; try with_reducible exact True.intro)
  rotate_left
  · cases x; cases y; simp_all
  · cases x; cases y; simp_all
theorem c_szLinkS {T : Nat → Option Fn} (h : D_laws_szLinkS T) {l : List Lk} {left : Int} (hw : wfL Lk.wf l := by first | omega | assumption | (simp; omega)) (h0 : 0 ≤ left ∧ left ≤ 1048576 := by first | omega | assumption | (simp; omega)) : PF T 19 [lksV l, iv left] (iv (szr left (szL Lk.sz l))) := by
  have hlen := hw.1
  refine pf_end (fun _ _ => false) h.hT rfl rfl ?_
  dsimp only [F_laws_szLinkS, oN, oS, oG, oK, oA, oH, oV, cI]
  (refine ev ?_; try with_reducible exact True.intro)
  refine brK_dec (fun hb => ?_) fun hb => ?_ <;> (refine ev1 @hb ?_; try with_reducible exact True.intro)
  · rw [szr_no (by rw [szL_eq]; omega)]
  refine loop_at (fun _ _ => false) (α := Nat) (fun i => ⟨argE [lksV l, iv (left - (l.length : Nat) - (sumTo Lk.sz l i : Nat)), .any, .any, .any, iv (i : Nat)], [], 0, 0, [], []⟩) (fun i => i ≤ l.length ∧ (l.length : Int) + (sumTo Lk.sz l i : Nat) ≤ left) (fun i => l.length - i) rfl 0 ?_ ?_ ?_
  · rw [sumTo_zero]; omega
  · (refine Fg_env ?_) <;> (try (refine ev1 @sumTo_zero ?_; try with_reducible exact True.intro)) <;> (repeat' (first | refine ⟨?_, ?_⟩ | exact EvV_int (by omega) | exact EvV_of (by simp) | exact EvV_nil _))
  · rintro i ⟨hi, hs⟩
    (refine ev ?_; try with_reducible exact True.intro)
    refine brK_dec (fun hc => ?_) fun hc => ?_ <;> (refine ev2 @hc @mg ?_; try with_reducible exact True.intro)
    · refine PFK_of (c_szLink h.d_laws_szLink (x := l.getD i default) (hw.at_ (by omega)) ⟨by omega, by omega⟩) ?_
      (refine ev ?_; try with_reducible exact True.intro)
      have k1 := sumTo_mono Lk.sz (l := l) (i := i) (by omega)
      have k2 := sumTo_succ Lk.sz (l := l) (i := i) (by omega)
      refine brK_dec (fun hd => ?_) fun hd => ?_ <;> (refine ev1 @hd ?_; try with_reducible exact True.intro)
      · have := szr_lt hd (by omega)
        rw [szr_no (left := left) (by rw [szL_eq]; omega)]
      · have e1 : szr (left - (l.length : Nat) - (sumTo Lk.sz l i : Nat)) (Lk.sz (l.getD i default)) = left - (l.length : Nat) - (sumTo Lk.sz l (i + 1) : Nat) := by
          rw [szr_ok (szr_nlt hd)]; omega
        rw [show (l.getD i default).sz = Lk.sz (l.getD i default) from rfl, e1] at hd ⊢
        exact ⟨i + 1, by omega, ⟨by omega, by omega⟩, by (refine Fg_env ?_) <;> (try (refine ev ?_; try with_reducible exact True.intro)) <;> (repeat' (first | refine ⟨?_, ?_⟩ | exact EvV_int (by omega) | exact EvV_of (by simp) | exact EvV_nil _))⟩
    · have : i = l.length := by omega
      subst this
      rw [sumTo_all] at hs ⊢
      rw [szr_ok (by rw [szL_eq]; omega)]; rw [szL_eq]
      congr 1; omega
theorem c_toLinkS {T : Nat → Option Fn} (h : D_laws_toLinkS T) {l : List Lk} (hl : szL Lk.sz l ≤ 1048576 := by first | omega | assumption | (simp; omega)) : PF T 21 [lksV l] (lksV l) := by
  rw [szL_eq] at hl
  refine pf_end (fun _ _ => false) h.hT rfl rfl ?_
  dsimp only [F_laws_toLinkS, oN, oS, oG, oK, oA, oH, oV, cI]
  (refine ev ?_; try with_reducible exact True.intro)
  refine ⟨by omega, ?_⟩
  refine loop_at (fun _ _ => false) (α := Nat) (fun i => ⟨argE [lksV l, .any, .any, .msl 0 0 l.length, iv (i : Nat)], [some ⟨11, fillR Lk.cells l [iv 0, iv 0, .bool false, .nils, .nils, .bool false, .nils, .nils, .bool false, .nils, .nils] i⟩], 0, 0, [], []⟩) (fun i => i ≤ l.length) (fun i => l.length - i) rfl 0 ?_ ?_ ?_
  · omega
  · (refine Fg_env ?_) <;> (try (refine ev1 @fillR_zero ?_; try with_reducible exact True.intro)) <;> (repeat' (first | refine ⟨?_, ?_⟩ | exact EvV_int (by omega) | exact EvV_of (by simp) | exact EvV_nil _))
  · intro i hi
    have e1 := fillR_len Lk.cells l [iv 0, iv 0, .bool false, .nils, .nils, .bool false, .nils, .nils, .bool false, .nils, .nils] hi
    (refine ev1 @e1 ?_; try with_reducible exact True.intro)
    refine brK_dec (fun hb => ?_) fun hb => ?_ <;> (refine ev3 @hb @e1 @mg ?_; try with_reducible exact True.intro)
    · have k1 := sumTo_mono Lk.sz (l := l) (i := i) (by omega)
      refine PFK_of (c_toLink h.d_laws_toLink (x := l.getD i default) (by first | omega | (change Lk.sz _ ≤ _; omega))) ?_
      have e0 := fillR_get Lk.cells l [iv 0, iv 0, .bool false, .nils, .nils, .bool false, .nils, .nils, .bool false, .nils, .nils] (i := i) (by omega)
      (refine ev2 @e0 @e1 ?_; try with_reducible exact True.intro)
      have e2 := fillR_set Lk.cells l [iv 0, iv 0, .bool false, .nils, .nils, .bool false, .nils, .nils, .bool false, .nils, .nils] (i := i) (by omega)
      refine ⟨i + 1, by omega, by omega, Fg_env' ?_ (by rw [← e2])⟩
      (refine ev ?_; try with_reducible exact True.intro)
      repeat' (first | refine ⟨?_, ?_⟩ | exact EvV_int (by omega) | exact EvV_of (by simp))
    · have : i = l.length := by omega
      subst this
      rw [fillR_all, resO_st (still_map (f := Lk.cells) (l := l) (by intro x _ v hv; simp at hv; rcases hv with rfl | rfl | rfl | rfl | rfl | rfl | rfl | rfl | rfl | rfl | rfl <;> rfl)) (by simp), List.drop_zero, List.take_of_length_le (by simp)]; rfl
theorem c_eqLinkS {T : Nat → Option Fn} (h : D_laws_eqLinkS T) {a b : List Lk} (ha : wfL Lk.wf a := by first | omega | assumption | (simp; omega)) (hb : wfL Lk.wf b := by first | omega | assumption | (simp; omega)) : PF T 23 [lksV a, lksV b] (.bool (decide (a = b))) := by
  have l1 := ha.1
  have l2 := hb.1
  refine pf_end (fun _ _ => false) h.hT rfl rfl ?_
  dsimp only [F_laws_eqLinkS, oN, oS, oG, oK, oA, oH, oV, cI]
  (refine ev ?_; try with_reducible exact True.intro)
  refine brK_dec (fun h1 => ?_) fun h1 => ?_ <;> (refine ev1 @h1 ?_; try with_reducible exact True.intro)
  · have h1 : a.length = b.length := by omega
    refine loop_at (fun _ _ => false) (α := Nat) (fun i => ⟨argE [lksV a, lksV b, .any, .any, .any, iv (i : Nat)], [], 0, 0, [], []⟩) (fun i => i ≤ a.length ∧ ∀ j, j < i → a.getD j default = b.getD j default) (fun i => a.length - i) rfl 0 ?_ ?_ ?_
    · exact ⟨by omega, by intro j hj; omega⟩
    · (refine Fg_env ?_) <;> (try (refine ev ?_; try with_reducible exact True.intro)) <;> (repeat' (first | refine ⟨?_, ?_⟩ | exact EvV_int (by omega) | exact EvV_of (by simp) | exact EvV_nil _))
    · rintro i ⟨hi, hj⟩
      (refine ev ?_; try with_reducible exact True.intro)
      refine brK_dec (fun h2 => ?_) fun h2 => ?_ <;> (refine ev2 @h2 @mg ?_; try with_reducible exact True.intro)
      · refine PFK_of (c_eqLink h.d_laws_eqLink (x := a.getD i default) (y := b.getD i default) (ha.at_ (by omega)) (hb.at_ (by omega))) ?_
        (refine ev ?_; try with_reducible exact True.intro)
        refine brK_dec (fun h3 => ?_) fun h3 => ?_ <;> (refine ev1 @h3 ?_; try with_reducible exact True.intro)
        · refine ⟨i + 1, by omega, ⟨by omega, fun j hj' => ?_⟩, by (refine Fg_env ?_) <;> (try (refine ev ?_; try with_reducible exact True.intro)) <;> (repeat' (first | refine ⟨?_, ?_⟩ | exact EvV_int (by omega) | exact EvV_of (by simp) | exact EvV_nil _))⟩
          by_cases e : j = i
          · subst e; exact h3
          · exact hj j (by omega)
        · have : ¬ a = b := fun e => h3 (by rw [e])
          simp [this]
      · have : a = b := getD_ext' h1 fun j h => hj j (by omega)
        simp [this]
  · have : ¬ a = b := fun e => h1 (by rw [e])
    simp [this]
end Go.Ml
end
section
set_option linter.unusedSimpArgs false
set_option linter.unusedVariables false
set_option maxRecDepth 100000
namespace Go.Ml
def F_laws_szParent : Fn := ⟨2, 24, [.tmp 4], (.seq (.reg false 1 [oN 2 (.box (.t 0)), oK 4 1 (.mov (cI 0))]) (.seq (.reg false 0 [oN 5 (.fld 1 (.t 2)), oN 6 (.load 3 true (.t 5)), oN 7 (oV 1), oN 8 (.call 46 [(.t 6), (.t 7)]), oN 1 (oV 8)]) (.seq (.seq (.reg false 0 [oN 9 (oV 1), oN 10 (.bin .lss (.t 9) (cI 0))]) (.cond (.t 10) (.seq (.reg false 0 [oN 4 (.mov (cI (-1)))]) .ret) .skip)) (.seq (.reg false 0 [oN 11 (.fld 4 (.t 2)), oN 12 (.load 3 true (.t 11)), oN 13 (oV 1), oN 14 (.call 46 [(.t 12), (.t 13)]), oN 1 (oV 14)]) (.seq (.seq (.reg false 0 [oN 15 (oV 1), oN 16 (.bin .lss (.t 15) (cI 0))]) (.cond (.t 16) (.seq (.reg false 0 [oN 4 (.mov (cI (-1)))]) .ret) .skip)) (.seq (.reg false 0 [oN 17 (.fld 7 (.t 2)), oN 18 (.load 3 true (.t 17)), oN 19 (oV 1), oN 20 (.call 46 [(.t 18), (.t 19)]), oN 1 (oV 20)]) (.seq (.seq (.reg false 0 [oN 21 (oV 1), oN 22 (.bin .lss (.t 21) (cI 0))]) (.cond (.t 22) (.seq (.reg false 0 [oN 4 (.mov (cI (-1)))]) .ret) .skip)) (.seq (.reg false 0 [oN 23 (oV 1), oN 4 (oV 23)]) .ret))))))))⟩
structure D_laws_szParent (T : Nat → Option Fn) : Prop where
  hT : T 62 = some F_laws_szParent
  d_laws_szRat : D_laws_szRat T
def F_laws_toParent : Fn := ⟨1, 20, [.cell 2 10 true], (.seq (.reg false 2 [oN 1 (.box (.t 0)), oK 2 1 (.alloc [.int .i64 0, .bool false, .nils, .nils, .bool false, .nils, .nils, .bool false, .nils, .nils])]) (.seq (.reg false 1 [oN 3 (.alloc [.int .i64 0, .bool false, .nils, .nils, .bool false, .nils, .nils, .bool false, .nils, .nils])]) (.seq (.reg false 0 [oN 4 (.fld 0 (.t 1)), oN 5 (.load 1 false (.t 4)), oN 6 (.fld 0 (.t 3)), oS (.store 1 (.t 6) (.t 5))]) (.seq (.reg false 0 [oN 7 (.fld 1 (.t 1)), oN 8 (.load 3 true (.t 7)), oN 9 (.call 48 [(.t 8)]), oN 10 (.fld 1 (.t 3)), oS (.store 3 (.t 10) (.t 9))]) (.seq (.reg false 0 [oN 11 (.fld 4 (.t 1)), oN 12 (.load 3 true (.t 11)), oN 13 (.call 48 [(.t 12)]), oN 14 (.fld 4 (.t 3)), oS (.store 3 (.t 14) (.t 13))]) (.seq (.reg false 0 [oN 15 (.fld 7 (.t 1)), oN 16 (.load 3 true (.t 15)), oN 17 (.call 48 [(.t 16)]), oN 18 (.fld 7 (.t 3)), oS (.store 3 (.t 18) (.t 17))]) (.seq (.reg false 0 [oN 19 (.load 10 true (.t 3)), oS (.store 10 (.t 2) (.t 19))]) .ret)))))))⟩
structure D_laws_toParent (T : Nat → Option Fn) : Prop where
  hT : T 64 = some F_laws_toParent
  d_laws_toRat : D_laws_toRat T
def F_laws_eqParent : Fn := ⟨2, 28, [.tmp 4], (.seq (.reg false 2 [oN 2 (.box (.t 0)), oK 3 1 (.box (.t 1)), oK 4 2 (.mov (.c (.bool false)))]) (.seq (.seq (.reg false 0 [oN 5 (.fld 0 (.t 2)), oN 6 (.load 1 false (.t 5)), oN 7 (.fld 0 (.t 3)), oN 8 (.load 1 false (.t 7)), oN 9 (.bin .neq (.t 6) (.t 8))]) (.cond (.t 9) (.seq (.reg false 0 [oN 4 (.mov (.c (.bool false)))]) .ret) .skip)) (.seq (.seq (.reg false 0 [oN 10 (.fld 1 (.t 2)), oN 11 (.load 3 true (.t 10)), oN 12 (.fld 1 (.t 3)), oN 13 (.load 3 true (.t 12)), oN 14 (.call 40 [(.t 11), (.t 13)]), oN 15 (.un .not (.t 14))]) (.cond (.t 15) (.seq (.reg false 0 [oN 4 (.mov (.c (.bool false)))]) .ret) .skip)) (.seq (.seq (.reg false 0 [oN 16 (.fld 4 (.t 2)), oN 17 (.load 3 true (.t 16)), oN 18 (.fld 4 (.t 3)), oN 19 (.load 3 true (.t 18)), oN 20 (.call 40 [(.t 17), (.t 19)]), oN 21 (.un .not (.t 20))]) (.cond (.t 21) (.seq (.reg false 0 [oN 4 (.mov (.c (.bool false)))]) .ret) .skip)) (.seq (.seq (.reg false 0 [oN 22 (.fld 7 (.t 2)), oN 23 (.load 3 true (.t 22)), oN 24 (.fld 7 (.t 3)), oN 25 (.load 3 true (.t 24)), oN 26 (.call 40 [(.t 23), (.t 25)]), oN 27 (.un .not (.t 26))]) (.cond (.t 27) (.seq (.reg false 0 [oN 4 (.mov (.c (.bool false)))]) .ret) .skip)) (.seq (.reg false 0 [oN 4 (.mov (.c (.bool true)))]) .ret))))))⟩
structure D_laws_eqParent (T : Nat → Option Fn) : Prop where
  hT : T 65 = some F_laws_eqParent
  d_laws_eqRat : D_laws_eqRat T
def F_laws_szParentS : Fn := ⟨2, 27, [.tmp 4], (.seq (.reg false 0 [oN 4 (.mov (cI 0))]) (.seq (.reg false 0 [oN 6 (oV 1), oN 7 (oV 0), oN 8 (.len (.t 7)), oN 9 (.bin .sub (.t 6) (.t 8)), oN 1 (oV 9)]) (.seq (.seq (.reg false 0 [oN 10 (oV 1), oN 11 (.bin .lss (.t 10) (cI 0))]) (.cond (.t 11) (.seq (.reg false 0 [oN 4 (.mov (cI (-1)))]) .ret) .skip)) (.seq (.seq (.reg false 0 [oN 5 (.mov (cI 0))]) (.block 0 (.loop (.seq (.seq (.reg false 0 [oN 12 (oV 5), oN 13 (oV 0), oN 14 (.len (.t 13)), oN 15 (.bin .lss (.t 12) (.t 14))]) (.cond (.t 15) .skip (.exit 0))) (.seq (.block 1 (.seq (.reg false 0 [oN 18 (oV 0), oN 19 (oV 5), oN 20 (.idx 10 (.t 18) (.t 19)), oN 21 (.load 10 true (.t 20)), oN 22 (oV 1), oN 23 (.call 62 [(.t 21), (.t 22)]), oN 1 (oV 23)]) (.seq (.reg false 0 [oN 24 (oV 1), oN 25 (.bin .lss (.t 24) (cI 0))]) (.cond (.t 25) (.seq (.reg false 0 [oN 4 (.mov (cI (-1)))]) .ret) .skip)))) (.reg false 0 [oN 16 (oV 5), oN 17 (.bin .add (.t 16) (cI 1)), oN 5 (oV 17)])))))) (.seq (.reg false 0 [oN 26 (oV 1), oN 4 (oV 26)]) .ret)))))⟩
structure D_laws_szParentS (T : Nat → Option Fn) : Prop where
  hT : T 47 = some F_laws_szParentS
  d_laws_szParent : D_laws_szParent T
def F_laws_toParentS : Fn := ⟨1, 23, [.tmp 2], (.seq (.reg false 0 [oN 2 (.mov (.c (.nils)))]) (.seq (.reg false 1 [oK 5 1 (oV 0), oK 6 1 (.len (.t 5)), oN 7 (.make [.int .i64 0, .bool false, .nils, .nils, .bool false, .nils, .nils, .bool false, .nils, .nils] 176 (.t 6)), oK 3 1 (oV 7)]) (.seq (.seq (.reg false 0 [oN 4 (.mov (cI 0))]) (.block 0 (.loop (.seq (.seq (.reg false 0 [oN 8 (oV 4), oN 9 (oV 0), oN 10 (.len (.t 9)), oN 11 (.bin .lss (.t 8) (.t 10))]) (.cond (.t 11) .skip (.exit 0))) (.seq (.block 1 (.reg false 0 [oN 14 (oV 3), oN 15 (oV 4), oN 16 (oV 0), oN 17 (oV 4), oN 18 (.idx 10 (.t 16) (.t 17)), oN 19 (.load 10 true (.t 18)), oN 20 (.call 64 [(.t 19)]), oN 21 (.idx 10 (.t 14) (.t 15)), oS (.store 10 (.t 21) (.t 20))])) (.reg false 0 [oN 12 (oV 4), oN 13 (.bin .add (.t 12) (cI 1)), oN 4 (oV 13)])))))) (.seq (.reg false 0 [oN 22 (oV 3), oN 2 (oV 22)]) .ret))))⟩
structure D_laws_toParentS (T : Nat → Option Fn) : Prop where
  hT : T 49 = some F_laws_toParentS
  d_laws_toParent : D_laws_toParent T
def F_laws_eqParentS : Fn := ⟨2, 27, [.tmp 4], (.seq (.reg false 0 [oN 4 (.mov (.c (.bool false)))]) (.seq (.seq (.reg false 0 [oN 6 (oV 0), oN 7 (.len (.t 6)), oN 8 (oV 1), oN 9 (.len (.t 8)), oN 10 (.bin .neq (.t 7) (.t 9))]) (.cond (.t 10) (.seq (.reg false 0 [oN 4 (.mov (.c (.bool false)))]) .ret) .skip)) (.seq (.seq (.reg false 0 [oN 5 (.mov (cI 0))]) (.block 0 (.loop (.seq (.seq (.reg false 0 [oN 11 (oV 5), oN 12 (oV 0), oN 13 (.len (.t 12)), oN 14 (.bin .lss (.t 11) (.t 13))]) (.cond (.t 14) .skip (.exit 0))) (.seq (.block 1 (.seq (.reg true 0 [oN 17 (oV 0), oN 18 (oV 5), oA 19 0 (.idx 10 (.t 17) (.t 18)) [0, 1], oA 20 0 (.load 10 true (.t 19)) [2], oN 21 (oV 1), oN 22 (oV 5), oA 23 0 (.idx 10 (.t 21) (.t 22)) [4, 5], oA 24 0 (.load 10 true (.t 23)) [6], oA 25 0 (.call 65 [(.t 20), (.t 24)]) [3, 7], oA 26 0 (.un .not (.t 25)) [8]]) (.cond (.t 26) (.seq (.reg false 0 [oN 4 (.mov (.c (.bool false)))]) .ret) .skip))) (.reg false 0 [oN 15 (oV 5), oN 16 (.bin .add (.t 15) (cI 1)), oN 5 (oV 16)])))))) (.seq (.reg false 0 [oN 4 (.mov (.c (.bool true)))]) .ret))))⟩
structure D_laws_eqParentS (T : Nat → Option Fn) : Prop where
  hT : T 50 = some F_laws_eqParentS
  d_laws_eqParent : D_laws_eqParent T
def F_laws_szConditional : Fn := ⟨2, 18, [.tmp 4], (.seq (.reg false 1 [oN 2 (.box (.t 0)), oK 4 1 (.mov (cI 0))]) (.seq (.reg false 0 [oN 5 (.fld 1 (.t 2)), oN 6 (.load 3 true (.t 5)), oN 7 (oV 1), oN 8 (.call 46 [(.t 6), (.t 7)]), oN 1 (oV 8)]) (.seq (.seq (.reg false 0 [oN 9 (oV 1), oN 10 (.bin .lss (.t 9) (cI 0))]) (.cond (.t 10) (.seq (.reg false 0 [oN 4 (.mov (cI (-1)))]) .ret) .skip)) (.seq (.reg false 0 [oN 11 (.fld 4 (.t 2)), oN 12 (.load 1 false (.t 11)), oN 13 (oV 1), oN 14 (.call 47 [(.t 12), (.t 13)]), oN 1 (oV 14)]) (.seq (.seq (.reg false 0 [oN 15 (oV 1), oN 16 (.bin .lss (.t 15) (cI 0))]) (.cond (.t 16) (.seq (.reg false 0 [oN 4 (.mov (cI (-1)))]) .ret) .skip)) (.seq (.reg false 0 [oN 17 (oV 1), oN 4 (oV 17)]) .ret))))))⟩
structure D_laws_szConditional (T : Nat → Option Fn) : Prop where
  hT : T 24 = some F_laws_szConditional
  d_laws_szRat : D_laws_szRat T
  d_laws_szParentS : D_laws_szParentS T
def F_laws_toConditional : Fn := ⟨1, 16, [.cell 2 5 true], (.seq (.reg false 2 [oN 1 (.box (.t 0)), oK 2 1 (.alloc [.int .i64 0, .bool false, .nils, .nils, .nils])]) (.seq (.reg false 1 [oN 3 (.alloc [.int .i64 0, .bool false, .nils, .nils, .nils])]) (.seq (.reg false 0 [oN 4 (.fld 0 (.t 1)), oN 5 (.load 1 false (.t 4)), oN 6 (.fld 0 (.t 3)), oS (.store 1 (.t 6) (.t 5))]) (.seq (.reg false 0 [oN 7 (.fld 1 (.t 1)), oN 8 (.load 3 true (.t 7)), oN 9 (.call 48 [(.t 8)]), oN 10 (.fld 1 (.t 3)), oS (.store 3 (.t 10) (.t 9))]) (.seq (.reg false 0 [oN 11 (.fld 4 (.t 1)), oN 12 (.load 1 false (.t 11)), oN 13 (.call 49 [(.t 12)]), oN 14 (.fld 4 (.t 3)), oS (.store 1 (.t 14) (.t 13))]) (.seq (.reg false 0 [oN 15 (.load 5 true (.t 3)), oS (.store 5 (.t 2) (.t 15))]) .ret))))))⟩
structure D_laws_toConditional (T : Nat → Option Fn) : Prop where
  hT : T 26 = some F_laws_toConditional
  d_laws_toRat : D_laws_toRat T
  d_laws_toParentS : D_laws_toParentS T
def F_laws_eqConditional : Fn := ⟨2, 22, [.tmp 4], (.seq (.reg false 2 [oN 2 (.box (.t 0)), oK 3 1 (.box (.t 1)), oK 4 2 (.mov (.c (.bool false)))]) (.seq (.seq (.reg false 0 [oN 5 (.fld 0 (.t 2)), oN 6 (.load 1 false (.t 5)), oN 7 (.fld 0 (.t 3)), oN 8 (.load 1 false (.t 7)), oN 9 (.bin .neq (.t 6) (.t 8))]) (.cond (.t 9) (.seq (.reg false 0 [oN 4 (.mov (.c (.bool false)))]) .ret) .skip)) (.seq (.seq (.reg false 0 [oN 10 (.fld 1 (.t 2)), oN 11 (.load 3 true (.t 10)), oN 12 (.fld 1 (.t 3)), oN 13 (.load 3 true (.t 12)), oN 14 (.call 40 [(.t 11), (.t 13)]), oN 15 (.un .not (.t 14))]) (.cond (.t 15) (.seq (.reg false 0 [oN 4 (.mov (.c (.bool false)))]) .ret) .skip)) (.seq (.seq (.reg false 0 [oN 16 (.fld 4 (.t 2)), oN 17 (.load 1 false (.t 16)), oN 18 (.fld 4 (.t 3)), oN 19 (.load 1 false (.t 18)), oN 20 (.call 50 [(.t 17), (.t 19)]), oN 21 (.un .not (.t 20))]) (.cond (.t 21) (.seq (.reg false 0 [oN 4 (.mov (.c (.bool false)))]) .ret) .skip)) (.seq (.reg false 0 [oN 4 (.mov (.c (.bool true)))]) .ret)))))⟩
structure D_laws_eqConditional (T : Nat → Option Fn) : Prop where
  hT : T 28 = some F_laws_eqConditional
  d_laws_eqRat : D_laws_eqRat T
  d_laws_eqParentS : D_laws_eqParentS T
def F_laws_szConditionalS : Fn := ⟨2, 27, [.tmp 4], (.seq (.reg false 0 [oN 4 (.mov (cI 0))]) (.seq (.reg false 0 [oN 6 (oV 1), oN 7 (oV 0), oN 8 (.len (.t 7)), oN 9 (.bin .sub (.t 6) (.t 8)), oN 1 (oV 9)]) (.seq (.seq (.reg false 0 [oN 10 (oV 1), oN 11 (.bin .lss (.t 10) (cI 0))]) (.cond (.t 11) (.seq (.reg false 0 [oN 4 (.mov (cI (-1)))]) .ret) .skip)) (.seq (.seq (.reg false 0 [oN 5 (.mov (cI 0))]) (.block 0 (.loop (.seq (.seq (.reg false 0 [oN 12 (oV 5), oN 13 (oV 0), oN 14 (.len (.t 13)), oN 15 (.bin .lss (.t 12) (.t 14))]) (.cond (.t 15) .skip (.exit 0))) (.seq (.block 1 (.seq (.reg false 0 [oN 18 (oV 0), oN 19 (oV 5), oN 20 (.idx 5 (.t 18) (.t 19)), oN 21 (.load 5 true (.t 20)), oN 22 (oV 1), oN 23 (.call 24 [(.t 21), (.t 22)]), oN 1 (oV 23)]) (.seq (.reg false 0 [oN 24 (oV 1), oN 25 (.bin .lss (.t 24) (cI 0))]) (.cond (.t 25) (.seq (.reg false 0 [oN 4 (.mov (cI (-1)))]) .ret) .skip)))) (.reg false 0 [oN 16 (oV 5), oN 17 (.bin .add (.t 16) (cI 1)), oN 5 (oV 17)])))))) (.seq (.reg false 0 [oN 26 (oV 1), oN 4 (oV 26)]) .ret)))))⟩
structure D_laws_szConditionalS (T : Nat → Option Fn) : Prop where
  hT : T 304 = some F_laws_szConditionalS
  d_laws_szConditional : D_laws_szConditional T
def F_laws_toConditionalS : Fn := ⟨1, 23, [.tmp 2], (.seq (.reg false 0 [oN 2 (.mov (.c (.nils)))]) (.seq (.reg false 1 [oK 5 1 (oV 0), oK 6 1 (.len (.t 5)), oN 7 (.make [.int .i64 0, .bool false, .nils, .nils, .nils] 88 (.t 6)), oK 3 1 (oV 7)]) (.seq (.seq (.reg false 0 [oN 4 (.mov (cI 0))]) (.block 0 (.loop (.seq (.seq (.reg false 0 [oN 8 (oV 4), oN 9 (oV 0), oN 10 (.len (.t 9)), oN 11 (.bin .lss (.t 8) (.t 10))]) (.cond (.t 11) .skip (.exit 0))) (.seq (.block 1 (.reg false 0 [oN 14 (oV 3), oN 15 (oV 4), oN 16 (oV 0), oN 17 (oV 4), oN 18 (.idx 5 (.t 16) (.t 17)), oN 19 (.load 5 true (.t 18)), oN 20 (.call 26 [(.t 19)]), oN 21 (.idx 5 (.t 14) (.t 15)), oS (.store 5 (.t 21) (.t 20))])) (.reg false 0 [oN 12 (oV 4), oN 13 (.bin .add (.t 12) (cI 1)), oN 4 (oV 13)])))))) (.seq (.reg false 0 [oN 22 (oV 3), oN 2 (oV 22)]) .ret))))⟩
structure D_laws_toConditionalS (T : Nat → Option Fn) : Prop where
  hT : T 306 = some F_laws_toConditionalS
  d_laws_toConditional : D_laws_toConditional T
def F_laws_eqConditionalS : Fn := ⟨2, 27, [.tmp 4], (.seq (.reg false 0 [oN 4 (.mov (.c (.bool false)))]) (.seq (.seq (.reg false 0 [oN 6 (oV 0), oN 7 (.len (.t 6)), oN 8 (oV 1), oN 9 (.len (.t 8)), oN 10 (.bin .neq (.t 7) (.t 9))]) (.cond (.t 10) (.seq (.reg false 0 [oN 4 (.mov (.c (.bool false)))]) .ret) .skip)) (.seq (.seq (.reg false 0 [oN 5 (.mov (cI 0))]) (.block 0 (.loop (.seq (.seq (.reg false 0 [oN 11 (oV 5), oN 12 (oV 0), oN 13 (.len (.t 12)), oN 14 (.bin .lss (.t 11) (.t 13))]) (.cond (.t 14) .skip (.exit 0))) (.seq (.block 1 (.seq (.reg true 0 [oN 17 (oV 0), oN 18 (oV 5), oA 19 0 (.idx 5 (.t 17) (.t 18)) [0, 1], oA 20 0 (.load 5 true (.t 19)) [2], oN 21 (oV 1), oN 22 (oV 5), oA 23 0 (.idx 5 (.t 21) (.t 22)) [4, 5], oA 24 0 (.load 5 true (.t 23)) [6], oA 25 0 (.call 28 [(.t 20), (.t 24)]) [3, 7], oA 26 0 (.un .not (.t 25)) [8]]) (.cond (.t 26) (.seq (.reg false 0 [oN 4 (.mov (.c (.bool false)))]) .ret) .skip))) (.reg false 0 [oN 15 (oV 5), oN 16 (.bin .add (.t 15) (cI 1)), oN 5 (oV 16)])))))) (.seq (.reg false 0 [oN 4 (.mov (.c (.bool true)))]) .ret))))⟩
structure D_laws_eqConditionalS (T : Nat → Option Fn) : Prop where
  hT : T 307 = some F_laws_eqConditionalS
  d_laws_eqConditional : D_laws_eqConditional T
end Go.Ml
end
section
set_option linter.unusedSimpArgs false
set_option linter.unusedVariables false
set_option maxRecDepth 100000
namespace Go.Ml
def F_laws_szRatS : Fn := ⟨2, 27, [.tmp 4], (.seq (.reg false 0 [oN 4 (.mov (cI 0))]) (.seq (.reg false 0 [oN 6 (oV 1), oN 7 (oV 0), oN 8 (.len (.t 7)), oN 9 (.bin .sub (.t 6) (.t 8)), oN 1 (oV 9)]) (.seq (.seq (.reg false 0 [oN 10 (oV 1), oN 11 (.bin .lss (.t 10) (cI 0))]) (.cond (.t 11) (.seq (.reg false 0 [oN 4 (.mov (cI (-1)))]) .ret) .skip)) (.seq (.seq (.reg false 0 [oN 5 (.mov (cI 0))]) (.block 0 (.loop (.seq (.seq (.reg false 0 [oN 12 (oV 5), oN 13 (oV 0), oN 14 (.len (.t 13)), oN 15 (.bin .lss (.t 12) (.t 14))]) (.cond (.t 15) .skip (.exit 0))) (.seq (.block 1 (.seq (.reg false 0 [oN 18 (oV 0), oN 19 (oV 5), oN 20 (.idx 3 (.t 18) (.t 19)), oN 21 (.load 3 true (.t 20)), oN 22 (oV 1), oN 23 (.call 46 [(.t 21), (.t 22)]), oN 1 (oV 23)]) (.seq (.reg false 0 [oN 24 (oV 1), oN 25 (.bin .lss (.t 24) (cI 0))]) (.cond (.t 25) (.seq (.reg false 0 [oN 4 (.mov (cI (-1)))]) .ret) .skip)))) (.reg false 0 [oN 16 (oV 5), oN 17 (.bin .add (.t 16) (cI 1)), oN 5 (oV 17)])))))) (.seq (.reg false 0 [oN 26 (oV 1), oN 4 (oV 26)]) .ret)))))⟩
structure D_laws_szRatS (T : Nat → Option Fn) : Prop where
  hT : T 112 = some F_laws_szRatS
  d_laws_szRat : D_laws_szRat T
def F_laws_toRatS : Fn := ⟨1, 23, [.tmp 2], (.seq (.reg false 0 [oN 2 (.mov (.c (.nils)))]) (.seq (.reg false 1 [oK 5 1 (oV 0), oK 6 1 (.len (.t 5)), oN 7 (.make [.bool false, .nils, .nils] 56 (.t 6)), oK 3 1 (oV 7)]) (.seq (.seq (.reg false 0 [oN 4 (.mov (cI 0))]) (.block 0 (.loop (.seq (.seq (.reg false 0 [oN 8 (oV 4), oN 9 (oV 0), oN 10 (.len (.t 9)), oN 11 (.bin .lss (.t 8) (.t 10))]) (.cond (.t 11) .skip (.exit 0))) (.seq (.block 1 (.reg false 0 [oN 14 (oV 3), oN 15 (oV 4), oN 16 (oV 0), oN 17 (oV 4), oN 18 (.idx 3 (.t 16) (.t 17)), oN 19 (.load 3 true (.t 18)), oN 20 (.call 48 [(.t 19)]), oN 21 (.idx 3 (.t 14) (.t 15)), oS (.store 3 (.t 21) (.t 20))])) (.reg false 0 [oN 12 (oV 4), oN 13 (.bin .add (.t 12) (cI 1)), oN 4 (oV 13)])))))) (.seq (.reg false 0 [oN 22 (oV 3), oN 2 (oV 22)]) .ret))))⟩
structure D_laws_toRatS (T : Nat → Option Fn) : Prop where
  hT : T 113 = some F_laws_toRatS
  d_laws_toRat : D_laws_toRat T
def F_laws_eqRatS : Fn := ⟨2, 27, [.tmp 4], (.seq (.reg false 0 [oN 4 (.mov (.c (.bool false)))]) (.seq (.seq (.reg false 0 [oN 6 (oV 0), oN 7 (.len (.t 6)), oN 8 (oV 1), oN 9 (.len (.t 8)), oN 10 (.bin .neq (.t 7) (.t 9))]) (.cond (.t 10) (.seq (.reg false 0 [oN 4 (.mov (.c (.bool false)))]) .ret) .skip)) (.seq (.seq (.reg false 0 [oN 5 (.mov (cI 0))]) (.block 0 (.loop (.seq (.seq (.reg false 0 [oN 11 (oV 5), oN 12 (oV 0), oN 13 (.len (.t 12)), oN 14 (.bin .lss (.t 11) (.t 13))]) (.cond (.t 14) .skip (.exit 0))) (.seq (.block 1 (.seq (.reg true 0 [oN 17 (oV 0), oN 18 (oV 5), oA 19 0 (.idx 3 (.t 17) (.t 18)) [0, 1], oA 20 0 (.load 3 true (.t 19)) [2], oN 21 (oV 1), oN 22 (oV 5), oA 23 0 (.idx 3 (.t 21) (.t 22)) [4, 5], oA 24 0 (.load 3 true (.t 23)) [6], oA 25 0 (.call 40 [(.t 20), (.t 24)]) [3, 7], oA 26 0 (.un .not (.t 25)) [8]]) (.cond (.t 26) (.seq (.reg false 0 [oN 4 (.mov (.c (.bool false)))]) .ret) .skip))) (.reg false 0 [oN 15 (oV 5), oN 16 (.bin .add (.t 15) (cI 1)), oN 5 (oV 16)])))))) (.seq (.reg false 0 [oN 4 (.mov (.c (.bool true)))]) .ret))))⟩
structure D_laws_eqRatS (T : Nat → Option Fn) : Prop where
  hT : T 114 = some F_laws_eqRatS
  d_laws_eqRat : D_laws_eqRat T
def F_laws_szRatSS : Fn := ⟨2, 27, [.tmp 4], (.seq (.reg false 0 [oN 4 (.mov (cI 0))]) (.seq (.reg false 0 [oN 6 (oV 1), oN 7 (oV 0), oN 8 (.len (.t 7)), oN 9 (.bin .sub (.t 6) (.t 8)), oN 1 (oV 9)]) (.seq (.seq (.reg false 0 [oN 10 (oV 1), oN 11 (.bin .lss (.t 10) (cI 0))]) (.cond (.t 11) (.seq (.reg false 0 [oN 4 (.mov (cI (-1)))]) .ret) .skip)) (.seq (.seq (.reg false 0 [oN 5 (.mov (cI 0))]) (.block 0 (.loop (.seq (.seq (.reg false 0 [oN 12 (oV 5), oN 13 (oV 0), oN 14 (.len (.t 13)), oN 15 (.bin .lss (.t 12) (.t 14))]) (.cond (.t 15) .skip (.exit 0))) (.seq (.block 1 (.seq (.reg false 0 [oN 18 (oV 0), oN 19 (oV 5), oN 20 (.idx 1 (.t 18) (.t 19)), oN 21 (.load 1 false (.t 20)), oN 22 (oV 1), oN 23 (.call 112 [(.t 21), (.t 22)]), oN 1 (oV 23)]) (.seq (.reg false 0 [oN 24 (oV 1), oN 25 (.bin .lss (.t 24) (cI 0))]) (.cond (.t 25) (.seq (.reg false 0 [oN 4 (.mov (cI (-1)))]) .ret) .skip)))) (.reg false 0 [oN 16 (oV 5), oN 17 (.bin .add (.t 16) (cI 1)), oN 5 (oV 17)])))))) (.seq (.reg false 0 [oN 26 (oV 1), oN 4 (oV 26)]) .ret)))))⟩
structure D_laws_szRatSS (T : Nat → Option Fn) : Prop where
  hT : T 90 = some F_laws_szRatSS
  d_laws_szRatS : D_laws_szRatS T
def F_laws_toRatSS : Fn := ⟨1, 23, [.tmp 2], (.seq (.reg false 0 [oN 2 (.mov (.c (.nils)))]) (.seq (.reg false 1 [oK 5 1 (oV 0), oK 6 1 (.len (.t 5)), oN 7 (.make [.nils] 24 (.t 6)), oK 3 1 (oV 7)]) (.seq (.seq (.reg false 0 [oN 4 (.mov (cI 0))]) (.block 0 (.loop (.seq (.seq (.reg false 0 [oN 8 (oV 4), oN 9 (oV 0), oN 10 (.len (.t 9)), oN 11 (.bin .lss (.t 8) (.t 10))]) (.cond (.t 11) .skip (.exit 0))) (.seq (.block 1 (.reg false 0 [oN 14 (oV 3), oN 15 (oV 4), oN 16 (oV 0), oN 17 (oV 4), oN 18 (.idx 1 (.t 16) (.t 17)), oN 19 (.load 1 false (.t 18)), oN 20 (.call 113 [(.t 19)]), oN 21 (.idx 1 (.t 14) (.t 15)), oS (.store 1 (.t 21) (.t 20))])) (.reg false 0 [oN 12 (oV 4), oN 13 (.bin .add (.t 12) (cI 1)), oN 4 (oV 13)])))))) (.seq (.reg false 0 [oN 22 (oV 3), oN 2 (oV 22)]) .ret))))⟩
structure D_laws_toRatSS (T : Nat → Option Fn) : Prop where
  hT : T 92 = some F_laws_toRatSS
  d_laws_toRatS : D_laws_toRatS T
def F_laws_eqRatSS : Fn := ⟨2, 27, [.tmp 4], (.seq (.reg false 0 [oN 4 (.mov (.c (.bool false)))]) (.seq (.seq (.reg false 0 [oN 6 (oV 0), oN 7 (.len (.t 6)), oN 8 (oV 1), oN 9 (.len (.t 8)), oN 10 (.bin .neq (.t 7) (.t 9))]) (.cond (.t 10) (.seq (.reg false 0 [oN 4 (.mov (.c (.bool false)))]) .ret) .skip)) (.seq (.seq (.reg false 0 [oN 5 (.mov (cI 0))]) (.block 0 (.loop (.seq (.seq (.reg false 0 [oN 11 (oV 5), oN 12 (oV 0), oN 13 (.len (.t 12)), oN 14 (.bin .lss (.t 11) (.t 13))]) (.cond (.t 14) .skip (.exit 0))) (.seq (.block 1 (.seq (.reg true 0 [oN 17 (oV 0), oN 18 (oV 5), oA 19 0 (.idx 1 (.t 17) (.t 18)) [0, 1], oA 20 0 (.load 1 false (.t 19)) [2], oN 21 (oV 1), oN 22 (oV 5), oA 23 0 (.idx 1 (.t 21) (.t 22)) [4, 5], oA 24 0 (.load 1 false (.t 23)) [6], oA 25 0 (.call 114 [(.t 20), (.t 24)]) [3, 7], oA 26 0 (.un .not (.t 25)) [8]]) (.cond (.t 26) (.seq (.reg false 0 [oN 4 (.mov (.c (.bool false)))]) .ret) .skip))) (.reg false 0 [oN 15 (oV 5), oN 16 (.bin .add (.t 15) (cI 1)), oN 5 (oV 16)])))))) (.seq (.reg false 0 [oN 4 (.mov (.c (.bool true)))]) .ret))))⟩
structure D_laws_eqRatSS (T : Nat → Option Fn) : Prop where
  hT : T 94 = some F_laws_eqRatSS
  d_laws_eqRatS : D_laws_eqRatS T
end Go.Ml
end
section
set_option linter.unusedSimpArgs false
set_option linter.unusedVariables false
set_option maxRecDepth 100000
set_option maxHeartbeats 4000000
namespace Go.Ml
theorem szL_memb {α : Type} {f : α → Nat} {l : List α} {x : α} {n : Nat} (h : szL f l ≤ n) (hx : x ∈ l) : f x ≤ n := by
  have : ∀ l : List α, x ∈ l → f x ≤ (l.map f).sum := by
    intro l
    induction l with
    | nil => intro h; simp at h
    | cons y l ih =>
      intro h
      rw [List.map_cons, List.sum_cons]
      rcases List.mem_cons.1 h with rfl | h
      · omega
      · have := ih h; omega
  have := this l hx
  unfold szL at h
  omega
theorem po_toLink {T : Nat → Option Fn} (h : D_laws_toLink T) {x : Lk} (hl : x.sz ≤ 1048576 := by first | omega | assumption | (simp; omega)) : PO T 44 [lkV x] (lkV x) := by
  simp only [Lk.sz, R.sz] at hl
  refine po_end2 (fun x d => x == 48) h.hT rfl rfl ?_
  dsimp only [F_laws_toLink, oN, oS, oG, oK, oA, oH, oV, cI, St.enter, List.length_cons, List.length_nil, Nat.zero_add]
  (refine ew ?_; try with_reducible exact True.intro)
  have O := fun s : Store => @ow_nil 3 s
  replace O := fun s => (O s).int .i64 x.a
  replace O := fun s => (O s).int .i64 x.b
  refine RefK_got (po_toRat h.d_laws_toRat (r := x.w) (by first | omega | (simp only [Lk.sz, R.sz]; omega))) (by (refine ew ?_; try with_reducible exact True.intro)) ?_
  intro r σ1 os g
  have lq : 3 ≤ σ1.length := g.len
  have B0 := g.at 0 (by simp) rfl
  have B1 := g.at 1 (by simp) rfl
  have B2 := g.at 2 (by simp) rfl
  replace O := (O _).got g (by simp)
  obtain ⟨a0, d0, _, _, rfl, _, k1, k2⟩ := g.ow.rat_inv
  replace O := O.flat rfl
  have la := k1.leaf rfl
  have ld := k2.leaf rfl
  have lfs := And.intro la ld
  have fc := fun q => cells_agg (cs := [.bool x.w.neg, a0, d0]) (by simp [la, ld, show ∀ b, V.leaf (.bool b) = true from fun _ => rfl]) q
  clear g
  (refine ew6 @B0 @B1 @B2 @lq @lfs @fc ?_; try with_reducible exact True.intro)
  refine RefK_got (po_toRat h.d_laws_toRat (r := x.dx) (by first | omega | (simp only [Lk.sz, R.sz]; omega))) (by (refine ew6 @B0 @B1 @B2 @lq @lfs @fc ?_; try with_reducible exact True.intro)) ?_
  intro r σ2 os g
  have lp := lq
  replace lq : 3 ≤ σ2.length := by have := g.len; simp at this; omega
  replace B0 := (g.old 0 (by simp; omega)).trans ((objAt_setne (by decide)).trans B0)
  replace B1 := (g.old 1 (by simp; omega)).trans ((objAt_setne (by decide)).trans B1)
  replace B2 := (g.old 2 (by simp; omega)).trans (objAt_seteq (by omega))
  replace O := (O.set (by decide)).got g (by simp; omega)
  obtain ⟨a1, d1, _, _, rfl, _, k1, k2⟩ := g.ow.rat_inv
  replace O := O.flat rfl
  have la := k1.leaf rfl
  have ld := k2.leaf rfl
  replace lfs := And.intro lfs (And.intro la ld)
  replace fc := fun q => cells_agg (cs := [.bool x.dx.neg, a1, d1]) (by simp [la, ld, show ∀ b, V.leaf (.bool b) = true from fun _ => rfl]) q
  clear g
  (refine ew6 @B0 @B1 @B2 @lq @lfs @fc ?_; try with_reducible exact True.intro)
  refine RefK_got (po_toRat h.d_laws_toRat (r := x.dy) (by first | omega | (simp only [Lk.sz, R.sz]; omega))) (by (refine ew6 @B0 @B1 @B2 @lq @lfs @fc ?_; try with_reducible exact True.intro)) ?_
  intro r σ3 os g
  have lp := lq
  replace lq : 3 ≤ σ3.length := by have := g.len; simp at this; omega
  replace B0 := (g.old 0 (by simp; omega)).trans ((objAt_setne (by decide)).trans B0)
  replace B1 := (g.old 1 (by simp; omega)).trans ((objAt_setne (by decide)).trans B1)
  replace B2 := (g.old 2 (by simp; omega)).trans (objAt_seteq (by omega))
  replace O := (O.set (by decide)).got g (by simp; omega)
  obtain ⟨a2, d2, _, _, rfl, _, k1, k2⟩ := g.ow.rat_inv
  replace O := O.flat rfl
  have la := k1.leaf rfl
  have ld := k2.leaf rfl
  replace lfs := And.intro lfs (And.intro la ld)
  replace fc := fun q => cells_agg (cs := [.bool x.dy.neg, a2, d2]) (by simp [la, ld, show ∀ b, V.leaf (.bool b) = true from fun _ => rfl]) q
  clear g
  (refine ew6 @B0 @B1 @B2 @lq @lfs @fc ?_; try with_reducible exact True.intro)
  exact ((O.set (by decide)).set (by decide)).fin
theorem po_toLinkS {T : Nat → Option Fn} (h : D_laws_toLinkS T) {l : List Lk} (hl : szL Lk.sz l ≤ 1048576 := by first | omega | assumption | (simp; omega)) : PO T 21 [lksV l] (lksV l) := by
  have hll : l.length ≤ 1048576 := by unfold szL at hl; omega
  exact po_toS (cl := Lk.cells) (z := [iv 0, iv 0, .bool false, .nils, .nils, .bool false, .nils, .nils, .bool false, .nils, .nils]) (h.hT.trans rfl) (by decide) hll (fun x hx => ⟨rfl, st_Lk l _ (List.mem_map.2 ⟨x, hx, rfl⟩), rfl⟩) fun x hx => po_toLink h.d_laws_toLink (x := x) (szL_memb (f := Lk.sz) hl hx)
end Go.Ml
end
section
set_option linter.unusedSimpArgs false
set_option linter.unusedVariables false
namespace Go.Ml
theorem cnL_bd {α : Type} {c f : α → Nat} {K : Nat} (h : ∀ x, c x ≤ K * (1 + f x)) (l : List α) : cnL c l l.length ≤ K * szL f l := by
  unfold cnL szL
  rw [List.take_length]
  induction l with
  | nil => simp
  | cons x l ih =>
    rw [List.map_cons, List.sum_cons, List.map_cons, List.sum_cons, List.length_cons]
    have := h x
    rw [show l.length + 1 + (f x + (l.map f).sum) = (1 + f x) + (l.length + (l.map f).sum) by omega, Nat.mul_add]
    omega
theorem cb_Lk (x : Lk) : Lk.ct x ≤ 5 * (1 + x.sz) := by unfold Lk.ct Lk.sz R.sz; omega
theorem cb_LinkS (l : List Lk) : cnL Lk.ct l l.length ≤ 5 * szL Lk.sz l := cnL_bd cb_Lk l
end Go.Ml
end
section
set_option linter.unusedSimpArgs false
set_option linter.unusedVariables false
set_option maxRecDepth 100000
set_option maxHeartbeats 16000000
namespace Go.Ml
def F_laws_FnExactComponentOf : Fn := ⟨2, 74, [.tmp 4], (.seq (.reg false 0 [oN 4 (.mov (.c (.bool false)))]) (.seq (.reg false 0 [oN 5 (.mov (cI 1048576))]) (.seq (.reg false 0 [oN 13 (oV 0), oN 14 (oV 5), oN 15 (.call 19 [(.t 13), (.t 14)]), oN 5 (oV 15)]) (.seq (.seq (.reg false 0 [oN 16 (oV 5), oN 17 (.bin .lss (.t 16) (cI 0))]) (.cond (.t 17) (.seq (.reg false 0 [oN 4 (.mov (.c (.bool true)))]) .ret) .skip)) (.seq (.reg false 0 [oN 18 (oV 0), oN 19 (.call 21 [(.t 18)]), oN 20 (oV 1), oN 21 (.call 340 [(.t 19), (.t 20)]), oN 6 (oV 21)]) (.seq (.reg false 0 [oN 22 (oV 0), oN 23 (.call 21 [(.t 22)]), oN 7 (oV 23)]) (.seq (.reg false 0 [oN 24 (oV 7), oN 25 (oV 1), oN 26 (.call 341 [(.t 24), (.t 25)]), oN 8 (oV 26)]) (.seq (.seq (.reg false 0 [oN 27 (oV 8), oN 28 (oV 6), oN 29 (.call 8 [(.t 27), (.t 28)]), oN 30 (.un .not (.t 29))]) (.cond (.t 30) (.seq (.reg false 0 [oN 4 (.mov (.c (.bool false)))]) .ret) .skip)) (.seq (.seq (.reg false 0 [oN 31 (oV 7), oN 32 (oV 0), oN 33 (.call 21 [(.t 32)]), oN 34 (.call 23 [(.t 31), (.t 33)]), oN 35 (.un .not (.t 34))]) (.cond (.t 35) (.seq (.reg false 0 [oN 4 (.mov (.c (.bool false)))]) .ret) .skip)) (.seq (.reg false 0 [oN 9 (.mov (cI 1))]) (.seq (.reg false 0 [oN 36 (oV 7), oN 37 (oV 9), oN 38 (.call 118 [(.t 36), (.t 37)]), oN 9 (oV 38)]) (.seq (.seq (.reg false 0 [oN 39 (oV 9), oN 40 (.bin .lss (.t 39) (cI 0)), oN 41 (oV 40), oG 41 false 42 (oV 8), oG 41 false 43 (oV 6), oG 41 false 44 (.call 8 [(.t 42), (.t 43)]), oG 41 false 45 (.un .not (.t 44)), oN 46 (.pick (.t 41) (.c (.bool true)) (.t 45))]) (.cond (.t 46) (.seq (.reg false 0 [oN 4 (.mov (.c (.bool false)))]) .ret) .skip)) (.seq (.reg false 0 [oN 10 (.mov (cI 1))]) (.seq (.reg false 0 [oN 47 (oV 8), oN 48 (oV 10), oN 49 (.call 57 [(.t 47), (.t 48)]), oN 10 (oV 49)]) (.seq (.reg false 0 [oN 11 (.mov (cI 1))]) (.seq (.reg false 0 [oN 50 (oV 8), oN 51 (oV 11), oN 52 (.call 59 [(.t 50), (.t 51)]), oN 11 (oV 52)]) (.seq (.seq (.reg false 0 [oN 53 (oV 11), oN 54 (.bin .lss (.t 53) (cI 0))]) (.cond (.t 54) (.seq (.reg false 0 [oN 4 (.mov (.c (.bool false)))]) .ret) .skip)) (.seq (.seq (.reg false 0 [oN 55 (oV 11), oN 56 (oV 10), oN 57 (.bin .neq (.t 55) (.t 56))]) (.cond (.t 57) (.seq (.reg false 0 [oN 4 (.mov (.c (.bool false)))]) .ret) .skip)) (.seq (.reg false 0 [oN 58 (oV 0), oN 59 (.call 21 [(.t 58)]), oN 60 (oV 1), oN 61 (.call 341 [(.t 59), (.t 60)]), oN 12 (oV 61)]) (.seq (.seq (.reg false 0 [oN 62 (oV 12), oN 63 (oV 6), oN 64 (.call 8 [(.t 62), (.t 63)]), oN 65 (.un .not (.t 64))]) (.cond (.t 65) (.seq (.reg false 0 [oN 4 (.mov (.c (.bool false)))]) .ret) .skip)) (.seq (.reg false 0 [oN 11 (.mov (cI 1))]) (.seq (.reg false 0 [oN 66 (oV 8), oN 67 (oV 11), oN 68 (.call 59 [(.t 66), (.t 67)]), oN 11 (oV 68)]) (.seq (.seq (.reg false 0 [oN 69 (oV 11), oN 70 (.bin .lss (.t 69) (cI 0))]) (.cond (.t 70) (.seq (.reg false 0 [oN 4 (.mov (.c (.bool false)))]) .ret) .skip)) (.seq (.seq (.reg false 0 [oN 71 (oV 11), oN 72 (oV 10), oN 73 (.bin .neq (.t 71) (.t 72))]) (.cond (.t 73) (.seq (.reg false 0 [oN 4 (.mov (.c (.bool false)))]) .ret) .skip)) (.seq (.reg false 0 [oN 4 (.mov (.c (.bool true)))]) .ret)))))))))))))))))))))))))⟩
structure D_laws_FnExactComponentOf (T : Nat → Option Fn) : Prop where
  hT : T 332 = some F_laws_FnExactComponentOf
  d_laws_eqIntS : D_laws_eqIntS T
  d_laws_szLinkS : D_laws_szLinkS T
  d_laws_toLinkS : D_laws_toLinkS T
  d_laws_eqLinkS : D_laws_eqLinkS T
  d_laws_markIntS : D_laws_markIntS T
  d_laws_heldIntS : D_laws_heldIntS T
  d_laws_markLinkS : D_laws_markLinkS T
  d_spec_ComponentOf : D_spec_ComponentOf T
  d_impl_ComponentOf : D_impl_ComponentOf T
theorem c_lawFnExactComponentOf {T : Nat → Option Fn} (h : D_laws_FnExactComponentOf T) (a : List Lk) (wa : (wfL Lk.wf) a) (b : Int) (wb : -9223372036854775808 ≤ b ∧ b ≤ 9223372036854775807) : PF T 332 [lksV a, iv b] (.bool true) := by
  refine PO.frz ?_ (dep_bool 11 _)
  refine po_end2 (fun x d => (x == 21 && d == 23) || (x == 341 && d == 26) || (x == 118 && d == 38) || (x == 57 && d == 49)) h.hT rfl rfl ?_
  dsimp only [F_laws_FnExactComponentOf, oN, oS, oG, oK, oA, oH, oV, cI, St.enter, List.length_cons, List.length_nil, Nat.zero_add]
  (refine ew ?_; try with_reducible exact True.intro)
  refine PFK_of (c_szLinkS h.d_laws_szLinkS (l := a) wa ⟨by omega, by omega⟩) ?_
  (refine ew ?_; try with_reducible exact True.intro)
  have ka := @szr_le (1048576) (szL Lk.sz a)
  refine brK_dec (fun hba => ?_) fun hba => ?_
  · (refine ew ?_; try with_reducible exact True.intro)
    exact fin_bool
  have sa := szr_nlt hba
  (refine ew ?_; try with_reducible exact True.intro)
  have za : szL Lk.sz a ≤ 1048576 := by omega
  have zr := cpM_len a b
  have zl := szL_eq Lk.sz a
  have := cb_LinkS a
  have PI := po_iComponentOf h.d_impl_ComponentOf (v := b) wa (by have := szL_eq Lk.sz a; omega)
  refine PFK_of (c_toLinkS h.d_laws_toLinkS (l := a) za) ?_
  (refine ew ?_; try with_reducible exact True.intro)
  refine PFK_of (c_sComponentOf h.d_spec_ComponentOf (v := b) wa (by have := szL_eq Lk.sz a; omega)) ?_
  (refine ew ?_; try with_reducible exact True.intro)
  refine RefK_got (po_toLinkS h.d_laws_toLinkS (l := a) za) (by (refine ew ?_; try with_reducible exact True.intro)) ?_
  intro x0 q1 o1 G
  have hO := G.ow
  have gn := G.nd
  have gf := G.fresh
  have go := G.old
  have gl := G.len
  clear G
  have E : Ep ([] : Store) [] [] [] [] := ⟨cs_nil, by simp [objAt]⟩
  have E2 := E.got (s1 := ([] : Store)) (fun _ _ => rfl) (by simp) (owL_1 hO) (by first | exact gn | simpa using gn) (by first | exact gf | simpa using gf) (by first | exact go | simpa using go)
  have hq : ([] : Store).length + 0 ≤ q1.length := by first | exact gl | simpa using gl
  clear E gn gf go gl
  have E : Ep q1 [x0] [lksV a] _ [] := E2
  clear E2
  have R := And.intro (E.res 0 rfl rfl (dep_lks _ _)) (fun x => (E.snoc (x := x)).res 0 rfl rfl (dep_lks _ _))
  have LF := E.leaf 0 rfl rfl
  (refine ew4 @R @LF @numK_any @or_sc ?_; try with_reducible exact True.intro)
  refine RefK_got (PI) (by (refine ew4 @R @LF @numK_any @or_sc ?_; try with_reducible exact True.intro)) ?_
  intro g0 q2 o2 G
  have hO := G.ow
  have gn := G.nd
  have gf := G.fresh
  have go := G.old
  have gl := G.len
  clear G
  have E2 := E.got (s1 := q1) (fun _ _ => rfl) (by simp) (owL_1 hO) (by first | exact gn | simpa using gn) (by first | exact gf | simpa using gf) (by first | exact go | simpa using go)
  have hq : q1.length + 0 ≤ q2.length := by first | exact gl | simpa using gl
  clear E gn gf go gl
  have E : Ep q2 [x0, g0] [lksV a, ints (cpM a b)] _ [] := E2
  clear E2
  replace R := And.intro (E.res 0 rfl rfl (dep_lks _ _)) (And.intro (fun x => (E.snoc (x := x)).res 0 rfl rfl (dep_lks _ _)) (And.intro (E.res 1 rfl rfl (dep_ints _ _)) (fun x => (E.snoc (x := x)).res 1 rfl rfl (dep_ints _ _))))
  replace LF := And.intro (E.leaf 0 rfl rfl) (E.leaf 1 rfl rfl)
  (refine ew4 @R @LF @numK_any @or_sc ?_; try with_reducible exact True.intro)
  refine PFK_of (c_eqIntS h.d_laws_eqIntS (a := (cpM a b)) (b := (cpM a b)) (by omega) (by omega)) ?_
  (refine ew4 @R @LF @numK_any @or_sc ?_; try with_reducible exact True.intro)
  refine PFK_of (c_toLinkS h.d_laws_toLinkS (l := a) za) ?_
  (refine ew4 @R @LF @numK_any @or_sc ?_; try with_reducible exact True.intro)
  refine PFK_of (c_eqLinkS h.d_laws_eqLinkS (a := a) (b := a) wa wa) ?_
  (refine ew4 @R @LF @numK_any @or_sc ?_; try with_reducible exact True.intro)
  have hk0 : ¬ ((1 + cnL Lk.ct a a.length : Int) < 0) := by omega
  obtain ⟨s3, hr, E2, hl⟩ := E.call 0 (mk_markLinkS h.d_laws_markLinkS (l := a) (k := 1) (by first | omega | (constructor <;> omega)) (by first | omega | (constructor <;> omega))) rfl rfl
  refine RefK_mk hr rfl hl (by simp) ?_
  clear hr hl E R LF
  have E : Ep s3 [x0, g0] [lksV (mkL Lk.mk3 Lk.ct 1 a), ints (cpM a b)] _ [] := E2
  clear E2
  have R := And.intro (E.res 0 rfl rfl (dep_lks _ _)) (And.intro (fun x => (E.snoc (x := x)).res 0 rfl rfl (dep_lks _ _)) (And.intro (E.res 1 rfl rfl (dep_ints _ _)) (fun x => (E.snoc (x := x)).res 1 rfl rfl (dep_ints _ _))))
  have LF := And.intro (E.leaf 0 rfl rfl) (E.leaf 1 rfl rfl)
  (refine ew5 @R @LF @numK_any @or_sc @hk0 ?_; try with_reducible exact True.intro)
  refine PFK_of (c_eqIntS h.d_laws_eqIntS (a := (cpM a b)) (b := (cpM a b)) (by omega) (by omega)) ?_
  (refine ew5 @R @LF @numK_any @or_sc @hk0 ?_; try with_reducible exact True.intro)
  obtain ⟨s4, hr, E2, hl⟩ := E.call 1 (mk_markIntS h.d_laws_markIntS (l := (cpM a b)) (k := 1) (by first | omega | (constructor <;> omega)) (by first | omega | (constructor <;> omega))) rfl rfl
  refine RefK_mk hr rfl hl (by simp) ?_
  clear hr hl E R LF
  have E : Ep s4 [x0, g0] [lksV (mkL Lk.mk3 Lk.ct 1 a), ints (_root_.Go.Ml.cnt (cpM a b).length 1)] _ [] := E2
  clear E2
  have R := And.intro (E.res 0 rfl rfl (dep_lks _ _)) (And.intro (fun x => (E.snoc (x := x)).res 0 rfl rfl (dep_lks _ _)) (And.intro (E.res 1 rfl rfl (dep_ints _ _)) (fun x => (E.snoc (x := x)).res 1 rfl rfl (dep_ints _ _))))
  have LF := And.intro (E.leaf 0 rfl rfl) (E.leaf 1 rfl rfl)
  (refine ew4 @R @LF @numK_any @or_sc ?_; try with_reducible exact True.intro)
  refine PFK_of (c_heldIntS h.d_laws_heldIntS (n := (cpM a b).length) (k := 1) (by first | omega | (constructor <;> omega)) (by first | omega | (constructor <;> omega))) ?_
  (refine ew4 @R @LF @numK_any @or_sc ?_; try with_reducible exact True.intro)
  refine brK_dec (fun hc => absurd hc (by first | omega | (constructor <;> omega))) fun _ => ?_
  (refine ew4 @R @LF @numK_any @or_sc ?_; try with_reducible exact True.intro)
  refine PFK_of (c_toLinkS h.d_laws_toLinkS (l := a) za) ?_
  (refine ew4 @R @LF @numK_any @or_sc ?_; try with_reducible exact True.intro)
  refine PFK_of (PI.frz (dep_ints _ _)) ?_
  (refine ew4 @R @LF @numK_any @or_sc ?_; try with_reducible exact True.intro)
  refine PFK_of (c_eqIntS h.d_laws_eqIntS (a := (cpM a b)) (b := (cpM a b)) (by omega) (by omega)) ?_
  (refine ew4 @R @LF @numK_any @or_sc ?_; try with_reducible exact True.intro)
  refine PFK_of (c_heldIntS h.d_laws_heldIntS (n := (cpM a b).length) (k := 1) (by first | omega | (constructor <;> omega)) (by first | omega | (constructor <;> omega))) ?_
  (refine ew4 @R @LF @numK_any @or_sc ?_; try with_reducible exact True.intro)
  refine brK_dec (fun hc => absurd hc (by first | omega | (constructor <;> omega))) fun _ => ?_
  (refine ew4 @R @LF @numK_any @or_sc ?_; try with_reducible exact True.intro)
  exact fin_bool
end Go.Ml
end
section
set_option linter.unusedSimpArgs false
namespace Go.Ml
def OutOk (P : Program) (fid : Nat) (o : OutF) : Prop :=
  ∀ args σ r σ', o.sem args σ r σ' → ∀ w M D (vals : Array Value), rdL w D (XS M D) args vals.toList → SRel w D M σ → Calls P fid vals w (Post M D w σ.length r σ')
def Fits (P : Program) (ν : Nat → Option Nat) (T : Nat → Option Fn) : Prop :=
  ∀ fid f F, ν fid = some f → T f = some F → (∃ fn, P.funcs[fid]? = some fn ∧ trFn P ν fn = some F) ∨ ∃ o, F.body = .lib o ∧ OutOk P fid o
theorem no_lib {T : Nat → Option Fn} {j : Job} {x : Out} (h : Run T j x) : ∀ o st, j ≠ .code (.lib o) st := by
  induction h with
  | gc ρ hn hρ h ih => intro o st e; cases e; exact ih o _ rfl
  | forget he ho hk h ih => intro o st e; cases e; exact ih o _ rfl
  | re W h h' ih => intro o st e; cases e; exact ih o _ rfl
  | _ => intro o st e; cases e
theorem trC_lib {P : Program} {ν : Nat → Option Nat} {nt : Nat} {o : OutF} : ∀ c : Code, trC P ν nt c ≠ some (.lib o) := by
  intro c h
  unfold trC at h
  cases c <;> simp at h
  all_goals (try (split at h <;> simp at h))
theorem trFn_lib {P : Program} {ν : Nat → Option Nat} {fn : Func} {F : Fn} {o : OutF} (h : trFn P ν fn = some F) (hb : F.body = .lib o) : False := by
  unfold trFn at h
  split at h <;> first | (cases h; done) | skip
  split at h <;> first | (cases h; done) | skip
  rename_i b rs' hb' hrs'
  split at h <;> first | (cases h; done) | skip
  simp only [Option.some.injEq] at h
  subst h
  simp only [] at hb
  subst hb
  exact trC_lib _ hb'
section
variable {P : Program} {ν : Nat → Option Nat} {T : Nat → Option Fn}
theorem okK_cons {m : Nat} {x : OpI} {l : List OpI} (h : okK m (x :: l) = true) : okK m l = true ∧ ∀ y ∈ l, y.i.makes = true → y.k ≠ x.k ∧ y.k < m := by
  have hm : ∀ (l : List OpI), okK m l = true → ∀ y ∈ l, y.i.makes = true → y.k < m := by
    intro l
    induction l with
    | nil => intro _ y hy; cases hy
    | cons z l ih =>
      intro h y hy hmk
      simp only [okK, Bool.and_eq_true] at h
      rcases List.mem_cons.1 hy with rfl | hy
      · have := h.1
        rw [if_pos hmk] at this
        simp only [Bool.and_eq_true, decide_eq_true_eq] at this
        exact this.1
      · exact ih h.2 y hy hmk
  simp only [okK, Bool.and_eq_true] at h
  refine ⟨h.2, fun y hy hmk => ⟨?_, hm l h.2 y hy hmk⟩⟩
  by_cases hx : x.i.makes = true
  · have := h.1
    rw [if_pos hx] at this
    simp only [Bool.and_eq_true, decide_eq_true_eq, List.all_eq_true] at this
    have := this.2 y hy
    simpa [hmk] using this
  · have := h.1
    rw [if_neg hx] at this
    simp only [beq_iff_eq] at this
    have := hm l h.2 y hy hmk
    omega
theorem okK_lt {m : Nat} : ∀ (l : List OpI), okK m l = true → ∀ x ∈ l, x.i.makes = true → x.k < m
  | [], _, y, hy, _ => by cases hy
  | z :: l, h, y, hy, hmk => by
    simp only [okK, Bool.and_eq_true] at h
    rcases List.mem_cons.1 hy with rfl | hy
    · have := h.1
      rw [if_pos hmk] at this
      simp only [Bool.and_eq_true, decide_eq_true_eq] at this
      exact this.1
    · exact okK_lt l h.2 y hy hmk
theorem okK_ne {m : Nat} : ∀ (l : List OpI), okK m l = true → ∀ (i j : Nat) (x y : OpI), l[i]? = some x → l[j]? = some y → i ≠ j → x.i.makes = true → x.k ≠ y.k
  | [], _, i, j, x, y, hx, _, _, _ => by simp at hx
  | z :: l, h, i, j, x, y, hx, hy, hij, hmk => by
    obtain ⟨k1, k2⟩ := okK_cons h
    cases i with
    | zero =>
      simp at hx; subst hx
      cases j with
      | zero => exact absurd rfl hij
      | succ j =>
        have hy' : y ∈ l := List.mem_of_getElem? (by simpa using hy)
        by_cases hmy : y.i.makes = true
        · exact fun e => (k2 y hy' hmy).1 e.symm
        · -- one that makes none has the number m
          have hm : ∀ (l : List OpI), okK m l = true → ∀ y ∈ l, y.i.makes ≠ true → y.k = m := by
            intro l
            induction l with
            | nil => intro _ y hy; cases hy
            | cons z l ih =>
              intro h y hy hn
              simp only [okK, Bool.and_eq_true] at h
              rcases List.mem_cons.1 hy with rfl | hy
              · have := h.1
                rw [if_neg hn] at this
                simpa using this
              · exact ih h.2 y hy hn
          have := hm l k1 y hy' hmy
          have h3 := okK_lt _ h z (by simp) hmk
          omega
    | succ i =>
      have hx' : x ∈ l := List.mem_of_getElem? (by simpa using hx)
      cases j with
      | zero =>
        simp at hy; subst hy
        exact (k2 x hx' hmk).1
      | succ j => exact okK_ne l k1 i j x y (by simpa using hx) (by simpa using hy) (by omega) hmk
theorem opsOk_cons {o : OpI} {l : List OpI} {st st1 st2 : St} (h1 : OpOk P ν o st st1) (h2 : OpsOk P ν l st1 st2) : OpsOk P ν (o :: l) st st2 := by
  obtain ⟨a1, a2, a3, a4⟩ := h1
  obtain ⟨b1, b2, b3, b4⟩ := h2
  refine ⟨b1.trans a1, b2.trans a2, Nat.le_trans a3 b3, ?_⟩
  intro ops dr nt m k rest htr hk M w0 D0 D a w hs hid Q hQ
  cases rest with
  | nil => simp [trOps] at htr
  | cons r rest =>
    simp only [trOps] at htr
    split at htr <;> first | (cases htr; done) | skip
    rename_i x hx
    split at htr <;> first | (cases htr; done) | skip
    rename_i l' hl'
    simp only [Option.some.injEq, List.cons.injEq] at htr
    obtain ⟨rfl, rfl⟩ := htr
    obtain ⟨k1, k2⟩ := okK_cons hk
    have key := a4 ops dr nt m k r hx M w0 D0 D a w hs (hid x (by simp)) (wpList P ops Q rest) Q (fun D' a' w' hs' hun => by
      refine b4 ops dr nt m _ rest hl' k1 M w0 D0 D' a' w' hs' (fun y hy hmk => ?_) Q hQ
      rw [a1]
      obtain ⟨e1, e2⟩ := hid y (by simp [hy]) hmk
      exact ⟨Nat.lt_of_lt_of_le e1 a3, hun _ (Nat.le_add_right _ _) e1 e2 (fun h => (k2 y hy hmk).1 (by omega))⟩)
    unfold wpList
    split
    · rename_i hw; rw [if_pos hw] at key; exact .inl key
    · rename_i hw; rw [if_neg hw] at key; exact key
theorem trC_inv {nt : Nat} {cc : Code} {c : C} (h : trC P ν nt cc = some c) : match c with
    | .skip => cc = .skip
    | .reg d m l => ∃ id ops, cc = .region id ops d ∧ trOps P ν ops d nt m 0 ops.toList = some l
    | .seq x y => ∃ a b, cc = .seq a b ∧ trC P ν nt a = some x ∧ trC P ν nt b = some y
    | .cond s x y => ∃ o a b, cc = .cond o a b ∧ trS o = some s ∧ trC P ν nt a = some x ∧ trC P ν nt b = some y
    | .block id x => ∃ a, cc = .block id a ∧ trC P ν nt a = some x
    | .loop x => ∃ a, cc = .loop a ∧ trC P ν nt a = some x
    | .exit id => cc = .exit id
    | .ret => cc = .ret
    | .lib _ => False := by
  cases cc with
  | skip => simp only [trC, Option.some.injEq] at h; subst h; rfl
  | region id ops d =>
    simp only [trC, Option.map_eq_some_iff] at h
    obtain ⟨l, h1, rfl⟩ := h
    exact ⟨id, ops, rfl, h1⟩
  | seq a b =>
    simp only [trC] at h
    split at h <;> first | (cases h; done) | skip
    rename_i x y h1 h2
    simp only [Option.some.injEq] at h; subst h
    exact ⟨a, b, rfl, h1, h2⟩
  | cond o a b =>
    simp only [trC] at h
    split at h <;> first | (cases h; done) | skip
    rename_i s x y h1 h2 h3
    simp only [Option.some.injEq] at h; subst h
    exact ⟨o, a, b, rfl, h1, h2, h3⟩
  | block id a =>
    simp only [trC, Option.map_eq_some_iff] at h
    obtain ⟨x, h1, rfl⟩ := h
    exact ⟨a, rfl, h1⟩
  | loop a =>
    simp only [trC, Option.map_eq_some_iff] at h
    obtain ⟨x, h1, rfl⟩ := h
    exact ⟨a, rfl, h1⟩
  | exit id => simp only [trC, Option.some.injEq] at h; subst h; rfl
  | ret => simp only [trC, Option.some.injEq] at h; subst h; rfl
  | _ => simp [trC] at h
theorem loop_of {c : C} {e : Ex} {st st' : St} (hk : st'.keep = st.keep) (h : LoopOk P ν c e st st') : CodeOk P ν (.loop c) e st st' := by
  refine ⟨hk, ?_⟩
  intro nt cc htr M w0 D0 D a w hs Q hQ
  obtain ⟨cb, rfl, hb⟩ := trC_inv htr
  intro b k cs
  obtain ⟨x, a', w', q, harr⟩ := h nt cb hb M w0 D0 D a w hs Q hQ b k cs
  exact ⟨x, a', w', q, .of_steps (.one step_loop) harr⟩
theorem exOf_ne {e : Ex} (h : e ≠ .normal) : exOf e ≠ .normal := by cases e <;> simp [exOf] at h ⊢
theorem then_of {next : Act → World → Prop} {Q : Exit → Act → World → Prop} {e : Ex} (h : e ≠ .normal) {a : Act} {w : World} (hq : Q (exOf e) a w) : Exit.then next Q (exOf e) a w := by
  cases e <;> first | (simp at h; done) | exact hq
def getRes (tmps : Array Value) : ResultVar → Sem Value
  | .tmp t => pure (tmps.getD t undef)
  | .cell q t => do loadVar t (← asAddr (tmps.getD q undef))
theorem results_eq (fn : Func) (tmps : Array Value) : results fn tmps = (do let vs ← fn.results.mapM (getRes tmps); pure (if h : vs.size = 1 then vs[0] else .tuple vs)) := rfl
theorem fnOk_lib (hT : Fits P ν T) {f : Nat} {args : List V} {σ : Store} {F : Fn} {o : OutF} {r : V} {σ' : Store} (hf : T f = some F) (hb : F.body = .lib o) (h : o.sem args σ r σ') : FnOk P ν f args σ r σ' := by
  intro fid hfid w M D vals hv hS
  rcases hT fid f F hfid hf with ⟨fn, hfn, htr⟩ | ⟨o', e, hO⟩
  · exact (trFn_lib htr hb).elim
  · rw [hb] at e
    cases e
    exact hO args σ r σ' h w M D vals hv hS
theorem fnOk_fn (hT : Fits P ν T) {f : Nat} {args : List V} {σ : Store} {F : Fn} {e : Ex} {st' : St} {rs : List V} (hf : T f = some F) (hl : args.length = F.nargs) (hnl : ∀ o, F.body ≠ .lib o)
    (ih : CodeOk P ν F.body e (St.enter args σ) st') (he : e = .normal ∨ e = .ret) (hr : F.res.mapM (Res.get st') = some rs) : FnOk P ν f args σ (packRes rs) st'.objs := by
  intro fid hfid w M D vals hv hS
  rcases hT fid f F hfid hf with ⟨fn, hfn, htr⟩ | ⟨o, e, _⟩
  case inr => exact (hnl o e).elim
  unfold trFn at htr
  split at htr <;> first | (cases htr; done) | skip
  rename_i body hbody
  split at htr <;> first | (cases htr; done) | skip
  rename_i b rs' hb hrs'
  split at htr <;> first | (cases htr; done) | skip
  rename_i hle
  simp only [Option.some.injEq] at htr; subst htr
  have hvl : vals.size = args.length := by simpa using (rdL_length _ _ hv).symm
  refine calls_of_wp hfn hbody ?_
  have hs0 : SR fn.ntmps M w D (St.enter args σ) D { tmps := vals ++ Array.replicate (fn.ntmps - vals.size) undef, defers := [] } w := by
    refine ⟨?_, ?_, rfl, hS, Gr.refl _ _, fun o d h => .inl ⟨o, d, h, rfl⟩, fun o _ => DSle.refl _⟩
    · intro t
      simp only [St.enter]
      by_cases ht : t < args.length
      · obtain ⟨y, h1, h2⟩ := rdL_get _ _ hv t args[t] (by simp [ht])
        have e1 : argE args t = args[t] := by simp [argE, ht]
        rw [e1]
        have e2 : (vals ++ Array.replicate (fn.ntmps - vals.size) undef).getD t undef = y := by
          rw [Array.getD_eq_getD_getElem?, Array.getElem?_append_left (by omega)]
          rw [← Array.getElem?_toList, h1]; rfl
        rw [e2]; exact h2
      · have e1 : argE args t = .any := by simp [argE, List.getD, List.getElem?_eq_none (Nat.le_of_not_lt ht)]
        rw [e1]; simp only [rd]
    · simp only [Array.size_append, Array.size_replicate]; simp only [] at hl; omega
  refine ih.2 fn.ntmps body hb M w D D _ w hs0 _ ?_
  intro D' a' w' hs'
  have hres : ∃ v, (results fn a'.tmps).run P w' = .ok v w' ∧ rd w' D' (XS M D') (packRes rs) v := by
    have hlist : ∀ (vars : List ResultVar) (rl : List Res) (vl : List V), vars.mapM (trRes P) = some rl → rl.mapM (Res.get st') = some vl →
        ∃ ys : List Value, (vars.mapM (getRes a'.tmps)).run P w' = .ok ys w' ∧ rdL w' D' (XS M D') vl ys := by
      intro vars
      induction vars with
      | nil => intro rl vl h1 h2; simp at h1; subst h1; simp at h2; subst h2; exact ⟨[], by simp, by simp [rdL]⟩
      | cons x vars ihv =>
        intro rl vl h1 h2
        simp only [List.mapM_cons, Option.pure_def, Option.bind_eq_bind, Option.bind_eq_some_iff, Option.some.injEq] at h1
        obtain ⟨r, hr1, rl', hr2, rfl⟩ := h1
        simp only [List.mapM_cons, Option.pure_def, Option.bind_eq_bind, Option.bind_eq_some_iff, Option.some.injEq] at h2
        obtain ⟨z, hz1, vl', hz2, rfl⟩ := h2
        obtain ⟨ys, k1, k2⟩ := ihv rl' vl' hr2 hz2
        cases x with
        | tmp t =>
          simp only [trRes, Option.some.injEq] at hr1; subst hr1
          simp only [Res.get, Option.some.injEq] at hz1; subst hz1
          refine ⟨a'.tmps.getD t undef :: ys, ?_, by simp only [rdL]; exact ⟨_, _, rfl, hs'.env t, k2⟩⟩
          have hg : (getRes a'.tmps (.tmp t)).run P w' = .ok (a'.tmps.getD t undef) w' := rfl
          simp only [List.mapM_cons, Sem.run_bind, Sem.run_pure, Result.andThen_ok, k1, hg]
        | cell q t =>
          simp only [trRes, Option.map_eq_some_iff] at hr1
          obtain ⟨⟨n, g⟩, hg, rfl⟩ := hr1
          simp only [Res.get] at hz1
          split at hz1 <;> first | (cases hz1; done) | skip
          rename_i row off hrow
          obtain ⟨u, j1, j2⟩ := run_load_agg hs'.store hg hrow (hs'.env q) hz1
          obtain ⟨bl, oo, hptr, _⟩ := rowAt_rd hs'.store hrow (hs'.env q)
          refine ⟨u :: ys, ?_, by simp only [rdL]; exact ⟨_, _, rfl, j2, k2⟩⟩
          have j1' : (loadVar t ⟨bl, oo + off, none⟩).run P w' = .ok u w' := by
            rw [hptr] at j1
            simpa [Instr.loadAt, Instr.sureAddr] using j1
          have hg : (getRes a'.tmps (.cell q t)).run P w' = .ok u w' := by
            simp only [getRes, hptr, asAddr, Sem.run_bind, Sem.run_pure, Result.andThen_ok, j1']
          simp only [List.mapM_cons, Sem.run_bind, Sem.run_pure, Result.andThen_ok, k1, hg]
    obtain ⟨ys, k1, k2⟩ := hlist fn.results.toList rs' rs hrs' hr
    refine ⟨if h : ys.toArray.size = 1 then ys.toArray[0] else .tuple ys.toArray, ?_, ?_⟩
    · have : (fn.results.mapM (getRes a'.tmps)).run P w' = .ok ys.toArray w' := by
        rw [← Array.toArray_toList (xs := fn.results), List.mapM_toArray, Sem.run_map, k1]; rfl
      rw [results_eq]
      simp only [Sem.run_bind, this, Result.andThen_ok, Sem.run_pure]
    · have hlen := rdL_length _ _ k2
      have gen : ∀ (rs : List V) (ys : List Value), rdL w' D' (XS M D') rs ys → rs.length = ys.length → rd w' D' (XS M D') (packRes rs) (if h : ys.toArray.size = 1 then ys.toArray[0] else .tuple ys.toArray) := by
        intro rs ys h hl
        cases rs with
        | nil =>
          cases ys with
          | nil => simp only [packRes]; rw [dif_neg (by simp)]; simp only [rd]; exact ⟨_, rfl, h⟩
          | cons y ys => simp at hl
        | cons x xs =>
          cases ys with
          | nil => simp at hl
          | cons y ys =>
            cases xs with
            | nil =>
              cases ys with
              | nil =>
                simp only [rdL] at h
                obtain ⟨y', ys', h0, h1, h2⟩ := h
                cases h0
                simpa [packRes] using h1
              | cons y' ys => simp at hl
            | cons x' xs =>
              cases ys with
              | nil => simp at hl
              | cons y' ys =>
                simp only [packRes]
                rw [dif_neg (by simp)]
                simp only [rd]
                exact ⟨_, rfl, h⟩
      exact gen rs ys k2 hlen
  obtain ⟨v, hv1, hv2⟩ := hres
  have hfin : bodyPost P fn (Post M D w σ.length (packRes rs) st'.objs) .ret a' w' :=
    ⟨hs'.df, v, hv1, v, D', rfl, hv2, hs'.store, hs'.gr, hs'.fr, fun o ho => hs'.kp o (by rw [ih.1]; exact ho)⟩
  rcases he with rfl | rfl <;> exact hfin
theorem trOps_get {ops : Array Oper} {dr : Bool} {nt m : Nat} : ∀ {k : Nat} {rest : List Oper} {l : List OpI}, trOps P ν ops dr nt m k rest = some l →
    l.length = rest.length ∧ ∀ (i : Nat) (x : OpI), l[i]? = some x → ∃ o k', rest[i]? = some o ∧ trOp P ν ops dr nt m k' o = some x
  | k, [], l, h => by simp only [trOps, Option.some.injEq] at h; subst h; simp
  | k, o :: rest, l, h => by
    simp only [trOps] at h
    split at h <;> first | (cases h; done) | skip
    rename_i x hx
    split at h <;> first | (cases h; done) | skip
    rename_i l' hl'
    simp only [Option.some.injEq] at h; subst h
    obtain ⟨e1, e2⟩ := trOps_get hl'
    refine ⟨by simp [e1], fun i y hi => ?_⟩
    cases i with
    | zero => simp at hi; subst hi; exact ⟨o, k, rfl, hx⟩
    | succ i => simpa using e2 i y (by simpa using hi)
theorem trOp_aft {ops : Array Oper} {nt m k : Nat} {o : Oper} {x : OpI} (h : trOp P ν ops true nt m k o = some x) : x.aft = trAft o := by
  unfold trOp at h
  split at h <;> first | (cases h; done) | skip
  split at h <;> first | (cases h; done) | skip
  simp only [Option.some.injEq] at h; subst h
  rfl
theorem ready_iff {ops : Array Oper} {nt m : Nat} {l : List OpI} (h : trOps P ν ops true nt m 0 ops.toList = some l) {done : List Nat} {listed : Array Bool} (hs : listed.size = ops.size)
    (hl : ∀ i, listed.getD i false = true ↔ i ∈ done) {i : Nat} : i ∈ Region.ready .any ops listed ↔ readyB l done i = true := by
  obtain ⟨e1, e2⟩ := trOps_get h
  rw [mem_ready]
  have hlt : ∀ {i : Nat}, i < ops.size → (listed.getD i true = false ↔ i ∉ done) := by
    intro i hi
    have : listed.getD i true = listed.getD i false := by
      rw [Array.getD_eq_getD_getElem?, Array.getD_eq_getD_getElem?, Array.getElem?_eq_getElem (by omega)]; rfl
    rw [this]
    constructor
    · intro h1 h2; rw [(hl i).2 h2] at h1; cases h1
    · intro h1
      cases hb : listed.getD i false with
      | false => rfl
      | true => exact absurd ((hl i).1 hb) h1
  constructor
  · rintro ⟨h1, o, ho, h2⟩
    have hi := (Array.getElem?_eq_some_iff.1 ho).1
    have hil : i < l.length := by rw [e1]; simpa using hi
    obtain ⟨o', k', ho', hx⟩ := e2 i l[i] (by simp [hil])
    have : o' = o := by rw [Array.getElem?_toList] at ho'; rw [ho] at ho'; exact (Option.some.inj ho').symm
    subst this
    unfold readyB
    rw [List.getElem?_eq_getElem hil]
    simp only [Bool.and_eq_true, Bool.not_eq_true', List.all_eq_true]
    refine ⟨?_, ?_⟩
    · have := (hlt hi).1 h1
      simpa using this
    · intro e he
      rw [trOp_aft hx] at he
      simp only [trAft, List.mem_map, List.mem_filter] at he
      obtain ⟨ed, ⟨h3, h4⟩, rfl⟩ := he
      have := h2 ed (by simpa using h3) h4
      simpa using (hl _).1 this
  · intro hr
    unfold readyB at hr
    split at hr <;> first | (cases hr; done) | skip
    rename_i x hx
    simp only [Bool.and_eq_true, Bool.not_eq_true', List.all_eq_true] at hr
    obtain ⟨o, k', ho, htr⟩ := e2 i x hx
    have ho' : ops[i]? = some o := by rwa [Array.getElem?_toList] at ho
    have hi := (Array.getElem?_eq_some_iff.1 ho').1
    refine ⟨(hlt hi).2 (by simpa using hr.1), o, ho', ?_⟩
    intro e he hb
    refine (hl _).2 ?_
    have := hr.2 e.on (by rw [trOp_aft htr]; simp only [trAft, List.mem_map, List.mem_filter]; exact ⟨e, ⟨by simpa using he, hb⟩, rfl⟩)
    simpa using this
theorem sound (hm : P.follows .mixedOrders = true) (hT : Fits P ν T) {j : Job} {o : Out} (h : Run T j o) : Sound P ν j o := by
  induction h with
  | skip st =>
    refine ⟨⟨rfl, ?_⟩, fun x h => by cases h⟩
    intro nt cc htr M w0 D0 D a w hs Q hQ
    have hc : cc = .skip := trC_inv htr
    subst hc
    exact Go.wp_skip (hQ D a w hs)
  | @reg m l st st' hk h ih =>
    obtain ⟨_, i1, i2, i3, i4⟩ := ih
    refine ⟨⟨i2, ?_⟩, fun x h => by cases h⟩
    intro nt cc htr M w0 D0 D a w hs Q hQ
    obtain ⟨id, ops, rfl, hops⟩ := trC_inv htr
    refine wp_region_list ?_
    refine i4 ops false nt m 0 ops.toList hops hk M w0 D0 D a w ⟨hs.env, hs.tm, hs.df, hs.mem m, hs.gr, hs.fr, hs.kp⟩ (fun x hx hmk => ?_) Q (fun D' a' w' h => hQ D' a' w' h)
    have hkm : x.k < m := by
      have : ∀ (l : List OpI), okK m l = true → ∀ x ∈ l, x.i.makes = true → x.k < m := by
        intro l
        induction l with
        | nil => intro _ y hy; cases hy
        | cons z l ih =>
          intro h y hy hmk
          simp only [okK, Bool.and_eq_true] at h
          rcases List.mem_cons.1 hy with rfl | hy
          · have := h.1
            rw [if_pos hmk] at this
            simp only [Bool.and_eq_true, decide_eq_true_eq] at this
            exact this.1
          · exact ih h.2 y hy hmk
      exact this l hk x hx hmk
    simp only [List.length_append, List.length_replicate]
    exact ⟨by omega, hs.store.far _ (by omega)⟩
  | @regD m l st st' hk h ih =>
    obtain ⟨_, i1, i2, i3, i4⟩ := ih
    refine ⟨⟨i2, ?_⟩, fun x h => by cases h⟩
    intro nt cc htr M w0 D0 D a w hs Q hQ
    obtain ⟨id, ops, rfl, hops⟩ := trC_inv htr
    refine wp_region_any hm ?_
    have hsd : SR nt M w0 D0 st D a { w with drawn := w.drawn + 1 } := by
      have hE : Ext w D (XS M D) { w with drawn := w.drawn + 1 } D (XS M D) := ⟨Nat.le_refl _, fun _ _ _ => rfl, fun _ _ h => h, fun _ => DSle.refl _⟩
      refine ⟨fun t => rd_mono _ _ hE (hs.env t), hs.tm, hs.df, ?_, ⟨hs.gr.size, hs.gr.os, hs.gr.tape, hs.gr.output, hs.gr.block⟩, hs.fr, hs.kp⟩
      refine ⟨fun o d ho => ?_, hs.store.alive, hs.store.inj, hs.store.far, hs.store.mlt⟩
      obtain ⟨ob, c, e, g1, g2, g3, g4, g5, g6, g7, g8, g9, g10, g11⟩ := hs.store.live o d ho
      refine ⟨ob, c, e, g1, g2, g3, g4, g5, g6, g7, g8, g9, g10, fun i x hi => ?_⟩
      obtain ⟨k0, y, k1, k2⟩ := g11 i x hi
      exact ⟨k0, y, k1, rd_mono _ _ hE k2⟩
    refine i4 ops nt m hops hk M w0 D0 D a _ ⟨hsd.env, hsd.tm, hsd.df, hsd.mem m, hsd.gr, hsd.fr, hsd.kp⟩ (fun i x hx _ hmk => ?_) Q (fun D' a' w' h => hQ D' a' w' h) _ _ (by simp) (fun i => ?_) ?_
    · have hkm : x.k < m := okK_lt l hk x (List.mem_of_getElem? hx) hmk
      simp only [List.length_append, List.length_replicate]
      exact ⟨by omega, hsd.store.far _ (by omega)⟩
    · simp only [Array.getD_eq_getD_getElem?, Array.getElem?_replicate]
      split <;> simp
    · simp
  | @anyN l done st h =>
    refine ⟨rfl, rfl, rfl, Nat.le_refl _, ?_⟩
    intro ops nt m htr hk M w0 D0 D a w hs hid Q hQ fuel listed h1 h2 h3
    refine wpAny_done ?_ (hQ D a w hs) fuel
    apply List.eq_nil_iff_forall_not_mem.2
    intro i hi
    rw [ready_iff htr h1 h2, h i] at hi
    cases hi
  | @anyC l done st st' i0 h0 f h h' ih ih' =>
    obtain ⟨_, b1, b2, b3, _⟩ := ih' i0 h0
    obtain ⟨x0, hx0⟩ : ∃ x0, l[i0]? = some x0 := by
      unfold readyB at h0
      split at h0 <;> first | (cases h0; done) | skip
      exact ⟨_, by assumption⟩
    obtain ⟨_, a1, a2, a3, _⟩ := ih i0 x0 hx0 h0
    refine ⟨rfl, b1.trans a1, b2.trans a2, Nat.le_trans a3 b3, ?_⟩
    intro ops nt m htr hk M w0 D0 D a w hs hid Q hQ fuel listed h1 h2 h3
    have hready : ∀ i, i ∈ Region.ready .any ops listed ↔ readyB l done i = true := fun i => ready_iff htr h1 h2
    have hpos : fuel ≠ 0 := by
      rintro rfl
      have hi := (hready i0).2 h0
      have := (mem_ready.1 hi).1
      obtain ⟨_, o, ho, _⟩ := mem_ready.1 hi
      have hlt := (Array.getElem?_eq_some_iff.1 ho).1
      have hmem : false ∈ listed.toList := by
        have : listed[i0]'(by omega) = false := by
          rw [Array.getD_eq_getD_getElem?, Array.getElem?_eq_getElem (by omega)] at this
          simpa using this
        rw [← this]; simp
      have := List.count_pos_iff.2 hmem
      omega
    obtain ⟨fuel, rfl⟩ := Nat.exists_eq_succ_of_ne_zero hpos
    refine ⟨fun hnil => ?_, fun i hi => ?_⟩
    · have := (hready i0).2 h0
      rw [hnil] at this; cases this
    · have hr := (hready i).1 hi
      obtain ⟨e1, e2⟩ := trOps_get htr
      obtain ⟨_, o, ho, _⟩ := mem_ready.1 hi
      have hlt := (Array.getElem?_eq_some_iff.1 ho).1
      have hil : i < l.length := by rw [e1]; simpa using hlt
      obtain ⟨o', k', ho', hx⟩ := e2 i l[i] (by simp [hil])
      have : o' = o := by rw [Array.getElem?_toList] at ho'; rw [ho] at ho'; exact (Option.some.inj ho').symm
      subst this
      have hli : l[i]? = some l[i] := by simp [hil]
      have hnd : i ∉ done := by
        unfold readyB at hr
        rw [hli] at hr
        simp only [Bool.and_eq_true, Bool.not_eq_true'] at hr
        simpa using hr.1
      obtain ⟨_, c1, c2, c3, c4⟩ := ih i l[i] hli hr
      obtain ⟨_, d1, d2, d3, d4⟩ := ih' i hr
      have key := c4 ops true nt m k' o' hx M w0 D0 D a w hs (fun hmk => hid i l[i] hli hnd hmk) (wpAny P .any ops Q fuel (listed.setIfInBounds i true)) Q (fun D' a' w' hs' hun => by
        refine d4 ops nt m htr hk M w0 D0 D' a' w' hs' (fun j y hy hj hmk => ?_) Q hQ fuel _ (by simpa using h1) (fun j => ?_) ?_
        · simp only [List.mem_cons, not_or] at hj
          rw [c1]
          obtain ⟨g1, g2⟩ := hid j y hy hj.2 hmk
          refine ⟨Nat.lt_of_lt_of_le g1 c3, hun _ (Nat.le_add_right _ _) g1 g2 ?_⟩
          intro he
          have hne := okK_ne l hk j i y l[i] hy hli hj.1 hmk
          omega
        · rw [Array.getD_eq_getD_getElem?, Array.getElem?_setIfInBounds]
          by_cases hij : i = j
          · subst hij
            simp [h1, hlt]
          · rw [if_neg hij, ← Array.getD_eq_getD_getElem?, h2 j]
            simp only [List.mem_cons]
            constructor
            · exact .inr
            · rintro (h | h)
              · exact absurd h.symm hij
              · exact h
        · have hfi : listed[i]'(by omega) = false := by
            have := (mem_ready.1 hi).1
            rw [Array.getD_eq_getD_getElem?, Array.getElem?_eq_getElem (by omega)] at this
            simpa using this
          rw [Array.toList_setIfInBounds, List.count_set (by simpa using (by omega : i < listed.size))]
          have h4 : listed.toList[i]'(by simpa using (by omega : i < listed.size)) = false := by simpa using hfi
          have h5 : 0 < listed.toList.count false := List.count_pos_iff.2 (by rw [← h4]; exact List.getElem_mem _)
          simp only [h4, beq_self_eq_true, if_true]
          have : (true == false) = false := rfl
          simp only [this, Bool.false_eq_true, if_false]
          omega)
      unfold wpOp
      simp only [ho]
      split
      · rename_i hw; rw [if_pos hw] at key; exact .inl key
      · rename_i hw; rw [if_neg hw] at key; exact key
  | @seqN a b st st1 o h h' ih ih' =>
    cases o with
    | fn r σ => trivial
    | code e st2 =>
    obtain ⟨⟨i1, i2⟩, _⟩ := ih
    obtain ⟨⟨j1, j2⟩, _⟩ := ih'
    refine ⟨⟨j1.trans i1, ?_⟩, fun x h => by cases h⟩
    intro nt cc htr M w0 D0 D a w hs Q hQ
    obtain ⟨ca, cb, rfl, ha, hb⟩ := trC_inv htr
    refine Go.wp_seq (i2 nt ca ha M w0 D0 D a w hs _ fun D' a' w' hs' => ?_)
    exact j2 nt cb hb M w0 D0 D' a' w' hs' Q hQ
  | @seqE a b st e st1 he h ih =>
    obtain ⟨⟨i1, i2⟩, _⟩ := ih
    refine ⟨⟨i1, ?_⟩, fun x h => by cases h⟩
    intro nt cc htr M w0 D0 D a w hs Q hQ
    obtain ⟨ca, cb, rfl, ha, hb⟩ := trC_inv htr
    exact Go.wp_seq (i2 nt ca ha M w0 D0 D a w hs _ fun D' a' w' hs' => then_of he (hQ D' a' w' hs'))
  | @cond x a b st t o hx h ih =>
    cases o with
    | fn r σ => trivial
    | code e st2 =>
    obtain ⟨⟨i1, i2⟩, _⟩ := ih
    refine ⟨⟨i1, ?_⟩, fun x h => by cases h⟩
    intro nt cc htr M w0 D0 D a w hs Q hQ
    obtain ⟨oc, ca, cb, rfl, h1, ha, hb⟩ := trC_inv htr
    have hv := rd_src hs.env h1
    rw [hx] at hv
    simp only [rd] at hv
    refine Go.wp_cond hv (i2 nt _ ?_ M w0 D0 D _ w hs Q hQ)
    cases t
    · exact hb
    · exact ha
  | @block id c st e st1 h ih =>
    obtain ⟨⟨i1, i2⟩, _⟩ := ih
    refine ⟨⟨i1, ?_⟩, fun x h => by cases h⟩
    intro nt cc htr M w0 D0 D a w hs Q hQ
    obtain ⟨ca, rfl, ha⟩ := trC_inv htr
    refine Go.wp_block (i2 nt ca ha M w0 D0 D a w hs _ fun D' a' w' hs' => ?_)
    have := hQ D' a' w' hs'
    cases e with
    | normal => exact this
    | ret => exact this
    | exit id' =>
      simp only [exOf, exIn, Exit.inBlock] at this ⊢
      by_cases hid : id' = id
      · simp only [hid, if_true] at this ⊢; exact this
      · simp only [hid, if_false] at this ⊢; exact this
  | @loopN c st st1 o h h' ih ih' =>
    cases o with
    | fn r σ => trivial
    | code e st2 =>
    obtain ⟨⟨i1, i2⟩, _⟩ := ih
    obtain ⟨⟨j1, _⟩, j2⟩ := ih'
    have key : LoopOk P ν c e st st2 := by
      intro nt cc htr M w0 D0 D a w hs Q hQ b k cs
      obtain ⟨x, a1, w1, ⟨D1, hx, hs1⟩, harr⟩ := i2 nt cc htr M w0 D0 D a w hs (fun x a' w' => ∃ D', x = .normal ∧ SR nt M w0 D0 st1 D' a' w') (fun D' a' w' h => ⟨D', rfl, h⟩) b (.inLoop cc :: k) cs
      subst hx
      obtain ⟨x2, a2, w2, q2, harr2⟩ := j2 c rfl nt cc htr M w0 D0 D1 a1 w1 hs1 Q hQ b k cs
      exact ⟨x2, a2, w2, q2, .of_steps (Steps.trans harr (.one step_inLoop)) harr2⟩
    exact ⟨loop_of (j1.trans i1) key, fun x hx => by cases hx; exact key⟩
  | @loopE c st e st1 he h ih =>
    obtain ⟨⟨i1, i2⟩, _⟩ := ih
    have key : LoopOk P ν c e st st1 := by
      intro nt cc htr M w0 D0 D a w hs Q hQ b k cs
      obtain ⟨x, a1, w1, ⟨D1, hx, hs1⟩, harr⟩ := i2 nt cc htr M w0 D0 D a w hs (fun x a' w' => ∃ D', x = exOf e ∧ SR nt M w0 D0 st1 D' a' w') (fun D' a' w' h => ⟨D', rfl, h⟩) b (.inLoop cc :: k) cs
      subst hx
      exact ⟨_, a1, w1, hQ D1 a1 w1 hs1, .pass (x := .inLoop cc) rfl (fun _ _ => .inl (exOf_ne he)) harr⟩
    exact ⟨loop_of i1 key, fun x hx => by cases hx; exact key⟩
  | exit id st =>
    refine ⟨⟨rfl, ?_⟩, fun x h => by cases h⟩
    intro nt cc htr M w0 D0 D a w hs Q hQ
    have hc : cc = .exit id := trC_inv htr
    subst hc
    exact Go.wp_exit (hQ D a w hs)
  | ret st =>
    refine ⟨⟨rfl, ?_⟩, fun x h => by cases h⟩
    intro nt cc htr M w0 D0 D a w hs Q hQ
    have hc : cc = .ret := trC_inv htr
    subst hc
    exact Go.wp_ret (hQ D a w hs)
  | @gc c st o ρ hn hρ h ih =>
    cases o with
    | fn r σ => trivial
    | code e st2 =>
    obtain ⟨⟨i1, i2⟩, i3⟩ := ih
    refine ⟨⟨i1, ?_⟩, ?_⟩
    · intro nt cc htr M w0 D0 D a w hs Q hQ
      exact i2 nt cc htr M w0 D0 _ a w (hs.gc hn hρ) Q hQ
    · intro x hx nt cc htr M w0 D0 D a w hs Q hQ
      exact i3 x hx nt cc htr M w0 D0 _ a w (hs.gc hn hρ) Q hQ
  | nil st =>
    refine ⟨rfl, rfl, rfl, Nat.le_refl _, ?_⟩
    intro ops dr nt m k rest htr hk M w0 D0 D a w hs hid Q hQ
    cases rest with
    | nil => exact hQ D a w hs
    | cons r rest =>
      simp only [trOps] at htr
      split at htr <;> first | (cases htr; done) | skip
      split at htr <;> first | (cases htr; done) | skip
  | @cons o l st st1 out h h' ih ih' =>
    cases out with
    | fn r σ => trivial
    | code e st2 => exact ⟨ih'.1, opsOk_cons ih.2 ih'.2⟩
  | off hg he => exact ⟨rfl, opOk_off hg he⟩
  | op hg h => exact ⟨rfl, opOk_op hg h⟩
  | callP hg hi ha h hR ih => exact ⟨rfl, opOk_callP hg hi ha ih hR⟩
  | callR ρ hn hρ hg hi h ih => exact ⟨rfl, opOk_callR hn hρ hg hi ih⟩
  | callG hg hi ha h hR ih => exact ⟨rfl, opOk_callG hg hi ha ih hR⟩
  | callI hg hi h hl hb ih => exact ⟨rfl, opOk_callI hg hi ih hl hb⟩
  | @fn f args σ F e st' rs hf hl h he hr ih => exact fnOk_fn hT hf hl (fun o e => no_lib h o (St.enter args σ) (by rw [e])) ih.1 he hr
  | lib hf hb h => exact fnOk_lib hT hf hb h
  | frz h hr ih => exact fnOk_frz hr ih
  | gcF ρ hn hρ h ih => exact fnOk_gcF hn hρ ih
  | @forget c st st2 o he ho hk h' ih =>
    cases o with
    | fn r σ => trivial
    | code e st3 =>
    obtain ⟨⟨i1, i2⟩, i3⟩ := ih
    refine ⟨⟨i1.trans hk, ?_⟩, ?_⟩
    · intro nt cc htr M w0 D0 D a w hs Q hQ
      exact i2 nt cc htr M w0 D0 _ a w (hs.forget he ho hk) Q hQ
    · intro x hx nt cc htr M w0 D0 D a w hs Q hQ
      exact i3 x hx nt cc htr M w0 D0 _ a w (hs.forget he ho hk) Q hQ
  | @re c st st2 o W h h' ih =>
    cases o with
    | fn r σ => trivial
    | code e st3 =>
    obtain ⟨⟨i1, i2⟩, i3⟩ := ih
    refine ⟨⟨i1.trans h.keep, ?_⟩, ?_⟩
    · intro nt cc htr M w0 D0 D a w hs Q hQ
      exact i2 nt cc htr M w0 D0 _ a w (hs.re h) Q hQ
    · intro x hx nt cc htr M w0 D0 D a w hs Q hQ
      exact i3 x hx nt cc htr M w0 D0 _ a w (hs.re h) Q hQ
  | reF W ha h hs hr ih => exact fnOk_reF ha hs hr ih
  | laxF ha h hr ih => exact fnOk_laxF ha hr ih
end
end Go.Ml
end
section
set_option linter.unusedSimpArgs false
set_option linter.unusedVariables false
namespace Go.Ml
open Go.ChangeShapes Go.WideShapes Go.ChangeAt Go.RowKit
def nuOf : List (Nat × Nat × Fn) → Nat → Option Nat
  | [], _ => none
  | x :: l, i => if x.1 = i then some x.2.1 else nuOf l i
def tbOf : List (Nat × Nat × Fn) → Nat → Option Fn
  | [], _ => none
  | x :: l, k => if x.2.1 = k then some x.2.2 else tbOf l k
theorem nuOf_mem : ∀ {l : List (Nat × Nat × Fn)} {i k : Nat}, nuOf l i = some k → ∃ x ∈ l, x.1 = i ∧ x.2.1 = k
  | [], _, _, h => by simp [nuOf] at h
  | x :: l, i, k, h => by
    simp only [nuOf] at h
    split at h
    · rename_i e; exact ⟨x, by simp, e, by simpa using h⟩
    · obtain ⟨y, hy, e⟩ := nuOf_mem h; exact ⟨y, by simp [hy], e⟩
theorem tbOf_mem : ∀ {l : List (Nat × Nat × Fn)} {k : Nat} {F : Fn}, tbOf l k = some F → ∃ x ∈ l, x.2.1 = k ∧ x.2.2 = F
  | [], _, _, h => by simp [tbOf] at h
  | x :: l, i, k, h => by
    simp only [tbOf] at h
    split at h
    · rename_i e; exact ⟨x, by simp, e, by simpa using h⟩
    · obtain ⟨y, hy, e⟩ := tbOf_mem h; exact ⟨y, by simp [hy], e⟩
theorem eq_of_nodup_map {α β : Type} {f : α → β} : ∀ {l : List α}, (l.map f).Nodup → ∀ {x y}, x ∈ l → y ∈ l → f x = f y → x = y
  | [], _, _, _, h, _, _ => by cases h
  | a :: l, hn, x, y, hx, hy, e => by
    simp only [List.map_cons, List.nodup_cons] at hn
    rcases List.mem_cons.1 hx with rfl | hx' <;> rcases List.mem_cons.1 hy with rfl | hy'
    · rfl
    · exact absurd (e ▸ List.mem_map_of_mem hy') hn.1
    · exact absurd (e ▸ List.mem_map_of_mem hx') hn.1
    · exact eq_of_nodup_map hn.2 hx' hy' e
theorem fits_of {P : Program} {l : List (Nat × Nat × Fn)} (hnd : (l.map (·.2.1)).Nodup) (h : ∀ x ∈ l, (∃ fn, P.funcs[x.1]? = some fn ∧ trFn P (nuOf l) fn = some x.2.2) ∨ ∃ o, x.2.2.body = .lib o ∧ OutOk P x.1 o) : Fits P (nuOf l) (tbOf l) := by
  intro fid f F h1 h2
  obtain ⟨x, hx, e1, e2⟩ := nuOf_mem h1
  obtain ⟨y, hy, e3, e4⟩ := tbOf_mem h2
  have : x = y := eq_of_nodup_map hnd hx hy (e2.trans e3.symm)
  subst this
  rw [← e1, ← e4]
  exact h x hx
theorem calls_of {P : Program} {l : List (Nat × Nat × Fn)} (hm : P.follows .mixedOrders = true) (hT : Fits P (nuOf l) (tbOf l)) {f fid : Nat} {args : List V} {r : V} (h : PF (tbOf l) f args r) (hf : nuOf l fid = some f)
    {w : World} {vals : Array Value} (hr : rdL w DM.none (fun _ => False) args vals.toList) :
    Calls P fid vals w fun e w' => (∃ v D X, e = .returned v ∧ rd w' D X r v) ∧ Below w.heap.size w w' := by
  have hs := sound hm hT h
  have hX : XS (fun _ => False) DM.none = fun _ => False := by
    funext b; simp [XS, DM.none]
  refine (hs fid hf w (fun _ => False) DM.none vals (by rw [hX]; exact hr) ⟨?_, ?_, ?_, ?_, ?_⟩).mono fun e w' hp => ?_
  · intro o d h; cases h
  · intro o ob h; simp [objAt] at h
  · intro o o' d d' h; cases h
  · intro o _; rfl
  · intro b h; exact h.elim
  · obtain ⟨v, D', e1, e2, e3, e4, _⟩ := hp
    refine ⟨⟨v, D', _, e1, e2⟩, ⟨e4.os, e4.tape, e4.output, e4.size, fun k hk => e4.block k hk ?_⟩⟩
    rintro ⟨o, d, h, _⟩; cases h
theorem calls_true {P : Program} {l : List (Nat × Nat × Fn)} (hm : P.follows .mixedOrders = true) (hT : Fits P (nuOf l) (tbOf l)) {f fid : Nat} {args : List V} (h : PF (tbOf l) f args (.bool true)) (hf : nuOf l fid = some f)
    {w : World} {vals : Array Value} (hr : rdL w DM.none (fun _ => False) args vals.toList) :
    Calls P fid vals w fun e w' => e = .returned (.bool true) ∧ Below w.heap.size w w' :=
  (calls_of hm hT h hf hr).mono fun e w' hp => by
    obtain ⟨⟨v, D, X, rfl, e2⟩, hb⟩ := hp
    have : v = .bool true := by simpa [rd] using e2
    exact ⟨by rw [this], hb⟩
end Go.Ml
end
section
set_option linter.unusedSimpArgs false
set_option linter.unusedVariables false
namespace Go.Ml
open Go.ChangeShapes Go.WideShapes Go.ChangeAt Go.RowKit
inductive Lf where
  | int (k : IntKind)
  | bool
  | str
  | sl (row : List Lf)
mutual
def Mt : Lf → V → Prop
  | .int k, v => ∃ n, v = .int k n ∧ (Lit.int k n).wf = true
  | .bool, v => ∃ b, v = .bool b
  | .str, v => ∃ s, v = .str s ∧ s.length ≤ maxLen
  | .sl row, v => ∃ rows : List (List V), v = .sl row.length rows ∧ rows.length ≤ maxLen ∧ ∀ r ∈ rows, MtL row r
def MtL : List Lf → List V → Prop
  | [], vs => vs = []
  | l :: ls, vs => ∃ v vs', vs = v :: vs' ∧ Mt l v ∧ MtL ls vs'
end
def shFs (P : Program) (sh : TypeId → Option (List Lf)) : List Field → Nat → Option (List Lf)
  | [], _ => some []
  | f :: fs, off => match sh f.type, shFs P sh fs (off + P.cellsOf f.type) with
    | some r, some rs => if f.offset = off ∧ r.length = P.cellsOf f.type then some (r ++ rs) else none
    | _, _ => none
def shapeOf (P : Program) : Nat → TypeId → Option (List Lf)
  | 0, _ => none
  | n + 1, t => match P.underlying t with
    | some (.int k) => some [.int k]
    | some .bool => some [.bool]
    | some .string => some [.str]
    | some (.slice e) => match shapeOf P n e with
      | some r => if r.length = P.cellsOf e ∧ 0 < r.length then some [.sl r] else none
      | none => none
    | some (.struct fs) => match shFs P (shapeOf P n) fs.toList 0 with
      | some r => if r.length = P.cellsOf t then some r else none
      | none => none
    | _ => none
theorem mtL_append {l1 l2 : List Lf} {v1 v2 : List V} (h1 : MtL l1 v1) (h2 : MtL l2 v2) : MtL (l1 ++ l2) (v1 ++ v2) := by
  induction l1 generalizing v1 with
  | nil => simp only [MtL] at h1; subst h1; simpa using h2
  | cons l l1 ih =>
    simp only [MtL] at h1
    obtain ⟨v, vs, rfl, a, b⟩ := h1
    simp only [List.cons_append, MtL]
    exact ⟨v, vs ++ v2, rfl, a, ih b⟩
theorem mtL_len {l : List Lf} {v : List V} (h : MtL l v) : v.length = l.length := by
  induction l generalizing v with
  | nil => simp only [MtL] at h; subst h; rfl
  | cons x l ih =>
    simp only [MtL] at h
    obtain ⟨v, vs, rfl, a, b⟩ := h
    simp [ih b]
theorem mt_leaf : ∀ {l : Lf} {v : V}, Mt l v → v.leaf = true := by
  intro l v h
  cases l <;> simp only [Mt] at h
  · obtain ⟨n, rfl, _⟩ := h; rfl
  · obtain ⟨b, rfl⟩ := h; rfl
  · obtain ⟨s, rfl, _⟩ := h; rfl
  · obtain ⟨rows, rfl, _⟩ := h; rfl
theorem mtL_leaf {l : List Lf} {v : List V} (h : MtL l v) : ∀ x ∈ v, x.leaf = true := by
  induction l generalizing v with
  | nil => simp only [MtL] at h; subst h; intro x hx; cases hx
  | cons y l ih =>
    simp only [MtL] at h
    obtain ⟨v, vs, rfl, a, b⟩ := h
    intro x hx
    rcases List.mem_cons.1 hx with rfl | hx
    · exact mt_leaf a
    · exact ih b x hx
theorem rdRows_of {w : World} {D : DM} {X : Nat → Prop} {b sz : Nat} : ∀ (off : Nat) (rows : List (List V)),
    (∀ i r, rows[i]? = some r → r.length = sz ∧ rdCells w D X b (off + i * sz) r) → rdRows w D X b sz off rows
  | _, [], _ => by simp [rdRows]
  | off, r :: rows, h => by
    simp only [rdRows]
    have h0 := h 0 r rfl
    refine ⟨h0.1, by simpa using h0.2, rdRows_of (off + sz) rows fun i r' hi => ?_⟩
    have := h (i + 1) r' (by simpa using hi)
    rwa [show off + (i + 1) * sz = off + sz + i * sz by rw [Nat.succ_mul]; omega] at this
theorem rdCells_of_rdL {w : World} {D : DM} {X : Nat → Prop} {b : Nat} : ∀ (off : Nat) (vs : List V) (cs : List Value), rdL w D X vs cs → (∀ x ∈ vs, x.leaf = true) →
    (∀ i, i < cs.length → w.cell? ⟨b, off + i, none⟩ = cs[i]?) → rdCells w D X b off vs
  | _, [], _, _, _, _ => by simp [rdCells]
  | off, v :: vs, cs, h, hl, hc => by
    simp only [rdL] at h
    obtain ⟨y, ys, rfl, h1, h2⟩ := h
    simp only [rdCells]
    refine ⟨hl v (by simp), ⟨y, by simpa using hc 0 (by simp), h1⟩, rdCells_of_rdL (off + 1) vs ys h2 (fun x hx => hl x (by simp [hx])) fun i hi => ?_⟩
    have := hc (i + 1) (by simpa using hi)
    rw [show off + 1 + i = off + (i + 1) by omega, this]
    simp
section
variable {H : Type} {enc : TypeId × Value → H} {P : Program} {w : World}
theorem shape_rd : ∀ (n : Nat) {t : TypeId} {L : List Lf} {fuel : Nat} {cs : List Value} {x : DataW H × List MemPlace}, shapeOf P n t = some L →
    DataW.trod enc P w 0 (fun _ => true) true fuel t cs = some x → ∃ vs, MtL L vs ∧ rdL w DM.none (fun _ => False) vs cs
  | 0, t, L, fuel, cs, x, h, _ => by simp [shapeOf] at h
  | n + 1, t, L, fuel, cs, x, h, hx => by
    cases fuel with
    | zero => simp [DataW.trod] at hx
    | succ fuel =>
    simp only [shapeOf] at h
    split at h
    · rename_i k hu
      simp only [Option.some.injEq] at h; subst h
      obtain ⟨m, rfl, _, hw⟩ := DataW.trod_int hu hx
      exact ⟨[.int k m], by simp [MtL, Mt, hw], by simp [rdL, rd]⟩
    · rename_i hu
      simp only [Option.some.injEq] at h; subst h
      rw [DataW.trod_step] at hx
      unfold DataW.trodStep at hx
      rw [hu] at hx
      split at hx <;> simp_all
      rename_i b
      exact ⟨[.bool b], by simp [MtL, Mt], by simp [rdL, rd]⟩
    · rename_i hu
      simp only [Option.some.injEq] at h; subst h
      rw [DataW.trod_step] at hx
      unfold DataW.trodStep at hx
      rw [hu] at hx
      split at hx <;> simp_all
      rename_i s
      exact ⟨[.str s.data.toList], by simp [MtL, Mt]; exact hx.1, by simp [rdL, rd]⟩
    · rename_i e hu
      split at h <;> first | (cases h; done) | skip
      rename_i r hr
      split at h <;> first | (cases h; done) | skip
      rename_i hsz
      simp only [Option.some.injEq] at h; subst h
      rcases DataW.trod_slice hu hx with ⟨rfl, _⟩ | ⟨a, len, cap, elems, rest, m, _, rfl, _, hb, hl, hm, hlen, hel, _, _⟩
      · exact ⟨[.sl r.length []], by simp [MtL, Mt], by simp only [rdL, rd]; exact ⟨_, [], rfl, ⟨none, 0, rfl, Nat.le_refl _, .inl (by trivial)⟩, rfl⟩⟩
      · have hel' : ∀ i, i < len → ∃ cs', w.cells? 0 (a.add (i * P.cellsOf e)) (P.cellsOf e) = some cs' ∧ ∃ vs, MtL r vs ∧ rdL w DM.none (fun _ => False) vs cs' := by
          intro i hi
          have h1 := hel i hi
          have h2 : elems[i]? = some (elems[i]'(by omega)) := List.getElem?_eq_getElem (by omega)
          rw [h2, Option.bind_eq_some_iff] at h1
          obtain ⟨cs', k1, k2⟩ := h1
          exact ⟨cs', k1, shape_rd n hr k2⟩
        have hch : ∀ i, ∃ p : List Value × List V, i < len → w.cells? 0 (a.add (i * P.cellsOf e)) (P.cellsOf e) = some p.1 ∧ MtL r p.2 ∧ rdL w DM.none (fun _ => False) p.2 p.1 := by
          intro i
          by_cases hi : i < len
          · obtain ⟨cs', k1, vs, k2, k3⟩ := hel' i hi
            exact ⟨(cs', vs), fun _ => ⟨k1, k2, k3⟩⟩
          · exact ⟨([], []), fun h => absurd h hi⟩
        obtain ⟨f, hf⟩ := Classical.axiomOfChoice hch
        have hrow : ∀ i vs, ((List.range len).map fun i => (f i).2)[i]? = some vs → i < len ∧ vs = (f i).2 := by
          intro i vs hi
          rw [List.getElem?_map, Option.map_eq_some_iff] at hi
          obtain ⟨j, h1, h2⟩ := hi
          obtain ⟨h3, h4⟩ := List.getElem?_eq_some_iff.1 h1
          rw [List.getElem_range] at h4
          subst h4
          exact ⟨by simpa using h3, h2.symm⟩
        refine ⟨[.sl r.length ((List.range len).map fun i => (f i).2)], ?_, ?_⟩
        · simp only [MtL, Mt]
          refine ⟨_, [], rfl, ⟨_, rfl, by simp; exact Nat.le_trans hl hm, fun rr hrr => ?_⟩, rfl⟩
          obtain ⟨i, hi⟩ := List.mem_iff_getElem?.1 hrr
          obtain ⟨h1, rfl⟩ := hrow i rr hi
          exact (hf i h1).2.1
        · simp only [rdL, rd]
          refine ⟨_, [], rfl, ⟨some a, cap, by simp, by simpa using hl, ?_⟩, rfl⟩
          by_cases h0 : len = 0
          · left; subst h0; rfl
          · right
            obtain ⟨b, off, spot⟩ := a
            have hspot : spot = none := by
              obtain ⟨_, _, hc⟩ := World.cells?_some (hf 0 (by omega)).1
              have hlen0 := (World.cells?_some (hf 0 (by omega)).1).2.1
              have hc0 := hc 0 (by omega)
              have hlt0 : 0 < (f 0).1.length := by omega
              rw [List.getElem?_eq_getElem hlt0] at hc0
              simpa [Addr.add] using World.cell?_spot hc0
            subst hspot
            have hb' : b < w.heap.size := by
              have := World.cells?_block (hf 0 (by omega)).1 (by omega)
              simpa [Addr.add] using this
            refine ⟨b, off, rfl, hb', fun h => h, rdRows_of _ _ fun i rr hi => ?_⟩
            obtain ⟨h1, rfl⟩ := hrow i rr hi
            obtain ⟨g1, g2, g3⟩ := hf i h1
            obtain ⟨_, hl2, hc⟩ := World.cells?_some g1
            refine ⟨mtL_len g2, rdCells_of_rdL _ _ _ g3 (mtL_leaf g2) fun j hj => ?_⟩
            have := hc j (by omega)
            rw [← this, hsz.1]
            congr 1
            simp only [addr_add]
    · rename_i fs hu
      split at h <;> first | (cases h; done) | skip
      rename_i r hr
      split at h <;> first | (cases h; done) | skip
      rename_i hsz
      simp only [Option.some.injEq] at h; subst h
      rw [DataW.trod_step] at hx
      unfold DataW.trodStep at hx
      rw [hu] at hx
      simp only [] at hx
      split at hx <;> first | (cases hx; done) | skip
      rename_i hlen
      rw [Option.map_eq_some_iff] at hx
      obtain ⟨xs, hxs, _⟩ := hx
      have key : ∀ (fl : List Field) (off : Nat) (r : List Lf) (xs : List (DataW H × List MemPlace)), shFs P (shapeOf P n) fl off = some r →
          (fl.mapM fun f => DataW.trod enc P w 0 (fun _ => true) true fuel f.type ((cs.drop f.offset).take (P.cellsOf f.type))) = some xs →
          ∃ vs, MtL r vs ∧ rdL w DM.none (fun _ => False) vs ((cs.drop off).take r.length) := by
        intro fl
        induction fl with
        | nil =>
          intro off r xs h _
          simp only [shFs, Option.some.injEq] at h; subst h
          exact ⟨[], by simp [MtL], by simp [rdL]⟩
        | cons f fl ih =>
          intro off r xs h hm
          simp only [shFs] at h
          split at h <;> first | (cases h; done) | skip
          rename_i r1 rs h1 h2
          split at h <;> first | (cases h; done) | skip
          rename_i hc
          simp only [Option.some.injEq] at h; subst h
          simp only [List.mapM_cons, Option.pure_def, Option.bind_eq_bind, Option.bind_eq_some_iff, Option.some.injEq] at hm
          obtain ⟨y, hy, ys, hys, rfl⟩ := hm
          obtain ⟨v1, a1, a2⟩ := shape_rd n h1 hy
          obtain ⟨v2, b1, b2⟩ := ih _ rs ys h2 hys
          refine ⟨v1 ++ v2, mtL_append a1 b1, ?_⟩
          have e : (cs.drop off).take (r1 ++ rs).length = (cs.drop off).take r1.length ++ (cs.drop (off + P.cellsOf f.type)).take rs.length := by
            rw [List.length_append, List.take_add, List.drop_drop, hc.2]
          rw [e]
          rw [hc.1, ← hc.2] at a2
          exact rdL_append _ _ _ _ a2 b2
      obtain ⟨vs, a1, a2⟩ := key fs.toList 0 r xs hr hxs
      refine ⟨vs, a1, ?_⟩
      rw [List.drop_zero, List.take_of_length_le (by omega)] at a2
      exact a2
    · cases h
theorem shape_in (n : Nat) {t : TypeId} {L : List Lf} {v : Value} {d : DataW H} {ps : List MemPlace} (hs : shapeOf P n t = some L) (h : DataW.Trod enc P w 0 (fun _ => true) true t v d ps) :
    ∃ vs, MtL L vs ∧ rdL w DM.none (fun _ => False) vs v.cells.toList := by
  obtain ⟨fuel, hf⟩ := h
  exact shape_rd n hs hf
end
end Go.Ml
namespace Go.Ml
open Go.ChangeShapes Go.WideShapes Go.ChangeAt Go.RowKit
def argV (g : Bool) (vs : List V) : V := if g = true then .agg vs else vs.headD .any
def ArgsMt : List (Bool × List Lf) → List V → Prop
  | [], vs => vs = []
  | s :: ss, vs => ∃ cs rest, vs = argV s.1 cs :: rest ∧ MtL s.2 cs ∧ ArgsMt ss rest
def argOk (P : Program) (t : TypeId) (s : Bool × List Lf) : Bool :=
  match P.underlying t with
  | some (.struct _) => s.1
  | some (.int _) | some .bool | some .string | some (.slice _) => !s.1
  | _ => false
def argsOk (P : Program) : List TypeId → List (Bool × List Lf) → Prop
  | [], ss => ss = []
  | t :: ts, ss => ∃ s rest, ss = s :: rest ∧ shapeOf P 20 t = some s.2 ∧ argOk P t s = true ∧ argsOk P ts rest
theorem args_in {H : Type} {enc : TypeId × Value → H} {P : Program} {w : World} {r : Reach} {b : Nat} : ∀ {ts : List TypeId} {ss : List (Bool × List Lf)} {vs : List Value} {ds : List (DataW H)} {ps : List MemPlace},
    argsOk P ts ss → (∀ (j : Nat) t v, ts[j]? = some t → vs[j]? = some v → Value.okWide P w r b t v) → DataW.TrodAll enc P w 0 (fun _ => true) true ts vs ds ps →
    ∃ Vs, ArgsMt ss Vs ∧ rdL w DM.none (fun _ => False) Vs vs
  | [], ss, [], ds, ps, h, _, _ => by simp only [argsOk] at h; subst h; exact ⟨[], rfl, by simp [rdL]⟩
  | [], _, _ :: _, ds, ps, _, _, ht => by cases ds <;> exact ht.elim
  | _ :: _, _, [], ds, ps, _, _, ht => by cases ds <;> exact ht.elim
  | t :: ts, ss, v :: vs, [], ps, _, _, ht => ht.elim
  | t :: ts, ss, v :: vs, d :: ds, ps, h, hw, ht => by
    simp only [argsOk] at h
    obtain ⟨s, rest, rfl, h1, h2, h3⟩ := h
    obtain ⟨p, q, k1, k2, _⟩ := ht
    obtain ⟨Vs, a1, a2⟩ := args_in h3 (fun j t' v' hj hv => hw (j + 1) t' v' (by simpa using hj) (by simpa using hv)) k2
    obtain ⟨cs, c1, c2⟩ := shape_in 20 h1 k1
    have hok := hw 0 t v rfl rfl
    refine ⟨argV s.1 cs :: Vs, ⟨cs, Vs, rfl, c1, a1⟩, ?_⟩
    simp only [rdL]
    refine ⟨v, vs, rfl, ?_, a2⟩
    unfold argOk at h2
    have one : (∀ cs', v ≠ .agg cs') → s.1 = false → s.2.length = 1 → rd w DM.none (fun _ => False) (argV s.1 cs) v := by
      intro hv hs hl
      have hvc : v.cells.toList = [v] := by cases v <;> first | rfl | (exact absurd rfl (hv _))
      rw [hvc] at c2
      have := mtL_len c1
      rw [hl] at this
      cases cs with
      | nil => simp at this
      | cons x xs =>
        simp only [rdL] at c2
        obtain ⟨y, ys, e, e2, _⟩ := c2
        simp only [List.cons.injEq] at e
        rw [hs]
        simp only [argV, Bool.false_eq_true, if_false, List.headD_cons]
        rw [e.1]; exact e2
    unfold shapeOf at h1
    split at h2
    · rename_i fs hu
      rw [h2]
      simp only [Value.okWide, hu] at hok
      obtain ⟨cs', rfl, _⟩ := hok
      simp only [argV, if_true, rd]
      exact ⟨cs', rfl, c2⟩
    · rename_i k hu
      rw [hu] at h1
      simp only [Option.some.injEq] at h1
      obtain ⟨n, rfl⟩ := okWide_int hu hok
      exact one (by intro cs' e; cases e) (by simpa using h2) (by rw [← h1]; rfl)
    · rename_i hu
      rw [hu] at h1
      simp only [Option.some.injEq] at h1
      obtain ⟨n, rfl⟩ := okWide_bool hu hok
      exact one (by intro cs' e; cases e) (by simpa using h2) (by rw [← h1]; rfl)
    · rename_i hu
      rw [hu] at h1
      simp only [Option.some.injEq] at h1
      obtain ⟨n, rfl⟩ := okWide_string hu hok
      exact one (by intro cs' e; cases e) (by simpa using h2) (by rw [← h1]; rfl)
    · rename_i e hu
      rw [hu] at h1
      simp only [] at h1
      obtain ⟨a0, l0, c0, rfl⟩ := okWide_slice hu hok
      refine one (by intro cs' e; cases e) (by simpa using h2) ?_
      split at h1 <;> first | (cases h1; done) | skip
      split at h1 <;> first | (cases h1; done) | skip
      simp only [Option.some.injEq] at h1
      rw [← h1]; rfl
    · cases h2
theorem trodAll_below {H : Type} {enc : TypeId × Value → H} {P : Program} (hl : laidOutB P = true) {W W' : World} (hb : Below W.heap.size W W') : ∀ {ts : List TypeId} {vs : List Value} {ds : List (DataW H)} {ps : List MemPlace},
    (ts.all fun t => P.readableRec t && decide (t < P.types.size)) = true → DataW.TrodAll enc P W 0 (fun _ => true) true ts vs ds ps → (∀ x ∈ ps, x.block < W.heap.size) →
    DataW.TrodAll enc P W' 0 (fun b => decide (b < W.heap.size)) true ts vs ds ps
  | [], [], [], ps, _, h, _ => h
  | [], _ :: _, ds, ps, _, ht, _ => by cases ds <;> exact ht.elim
  | [], [], _ :: _, ps, _, ht, _ => ht.elim
  | _ :: _, [], ds, ps, _, ht, _ => by cases ds <;> exact ht.elim
  | t :: ts, v :: vs, [], ps, _, ht, _ => ht.elim
  | t :: ts, v :: vs, d :: ds, ps, h, ht, hlt => by
    simp only [List.all_cons, Bool.and_eq_true, decide_eq_true_eq] at h
    obtain ⟨p, q, k1, k2, rfl⟩ := ht
    exact ⟨p, q, Below.trod hl h.1.1 h.1.2 k1 hb fun x hx => hlt x (by simp [hx]), trodAll_below hl hb (by simpa using h.2) k2 fun x hx => hlt x (by simp [hx]), rfl⟩
end Go.Ml
end
section
set_option linter.unusedSimpArgs false
set_option linter.unusedVariables false
namespace Go.Ml
theorem mtL_split : ∀ {a b : List Lf} {vs : List V}, MtL (a ++ b) vs → ∃ v1 v2, vs = v1 ++ v2 ∧ MtL a v1 ∧ MtL b v2
  | [], b, vs, h => ⟨[], vs, rfl, by simp [MtL], h⟩
  | x :: a, b, vs, h => by
    simp only [List.cons_append, MtL] at h
    obtain ⟨v, vs', rfl, h1, h2⟩ := h
    obtain ⟨v1, v2, rfl, h3, h4⟩ := mtL_split h2
    refine ⟨v :: v1, v2, rfl, ?_, h4⟩
    simp only [MtL]; exact ⟨v, v1, rfl, h1, h3⟩
theorem dec_list {α : Type} {row : List Lf} {f : α → List V} {W : α → Prop} (h : ∀ r, MtL row r → ∃ x, r = f x ∧ W x) {v : V} (hv : Mt (.sl row) v) : ∃ l : List α, v = .sl row.length (l.map f) ∧ wfL W l := by
  simp only [Mt] at hv
  obtain ⟨rows, rfl, hl, hr⟩ := hv
  have key : ∀ rows : List (List V), (∀ r ∈ rows, MtL row r) → ∃ l : List α, rows = l.map f ∧ ∀ x ∈ l, W x := by
    intro rows
    induction rows with
    | nil => intro _; exact ⟨[], rfl, by simp⟩
    | cons r rows ih =>
      intro hr
      obtain ⟨x, rfl, hx⟩ := h r (hr r (by simp))
      obtain ⟨l, rfl, hl⟩ := ih fun r hr' => hr r (by simp [hr'])
      exact ⟨x :: l, rfl, by simpa using ⟨hx, hl⟩⟩
  obtain ⟨l, rfl, hw⟩ := key rows hr
  exact ⟨l, rfl, by simpa [maxLen] using hl, hw⟩
theorem dec_intv {v : V} (h : Mt (.int .i64) v) : ∃ n, v = iv n ∧ (Lit.int .i64 n).wf = true := by simpa only [Mt] using h
theorem int_rng {n : Int} (h : (Lit.int .i64 n).wf = true) : -9223372036854775808 ≤ n ∧ n ≤ 9223372036854775807 := by
  simp only [Lit.wf, Bool.and_eq_true, decide_eq_true_eq] at h
  have h1 : IntKind.i64.min = -9223372036854775808 := by decide
  have h2 : IntKind.i64.max = 9223372036854775807 := by decide
  rw [h1, h2] at h; exact h
theorem dec_bool {v : V} (h : Mt .bool v) : ∃ b, v = .bool b := by simpa only [Mt] using h
theorem dec_one {l : Lf} {r : List V} (h : MtL [l] r) : ∃ v, r = [v] ∧ Mt l v := by
  simp only [MtL] at h
  obtain ⟨v, vs, rfl, h1, rfl⟩ := h
  exact ⟨v, rfl, h1⟩
abbrev shI : Lf := .sl [.int .i64]
abbrev shR : List Lf := [.bool, shI, shI]
abbrev shLk : List Lf := [.int .i64] ++ ([.int .i64] ++ (shR ++ (shR ++ shR)))
theorem dec_ints {v : V} (h : Mt shI v) : ∃ l : List Int, v = ints l ∧ l.length ≤ 9223372036854775807 := by
  obtain ⟨l, rfl, hl⟩ := dec_list (f := fun n => [iv n]) (W := fun _ => True) (fun r hr => by
    obtain ⟨v, rfl, g⟩ := dec_one hr
    obtain ⟨n, rfl, _⟩ := dec_intv g
    exact ⟨n, rfl, trivial⟩) h
  exact ⟨l, rfl, hl.1⟩
theorem dec_R {vs : List V} (h : MtL shR vs) : ∃ r : R, vs = r.cells ∧ r.wf := by
  simp only [MtL] at h
  obtain ⟨v1, _, rfl, h1, v2, _, rfl, h2, v3, _, rfl, h3, rfl⟩ := h
  obtain ⟨b, rfl⟩ := dec_bool h1
  obtain ⟨m, rfl, hm⟩ := dec_ints h2
  obtain ⟨d, rfl, hd⟩ := dec_ints h3
  exact ⟨⟨b, m, d⟩, rfl, hm, hd⟩
theorem dec_int1 {vs : List V} (h : MtL [.int .i64] vs) : ∃ n, vs = [iv n] := by
  obtain ⟨v, rfl, g⟩ := dec_one h
  obtain ⟨n, rfl, _⟩ := dec_intv g
  exact ⟨n, rfl⟩
theorem dec_Lk {vs : List V} (h : MtL shLk vs) : ∃ p : Lk, vs = p.cells ∧ p.wf := by
  obtain ⟨v1, v2, rfl, h1, h⟩ := mtL_split h
  obtain ⟨v2, v3, rfl, h2, h⟩ := mtL_split h
  obtain ⟨v3, v4, rfl, h3, h⟩ := mtL_split h
  obtain ⟨v4, v5, rfl, h4, h5⟩ := mtL_split h
  obtain ⟨a, rfl⟩ := dec_int1 h1
  obtain ⟨b, rfl⟩ := dec_int1 h2
  obtain ⟨x, rfl, hx⟩ := dec_R h3
  obtain ⟨y, rfl, hy⟩ := dec_R h4
  obtain ⟨z, rfl, hz⟩ := dec_R h5
  exact ⟨⟨a, b, x, y, z⟩, rfl, hx, hy, hz⟩
theorem dec_Lks {v : V} (h : Mt (.sl shLk) v) : ∃ l, v = lksV l ∧ wfL Lk.wf l := dec_list (fun _ hr => dec_Lk hr) h
def AllP {α : Type} (P : α → Prop) : List α → Prop
  | [] => True
  | x :: l => P x ∧ AllP P l
theorem AllP.mem {α : Type} {P : α → Prop} : ∀ {l : List α}, AllP P l → ∀ x ∈ l, P x
  | [], _, x, hx => by cases hx
  | y :: l, h, x, hx => by
    rcases List.mem_cons.1 hx with rfl | hx
    · exact h.1
    · exact AllP.mem h.2 x hx
end Go.Ml
namespace Go.Ml
theorem trod_len {H : Type} {enc : TypeId × Value → H} {P : Program} {w : World} {b : Nat} {sp : Nat → Bool} {hd : Bool} : ∀ {ts : List TypeId} {vs : List Value} {ds : List (DataW H)} {ps : List MemPlace},
    DataW.TrodAll enc P w b sp hd ts vs ds ps → ds.length = ts.length
  | [], [], [], _, _ => rfl
  | [], [], _ :: _, _, h => h.elim
  | [], _ :: _, ds, _, h => by cases ds <;> exact h.elim
  | _ :: _, [], ds, _, h => by cases ds <;> exact h.elim
  | _ :: _, _ :: _, [], _, h => h.elim
  | t :: ts, v :: vs, d :: ds, ps, h => by
    obtain ⟨p, q, _, h2, _⟩ := h
    simp [trod_len h2]
end Go.Ml
end
