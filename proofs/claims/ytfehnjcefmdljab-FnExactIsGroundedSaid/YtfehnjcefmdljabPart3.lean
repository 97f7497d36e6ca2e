/- A small language for the functions of this claim, its soundness, contracts. -/
import Derived.Test.YtfehnjcefmdljabPart2
section
set_option linter.unusedSimpArgs false
set_option linter.unusedVariables false
set_option maxRecDepth 100000
set_option maxHeartbeats 4000000
namespace Go.Ml
def F_laws_markIntS : Fn := ⟨2, 19, [.tmp 4], (.seq (.reg false 0 [oN 4 (.mov (cI 0))]) (.seq (.seq (.reg false 0 [oN 5 (.mov (cI 0))]) (.block 0 (.loop (.seq (.seq (.reg false 0 [oN 6 (oV 5), oN 7 (oV 0), oN 8 (.len (.t 7)), oN 9 (.bin .lss (.t 6) (.t 8))]) (.cond (.t 9) .skip (.exit 0))) (.seq (.block 1 (.seq (.reg false 0 [oN 12 (oV 0), oN 13 (oV 5), oN 14 (oV 1), oN 15 (.idx 1 (.t 12) (.t 13)), oS (.store 1 (.t 15) (.t 14))]) (.reg false 0 [oN 16 (oV 1), oN 17 (.bin .add (.t 16) (cI 1)), oN 1 (oV 17)]))) (.reg false 0 [oN 10 (oV 5), oN 11 (.bin .add (.t 10) (cI 1)), oN 5 (oV 11)])))))) (.seq (.reg false 0 [oN 18 (oV 1), oN 4 (oV 18)]) .ret)))⟩
structure D_laws_markIntS (T : Nat → Option Fn) : Prop where
  hT : T 57 = some F_laws_markIntS
def F_laws_heldIntS : Fn := ⟨2, 21, [.tmp 4], (.seq (.reg false 0 [oN 4 (.mov (cI 0))]) (.seq (.seq (.reg false 0 [oN 5 (.mov (cI 0))]) (.block 0 (.loop (.seq (.seq (.reg false 0 [oN 6 (oV 5), oN 7 (oV 0), oN 8 (.len (.t 7)), oN 9 (.bin .lss (.t 6) (.t 8))]) (.cond (.t 9) .skip (.exit 0))) (.seq (.block 1 (.seq (.seq (.reg false 0 [oN 12 (oV 0), oN 13 (oV 5), oN 14 (.idx 1 (.t 12) (.t 13)), oN 15 (.load 1 false (.t 14)), oN 16 (oV 1), oN 17 (.bin .neq (.t 15) (.t 16))]) (.cond (.t 17) (.seq (.reg false 0 [oN 4 (.mov (cI (-1)))]) .ret) .skip)) (.reg false 0 [oN 18 (oV 1), oN 19 (.bin .add (.t 18) (cI 1)), oN 1 (oV 19)]))) (.reg false 0 [oN 10 (oV 5), oN 11 (.bin .add (.t 10) (cI 1)), oN 5 (oV 11)])))))) (.seq (.reg false 0 [oN 20 (oV 1), oN 4 (oV 20)]) .ret)))⟩
structure D_laws_heldIntS (T : Nat → Option Fn) : Prop where
  hT : T 59 = some F_laws_heldIntS
def cnt (n : Nat) (k : Int) : List Int := (List.range n).map fun i => k + ((i : Nat) : Int)
end Go.Ml
end
section
set_option linter.unusedSimpArgs false
set_option linter.unusedVariables false
namespace Go.Ml
theorem Mk.go {T : Nat → Option Fn} {f : Nat} {t t' : V} {k k' : Int} (h : Mk T f t k t' k') {σ : Store} {v : V} {os : List Nat} (ho : OwV σ v t os) (hn : os.Nodup) :
    ∃ σ', Run T (.fn f [v, .int .i64 k] σ) (.fn (.int .i64 k') σ') ∧ OwV σ' v t' os ∧ Fr os σ σ' := by
  obtain ⟨σ', a, b, c, d⟩ := h σ v os ho hn
  exact ⟨σ', a, b, ⟨c, d⟩⟩
structure Cs (σ : Store) (cs ts : List V) (os : List Nat) : Prop where
  ow : OwL σ cs ts os
  nd : os.Nodup
theorem set_at {α : Type} {l : List α} {i : Nat} {x : α} (h : l[i]? = some x) : l.set i x = l := by
  apply List.ext_getElem?
  intro n
  rw [List.getElem?_set]
  split
  · subst_vars
    split
    · exact h.symm
    · rename_i hlt; rw [List.getElem?_eq_none (by omega)]
  · rfl
section
variable {σ σ' : Store} {cs ts : List V} {os : List Nat}
theorem Cs.lt (h : Cs σ cs ts os) : ∀ q ∈ os, q < σ.length := h.ow.lt
theorem Cs.frame (h : Cs σ cs ts os) (f : ∀ q ∈ os, objAt σ' q = objAt σ q) : Cs σ' cs ts os := ⟨h.ow.frame f, h.nd⟩
theorem Cs.fr {os' : List Nat} (h : Cs σ cs ts os) (f : Fr os' σ σ') (hd : ∀ q ∈ os, q ∉ os') : Cs σ' cs ts os := h.frame fun q hq => f.old q (h.lt q hq) (hd q hq)
theorem Cs.snoc (h : Cs σ cs ts os) {x : Option Obj} : Cs (σ ++ [x]) cs ts os := h.frame fun q hq => objAt_snoc_lt (h.lt q hq)
theorem Cs.set (h : Cs σ cs ts os) {o : Nat} {x : Option Obj} (ho : o ∉ os) : Cs (σ.set o x) cs ts os := h.frame fun q hq => objAt_setne fun e => ho (e ▸ hq)
theorem Cs.call {T : Nat → Option Fn} {f : Nat} {t t' v : V} {k k' : Int} (h : Cs σ cs ts os) (c : Nat) (hm : Mk T f t k t' k') (hv : cs[c]? = some v) (ht : ts[c]? = some t) :
    ∃ σ', Run T (.fn f [v, .int .i64 k] σ) (.fn (.int .i64 k') σ') ∧ Cs σ' cs (ts.set c t') os ∧ Fr os σ σ' := by
  obtain ⟨vc, oc, j1, j2, j3, j4, j5⟩ := h.ow.focus c t h.nd ht
  rw [hv] at j1
  cases j1
  obtain ⟨σ', m1, m2, m3⟩ := hm.go j2 j3
  refine ⟨σ', m1, ⟨?_, h.nd⟩, m3.mono j4⟩
  have := j5 σ' v t' m2 fun q hq' hq => m3.old q (h.lt q hq') hq
  rwa [set_at hv] at this
theorem Cs.part {T : Nat → Option Fn} {f : Nat} {t2 t2' : List V} {k k' : Int} (h : Cs σ cs ts os) (n m : Nat) (hm : Mk T f (.agg t2) k (.agg t2') k') (ht : (ts.drop n).take m = t2) (hn : n + m ≤ ts.length) :
    ∃ σ', Run T (.fn f [.agg ((cs.drop n).take m), .int .i64 k] σ) (.fn (.int .i64 k') σ') ∧ Cs σ' cs (ts.take n ++ t2' ++ ts.drop (n + m)) os ∧ Fr os σ σ' := by
  have e : ts = ts.take n ++ (t2 ++ ts.drop (n + m)) := by
    rw [← ht]
    conv => lhs; rw [← List.take_append_drop n ts, ← List.take_append_drop m (ts.drop n), List.drop_drop]
  have lt2 : t2.length = m := by rw [← ht]; simp; omega
  have h1 := h.ow
  rw [e] at h1
  obtain ⟨c1, c2, o1, o2, rfl, rfl, a1, a2⟩ := owL_split h1
  have l1 := a1.len
  obtain ⟨c3, c4, o3, o4, rfl, rfl, a3, a4⟩ := owL_split a2
  have l2 := a3.len
  have nd := h.nd
  have l1' : c1.length = n := by rw [l1]; simp; omega
  have e2 : ((c1 ++ (c3 ++ c4)).drop n).take m = c3 := by
    rw [← l1', List.drop_left, ← lt2, ← l2, List.take_left]
  rw [e2]
  simp only [List.nodup_append, List.mem_append] at nd
  obtain ⟨nd1, ⟨nd3, nd4, d34⟩, d1⟩ := nd
  obtain ⟨σ', m1, m2, m3⟩ := hm.go (owV_agg a3) nd3
  obtain ⟨cs', e3, m4⟩ := m2.agg_inv
  cases e3
  have lt := h.lt
  refine ⟨σ', m1, ⟨?_, h.nd⟩, m3.mono (by simp +contextual)⟩
  rw [List.append_assoc]
  refine owL_append (a1.frame fun q hq => m3.old q (lt q (by simp [hq])) fun hk => d1 q hq q (.inl hk) rfl) (owL_append m4 (a4.frame fun q hq => m3.old q (lt q (by simp [hq])) fun hk => d34 q hk q hq rfl))
theorem Cs.res (h : Cs σ cs ts os) (c : Nat) {v t : V} (hv : cs[c]? = some v) (ht : ts[c]? = some t) (hd : DepLe FD t) : resolve σ FD v = some t := by
  obtain ⟨vc, oc, j1, j2, _⟩ := h.ow.focus c t h.nd ht
  rw [hv] at j1
  cases j1
  exact ow_res FD j2 hd
end
end Go.Ml
end
section
set_option linter.unusedSimpArgs false
set_option linter.unusedVariables false
namespace Go.Ml
theorem mapL_eq (g : Nat → Option Nat) : ∀ l : List V, mapV.mapL g l = l.map (mapV g)
  | [] => rfl
  | x :: l => by simp only [mapV.mapL, List.map_cons, mapL_eq g l]
section
variable {σ σ2 : Store} {m : Nat}
theorem mapM_shift {n : Nat} (ih : ∀ v t : V, resolve σ n v = some t → resolve σ2 n (mapV (shiftN m) v) = some t) : ∀ (l l' : List V), l.mapM (resolve σ n) = some l' → (l.map (mapV (shiftN m))).mapM (resolve σ2 n) = some l'
  | [], l', h => by simpa using h
  | x :: l, l', h => by
    simp only [List.mapM_cons, Option.pure_def, Option.bind_eq_bind, Option.bind_eq_some_iff, List.map_cons] at h ⊢
    obtain ⟨a, ha, b, hb, e⟩ := h
    exact ⟨a, ih x a ha, b, mapM_shift ih l b hb, e⟩
theorem mapM_shiftR {n : Nat} (ih : ∀ v t : V, resolve σ n v = some t → resolve σ2 n (mapV (shiftN m) v) = some t) : ∀ (l : List (List V)) (l' : List (List V)), (l.mapM fun (r : List V) => r.mapM (resolve σ n)) = some l' →
    ((l.map fun r => r.map (mapV (shiftN m))).mapM fun (r : List V) => r.mapM (resolve σ2 n)) = some l'
  | [], l', h => by simpa using h
  | x :: l, l', h => by
    simp only [List.mapM_cons, Option.pure_def, Option.bind_eq_bind, Option.bind_eq_some_iff, List.map_cons] at h ⊢
    obtain ⟨a, ha, b, hb, e⟩ := h
    exact ⟨a, mapM_shift ih x a ha, b, mapM_shiftR ih l b hb, e⟩
theorem res_shift (hs : ∀ o, objAt σ2 (m + o) = (objAt σ o).map (mapO (shiftN m))) : ∀ (n : Nat) (v t : V), resolve σ n v = some t → resolve σ2 n (mapV (shiftN m) v) = some t
  | 0, _, _, h => by simp [resolve] at h
  | n + 1, v, t, h => by
    have ih := res_shift hs n
    cases v with
    | msl o s l =>
      simp only [mapV, shiftN, resolve, hs] at h ⊢
      cases ho : objAt σ o with
      | none => rw [ho] at h; cases h
      | some ob =>
        rw [ho] at h
        simp only [Option.map_some, mapO, List.length_map] at h ⊢
        split at h
        · rename_i hl
          rw [if_pos hl]
          obtain ⟨rows, h1, rfl⟩ := Option.map_eq_some_iff.1 h
          rw [Option.map_eq_some_iff]
          refine ⟨rows, ?_, rfl⟩
          rw [← List.map_drop, ← List.map_take]
          exact mapM_shiftR ih _ _ h1
        · cases h
    | ptr o r off =>
      simp only [mapV, shiftN, resolve, hs] at h ⊢
      cases ho : objAt σ o with
      | none => rw [ho] at h; cases h
      | some ob =>
        rw [ho] at h
        simp only [Option.map_some, mapO, List.getElem?_map] at h ⊢
        cases hr : ob.rows[r]? with
        | none => rw [hr] at h; cases h
        | some row =>
          rw [hr] at h
          simp only [Option.map_some] at h ⊢
          obtain ⟨row', h1, rfl⟩ := Option.map_eq_some_iff.1 h
          rw [Option.map_eq_some_iff]
          exact ⟨row', mapM_shift ih _ _ h1, rfl⟩
    | agg cs =>
      simp only [mapV, resolve] at h ⊢
      obtain ⟨cs', h1, rfl⟩ := Option.map_eq_some_iff.1 h
      rw [Option.map_eq_some_iff, mapL_eq]
      exact ⟨cs', mapM_shift ih _ _ h1, rfl⟩
    | tup cs =>
      simp only [mapV, resolve] at h ⊢
      obtain ⟨cs', h1, rfl⟩ := Option.map_eq_some_iff.1 h
      rw [Option.map_eq_some_iff, mapL_eq]
      exact ⟨cs', mapM_shift ih _ _ h1, rfl⟩
    | any => simp [resolve] at h
    | one => simpa only [mapV, resolve] using h
    | int k n => simpa only [mapV, resolve] using h
    | bool b => simpa only [mapV, resolve] using h
    | str b => simpa only [mapV, resolve] using h
    | nils => simpa only [mapV, resolve] using h
    | sl a b => simpa only [mapV, resolve] using h
    | fptr a b => simpa only [mapV, resolve] using h
end
def OwX (σ : Store) : List V → List (Bool × V) → List Nat → Prop
  | vs, [], os => vs = [] ∧ os = []
  | vs, (b, t) :: ts, os => ∃ v vs' o1 o2, vs = v :: vs' ∧ os = o1 ++ o2 ∧ (if b = true then OwV σ v t o1 else resolve σ FD v = some t ∧ o1 = []) ∧ OwX σ vs' ts o2
theorem OwX.shift {σ σ2 : Store} {n : Nat} (hs : ∀ o, objAt σ2 (n + o) = (objAt σ o).map (mapO (shiftN n))) : ∀ {ts : List (Bool × V)} {vs : List V} {os : List Nat}, OwX σ vs ts os → OwX σ2 (vs.map (mapV (shiftN n))) ts (os.map (n + ·))
  | [], vs, os, h => by simp only [OwX] at h ⊢; obtain ⟨rfl, rfl⟩ := h; exact ⟨rfl, rfl⟩
  | (b, t) :: ts, vs, os, h => by
    simp only [OwX] at h ⊢
    obtain ⟨v, vs', o1, o2, rfl, rfl, h1, h2⟩ := h
    refine ⟨_, _, o1.map (n + ·), o2.map (n + ·), rfl, by rw [List.map_append], ?_, OwX.shift hs h2⟩
    cases b with
    | true => simp only [if_true] at h1 ⊢; exact OwV.shift hs h1
    | false =>
      simp only [Bool.false_eq_true, if_false] at h1 ⊢
      exact ⟨res_shift hs _ _ _ h1.1, by rw [h1.2]; rfl⟩
structure GotX (σ σ2 : Store) (vs : List V) (ts : List (Bool × V)) (os : List Nat) : Prop where
  ow : OwX σ2 vs ts os
  nd : os.Nodup
  fresh : ∀ o ∈ os, σ.length ≤ o
  old : ∀ o, o < σ.length → objAt σ2 o = objAt σ o
  len : σ.length ≤ σ2.length
end Go.Ml
end
section
set_option linter.unusedSimpArgs false
set_option linter.unusedVariables false
namespace Go.Ml
theorem dep_ints (n : Nat) (l : List Int) : DepLe (n + 2) (ints l) := by
  simp only [DepLe]
  intro r hr c hc
  simp only [irows, List.mem_map] at hr
  obtain ⟨x, _, rfl⟩ := hr
  simp only [List.mem_cons, List.not_mem_nil, or_false] at hc
  subst hc; simp [DepLe]
end Go.Ml
end
section
set_option linter.unusedSimpArgs false
set_option linter.unusedVariables false
set_option maxRecDepth 100000
set_option maxHeartbeats 4000000
namespace Go.Ml
def F_spec_l07Near : Fn := ⟨2, 33, [.tmp 4], (.seq (.reg false 0 [oN 4 (.mov (.c (.nils)))]) (.seq (.reg false 1 [oN 8 (.mkSl 1 [.int .i64 0] 0 []), oK 5 1 (oV 8)]) (.seq (.seq (.reg false 0 [oN 9 (oV 0), oN 10 (.len (.t 9)), oN 11 (.mov (cI 0))]) (.block 0 (.loop (.seq (.reg false 0 [oN 12 (.bin .lss (.t 11) (.t 10))]) (.seq (.cond (.t 12) .skip (.exit 0)) (.seq (.block 1 (.seq (.reg false 1 [oK 13 1 (.idx 11 (.t 9) (.t 11)), oK 14 1 (.load 11 true (.t 13)), oN 7 (.alloc [.int .i64 0, .int .i64 0, .bool false, .nils, .nils, .bool false, .nils, .nils, .bool false, .nils, .nils]), ⟨none, none, 1, .store 11 (.t 7) (.t 14), []⟩]) (.seq (.seq (.reg false 0 [oN 15 (.fld 0 (.t 7)), oN 16 (.load 1 false (.t 15)), oN 17 (oV 1), oN 18 (.bin .eql (.t 16) (.t 17))]) (.cond (.t 18) (.reg false 0 [oN 19 (oV 5), oN 20 (.fld 1 (.t 7)), oN 21 (.load 1 false (.t 20)), oN 22 (.call 237 [(.t 19), (.t 21)]), oN 5 (oV 22)]) .skip)) (.seq (.reg false 0 [oN 23 (.fld 1 (.t 7)), oN 24 (.load 1 false (.t 23)), oN 25 (oV 1), oN 26 (.bin .eql (.t 24) (.t 25))]) (.cond (.t 26) (.reg false 0 [oN 27 (oV 5), oN 28 (.fld 0 (.t 7)), oN 29 (.load 1 false (.t 28)), oN 30 (.call 237 [(.t 27), (.t 29)]), oN 5 (oV 30)]) .skip))))) (.reg false 0 [oN 31 (.bin .add (.t 11) (cI 1)), oN 11 (oV 31)]))))))) (.seq (.reg false 0 [oN 32 (oV 5), oN 4 (oV 32)]) .ret))))⟩
structure D_spec_l07Near (T : Nat → Option Fn) : Prop where
  hT : T 238 = some F_spec_l07Near
  d_spec_l07Put : D_spec_l07Put T
def F_impl_neighborsOf : Fn := ⟨2, 35, [.tmp 4], (.seq (.reg false 0 [oN 4 (.mov (.c (.nils)))]) (.seq (.reg false 1 [oN 8 (.mkSl 1 [.int .i64 0] 0 []), oK 5 1 (oV 8)]) (.seq (.seq (.reg false 0 [oN 9 (oV 0), oN 10 (.len (.t 9)), oN 11 (.mov (cI 0))]) (.block 0 (.loop (.seq (.reg false 0 [oN 12 (.bin .lss (.t 11) (.t 10))]) (.seq (.cond (.t 12) .skip (.exit 0)) (.seq (.block 1 (.seq (.reg false 1 [oK 13 1 (.idx 11 (.t 9) (.t 11)), oK 14 1 (.load 11 true (.t 13)), oN 7 (.alloc [.int .i64 0, .int .i64 0, .bool false, .nils, .nils, .bool false, .nils, .nils, .bool false, .nils, .nils]), ⟨none, none, 1, .store 11 (.t 7) (.t 14), []⟩]) (.seq (.reg false 0 [oN 15 (.fld 0 (.t 7)), oN 16 (.load 1 false (.t 15)), oN 17 (oV 1), oN 18 (.bin .eql (.t 16) (.t 17))]) (.cond (.t 18) (.reg false 2 [oK 19 2 (oV 5), oK 20 2 (.fld 1 (.t 7)), oK 21 2 (.load 1 false (.t 20)), oN 22 (.mkSl 1 [.int .i64 0] 1 [(0, (.t 21))]), oK 23 1 (.app 1 8 (.t 19) (.t 22)), oK 5 2 (oV 23)]) (.seq (.reg false 0 [oN 24 (.fld 1 (.t 7)), oN 25 (.load 1 false (.t 24)), oN 26 (oV 1), oN 27 (.bin .eql (.t 25) (.t 26))]) (.cond (.t 27) (.reg false 2 [oK 28 2 (oV 5), oK 29 2 (.fld 0 (.t 7)), oK 30 2 (.load 1 false (.t 29)), oN 31 (.mkSl 1 [.int .i64 0] 1 [(0, (.t 30))]), oK 32 1 (.app 1 8 (.t 28) (.t 31)), oK 5 2 (oV 32)]) .skip)))))) (.reg false 0 [oN 33 (.bin .add (.t 11) (cI 1)), oN 11 (oV 33)]))))))) (.seq (.reg false 0 [oN 34 (oV 5), oN 4 (oV 34)]) .ret))))⟩
structure D_impl_neighborsOf (T : Nat → Option Fn) : Prop where
  hT : T 239 = some F_impl_neighborsOf
theorem lkLess_iff {k l : Lk} : lkLess k l = true ↔ k.a < l.a ∨ (k.a = l.a ∧ k.b < l.b) := by simp [lkLess]
theorem lkLess_trans {k l m : Lk} (h : lkLess k l = true) (h2 : lkLess l m = true) : lkLess k m = true := by
  rw [lkLess_iff] at *; omega
theorem lksOk_adj {l : List Lk} (h : lksOk l = true) {i : Nat} (hi : i + 1 < l.length) : lkLess (l.getD i default) (l.getD (i + 1) default) = true := by
  have := allB_iff.1 h (i + 1) hi
  unfold lksAt at this
  simp only [Bool.and_eq_true, Bool.or_eq_true, decide_eq_true_eq] at this
  rcases this.2 with h | h
  · omega
  · exact h
theorem lksOk_lt {l : List Lk} (h : lksOk l = true) : ∀ (j i : Nat), i < j → j < l.length → lkLess (l.getD i default) (l.getD j default) = true
  | 0, i, hi, _ => by omega
  | j + 1, i, hi, hj => by
    have ha := lksOk_adj h hj
    by_cases e : i = j
    · subst e; exact ha
    · exact lkLess_trans (lksOk_lt h j i (by omega) (by omega)) ha
theorem getD_get {α : Type} [Inhabited α] {l : List α} {i : Nat} (h : i < l.length) : l.getD i default = l[i] := by
  rw [List.getD_eq_getElem?_getD, List.getElem?_eq_getElem h]; rfl
theorem lksOk_pw {l : List Lk} (h : lksOk l = true) : l.Pairwise fun k l => lkLess k l = true ∧ 0 ≤ k.a ∧ k.a < k.b ∧ 0 ≤ l.a ∧ l.a < l.b := by
  rw [List.pairwise_iff_getElem]
  intro i j hi hj hij
  have h1 := lksOk_lt h j i hij hj
  have h2 := lkOk_nd (lksOk_at h hi)
  have h3 := lkOk_nd (lksOk_at h hj)
  rw [getD_get hi, getD_get hj] at h1
  rw [getD_get hi] at h2
  rw [getD_get hj] at h3
  exact ⟨h1, h2.1, h2.2.1, h3.1, h3.2.1⟩
theorem lksOk_mem {l : List Lk} (h : lksOk l = true) {x : Lk} (hx : x ∈ l) : lkOk x = true := by
  obtain ⟨i, hi⟩ := List.mem_iff_getElem?.1 hx
  have hlt := (List.getElem?_eq_some_iff.1 hi).1
  have := lksOk_at h hlt
  rwa [List.getD_eq_getElem?_getD, hi] at this
def nbOf (v : Int) (x : Lk) : Option Int := if x.a = v then some x.b else if x.b = v then some x.a else none
def nbStep (v : Int) (out : List Int) (x : Lk) : List Int := if x.b = v then putI (if x.a = v then putI out x.b else out) x.a else (if x.a = v then putI out x.b else out)
def nbS (l : List Lk) (v : Int) (i : Nat) : List Int := (l.take i).foldl (nbStep v) []
def nbI (l : List Lk) (v : Int) (i : Nat) : List Int := (l.take i).filterMap (nbOf v)
theorem nbS_0 (l : List Lk) (v : Int) : nbS l v 0 = [] := by simp [nbS]
theorem nbI_0 (l : List Lk) (v : Int) : nbI l v 0 = [] := by simp [nbI]
theorem take_snoc {α : Type} [Inhabited α] {l : List α} {i : Nat} (h : i < l.length) : l.take (i + 1) = l.take i ++ [l.getD i default] := by
  rw [List.take_add_one, List.getElem?_eq_getElem h, List.getD_eq_getElem?_getD, List.getElem?_eq_getElem h]; rfl
theorem nbS_s (l : List Lk) (v : Int) {i : Nat} (h : i < l.length) : nbS l v (i + 1) = nbStep v (nbS l v i) (l.getD i default) := by
  unfold nbS; rw [take_snoc h, List.foldl_append]; rfl
theorem nbI_s (l : List Lk) (v : Int) {i : Nat} (h : i < l.length) : nbI l v (i + 1) = nbI l v i ++ (match nbOf v (l.getD i default) with | some n => [n] | none => []) := by
  unfold nbI; rw [take_snoc h, List.filterMap_append, List.filterMap_cons]
  cases nbOf v (l.getD i default) <;> rfl
theorem nbI_len (l : List Lk) (v : Int) (i : Nat) : (nbI l v i).length ≤ i := by
  unfold nbI
  exact Nat.le_trans (List.length_filterMap_le _ _) (by simp; omega)
theorem nbStep_len (v : Int) (out : List Int) (x : Lk) : (nbStep v out x).length ≤ out.length + 2 := by
  have h1 := putI_len (if x.a = v then putI out x.b else out) x.a
  have h2 := putI_len out x.b
  unfold nbStep
  split at h1 <;> (split <;> (try split) <;> omega)
theorem nbS_len (l : List Lk) (v : Int) {i : Nat} (h : i ≤ l.length) : (nbS l v i).length ≤ 2 * i := by
  induction i with
  | zero => simp [nbS_0]
  | succ i ih =>
    rw [nbS_s l v h]
    have := ih (by omega)
    have := nbStep_len v (nbS l v i) (l.getD i default)
    omega
theorem nbStep_mem {v : Int} {out : List Int} {x : Lk} {a : Int} : a ∈ nbStep v out x ↔ a ∈ out ∨ (x.a = v ∧ a = x.b) ∨ (x.b = v ∧ a = x.a) := by
  unfold nbStep
  split <;> split <;> simp_all [putI_mem] <;> (constructor <;> rintro (h | h) <;> simp_all)
theorem nbF_mem {v : Int} : ∀ (l : List Lk) (out : List Int) (a : Int), a ∈ l.foldl (nbStep v) out ↔ a ∈ out ∨ ∃ x ∈ l, (x.a = v ∧ a = x.b) ∨ (x.b = v ∧ a = x.a)
  | [], out, a => by simp
  | x :: l, out, a => by
    rw [List.foldl_cons, nbF_mem l, nbStep_mem]
    simp only [List.mem_cons, exists_eq_or_imp, or_assoc]
theorem nbStep_asc {v : Int} {out : List Int} {x : Lk} (h : Asc out) : Asc (nbStep v out x) := by
  unfold nbStep
  split <;> split <;> first | exact putI_asc (putI_asc h) | exact putI_asc h | exact h
theorem nbF_asc {v : Int} : ∀ (l : List Lk) (out : List Int), Asc out → Asc (l.foldl (nbStep v) out)
  | [], out, h => h
  | x :: l, out, h => nbF_asc l _ (nbStep_asc h)
theorem nb_eq {l : List Lk} (h : lksOk l = true) (v : Int) : nbS l v l.length = nbI l v l.length := by
  unfold nbS nbI
  rw [List.take_length]
  refine asc_ext (nbF_asc _ _ .nil) ?_ fun a => ?_
  · refine List.Pairwise.filterMap _ ?_ (lksOk_pw h)
    rintro k m ⟨h1, h2, h3, h4, h5⟩ b hb b' hb'
    rw [lkLess_iff] at h1
    unfold nbOf at hb hb'
    split at hb <;> split at hb' <;> (try split at hb) <;> (try split at hb') <;> simp_all <;> omega
  · rw [nbF_mem, List.mem_filterMap]
    simp only [List.not_mem_nil, false_or]
    constructor
    · rintro ⟨x, hx, h1⟩
      refine ⟨x, hx, ?_⟩
      have := lkOk_nd (lksOk_mem h hx)
      unfold nbOf
      rcases h1 with ⟨h1, rfl⟩ | ⟨h1, rfl⟩
      · rw [if_pos h1]
      · rw [if_neg (by omega), if_pos h1]
    · rintro ⟨x, hx, h1⟩
      refine ⟨x, hx, ?_⟩
      unfold nbOf at h1
      split at h1
      · simp_all
      · split at h1 <;> simp_all
theorem c_l07Near {T : Nat → Option Fn} (h : D_spec_l07Near T) {l : List Lk} {v : Int} (hw : wfL Lk.wf l := by first | omega | assumption | (simp; omega)) (hl : l.length ≤ 1048576 := by first | omega | assumption | (simp; omega)) (hok : lksOk l = true := by assumption) : PF T 238 [lksV l, iv v] (ints (nbI l v l.length)) := by
  rw [← nb_eq hok]
  refine pf_endL (fun _ _ => false) h.hT rfl rfl ?_
  dsimp only [F_spec_l07Near, oN, oS, oG, oK, oA, oH, oV, cI]
  (refine ev ?_; try with_reducible exact True.intro)
  refine loop_at (fun _ _ => false) (α := Nat) (fun i => ⟨argE [.any, iv v, .any, .any, .nils, ints (nbS l v i), .any, .any, .any, lksV l, iv (l.length : Nat), iv (i : Nat)], [], 0, 0, [], []⟩) (fun i => i ≤ l.length) (fun i => l.length - i) rfl 0 ?_ ?_ ?_
  · omega
  · rw [nbS_0, show ints [] = .sl 1 [] from rfl]
    (refine Fg_re [] (by simp) (by intro p hp; cases hp) rfl ?_) <;> (try (refine ev ?_; try with_reducible exact True.intro)) <;> (repeat' (first | exact True.intro | omega | exact CanE_ptr rfl (by simp) | refine ⟨?_, ?_⟩ | exact of_eq_true (CanE_nil _ _ _) | exact CanE_of rfl (by simp; done) | exact CanE_of rfl rfl | (refine CanE_msl rfl ?_ rfl; simp [irows]; done) | (refine CanE_msl rfl ?_ rfl; simp [irows]; omega) | (refine CanE_frz ?_ ?_; (focus ((refine ev ?_; try with_reducible exact True.intro); done)); (intro q hq k s0 l0; simp; done))))
  · intro i hi
    have hnl := nbS_len l v hi
    (refine ev ?_; try with_reducible exact True.intro)
    refine brK_dec (fun hc => ?_) fun hc => ?_ <;> (refine ev2 @hc @mg ?_; try with_reducible exact True.intro)
    · have hil : i < l.length := by omega
      have es := nbS_s l v hil
      unfold nbStep at es
      by_cases ha : (l.getD i default).a = v
      · have c1 := c_l07Put h.d_spec_l07Put (l := nbS l v i) (n := (l.getD i default).b) (by omega)
        simp only [if_pos ha] at es
        by_cases hb : (l.getD i default).b = v
        · have := lkOk_nd (lksOk_at hok hil)
          omega
        · rw [if_neg hb] at es
          (refine ev1 @ha ?_; try with_reducible exact True.intro)
          refine PFK_of c1 ?_
          (refine ev1 @hb ?_; try with_reducible exact True.intro)
          rw [← es]
          exact ⟨i + 1, by omega, by omega, by (refine Fg_re [] (by simp) (by intro p hp; cases hp) rfl ?_) <;> (try (refine ev ?_; try with_reducible exact True.intro)) <;> (repeat' (first | exact True.intro | omega | exact CanE_ptr rfl (by simp) | refine ⟨?_, ?_⟩ | exact of_eq_true (CanE_nil _ _ _) | exact CanE_of rfl (by simp; done) | exact CanE_of rfl rfl | (refine CanE_msl rfl ?_ rfl; simp [irows]; done) | (refine CanE_msl rfl ?_ rfl; simp [irows]; omega) | (refine CanE_frz ?_ ?_; (focus ((refine ev ?_; try with_reducible exact True.intro); done)); (intro q hq k s0 l0; simp; done))))⟩
      · have c1 := c_l07Put h.d_spec_l07Put (l := nbS l v i) (n := (l.getD i default).a) (by omega)
        simp only [if_neg ha] at es
        by_cases hb : (l.getD i default).b = v
        · rw [if_pos hb] at es
          (refine ev2 @ha @hb ?_; try with_reducible exact True.intro)
          refine PFK_of c1 ?_
          (refine ev ?_; try with_reducible exact True.intro)
          rw [← es]
          exact ⟨i + 1, by omega, by omega, by (refine Fg_re [] (by simp) (by intro p hp; cases hp) rfl ?_) <;> (try (refine ev ?_; try with_reducible exact True.intro)) <;> (repeat' (first | exact True.intro | omega | exact CanE_ptr rfl (by simp) | refine ⟨?_, ?_⟩ | exact of_eq_true (CanE_nil _ _ _) | exact CanE_of rfl (by simp; done) | exact CanE_of rfl rfl | (refine CanE_msl rfl ?_ rfl; simp [irows]; done) | (refine CanE_msl rfl ?_ rfl; simp [irows]; omega) | (refine CanE_frz ?_ ?_; (focus ((refine ev ?_; try with_reducible exact True.intro); done)); (intro q hq k s0 l0; simp; done))))⟩
        · rw [if_neg hb] at es
          (refine ev2 @ha @hb ?_; try with_reducible exact True.intro)
          rw [← es]
          exact ⟨i + 1, by omega, by omega, by (refine Fg_re [] (by simp) (by intro p hp; cases hp) rfl ?_) <;> (try (refine ev ?_; try with_reducible exact True.intro)) <;> (repeat' (first | exact True.intro | omega | exact CanE_ptr rfl (by simp) | refine ⟨?_, ?_⟩ | exact of_eq_true (CanE_nil _ _ _) | exact CanE_of rfl (by simp; done) | exact CanE_of rfl rfl | (refine CanE_msl rfl ?_ rfl; simp [irows]; done) | (refine CanE_msl rfl ?_ rfl; simp [irows]; omega) | (refine CanE_frz ?_ ?_; (focus ((refine ev ?_; try with_reducible exact True.intro); done)); (intro q hq k s0 l0; simp; done))))⟩
    · have : i = l.length := by omega
      subst this
      exact laxV_refl _
theorem po_neighborsOf {T : Nat → Option Fn} (h : D_impl_neighborsOf T) {l : List Lk} {v : Int} (hw : wfL Lk.wf l := by first | omega | assumption | (simp; omega)) (hl : l.length ≤ 1048576 := by first | omega | assumption | (simp; omega)) : PO T 239 [lksV l, iv v] (ints (nbI l v l.length)) := by
  refine po_end2 (fun _ _ => false) h.hT rfl rfl ?_
  dsimp only [F_impl_neighborsOf, oN, oS, oG, oK, oA, oH, oV, cI, St.enter, List.length_cons, List.length_nil, Nat.zero_add]
  (refine ew ?_; try with_reducible exact True.intro)
  refine loop_at (fun _ _ => false) (α := Nat × List Int) (fun q => ⟨argE [lksV l, iv v, .any, .any, .nils, slV q.2.length, .any, .any, .any, lksV l, iv (l.length : Nat), iv (q.1 : Nat)], slS 1 (irows q.2), 0, 0, [], []⟩) (fun q => q.1 ≤ l.length ∧ q.2 = nbI l v q.1) (fun q => l.length - q.1) rfl (0, []) ?_ ?_ ?_
  · exact ⟨by omega, (nbI_0 l v).symm⟩
  · (refine Fg_re [] (by simp) (by intro p hp; cases hp) rfl ?_) <;> (try (refine ew ?_; try with_reducible exact True.intro)) <;> (repeat' (first | exact True.intro | omega | exact CanE_ptr rfl (by simp) | refine ⟨?_, ?_⟩ | exact of_eq_true (CanE_nil _ _ _) | exact CanE_of rfl (by simp; done) | exact CanE_of rfl rfl | (refine CanE_msl rfl ?_ rfl; simp [irows]; done) | (refine CanE_msl rfl ?_ rfl; simp [irows]; omega) | (refine CanE_frz ?_ ?_; (focus ((refine ew ?_; try with_reducible exact True.intro); done)); (intro q hq k s0 l0; simp; done))))
  · rintro ⟨i, xs⟩ ⟨hi, hx0⟩
    dsimp only at hi hx0
    have hx : xs.length ≤ 1048576 := by rw [hx0]; have := nbI_len l v i; omega
    by_cases hc : (i : Int) < (l.length : Nat)
    · have hil : i < l.length := by omega
      have es := nbI_s l v hil
      rw [← hx0] at es
      unfold nbOf at es
      by_cases ha : (l.getD i default).a = v
      · rw [if_pos ha] at es
        (rcases xs with _ | ⟨x, xs⟩ <;> simp only [List.length_nil, List.length_cons, slV_0, slV_s, slI_nil, slI_cons] at hx ⊢)
        · (refine ew3 @hc @mg @ha ?_; try with_reducible exact True.intro)
          exact ⟨by omega, (i + 1, ([]) ++ [(l.getD i default).b]), by dsimp only; omega, ⟨by dsimp only; omega, es.symm⟩, by (simp only [← irows_snoc]; refine Fg_push (k := 2) (still_isnoc _ _) rfl ?_; (try (refine ew ?_; try with_reducible exact True.intro)); (repeat' (first | exact True.intro | omega | exact CanE_push (by simp) (by simp) (by simp) | refine ⟨?_, ?_⟩ | exact CanE_of rfl (by simp))))⟩
        · (refine ew3 @hc @mg @ha ?_; try with_reducible exact True.intro)
          exact ⟨by omega, (i + 1, (x :: xs) ++ [(l.getD i default).b]), by dsimp only; omega, ⟨by dsimp only; omega, es.symm⟩, by (simp only [← irows_snoc]; refine Fg_push (k := 3) (still_isnoc _ _) rfl ?_; (try (refine ew ?_; try with_reducible exact True.intro)); (repeat' (first | exact True.intro | omega | exact CanE_push (by simp) (by simp) (by simp) | refine ⟨?_, ?_⟩ | exact CanE_of rfl (by simp))))⟩
      · by_cases hb : (l.getD i default).b = v
        · rw [if_neg ha, if_pos hb] at es
          (rcases xs with _ | ⟨x, xs⟩ <;> simp only [List.length_nil, List.length_cons, slV_0, slV_s, slI_nil, slI_cons] at hx ⊢)
          · (refine ew4 @hc @mg @ha @hb ?_; try with_reducible exact True.intro)
            exact ⟨by omega, (i + 1, ([]) ++ [(l.getD i default).a]), by dsimp only; omega, ⟨by dsimp only; omega, es.symm⟩, by (simp only [← irows_snoc]; refine Fg_push (k := 2) (still_isnoc _ _) rfl ?_; (try (refine ew ?_; try with_reducible exact True.intro)); (repeat' (first | exact True.intro | omega | exact CanE_push (by simp) (by simp) (by simp) | refine ⟨?_, ?_⟩ | exact CanE_of rfl (by simp))))⟩
          · (refine ew4 @hc @mg @ha @hb ?_; try with_reducible exact True.intro)
            exact ⟨by omega, (i + 1, (x :: xs) ++ [(l.getD i default).a]), by dsimp only; omega, ⟨by dsimp only; omega, es.symm⟩, by (simp only [← irows_snoc]; refine Fg_push (k := 3) (still_isnoc _ _) rfl ?_; (try (refine ew ?_; try with_reducible exact True.intro)); (repeat' (first | exact True.intro | omega | exact CanE_push (by simp) (by simp) (by simp) | refine ⟨?_, ?_⟩ | exact CanE_of rfl (by simp))))⟩
        · rw [if_neg ha, if_neg hb, List.append_nil] at es
          (rcases xs with _ | ⟨x, xs⟩ <;> simp only [List.length_nil, List.length_cons, slV_0, slV_s, slI_nil, slI_cons] at hx ⊢)
          · (refine ew4 @hc @mg @ha @hb ?_; try with_reducible exact True.intro)
            exact ⟨(i + 1, []), by dsimp only; omega, ⟨by dsimp only; omega, es.symm⟩, by (refine Fg_re [] (by simp) (by intro p hp; cases hp) rfl ?_) <;> (try (refine ew ?_; try with_reducible exact True.intro)) <;> (repeat' (first | exact True.intro | omega | exact CanE_ptr rfl (by simp) | refine ⟨?_, ?_⟩ | exact of_eq_true (CanE_nil _ _ _) | exact CanE_of rfl (by simp; done) | exact CanE_of rfl rfl | (refine CanE_msl rfl ?_ rfl; simp [irows]; done) | (refine CanE_msl rfl ?_ rfl; simp [irows]; omega) | (refine CanE_frz ?_ ?_; (focus ((refine ew ?_; try with_reducible exact True.intro); done)); (intro q hq k s0 l0; simp; done))))⟩
          · (refine ew4 @hc @mg @ha @hb ?_; try with_reducible exact True.intro)
            exact ⟨(i + 1, x :: xs), by dsimp only; omega, ⟨by dsimp only; omega, es.symm⟩, by (refine Fg_re [(0, _)] (by simp) (by intro p hp; simp only [List.mem_cons, List.not_mem_nil, or_false] at hp; rcases hp with rfl <;> refine ⟨rfl, ?_⟩ <;> first | exact ir_still _ | simp [stillR, V.still]) rfl ?_) <;> (try (refine ew ?_; try with_reducible exact True.intro)) <;> (repeat' (first | exact True.intro | omega | exact CanE_ptr rfl (by simp) | refine ⟨?_, ?_⟩ | exact of_eq_true (CanE_nil _ _ _) | exact CanE_of rfl (by simp; done) | exact CanE_of rfl rfl | (refine CanE_msl rfl ?_ rfl; simp [irows]; done) | (refine CanE_msl rfl ?_ rfl; simp [irows]; omega) | (refine CanE_frz ?_ ?_; (focus ((refine ew ?_; try with_reducible exact True.intro); done)); (intro q hq k s0 l0; simp; done))))⟩
    · have : i = l.length := by omega
      subst this
      rw [← hx0]
      (rcases xs with _ | ⟨x, xs⟩ <;> simp only [List.length_nil, List.length_cons, slV_0, slV_s, slI_nil, slI_cons] at hx ⊢)
      · (refine ew1 @hc ?_; try with_reducible exact True.intro)
        exact fin_nil
      · (refine ew1 @hc ?_; try with_reducible exact True.intro)
        exact fin_ints (o := 0) (l := x :: xs) rfl
end Go.Ml
end
section
set_option linter.unusedSimpArgs false
set_option linter.unusedVariables false
set_option maxRecDepth 100000
set_option maxHeartbeats 4000000
namespace Go.Ml
abbrev nbA (s : List Lk) (x : Int) : List Int := nbI s x s.length
inductive Rch (s : List Lk) (v : Int) : Int → Prop
  | base : Rch s v v
  | step {a b : Int} : Rch s v a → b ∈ nbA s a → Rch s v b
theorem nbA_mem {s : List Lk} {x b : Int} : b ∈ nbA s x ↔ ∃ l ∈ s, nbOf x l = some b := by
  unfold nbA nbI
  rw [List.take_length, List.mem_filterMap]
theorem nbA_bd {s : List Lk} (h : lksOk s = true) {x b : Int} (hb : b ∈ nbA s x) : 0 ≤ b ∧ b < 10 ∧ 0 ≤ x ∧ x < 10 := by
  obtain ⟨l, hl, e⟩ := nbA_mem.1 hb
  have := lkOk_nd (lksOk_mem h hl)
  unfold nbOf at e
  split at e
  · cases e; omega
  · split at e
    · cases e; omega
    · cases e
theorem rch_bd {s : List Lk} (h : lksOk s = true) {v b : Int} (hr : Rch s v b) : b = v ∨ (0 ≤ b ∧ b < 10 ∧ 0 ≤ v ∧ v < 10) := by
  induction hr with
  | base => exact .inl rfl
  | step ha hb ih =>
    have := nbA_bd h hb
    rcases ih with rfl | ih
    · exact .inr ⟨this.1, this.2.1, this.2.2⟩
    · exact .inr ⟨this.1, this.2.1, ih.2.2⟩
theorem rch_len {s : List Lk} (h : lksOk s = true) {v : Int} {l : List Int} (hn : l.Nodup) (hl : ∀ a ∈ l, Rch s v a) : l.length ≤ 10 := by
  by_cases hv : 0 ≤ v ∧ v < 10
  · have := nodup_le (a := l) (b := [0, 1, 2, 3, 4, 5, 6, 7, 8, 9]) hn fun a ha => by
      have hb : 0 ≤ a ∧ a < 10 := by
        rcases rch_bd h (hl a ha) with rfl | k
        · exact hv
        · exact ⟨k.1, k.2.1⟩
      simp only [List.mem_cons, List.not_mem_nil, or_false]
      omega
    simpa using this
  · have := nodup_le (a := l) (b := [v]) hn fun a ha => by
      rcases rch_bd h (hl a ha) with rfl | k
      · simp
      · exact absurd k.2.2 hv
    simp at this
    omega
def cpRow (s : List Lk) (out : List Int) (x : Int) : List Int := (nbA s x).foldl putI out
def cpRound (s : List Lk) (out : List Int) : List Int := out.foldl (cpRow s) out
def cpS (s : List Lk) (v : Int) : Nat → List Int
  | 0 => [v]
  | n + 1 => cpRound s (cpS s v n)
theorem putF_mem : ∀ (l out : List Int) (a : Int), a ∈ l.foldl putI out ↔ a ∈ out ∨ a ∈ l
  | [], out, a => by simp
  | x :: l, out, a => by
    rw [List.foldl_cons, putF_mem l, putI_mem, List.mem_cons]
    constructor
    · rintro ((h | h) | h)
      · exact .inr (.inl h)
      · exact .inl h
      · exact .inr (.inr h)
    · rintro (h | h | h)
      · exact .inl (.inr h)
      · exact .inl (.inl h)
      · exact .inr h
theorem putF_asc : ∀ (l out : List Int), Asc out → Asc (l.foldl putI out)
  | [], out, h => h
  | x :: l, out, h => putF_asc l _ (putI_asc h)
theorem cpF_mem {s : List Lk} : ∀ (l out : List Int) (a : Int), a ∈ l.foldl (cpRow s) out ↔ a ∈ out ∨ ∃ x ∈ l, a ∈ nbA s x
  | [], out, a => by simp
  | x :: l, out, a => by
    rw [List.foldl_cons, cpF_mem l]
    unfold cpRow
    rw [putF_mem, or_assoc]
    simp only [List.mem_cons, exists_eq_or_imp]
theorem cpF_asc {s : List Lk} : ∀ (l out : List Int), Asc out → Asc (l.foldl (cpRow s) out)
  | [], out, h => h
  | x :: l, out, h => cpF_asc l _ (putF_asc _ _ h)
theorem cpS_asc (s : List Lk) (v : Int) : ∀ n, Asc (cpS s v n)
  | 0 => by unfold Asc cpS; simp
  | n + 1 => cpF_asc _ _ (cpS_asc s v n)
theorem cpS_rch (s : List Lk) (v : Int) : ∀ n, ∀ a ∈ cpS s v n, Rch s v a
  | 0, a, h => by simp [cpS] at h; subst h; exact .base
  | n + 1, a, h => by
    rcases (cpF_mem _ _ _).1 h with h | ⟨x, hx, h⟩
    · exact cpS_rch s v n a h
    · exact .step (cpS_rch s v n x hx) h
theorem cpS_base (s : List Lk) (v : Int) : ∀ n, v ∈ cpS s v n
  | 0 => by simp [cpS]
  | n + 1 => (cpF_mem _ _ _).2 (.inl (cpS_base s v n))
theorem cpS_len {s : List Lk} (h : lksOk s = true) (v : Int) (n : Nat) : (cpS s v n).length ≤ 10 := rch_len h (asc_nodup (cpS_asc s v n)) (cpS_rch s v n)
def Closed (s : List Lk) (l : List Int) : Prop := ∀ a ∈ l, ∀ b ∈ nbA s a, b ∈ l
theorem cpS_grow {s : List Lk} (v : Int) : ∀ n, Closed s (cpS s v n) ∨ n + 1 ≤ (cpS s v n).length
  | 0 => .inr (by simp [cpS])
  | n + 1 => by
    have hsub : ∀ a ∈ cpS s v n, a ∈ cpS s v (n + 1) := fun a ha => (cpF_mem _ _ _).2 (.inl ha)
    rcases Classical.em (Closed s (cpS s v n)) with hc | hc
    · left
      intro a ha b hb
      have ha' : a ∈ cpS s v n := by
        rcases (cpF_mem _ _ _).1 ha with h | ⟨x, hx, h⟩
        · exact h
        · exact hc x hx a h
      exact hsub b (hc a ha' b hb)
    · right
      have hl := (cpS_grow v n).resolve_left hc
      have : ∃ a ∈ cpS s v n, ∃ b ∈ nbA s a, b ∉ cpS s v n := by
        refine Classical.byContradiction fun hne => hc fun a ha b hb => Classical.byContradiction fun hnb => hne ⟨a, ha, b, hb, hnb⟩
      obtain ⟨a, ha, b, hb, hnb⟩ := this
      have := nodup_le (a := b :: cpS s v n) (b := cpS s v (n + 1)) (List.nodup_cons.2 ⟨hnb, asc_nodup (cpS_asc s v n)⟩) fun x hx => by
        rcases List.mem_cons.1 hx with rfl | hx
        · exact (cpF_mem _ _ _).2 (.inr ⟨a, ha, hb⟩)
        · exact hsub x hx
      simp only [List.length_cons] at this
      omega
theorem cpS_closed {s : List Lk} (h : lksOk s = true) (v : Int) : Closed s (cpS s v 10) := by
  rcases cpS_grow (s := s) v 10 with hc | hc
  · exact hc
  · have := cpS_len h v 10; omega
def cpV (s : List Lk) (v : Int) : List Int := cpS s v 10
theorem cpV_mem {s : List Lk} (h : lksOk s = true) {v a : Int} : a ∈ cpV s v ↔ Rch s v a := by
  constructor
  · exact cpS_rch s v 10 a
  · intro hr
    induction hr with
    | base => exact cpS_base s v 10
    | step _ hb ih => exact cpS_closed h v _ ih _ hb
def cpM (s : List Lk) (v : Int) : List Int := if lksOk s = true then cpV s v else []
theorem cpM_t {s : List Lk} {v : Int} (h : lksOk s = true) : cpM s v = cpV s v := if_pos h
theorem cpM_f {s : List Lk} {v : Int} (h : lksOk s = false) : cpM s v = [] := if_neg (by rw [h]; simp)
theorem cpM_len (s : List Lk) (v : Int) : (cpM s v).length ≤ 10 := by
  unfold cpM
  split
  · rename_i h; exact cpS_len h v 10
  · simp
theorem sortI_asc {l : List Int} (hn : l.Nodup) : Asc (sortI l) := by
  have h1 : (sortI l).Pairwise fun a b => (decide (a ≤ b)) = true := by
    unfold sortI
    exact List.pairwise_mergeSort (fun a b c h1 h2 => by simp at *; omega) (fun a b => by simp; omega) l
  have h2 : (sortI l).Nodup := (List.mergeSort_perm l _).nodup_iff.2 hn
  unfold Asc
  refine (h1.and h2).imp fun ⟨h, hne⟩ => ?_
  have : _ ≤ _ := of_decide_eq_true h
  omega
theorem sortI_mem {l : List Int} {a : Int} : a ∈ sortI l ↔ a ∈ l := (List.mergeSort_perm l _).mem_iff
theorem sortI_len (l : List Int) : (sortI l).length = l.length := List.length_mergeSort _
theorem sort_cp {s : List Lk} (h : lksOk s = true) {v : Int} {l : List Int} (hn : l.Nodup) (hv : v ∈ l) (hr : ∀ a ∈ l, Rch s v a) (hc : Closed s l) : sortI l = cpV s v := by
  refine asc_ext (sortI_asc hn) (cpS_asc s v 10) fun a => ?_
  rw [sortI_mem, cpV_mem h]
  constructor
  · exact hr a
  · intro hra
    induction hra with
    | base => exact hv
    | step _ hb ih => exact hc _ ih _ hb
def addN (l : List Int) (u : Int) : List Int := if u ∈ l then l else l ++ [u]
def addF (l : List Int) (us : List Int) (j : Nat) : List Int := (us.take j).foldl addN l
theorem addF_0 (l us : List Int) : addF l us 0 = l := by simp [addF]
theorem addF_s (l us : List Int) {j : Nat} (h : j < us.length) : addF l us (j + 1) = addN (addF l us j) (us.getD j 0) := by
  unfold addF
  rw [List.take_add_one, List.getElem?_eq_getElem h, List.getD_eq_getElem?_getD, List.getElem?_eq_getElem h]
  simp only [Option.toList, Option.getD, List.foldl_append, List.foldl_cons, List.foldl_nil]
theorem addN_mem {l : List Int} {u a : Int} : a ∈ addN l u ↔ a ∈ l ∨ a = u := by
  unfold addN
  split
  · rename_i h
    constructor
    · exact .inl
    · rintro (k | rfl)
      · exact k
      · exact h
  · simp
theorem addN_nd {l : List Int} {u : Int} (h : l.Nodup) : (addN l u).Nodup := by
  unfold addN
  split
  · exact h
  · rename_i hu
    rw [List.nodup_append]
    exact ⟨h, by simp, fun a ha b hb e => by simp at hb; subst hb; exact hu (e ▸ ha)⟩
theorem addG_mem : ∀ (us l : List Int) (a : Int), a ∈ us.foldl addN l ↔ a ∈ l ∨ a ∈ us
  | [], l, a => by simp
  | u :: us, l, a => by
    rw [List.foldl_cons, addG_mem us, addN_mem, List.mem_cons, or_assoc]
theorem addG_nd : ∀ (us l : List Int), l.Nodup → (us.foldl addN l).Nodup
  | [], l, h => h
  | u :: us, l, h => addG_nd us _ (addN_nd h)
theorem addG_pre : ∀ (us l : List Int), ∃ r, us.foldl addN l = l ++ r
  | [], l => ⟨[], by simp⟩
  | u :: us, l => by
    obtain ⟨r, e⟩ := addG_pre us (addN l u)
    rw [List.foldl_cons, e]
    unfold addN
    split
    · exact ⟨r, rfl⟩
    · exact ⟨u :: r, by simp⟩
structure Bfs (s : List Lk) (v : Int) (i : Nat) (l : List Int) : Prop where
  nd : l.Nodup
  mem : v ∈ l
  rch : ∀ a ∈ l, Rch s v a
  le : i ≤ l.length
  cl : ∀ j, j < i → ∀ b ∈ nbA s (l.getD j 0), b ∈ l
theorem Bfs.start (s : List Lk) (v : Int) : Bfs s v 0 [v] := ⟨by simp, by simp, fun a h => by simp at h; subst h; exact .base, by simp, fun j h => absurd h (Nat.not_lt_zero _)⟩
theorem Bfs.next {s : List Lk} {v : Int} {i : Nat} {l : List Int} (h : Bfs s v i l) (hi : i < l.length) : Bfs s v (i + 1) ((nbA s (l.getD i 0)).foldl addN l) := by
  obtain ⟨r, e⟩ := addG_pre (nbA s (l.getD i 0)) l
  have hm := addG_mem (nbA s (l.getD i 0)) l
  have hli : l.getD i 0 ∈ l := by rw [List.getD_eq_getElem?_getD, List.getElem?_eq_getElem hi]; exact List.getElem_mem hi
  refine ⟨addG_nd _ _ h.nd, (hm v).2 (.inl h.mem), fun a ha => ?_, by rw [e, List.length_append]; omega, fun j hj b hb => ?_⟩
  · rcases (hm a).1 ha with ha | ha
    · exact h.rch a ha
    · exact .step (h.rch _ hli) ha
  · have hjl : j < l.length := by omega
    have ej : ((nbA s (l.getD i 0)).foldl addN l).getD j 0 = l.getD j 0 := by
      rw [e, List.getD_eq_getElem?_getD, List.getD_eq_getElem?_getD, List.getElem?_append_left hjl]
    rw [ej] at hb
    by_cases hji : j = i
    · subst hji; exact (hm b).2 (.inr hb)
    · exact (hm b).2 (.inl (h.cl j (by omega) b hb))
theorem Bfs.len {s : List Lk} (hk : lksOk s = true) {v : Int} {i : Nat} {l : List Int} (h : Bfs s v i l) : l.length ≤ 10 := rch_len hk h.nd h.rch
theorem Bfs.fin {s : List Lk} (hk : lksOk s = true) {v : Int} {l : List Int} (h : Bfs s v l.length l) : sortI l = cpV s v :=
  sort_cp hk h.nd h.mem h.rch fun a ha b hb => by
    obtain ⟨j, hj⟩ := List.mem_iff_getElem?.1 ha
    have hjl := (List.getElem?_eq_some_iff.1 hj).1
    exact h.cl j hjl b (by rw [List.getD_eq_getElem?_getD, hj]; exact hb)
end Go.Ml
end
section
set_option linter.unusedSimpArgs false
set_option linter.unusedVariables false
namespace Go.Ml
structure Grow (s : Store) (v : V) (sz : Nat) (A ts : List (List V)) : Prop where
  ex : ∃ os, OwR s A ts os ∧ os.Nodup ∧ ((A = [] ∧ v = .nils) ∨ ∃ o, v = .msl o 0 A.length ∧ objAt s o = some ⟨sz, A⟩ ∧ o ∉ os)
section
variable {s s1 σ2 S : Store} {v : V} {sz : Nat} {A ts : List (List V)}
theorem Grow.len (h : Grow s v sz A ts) : A.length = ts.length := by obtain ⟨os, a, _⟩ := h.ex; exact a.len
theorem Grow.cases (h : Grow s v sz A ts) : (A = [] ∧ ts = [] ∧ v = .nils) ∨ ∃ o, v = .msl o 0 A.length ∧ objAt s o = some ⟨sz, A⟩ ∧ o < s.length := by
  have hl := h.len
  obtain ⟨os, a, b, c⟩ := h.ex
  rcases c with ⟨rfl, rfl⟩ | ⟨o, rfl, h1, h2⟩
  · exact .inl ⟨rfl, List.eq_nil_of_length_eq_zero (by simpa using hl.symm), rfl⟩
  · exact .inr ⟨o, rfl, h1, objAt_lt h1⟩
theorem Grow.frame (h : Grow s v sz A ts) (f : ∀ o, o < s.length → objAt S o = objAt s o) : Grow S v sz A ts := by
  obtain ⟨os, a, b, c⟩ := h.ex
  refine ⟨os, a.frame fun q hq => f q (a.lt q hq), b, ?_⟩
  rcases c with c | ⟨o, rfl, h1, h2⟩
  · exact .inl c
  · exact .inr ⟨o, rfl, (f o (objAt_lt h1)).trans h1, h2⟩
theorem Grow.fin (h : Grow s v sz A ts) : Fin s v (.sl sz ts) := by
  have hl := h.len
  obtain ⟨os, a, b, c⟩ := h.ex
  rcases c with ⟨rfl, rfl⟩ | ⟨o, rfl, h1, h2⟩
  · have : ts = [] := List.eq_nil_of_length_eq_zero (by simpa using hl.symm)
    subst this; exact fin_nil
  · rw [hl]
    refine fin_of (os := o :: os) ?_ (List.nodup_cons.2 ⟨h2, b⟩)
    simp only [OwV]
    exact .inr ⟨o, A, os, rfl, h1, rfl, a⟩
theorem Grow.app {cs tcs : List V} {os2 : List Nat} {id2 : Nat} (h : Grow s v sz A ts) (hs : ∀ o, o < s.length → objAt s1 o = objAt s o) (hl : s.length ≤ s1.length) (g : Got s1 σ2 (.agg cs) (.agg tcs) os2)
    (h0 : s.length ≤ id2) (hid : id2 < s1.length) (h2 : objAt S id2 = some ⟨sz, A ++ [cs]⟩)
    (hf : ∀ q, q ≠ id2 → (q < s.length ∨ s1.length ≤ q) → (∀ n, v ≠ .msl q 0 n) → objAt S q = objAt σ2 q) : Grow S (.msl id2 0 (A.length + 1)) sz (A ++ [cs]) (ts ++ [tcs]) := by
  obtain ⟨os, a, b, c⟩ := h.ex
  have a' := a.frame (σ' := σ2) fun q hq => by
    have := a.lt q hq
    rw [g.old q (by omega), hs q this]
  obtain ⟨cs', e, hc⟩ := g.ow.agg_inv
  cases e
  have hlt := a.lt
  have hv : ∀ q ∈ os ++ os2, ∀ n, v ≠ .msl q 0 n := by
    intro q hq n
    rcases c with ⟨_, rfl⟩ | ⟨o, rfl, h1, h2⟩
    · simp
    · intro e
      have e2 : o = q := by injection e
      rw [e2] at h1 h2
      rcases List.mem_append.1 hq with hq | hq
      · exact h2 hq
      · have := g.fresh q hq
        have := objAt_lt h1
        omega
  have hne : ∀ q ∈ os ++ os2, q ≠ id2 ∧ (q < s.length ∨ s1.length ≤ q) := by
    intro q hq
    rcases List.mem_append.1 hq with hq | hq
    · have := hlt q hq; exact ⟨by omega, by omega⟩
    · have := g.fresh q hq; exact ⟨by omega, by omega⟩
  have fr : ∀ q ∈ os ++ os2, objAt S q = objAt σ2 q := fun q hq => hf q (hne q hq).1 (hne q hq).2 (hv q hq)
  refine ⟨os ++ os2, owR_append (a'.frame fun q hq => fr q (List.mem_append_left _ hq)) (owR_1 (hc.frame fun q hq => fr q (List.mem_append_right _ hq))), ?_, .inr ⟨id2, by simp, h2, fun hm => (hne id2 hm).1 rfl⟩⟩
  rw [List.nodup_append]
  refine ⟨b, g.nd, fun x hx y hy e => ?_⟩
  have := hlt x hx
  have := g.fresh y hy
  omega
end
end Go.Ml
end
section
set_option linter.unusedSimpArgs false
set_option linter.unusedVariables false
namespace Go.Ml
structure Ep (s : Store) (cs ts : List V) (os : List Nat) (L : List (Nat × Obj)) : Prop where
  c : Cs s cs ts os
  l : ∀ q ∈ L, objAt s q.1 = some q.2 ∧ q.1 ∉ os
section
variable {s σ2 : Store} {cs ts : List V} {os os2 : List Nat} {L : List (Nat × Obj)}
theorem Ep.lt (E : Ep s cs ts os L) : ∀ q ∈ L, q.1 < s.length := fun q hq => objAt_lt (E.l q hq).1
theorem Ep.snoc (E : Ep s cs ts os L) {x : Option Obj} : Ep (s ++ [x]) cs ts os L := ⟨E.c.snoc, fun q hq => ⟨(objAt_snoc_lt (E.lt q hq)).trans (E.l q hq).1, (E.l q hq).2⟩⟩
theorem Ep.res (E : Ep s cs ts os L) (c : Nat) {v t : V} (hv : cs[c]? = some v) (ht : ts[c]? = some t) (hd : DepLe FD t) : resolve s FD v = some t := E.c.res c hv ht hd
theorem Ep.leaf (E : Ep s cs ts os L) (c : Nat) {v t : V} (hv : cs[c]? = some v) (ht : ts[c]? = some t) (hl : t.leaf = true := by rfl) : v.leaf = true := by
  obtain ⟨vc, oc, j1, j2, _⟩ := E.c.ow.focus c t E.c.nd ht
  rw [hv] at j1
  cases j1
  exact j2.leaf hl
theorem Ep.call {T : Nat → Option Fn} {f : Nat} {t t' v : V} {k k' : Int} (E : Ep s cs ts os L) (c : Nat) (hm : Mk T f t k t' k') (hv : cs[c]? = some v) (ht : ts[c]? = some t) :
    ∃ s', Run T (.fn f [v, .int .i64 k] s) (.fn (.int .i64 k') s') ∧ Ep s' cs (ts.set c t') os L ∧ s.length ≤ s'.length := by
  obtain ⟨s', h1, h2, h3⟩ := E.c.call c hm hv ht
  exact ⟨s', h1, ⟨h2, fun q hq => ⟨(h3.old _ (E.lt q hq) (E.l q hq).2).trans (E.l q hq).1, (E.l q hq).2⟩⟩, h3.len⟩
theorem Ep.part {T : Nat → Option Fn} {f : Nat} {t2 t2' r2 : List V} {k k' : Int} (E : Ep s cs ts os L) (n m : Nat) (hm : Mk T f (.agg t2) k (.agg t2') k') (hr : (cs.drop n).take m = r2) (ht : (ts.drop n).take m = t2) (hn : n + m ≤ ts.length) :
    ∃ s', Run T (.fn f [.agg r2, .int .i64 k] s) (.fn (.int .i64 k') s') ∧ Ep s' cs (ts.take n ++ t2' ++ ts.drop (n + m)) os L ∧ s.length ≤ s'.length := by
  obtain ⟨s', h1, h2, h3⟩ := E.c.part n m hm ht hn
  rw [hr] at h1
  exact ⟨s', h1, ⟨h2, fun q hq => ⟨(h3.old _ (E.lt q hq) (E.l q hq).2).trans (E.l q hq).1, (E.l q hq).2⟩⟩, h3.len⟩
end
section
variable {σ : Store} {os : List Nat}
theorem OwL.cd {cs : List V} {x : Cd} (h : OwL σ cs x.cells os) : ∃ c2 c3 c4, cs = [iv x.node, .bool x.total.neg, c2, c3, c4] := by
  obtain ⟨cs, rfl, h1⟩ := h.int_inv
  obtain ⟨cs, rfl, h2⟩ := h1.bool_inv
  match cs, h2.len with
  | [a, b, c], _ => exact ⟨a, b, c, rfl⟩
theorem OwL.tr {cs : List V} {x : List Tn} (h : OwL σ cs [tnsV x] os) : ∃ c0, cs = [c0] := by
  match cs, h.len with
  | [a], _ => exact ⟨a, rfl⟩
end
end Go.Ml
namespace Go.Ml
end Go.Ml
namespace Go.Ml
def sh (n0 n x : Nat) : Nat := if x < n0 then x else x + (n - n0)
end Go.Ml
namespace Go.Ml
end Go.Ml
end
section
set_option linter.unusedSimpArgs false
set_option linter.unusedVariables false
namespace Go.Ml
theorem mapO_ints (g : Nat → Option Nat) (l : List Int) : mapO g ⟨1, irows l⟩ = ⟨1, irows l⟩ := by
  unfold mapO
  congr 1
  simp only [irows, List.map_map]
  rfl
end Go.Ml
namespace Go.Ml
theorem reach_ints {σ : Store} {v : V} {l : List Int} {os : List Nat} (h : OwV σ v (ints l) os) : ∀ n, ∀ o ∈ reach σ n v, o ∈ os := by
  intro n o ho
  rcases h.ints_inv with ⟨_, rfl, _⟩ | ⟨q, rfl, h1, rfl⟩
  · cases n <;> simp [reach] at ho
  · cases n with
    | zero => simp [reach] at ho
    | succ n =>
      simp only [reach, h1, List.mem_cons, List.mem_flatMap] at ho
      rcases ho with rfl | ⟨r, hr, c, hc, ho⟩
      · simp
      · have hs := ir_still l r hr c hc
        cases n with
        | zero => simp [reach] at ho
        | succ n => rw [reach_still hs] at ho; cases ho
end Go.Ml
namespace Go.Ml
theorem Ep.push {s : Store} {cs ts : List V} {os : List Nat} {L : List (Nat × Obj)} {ob : Obj} (E : Ep s cs ts os L) : Ep (s ++ [some ob]) cs ts os (L ++ [(s.length, ob)]) := by
  refine ⟨E.c.snoc, fun q hq => ?_⟩
  rcases List.mem_append.1 hq with hq | hq
  · exact E.snoc.l q hq
  · simp only [List.mem_cons, List.not_mem_nil, or_false] at hq
    subst hq
    exact ⟨objAt_snoc _ _, fun hm => absurd (E.c.lt _ hm) (Nat.lt_irrefl _)⟩
theorem Ep.reach {s : Store} {cs ts : List V} {os : List Nat} {L : List (Nat × Obj)} (E : Ep s cs ts os L) (c : Nat) {v : V} {l : List Int} (hv : cs[c]? = some v) (ht : ts[c]? = some (ints l)) (n : Nat) : ∀ o ∈ reach s n v, o ∈ os := by
  intro o ho
  obtain ⟨vc, oc, j1, j2, _, j4, _⟩ := E.c.ow.focus c _ E.c.nd ht
  rw [hv] at j1
  cases j1
  exact j4 o (reach_ints j2 n o ho)
end Go.Ml
end
section
set_option linter.unusedSimpArgs false
set_option linter.unusedVariables false
namespace Go.Ml
abbrev Gd := Nat → Nat → Bool
def gset (g : Gd) (i j : Nat) (b : Bool) : Gd := fun x y => if x = i ∧ y = j then b else g x y
def grow (g : Gd) (a : Nat) : List (List V) := (List.range 10).map fun j => [.bool (g a j)]
theorem grow_set {g : Gd} {a j : Nat} {b : Bool} : (grow g a).set j [.bool b] = grow (gset g a j b) a := by
  apply List.ext_getElem?
  intro n
  rw [List.getElem?_set]
  simp only [grow, List.getElem?_map, List.length_map, List.length_range]
  by_cases hn : n < 10
  · rw [List.getElem?_range hn]
    by_cases e : j = n
    · rw [if_pos e, if_pos (by omega)]
      simp only [Option.map_some, gset]
      rw [if_pos (by simp [e])]
    · rw [if_neg e]
      simp only [Option.map_some, gset]
      rw [if_neg (by omega)]
  · rw [List.getElem?_eq_none (by simp; omega)]
    split
    · split
      · omega
      · rfl
    · rfl
theorem grow_ne {g : Gd} {a c j : Nat} {b : Bool} (h : c ≠ a) : grow (gset g a j b) c = grow g c := by
  unfold grow gset
  apply List.map_congr_left
  intro k _
  rw [if_neg (by omega)]
end Go.Ml
end
section
set_option linter.unusedSimpArgs false
set_option linter.unusedVariables false
namespace Go.Ml
def onR (b : Nat) : List (List V) := (List.range 10).map fun i => [.msl (b + i) 0 10]
def gst (g : Gd) : Store := some ⟨1, [[.msl 1 0 10]]⟩ :: some ⟨1, onR 2⟩ :: (List.range 10).map fun a => some ⟨1, grow g a⟩
theorem gst_len (g : Gd) : (gst g).length = 12 := by simp [gst]
structure GridAt (s : Store) (b : Nat) (g : Gd) : Prop where
  p : objAt s b = some ⟨1, [[.msl (b + 1) 0 10]]⟩
  on : objAt s (b + 1) = some ⟨1, onR (b + 2)⟩
  row : ∀ a, a < 10 → objAt s (b + 2 + a) = some ⟨1, grow g a⟩
theorem gst_row {g : Gd} {a : Nat} (ha : a < 10) : objAt (gst g) (2 + a) = some ⟨1, grow g a⟩ := by
  rw [Nat.add_comm]
  show ((List.range 10).map fun a => some (⟨1, grow g a⟩ : Obj))[a]?.getD none = _
  rw [List.getElem?_map, List.getElem?_range ha]; rfl
theorem GridAt.lt {s : Store} {b : Nat} {g : Gd} (h : GridAt s b g) : b + 12 ≤ s.length := by
  have := objAt_lt (h.row 9 (by omega)); omega
theorem GridAt.frame {s s2 : Store} {b : Nat} {g : Gd} (h : GridAt s b g) (hs : ∀ q, b ≤ q → q < b + 12 → objAt s2 q = objAt s q) : GridAt s2 b g :=
  ⟨(hs _ (by omega) (by omega)).trans h.p, (hs _ (by omega) (by omega)).trans h.on, fun a ha => (hs _ (by omega) (by omega)).trans (h.row a ha)⟩
theorem GridAt.set {s : Store} {b : Nat} {g : Gd} (h : GridAt s b g) {i j : Nat} {x : Bool} (hi : i < 10) (hj : j < 10) : GridAt (s.set (b + 2 + i) (some ⟨1, (grow g i).set j [.bool x]⟩)) b (gset g i j x) := by
  have hl := h.lt
  refine ⟨(objAt_setne (by omega)).trans h.p, (objAt_setne (by omega)).trans h.on, fun a ha => ?_⟩
  by_cases e : a = i
  · subst e
    rw [objAt_seteq (by omega), grow_set]
  · rw [objAt_setne (by omega), h.row a ha, grow_ne e]
theorem mapO_on {ρ : Nat → Option Nat} {b b' : Nat} (h : ∀ i, i < 10 → ρ (b + i) = some (b' + i)) : mapO ρ ⟨1, onR b⟩ = ⟨1, onR b'⟩ := by
  unfold mapO onR
  congr 1
  rw [List.map_map]
  apply List.map_congr_left
  intro i hi
  simp [mapV, h i (List.mem_range.1 hi)]
theorem mapO_grow (f : Nat → Option Nat) (g : Gd) (a : Nat) : mapO f ⟨1, grow g a⟩ = ⟨1, grow g a⟩ := by
  unfold mapO
  congr 1
theorem place_range {b j : Nat} : ∀ n, j < n → place ((List.range n).map (b + ·)) (b + j) = some j := by
  intro n hj
  have h1 : ((List.range n).map (b + ·))[j]? = some (b + j) := by rw [List.getElem?_map, List.getElem?_range hj]; rfl
  have h2 : ((List.range n).map (b + ·)).Nodup := by
    refine List.pairwise_map.2 (List.nodup_range.imp fun hne e => hne (by omega))
  exact place_get h2 h1
def g12 (b : Nat) : List Nat := (List.range 12).map (b + ·)
theorem gst_range (g : Gd) : gst g = (List.range 12).map fun j => objAt (gst g) j := by
  apply List.ext_getElem?
  intro n
  rw [List.getElem?_map]
  by_cases h : n < 12
  · rw [List.getElem?_range h]
    simp only [Option.map_some, objAt]
    rw [List.getElem?_eq_getElem (by rw [gst_len]; exact h)]; rfl
  · rw [List.getElem?_eq_none (by rw [gst_len]; omega), List.getElem?_eq_none (by simp; omega)]; rfl
theorem mapO_row {ρ : Nat → Option Nat} {o o' : Nat} (h : ρ o = some o') {s l : Nat} : mapO ρ ⟨1, [[.msl o s l]]⟩ = ⟨1, [[.msl o' s l]]⟩ := by
  simp [mapO, mapV, h]
theorem GridAt.gc {s : Store} {b : Nat} {g : Gd} (h : GridAt s b g) : gcS (g12 b) s = gst g := by
  rw [gst_range g]
  unfold gcS
  rw [g12, List.map_map]
  apply List.map_congr_left
  intro j hj
  have hj := List.mem_range.1 hj
  show (objAt s (b + j)).map (mapO (place ((List.range 12).map (b + ·)))) = objAt (gst g) j
  by_cases h0 : j = 0
  · subst h0
    rw [Nat.add_zero, h.p]
    exact congrArg some (mapO_row (place_range 12 (by omega : 1 < 12)))
  by_cases h1 : j = 1
  · subst h1
    rw [h.on]
    refine congrArg some (mapO_on fun i hi => ?_)
    rw [show b + 2 + i = b + (2 + i) by omega]
    exact place_range 12 (by omega)
  obtain ⟨a, rfl⟩ : ∃ a, j = 2 + a := ⟨j - 2, by omega⟩
  rw [← Nat.add_assoc, h.row a (by omega), gst_row (by omega)]
  exact congrArg some (mapO_grow _ _ _)
end Go.Ml
namespace Go.Ml
end Go.Ml
end
section
set_option linter.unusedSimpArgs false
set_option linter.unusedVariables false
set_option maxRecDepth 100000
set_option maxHeartbeats 4000000
namespace Go.Ml
def F_spec_ComponentOf : Fn := ⟨2, 40, [.tmp 4], (.seq (.reg false 0 [oN 4 (.mov (.c (.nils)))]) (.seq (.seq (.reg false 0 [oN 11 (oV 0), oN 12 (.call 193 [(.t 11)]), oN 13 (.un .not (.t 12))]) (.cond (.t 13) (.seq (.reg false 0 [oN 4 (.mov (.c (.nils)))]) .ret) .skip)) (.seq (.reg false 1 [oK 14 1 (oV 1), oN 15 (.mkSl 1 [.int .i64 0] 1 [(0, (.t 14))]), oK 5 1 (oV 15)]) (.seq (.seq (.reg false 0 [oN 6 (.mov (cI 0))]) (.block 0 (.loop (.seq (.seq (.reg false 0 [oN 16 (oV 6), oN 17 (.bin .lss (.t 16) (cI 10))]) (.cond (.t 17) .skip (.exit 0))) (.seq (.block 1 (.seq (.reg false 0 [oN 20 (oV 5), oN 21 (.len (.t 20)), oN 22 (.mov (cI 0))]) (.block 2 (.loop (.seq (.reg false 0 [oN 23 (.bin .lss (.t 22) (.t 21))]) (.seq (.cond (.t 23) .skip (.exit 2)) (.seq (.block 3 (.seq (.reg false 0 [oN 24 (.idx 1 (.t 20) (.t 22)), oN 25 (.load 1 false (.t 24)), oN 8 (oV 25)]) (.seq (.reg false 0 [oN 26 (oV 0), oN 27 (oV 8), oN 28 (.call 238 [(.t 26), (.t 27)]), oN 29 (.len (.t 28)), oN 30 (.mov (cI 0))]) (.block 4 (.loop (.seq (.reg false 0 [oN 31 (.bin .lss (.t 30) (.t 29))]) (.seq (.cond (.t 31) .skip (.exit 4)) (.seq (.block 5 (.seq (.reg false 0 [oN 32 (.idx 1 (.t 28) (.t 30)), oN 33 (.load 1 false (.t 32)), oN 10 (oV 33)]) (.reg false 0 [oN 34 (oV 5), oN 35 (oV 10), oN 36 (.call 237 [(.t 34), (.t 35)]), oN 5 (oV 36)]))) (.reg false 0 [oN 37 (.bin .add (.t 30) (cI 1)), oN 30 (oV 37)]))))))))) (.reg false 0 [oN 38 (.bin .add (.t 22) (cI 1)), oN 22 (oV 38)])))))))) (.reg false 0 [oN 18 (oV 6), oN 19 (.bin .add (.t 18) (cI 1)), oN 6 (oV 19)])))))) (.seq (.reg false 0 [oN 39 (oV 5), oN 4 (oV 39)]) .ret)))))⟩
structure D_spec_ComponentOf (T : Nat → Option Fn) : Prop where
  hT : T 340 = some F_spec_ComponentOf
  d_spec_IsLinkSet : D_spec_IsLinkSet T
  d_spec_l07Put : D_spec_l07Put T
  d_spec_l07Near : D_spec_l07Near T
def F_sort_Ints : Fn := ⟨1, 1, [], .lib .sortInts⟩
structure D_sort_Ints (T : Nat → Option Fn) : Prop where
  hT : T 403 = some F_sort_Ints
def F_impl_componentOf : Fn := ⟨2, 40, [.tmp 4], (.seq (.reg false 0 [oN 4 (.mov (.c (.nils)))]) (.seq (.reg false 1 [oK 9 1 (oV 1), oN 10 (.mkSl 1 [.int .i64 0] 1 [(0, (.t 9))]), oK 5 1 (oV 10)]) (.seq (.seq (.reg false 0 [oN 6 (.mov (cI 0))]) (.block 0 (.loop (.seq (.seq (.reg false 0 [oN 11 (oV 6), oN 12 (oV 5), oN 13 (.len (.t 12)), oN 14 (.bin .lss (.t 11) (.t 13))]) (.cond (.t 14) .skip (.exit 0))) (.seq (.block 1 (.seq (.reg false 0 [oN 17 (oV 0), oN 18 (oV 5), oN 19 (oV 6), oN 20 (.idx 1 (.t 18) (.t 19)), oN 21 (.load 1 false (.t 20)), oN 22 (.call 239 [(.t 17), (.t 21)]), oN 23 (.len (.t 22)), oN 24 (.mov (cI 0))]) (.block 2 (.loop (.seq (.reg false 0 [oN 25 (.bin .lss (.t 24) (.t 23))]) (.seq (.cond (.t 25) .skip (.exit 2)) (.seq (.block 3 (.seq (.reg false 0 [oN 26 (.idx 1 (.t 22) (.t 24)), oN 27 (.load 1 false (.t 26)), oN 8 (oV 27)]) (.seq (.reg false 0 [oN 28 (oV 5), oN 29 (oV 8), oN 30 (.call 236 [(.t 28), (.t 29)]), oN 31 (.un .not (.t 30))]) (.cond (.t 31) (.reg false 2 [oK 32 2 (oV 5), oK 33 2 (oV 8), oN 34 (.mkSl 1 [.int .i64 0] 1 [(0, (.t 33))]), oK 35 1 (.app 1 8 (.t 32) (.t 34)), oK 5 2 (oV 35)]) .skip)))) (.reg false 0 [oN 36 (.bin .add (.t 24) (cI 1)), oN 24 (oV 36)])))))))) (.reg false 0 [oN 15 (oV 6), oN 16 (.bin .add (.t 15) (cI 1)), oN 6 (oV 16)])))))) (.seq (.reg false 0 [oN 37 (oV 5), oN 38 (.call 403 [(.t 37)])]) (.seq (.reg false 0 [oN 39 (oV 5), oN 4 (oV 39)]) .ret)))))⟩
structure D_impl_componentOf (T : Nat → Option Fn) : Prop where
  hT : T 343 = some F_impl_componentOf
  d_impl_hasInt : D_impl_hasInt T
  d_impl_neighborsOf : D_impl_neighborsOf T
  d_sort_Ints : D_sort_Ints T
def F_impl_ComponentOf : Fn := ⟨2, 11, [.tmp 4], (.seq (.reg false 0 [oN 4 (.mov (.c (.nils)))]) (.seq (.seq (.reg false 0 [oN 5 (oV 0), oN 6 (.call 89 [(.t 5)]), oN 7 (.un .not (.t 6))]) (.cond (.t 7) (.seq (.reg false 0 [oN 4 (.mov (.c (.nils)))]) .ret) .skip)) (.seq (.reg false 0 [oN 8 (oV 0), oN 9 (oV 1), oN 10 (.call 343 [(.t 8), (.t 9)]), oN 4 (oV 10)]) .ret)))⟩
structure D_impl_ComponentOf (T : Nat → Option Fn) : Prop where
  hT : T 341 = some F_impl_ComponentOf
  d_impl_IsLinkSet : D_impl_IsLinkSet T
  d_impl_componentOf : D_impl_componentOf T
def F_spec_IsGrounded : Fn := ⟨1, 22, [.tmp 2], (.seq (.reg false 0 [oN 2 (.mov (.c (.bool false)))]) (.seq (.reg false 0 [oN 6 (oV 0), oN 7 (.call 340 [(.t 6), (cI 0)]), oN 3 (oV 7)]) (.seq (.seq (.reg false 0 [oN 8 (oV 0), oN 9 (.call 222 [(.t 8)]), oN 10 (.len (.t 9)), oN 11 (.mov (cI 0))]) (.block 0 (.loop (.seq (.reg false 0 [oN 12 (.bin .lss (.t 11) (.t 10))]) (.seq (.cond (.t 12) .skip (.exit 0)) (.seq (.block 1 (.seq (.reg false 0 [oN 13 (.idx 1 (.t 9) (.t 11)), oN 14 (.load 1 false (.t 13)), oN 5 (oV 14)]) (.seq (.reg false 0 [oN 15 (oV 3), oN 16 (oV 5), oN 17 (.call 235 [(.t 15), (.t 16)]), oN 18 (.un .not (.t 17))]) (.cond (.t 18) (.seq (.reg false 0 [oN 2 (.mov (.c (.bool false)))]) .ret) .skip)))) (.reg false 0 [oN 19 (.bin .add (.t 11) (cI 1)), oN 11 (oV 19)]))))))) (.seq (.reg false 0 [oN 20 (oV 0), oN 21 (.call 193 [(.t 20)]), oN 2 (oV 21)]) .ret))))⟩
structure D_spec_IsGrounded (T : Nat → Option Fn) : Prop where
  hT : T 338 = some F_spec_IsGrounded
  d_spec_IsLinkSet : D_spec_IsLinkSet T
  d_spec_NodesOf : D_spec_NodesOf T
  d_spec_l07Has : D_spec_l07Has T
  d_spec_ComponentOf : D_spec_ComponentOf T
def F_impl_IsGrounded : Fn := ⟨1, 30, [.tmp 2], (.seq (.reg false 0 [oN 2 (.mov (.c (.bool false)))]) (.seq (.seq (.reg false 0 [oN 6 (oV 0), oN 7 (.call 89 [(.t 6)]), oN 8 (.un .not (.t 7))]) (.cond (.t 8) (.seq (.reg false 0 [oN 2 (.mov (.c (.bool false)))]) .ret) .skip)) (.seq (.reg false 0 [oN 9 (oV 0), oN 10 (.call 343 [(.t 9), (cI 0)]), oN 3 (oV 10)]) (.seq (.seq (.reg false 0 [oN 11 (oV 0), oN 12 (.len (.t 11)), oN 13 (.mov (cI 0))]) (.block 0 (.loop (.seq (.reg false 0 [oN 14 (.bin .lss (.t 13) (.t 12))]) (.seq (.cond (.t 14) .skip (.exit 0)) (.seq (.block 1 (.seq (.reg false 1 [oK 15 1 (.idx 11 (.t 11) (.t 13)), oK 16 1 (.load 11 true (.t 15)), oN 5 (.alloc [.int .i64 0, .int .i64 0, .bool false, .nils, .nils, .bool false, .nils, .nils, .bool false, .nils, .nils]), ⟨none, none, 1, .store 11 (.t 5) (.t 16), []⟩]) (.seq (.reg false 0 [oN 17 (oV 3), oN 18 (.fld 0 (.t 5)), oN 19 (.load 1 false (.t 18)), oN 20 (.call 236 [(.t 17), (.t 19)]), oN 21 (.un .not (.t 20)), oN 22 (oV 21), oG 22 false 23 (oV 3), oG 22 false 24 (.fld 1 (.t 5)), oG 22 false 25 (.load 1 false (.t 24)), oG 22 false 26 (.call 236 [(.t 23), (.t 25)]), oG 22 false 27 (.un .not (.t 26)), oN 28 (.pick (.t 22) (.c (.bool true)) (.t 27))]) (.cond (.t 28) (.seq (.reg false 0 [oN 2 (.mov (.c (.bool false)))]) .ret) .skip)))) (.reg false 0 [oN 29 (.bin .add (.t 13) (cI 1)), oN 13 (oV 29)]))))))) (.seq (.reg false 0 [oN 2 (.mov (.c (.bool true)))]) .ret)))))⟩
structure D_impl_IsGrounded (T : Nat → Option Fn) : Prop where
  hT : T 339 = some F_impl_IsGrounded
  d_impl_IsLinkSet : D_impl_IsLinkSet T
  d_impl_hasInt : D_impl_hasInt T
  d_impl_componentOf : D_impl_componentOf T
def cpT (s : List Lk) (O : List Int) (j : Nat) : List Int := (O.take j).foldl (cpRow s) O
def pF (cur nb : List Int) (q : Nat) : List Int := (nb.take q).foldl putI cur
theorem fold_s {β : Type} (f : β → Int → β) (b : β) (l : List Int) {j : Nat} (h : j < l.length) : (l.take (j + 1)).foldl f b = f ((l.take j).foldl f b) (l.getD j 0) := by
  rw [List.take_add_one, List.getElem?_eq_getElem h, List.getD_eq_getElem?_getD, List.getElem?_eq_getElem h]
  simp only [Option.toList, Option.getD, List.foldl_append, List.foldl_cons, List.foldl_nil]
theorem cpT_0 (s : List Lk) (O : List Int) : cpT s O 0 = O := by simp [cpT]
theorem cpT_s (s : List Lk) (O : List Int) {j : Nat} (h : j < O.length) : cpT s O (j + 1) = cpRow s (cpT s O j) (O.getD j 0) := fold_s _ _ _ h
theorem pF_0 (cur nb : List Int) : pF cur nb 0 = cur := by simp [pF]
theorem pF_s (cur nb : List Int) {q : Nat} (h : q < nb.length) : pF cur nb (q + 1) = putI (pF cur nb q) (nb.getD q 0) := fold_s _ _ _ h
theorem cpT_inv {s : List Lk} {v : Int} {O : List Int} (h1 : Asc O) (h2 : ∀ a ∈ O, Rch s v a) (j : Nat) : Asc (cpT s O j) ∧ ∀ a ∈ cpT s O j, Rch s v a := by
  refine ⟨cpF_asc _ _ h1, fun a ha => ?_⟩
  rcases (cpF_mem _ _ _).1 ha with h | ⟨x, hx, h⟩
  · exact h2 a h
  · exact .step (h2 x (List.mem_of_mem_take hx)) h
theorem pF_inv {s : List Lk} {v x : Int} {cur : List Int} (h1 : Asc cur) (h2 : ∀ a ∈ cur, Rch s v a) (hx : Rch s v x) (q : Nat) : Asc (pF cur (nbA s x) q) ∧ ∀ a ∈ pF cur (nbA s x) q, Rch s v a := by
  refine ⟨putF_asc _ _ h1, fun a ha => ?_⟩
  rcases (putF_mem _ _ _).1 ha with h | h
  · exact h2 a h
  · exact .step hx (List.mem_of_mem_take h)
theorem c_sComponentOf {T : Nat → Option Fn} (h : D_spec_ComponentOf T) {s : List Lk} {v : Int} (hw : wfL Lk.wf s := by first | omega | assumption | (simp; omega)) (hl : s.length ≤ 1048576 := by first | omega | assumption | (simp; omega)) : PF T 340 [lksV s, iv v] (ints (cpM s v)) := by
  have ci := c_sIsLinkSet h.d_spec_IsLinkSet hw
  cases hb : lksOk s
  · rw [hb] at ci
    rw [cpM_f hb]
    refine pf_endL (fun _ _ => false) h.hT rfl rfl ?_
    dsimp only [F_spec_ComponentOf, oN, oS, oG, oK, oA, oH, oV, cI]
    (refine ev ?_; try with_reducible exact True.intro)
    refine PFK_of ci ?_
    (refine ev ?_; try with_reducible exact True.intro)
    exact of_eq_true (LaxV_nil 1)
  rw [hb] at ci
  rw [cpM_t hb]
  refine pf_endL (fun _ _ => false) h.hT rfl rfl ?_
  dsimp only [F_spec_ComponentOf, oN, oS, oG, oK, oA, oH, oV, cI]
  (refine ev ?_; try with_reducible exact True.intro)
  refine PFK_of ci ?_
  (refine ev ?_; try with_reducible exact True.intro)
  refine loop_at (fun _ _ => false) (α := Nat) (fun n => ⟨argE [lksV s, .any, .any, .any, .any, ints (cpS s v n), iv (n : Nat)], [], 0, 0, [], []⟩) (fun n => n ≤ 10) (fun n => 10 - n) rfl 0 ?_ ?_ ?_
  · omega
  · rw [show cpS s v 0 = [v] from rfl]
    simp only [irow1]
    (refine Fg_re [] (by simp) (by intro p hp; cases hp) rfl ?_) <;> (try (refine ev ?_; try with_reducible exact True.intro)) <;> (repeat' (first | exact True.intro | omega | exact CanE_ptr rfl (by simp) | refine ⟨?_, ?_⟩ | exact of_eq_true (CanE_nil _ _ _) | exact CanE_of rfl (by simp; done) | exact CanE_of rfl rfl | (refine CanE_msl rfl ?_ rfl; simp [irows]; done) | (refine CanE_msl rfl ?_ rfl; simp [irows]; omega) | (refine CanE_frz ?_ ?_; (focus ((refine ev ?_; try with_reducible exact True.intro); done)); (intro q hq k s0 l0; simp; done))))
  · intro n hn
    have hO1 := cpS_asc s v n
    have hO2 := cpS_rch s v n
    have hO3 := cpS_len hb v n
    have hnx : cpS s v (n + 1) = cpT s (cpS s v n) (cpS s v n).length := by
      show (cpS s v n).foldl (cpRow s) (cpS s v n) = _
      unfold cpT; rw [List.take_length]
    have hfin : ¬ (n : Int) < 10 → cpV s v = cpS s v n := fun h => by unfold cpV; rw [show n = 10 by omega]
    generalize cpS s v n = O at *
    by_cases hc : (n : Int) < 10
    · (refine ev1 @hc ?_; try with_reducible exact True.intro)
      refine loop_at (fun _ _ => false) (α := Nat) (fun j => ⟨argE [lksV s, .any, .any, .any, .any, ints (cpT s O j), iv (n : Nat), .any, .any, .any, .any, .any, .any, .any, .any, .any, .any, .any, .any, .any, ints O, iv (O.length : Nat), iv (j : Nat)], [], 0, 0, [], []⟩) (fun j => j ≤ O.length) (fun j => O.length - j) rfl 0 ?_ ?_ ?_
      · omega
      · rw [cpT_0]; (refine Fg_env ?_) <;> (try (refine ev ?_; try with_reducible exact True.intro)) <;> (repeat' (first | refine ⟨?_, ?_⟩ | exact EvV_int (by omega) | exact EvV_of (by simp) | exact EvV_nil _))
      · intro j hj
        obtain ⟨hT1, hT2⟩ := cpT_inv hO1 hO2 j
        by_cases hcj : (j : Int) < (O.length : Nat)
        · have hjl : j < O.length := by omega
          have es := cpT_s s O hjl
          have hxr : Rch s v (O.getD j 0) := hO2 _ (by rw [List.getD_eq_getElem?_getD, List.getElem?_eq_getElem hjl]; exact List.getElem_mem hjl)
          generalize hxe : O.getD j 0 = x at es hxr
          have cn := c_l07Near h.d_spec_l07Near (l := s) (v := x) hw hl hb
          have hnb := nbI_len s x s.length
          have hpi := fun q => pF_inv (s := s) (v := v) (x := x) hT1 hT2 hxr q
          unfold nbA at hpi
          have hrow : cpRow s (cpT s O j) x = pF (cpT s O j) (nbI s x s.length) (nbI s x s.length).length := by unfold cpRow pF; rw [List.take_length]
          rw [hrow] at es
          clear hrow
          generalize cpT s O j = cur at *
          generalize nbI s x s.length = nb at *
          (refine ev2 @hcj @hxe ?_; try with_reducible exact True.intro)
          refine PFK_of cn ?_
          (refine ev ?_; try with_reducible exact True.intro)
          refine loop_at (fun _ _ => false) (α := Nat) (fun q => ⟨argE [lksV s, .any, .any, .any, .any, ints (pF cur nb q), iv (n : Nat), .any, .any, .any, .any, .any, .any, .any, .any, .any, .any, .any, .any, .any, ints O, iv (O.length : Nat), iv (j : Nat), .any, .any, .any, .any, .any, ints nb, iv (nb.length : Nat), iv (q : Nat)], [], 0, 0, [], []⟩) (fun q => q ≤ nb.length) (fun q => nb.length - q) rfl 0 ?_ ?_ ?_
          · omega
          · rw [pF_0]; (refine Fg_env ?_) <;> (try (refine ev ?_; try with_reducible exact True.intro)) <;> (repeat' (first | refine ⟨?_, ?_⟩ | exact EvV_int (by omega) | exact EvV_of (by simp) | exact EvV_nil _))
          · intro q hq
            obtain ⟨k1, k2⟩ := hpi q
            have k3 := rch_len hb (asc_nodup k1) k2
            by_cases hcq : (q : Int) < (nb.length : Nat)
            · have hql : q < nb.length := by omega
              have e2 := pF_s cur nb hql
              have c1 := c_l07Put h.d_spec_l07Put (l := pF cur nb q) (n := nb.getD q 0) (by omega)
              rw [← e2] at c1
              (refine ev1 @hcq ?_; try with_reducible exact True.intro)
              refine PFK_of c1 ?_
              (refine ev ?_; try with_reducible exact True.intro)
              exact ⟨q + 1, by omega, by omega, by (refine Fg_env ?_) <;> (try (refine ev ?_; try with_reducible exact True.intro)) <;> (repeat' (first | refine ⟨?_, ?_⟩ | exact EvV_int (by omega) | exact EvV_of (by simp) | exact EvV_nil _))⟩
            · have hqe : q = nb.length := by omega
              subst hqe
              rw [← es]
              (refine ev1 @hcq ?_; try with_reducible exact True.intro)
              exact ⟨j + 1, by omega, by omega, by (refine Fg_env ?_) <;> (try (refine ev ?_; try with_reducible exact True.intro)) <;> (repeat' (first | refine ⟨?_, ?_⟩ | exact EvV_int (by omega) | exact EvV_of (by simp) | exact EvV_nil _))⟩
        · have hje : j = O.length := by omega
          subst hje
          rw [← hnx]
          (refine ev1 @hcj ?_; try with_reducible exact True.intro)
          exact ⟨n + 1, by omega, by omega, by (refine Fg_env ?_) <;> (try (refine ev ?_; try with_reducible exact True.intro)) <;> (repeat' (first | refine ⟨?_, ?_⟩ | exact EvV_int (by omega) | exact EvV_of (by simp) | exact EvV_nil _))⟩
    · rw [hfin hc]
      (refine ev1 @hc ?_; try with_reducible exact True.intro)
      exact laxV_refl _
theorem RefK_sort {T : Nat → Option Fn} {f : Nat} {F : Fn} {as : List Src} {dst : Option Nat} {env : Nat → V} {xs : List Int} {kp bs : Nat} {rs ms : List Nat} {k : St → Prop} (hT : T f = some F) (hb : F.body = .lib .sortInts)
    (ha : as.map (fun s => s.ev env) = [.msl 0 0 xs.length]) (h0 : 0 < xs.length) (hl : xs.length ≤ 1099511627776) (hk : k ⟨updO env dst (.tup []), [some ⟨1, irows (sortI xs)⟩], kp, bs, rs, ms⟩) :
    RefK T f as dst ⟨env, [some ⟨1, irows xs⟩], kp, bs, rs, ms⟩ k := by
  have hg : gcS [0] [some ⟨1, irows xs⟩] = [some ⟨1, irows xs⟩] := by
    show [(objAt [some ⟨1, irows xs⟩] 0).map (mapO (place [0]))] = _
    show [some (mapO (place [0]) ⟨1, irows xs⟩)] = _
    rw [mapO_ints]
  have hr : Run T (.fn f [.msl 0 0 xs.length] (gcS [0] [some ⟨1, irows xs⟩])) (.fn (.tup []) [some ⟨1, irows (sortI xs)⟩]) := by
    rw [hg]
    exact .lib hT hb ⟨0, xs, rfl, h0, hl, rfl, rfl, rfl⟩
  have hm : (as.map fun s => mapV (place [0]) (s.ev env)) = [.msl 0 0 xs.length] := by
    have : (as.map fun s => mapV (place [0]) (s.ev env)) = (as.map fun s => s.ev env).map (mapV (place [0])) := by rw [List.map_map]; rfl
    rw [this, ha]; rfl
  have e1 : putBack [0] [some ⟨1, irows xs⟩] [some ⟨1, irows (sortI xs)⟩] = [some ⟨1, irows (sortI xs)⟩] := by
    show [some (mapO (back [0] 1) ⟨1, irows (sortI xs)⟩)] ++ [] = _
    rw [mapO_ints]; rfl
  refine ⟨_, .ref [0] (by simp) (fun o ho => by simp at ho; subst ho; rfl) (by rw [hm]; exact hr), ?_⟩
  have e2 : mapV (back [0] ([some ⟨1, irows xs⟩] : Store).length) (.tup []) = .tup [] := rfl
  simp only [e1, e2]
  exact hk
theorem po_componentOf {T : Nat → Option Fn} (h : D_impl_componentOf T) {s : List Lk} {v : Int} (hw : wfL Lk.wf s := by first | omega | assumption | (simp; omega)) (hl : s.length ≤ 1048576 := by first | omega | assumption | (simp; omega)) (hb : lksOk s = true := by assumption) : PO T 343 [lksV s, iv v] (ints (cpV s v)) := by
  refine po_end2 (fun x d => x == 403) h.hT rfl rfl ?_
  dsimp only [F_impl_componentOf, oN, oS, oG, oK, oA, oH, oV, cI, St.enter, List.length_cons, List.length_nil, Nat.zero_add]
  (refine ew ?_; try with_reducible exact True.intro)
  refine loop_at (fun x d => x == 403) (α := Nat × List Int) (fun q => ⟨argE [lksV s, .any, .any, .any, .any, .msl 0 0 q.2.length, iv (q.1 : Nat)], [some ⟨1, irows q.2⟩], 0, 0, [], []⟩) (fun q => Bfs s v q.1 q.2) (fun q => 11 - q.1) rfl (0, [v]) ?_ ?_ ?_
  · exact Bfs.start s v
  · (refine Fg_re [(0, _)] (by simp) (by intro p hp; simp only [List.mem_cons, List.not_mem_nil, or_false] at hp; rcases hp with rfl <;> refine ⟨rfl, ?_⟩ <;> first | exact ir_still _ | simp [stillR, V.still]) rfl ?_) <;> (try (refine ew ?_; try with_reducible exact True.intro)) <;> (repeat' (first | exact True.intro | omega | exact CanE_ptr rfl (by simp) | refine ⟨?_, ?_⟩ | exact of_eq_true (CanE_nil _ _ _) | exact CanE_of rfl (by simp; done) | exact CanE_of rfl rfl | (refine CanE_msl rfl ?_ rfl; simp [irows]; done) | (refine CanE_msl rfl ?_ rfl; simp [irows]; omega) | (refine CanE_frz ?_ ?_; (focus ((refine ew ?_; try with_reducible exact True.intro); done)); (intro q hq k s0 l0; simp; done))))
  · rintro ⟨i, xs⟩ hB
    dsimp only at hB
    have hx10 := hB.len hb
    have hile := hB.le
    have hx0 := List.length_pos_of_mem hB.mem
    by_cases hc : (i : Int) < (xs.length : Nat)
    · have hil : i < xs.length := by omega
      have hnx := hB.next hil
      have hrx : (irows xs)[i]? = some [iv (xs.getD i 0)] := by
        unfold irows
        rw [List.getElem?_map, List.getElem?_eq_getElem hil, List.getD_eq_getElem?_getD, List.getElem?_eq_getElem hil]; rfl
      generalize hxe : xs.getD i 0 = x at hnx hrx
      have cn := (po_neighborsOf h.d_impl_neighborsOf (l := s) (v := x) hw hl).frz (dep_ints _ _)
      have hnb := nbI_len s x s.length
      rw [show (nbA s x).foldl addN xs = addF xs (nbI s x s.length) (nbI s x s.length).length by unfold addF nbA; rw [List.take_length]] at hnx
      generalize nbI s x s.length = nb at *
      (refine ew2 @hc @hrx ?_; try with_reducible exact True.intro)
      refine PFK_of cn ?_
      (refine ew ?_; try with_reducible exact True.intro)
      refine loop_at (fun x d => x == 403) (α := Nat × List Int) (fun q => ⟨argE [lksV s, .any, .any, .any, .any, .msl 0 0 q.2.length, iv (i : Nat), .any, .any, .any, .any, .any, .any, .any, .any, .any, .any, .any, .any, .any, .any, .any, ints nb, iv (nb.length : Nat), iv (q.1 : Nat)], [some ⟨1, irows q.2⟩], 0, 0, [], []⟩) (fun q => q.1 ≤ nb.length ∧ q.2 = addF xs nb q.1 ∧ q.2.length ≤ xs.length + q.1 ∧ 0 < q.2.length) (fun q => nb.length - q.1) rfl (0, xs) ?_ ?_ ?_
      · exact ⟨by omega, (addF_0 _ _).symm, by dsimp only; omega, hx0⟩
      · (refine Fg_re [(0, _)] (by simp) (by intro p hp; simp only [List.mem_cons, List.not_mem_nil, or_false] at hp; rcases hp with rfl <;> refine ⟨rfl, ?_⟩ <;> first | exact ir_still _ | simp [stillR, V.still]) rfl ?_) <;> (try (refine ew ?_; try with_reducible exact True.intro)) <;> (repeat' (first | exact True.intro | omega | exact CanE_ptr rfl (by simp) | refine ⟨?_, ?_⟩ | exact of_eq_true (CanE_nil _ _ _) | exact CanE_of rfl (by simp; done) | exact CanE_of rfl rfl | (refine CanE_msl rfl ?_ rfl; simp [irows]; done) | (refine CanE_msl rfl ?_ rfl; simp [irows]; omega) | (refine CanE_frz ?_ ?_; (focus ((refine ew ?_; try with_reducible exact True.intro); done)); (intro q hq k s0 l0; simp; done))))
      · rintro ⟨q, ys⟩ ⟨hq, hy, hyl, hy0⟩
        dsimp only at hq hy hyl hy0
        by_cases hcq : (q : Int) < (nb.length : Nat)
        · have hql : q < nb.length := by omega
          have es := addF_s xs nb hql
          rw [← hy] at es
          unfold addN at es
          generalize hue : nb.getD q 0 = u at es
          have ch := c_hasInt h.d_impl_hasInt (l := ys) (n := u) (by omega)
          by_cases hu : u ∈ ys
          · rw [if_pos hu] at es
            rw [decide_eq_true hu] at ch
            (refine ew2 @hcq @hue ?_; try with_reducible exact True.intro)
            refine PFK_of ch ?_
            (refine ew ?_; try with_reducible exact True.intro)
            exact ⟨(q + 1, ys), by dsimp only; omega, ⟨by dsimp only; omega, es.symm, by dsimp only; omega, hy0⟩, by (refine Fg_re [(0, _)] (by simp) (by intro p hp; simp only [List.mem_cons, List.not_mem_nil, or_false] at hp; rcases hp with rfl <;> refine ⟨rfl, ?_⟩ <;> first | exact ir_still _ | simp [stillR, V.still]) rfl ?_) <;> (try (refine ew ?_; try with_reducible exact True.intro)) <;> (repeat' (first | exact True.intro | omega | exact CanE_ptr rfl (by simp) | refine ⟨?_, ?_⟩ | exact of_eq_true (CanE_nil _ _ _) | exact CanE_of rfl (by simp; done) | exact CanE_of rfl rfl | (refine CanE_msl rfl ?_ rfl; simp [irows]; done) | (refine CanE_msl rfl ?_ rfl; simp [irows]; omega) | (refine CanE_frz ?_ ?_; (focus ((refine ew ?_; try with_reducible exact True.intro); done)); (intro q hq k s0 l0; simp; done))))⟩
          · rw [if_neg hu] at es
            rw [decide_eq_false hu] at ch
            (refine ew2 @hcq @hue ?_; try with_reducible exact True.intro)
            refine PFK_of ch ?_
            rcases ys with _ | ⟨y, ys⟩
            · simp at hy0
            simp only [List.length_cons] at hyl hy0 ⊢
            (refine ew ?_; try with_reducible exact True.intro)
            refine ⟨by omega, (q + 1, (y :: ys) ++ [u]), by dsimp only; omega, ⟨by dsimp only; omega, es.symm, by dsimp only; simp; omega, by simp⟩, ?_⟩
            simp only [irows_snoc]
            rw [show ys.length + 1 + 1 = (y :: ys ++ [u]).length by simp]
            (refine Fg_re [(2, _)] (by simp) (by intro p hp; simp only [List.mem_cons, List.not_mem_nil, or_false] at hp; rcases hp with rfl <;> refine ⟨rfl, ?_⟩ <;> first | exact ir_still _ | simp [stillR, V.still]) rfl ?_) <;> (try (refine ew ?_; try with_reducible exact True.intro)) <;> (repeat' (first | exact True.intro | omega | exact CanE_ptr rfl (by simp) | refine ⟨?_, ?_⟩ | exact of_eq_true (CanE_nil _ _ _) | exact CanE_of rfl (by simp; done) | exact CanE_of rfl rfl | (refine CanE_msl rfl ?_ rfl; simp [irows]; done) | (refine CanE_msl rfl ?_ rfl; simp [irows]; omega) | (refine CanE_frz ?_ ?_; (focus ((refine ew ?_; try with_reducible exact True.intro); done)); (intro q hq k s0 l0; simp; done))))
        · have hqe : q = nb.length := by omega
          subst hqe
          rw [← hy] at hnx
          (refine ew1 @hcq ?_; try with_reducible exact True.intro)
          exact ⟨(i + 1, ys), by dsimp only; omega, hnx, by (refine Fg_re [(0, _)] (by simp) (by intro p hp; simp only [List.mem_cons, List.not_mem_nil, or_false] at hp; rcases hp with rfl <;> refine ⟨rfl, ?_⟩ <;> first | exact ir_still _ | simp [stillR, V.still]) rfl ?_) <;> (try (refine ew ?_; try with_reducible exact True.intro)) <;> (repeat' (first | exact True.intro | omega | exact CanE_ptr rfl (by simp) | refine ⟨?_, ?_⟩ | exact of_eq_true (CanE_nil _ _ _) | exact CanE_of rfl (by simp; done) | exact CanE_of rfl rfl | (refine CanE_msl rfl ?_ rfl; simp [irows]; done) | (refine CanE_msl rfl ?_ rfl; simp [irows]; omega) | (refine CanE_frz ?_ ?_; (focus ((refine ew ?_; try with_reducible exact True.intro); done)); (intro q hq k s0 l0; simp; done))))⟩
    · have hie : i = xs.length := by omega
      rw [hie] at hB
      have hfin := hB.fin hb
      (refine ew1 @hc ?_; try with_reducible exact True.intro)
      refine RefK_sort h.d_sort_Ints.hT rfl rfl hx0 (by omega) ?_
      (refine ew ?_; try with_reducible exact True.intro)
      rw [← hfin, ← sortI_len xs]
      exact fin_ints (o := 0) (l := sortI xs) rfl
end Go.Ml
end
section
set_option linter.unusedSimpArgs false
set_option linter.unusedVariables false
set_option maxRecDepth 100000
set_option maxHeartbeats 4000000
namespace Go.Ml
def grL (c : List Int) (x : Lk) : Bool := decide (x.a ∈ c) && decide (x.b ∈ c)
def grOk (s : List Lk) : Bool := lksOk s && s.all (grL (cpV s 0))
theorem gr_nodes {s : List Lk} (h : lksOk s = true) : s.all (grL (cpV s 0)) = true ↔ ∀ n ∈ nodesM s, n ∈ cpV s 0 := by
  have hm := nodesS_mem s
  rw [nodesM_t h, ← nodes_eq h]
  rw [List.all_eq_true]
  have h0 : (0 : Int) ∈ cpV s 0 := (cpV_mem h).2 .base
  constructor
  · intro hs n hn
    obtain ⟨k, hk, he⟩ := (hm n s.length (Nat.le_refl _)).1 hn
    have := hs (s.getD k default) (getD_mem hk)
    unfold grL at this
    simp only [Bool.and_eq_true, decide_eq_true_eq] at this
    rcases he with ⟨_, rfl⟩ | rfl
    · exact this.1
    · exact this.2
  · intro hs x hx
    obtain ⟨k, hk⟩ := List.mem_iff_getElem?.1 hx
    have hkl := (List.getElem?_eq_some_iff.1 hk).1
    have e : s.getD k default = x := by rw [List.getD_eq_getElem?_getD, hk]; rfl
    have hnd := lkOk_nd (lksOk_mem h hx)
    unfold grL
    simp only [Bool.and_eq_true, decide_eq_true_eq]
    refine ⟨?_, hs _ ((hm _ _ (Nat.le_refl _)).2 ⟨k, hkl, .inr (by rw [e])⟩)⟩
    by_cases ha : x.a = 0
    · rw [ha]; exact h0
    · exact hs _ ((hm _ _ (Nat.le_refl _)).2 ⟨k, hkl, .inl ⟨by rw [e]; omega, by rw [e]⟩⟩)
theorem c_iIsGrounded {T : Nat → Option Fn} (h : D_impl_IsGrounded T) {s : List Lk} (hw : wfL Lk.wf s := by first | omega | assumption | (simp; omega)) (hl : s.length ≤ 1048576 := by first | omega | assumption | (simp; omega)) : PF T 339 [lksV s] (.bool (grOk s)) := by
  have ci := c_iIsLinkSet h.d_impl_IsLinkSet hw
  unfold grOk
  cases hb : lksOk s
  · rw [hb] at ci
    refine pf_end (fun _ _ => false) h.hT rfl rfl ?_
    dsimp only [F_impl_IsGrounded, oN, oS, oG, oK, oA, oH, oV, cI]
    (refine ev ?_; try with_reducible exact True.intro)
    refine PFK_of ci ?_
    (refine ev ?_; try with_reducible exact True.intro)
  · rw [hb] at ci
    rw [Bool.true_and]
    have cn := (po_componentOf h.d_impl_componentOf (v := 0) hw hl hb).frz (dep_ints _ _)
    have hcl : (cpV s 0).length ≤ 10 := cpS_len hb 0 10
    generalize cpV s 0 = c at *
    refine pf_end (fun _ _ => false) h.hT rfl rfl ?_
    dsimp only [F_impl_IsGrounded, oN, oS, oG, oK, oA, oH, oV, cI]
    (refine ev ?_; try with_reducible exact True.intro)
    refine PFK_of ci ?_
    (refine ev ?_; try with_reducible exact True.intro)
    refine PFK_of cn ?_
    (refine ev ?_; try with_reducible exact True.intro)
    refine loop_at (fun _ _ => false) (α := Nat) (fun i => ⟨argE [lksV s, .any, .any, ints c, .any, .any, .any, .any, .any, .any, .any, lksV s, iv (s.length : Nat), iv (i : Nat)], [], 0, 0, [], []⟩) (fun i => i ≤ s.length ∧ ∀ k, k < i → grL c (s.getD k default) = true) (fun i => s.length - i) rfl 0 ?_ ?_ ?_
    · exact ⟨by omega, by intro k hk; omega⟩
    · (refine Fg_env ?_) <;> (try (refine ev ?_; try with_reducible exact True.intro)) <;> (repeat' (first | refine ⟨?_, ?_⟩ | exact EvV_int (by omega) | exact EvV_of (by simp) | exact EvV_nil _))
    · rintro i ⟨hi, hg⟩
      by_cases hc : (i : Int) < (s.length : Nat)
      · have hil : i < s.length := by omega
        have hmx : (s.map Lk.cells).getD i [] = (s.getD i default).cells := mg hil
        have hmem := getD_mem (l := s) hil
        have hgs : grL c (s.getD i default) = true → ∀ k, k < i + 1 → grL c (s.getD k default) = true := fun h k hk => by
          by_cases e : k = i
          · subst e; exact h
          · exact hg k (by omega)
        generalize s.getD i default = x at hmx hmem hgs
        have bad : grL c x = false → s.all (grL c) = false := fun h => List.all_eq_false.2 ⟨x, hmem, by rw [h]; simp⟩
        have c1 := c_hasInt h.d_impl_hasInt (l := c) (n := x.a) (by omega)
        have c2 := c_hasInt h.d_impl_hasInt (l := c) (n := x.b) (by omega)
        by_cases ha : x.a ∈ c
        · rw [decide_eq_true ha] at c1
          by_cases hb2 : x.b ∈ c
          · rw [decide_eq_true hb2] at c2
            have hgs := hgs (by unfold grL; rw [decide_eq_true ha, decide_eq_true hb2]; rfl)
            (refine ev2 @hc @hmx ?_; try with_reducible exact True.intro)
            refine PFK_of c1 ?_
            (refine ev ?_; try with_reducible exact True.intro)
            refine PFK_of c2 ?_
            (refine ev ?_; try with_reducible exact True.intro)
            exact ⟨i + 1, by omega, ⟨by omega, hgs⟩, by (refine Fg_re [] (by simp) (by intro p hp; cases hp) rfl ?_) <;> (try (refine ev ?_; try with_reducible exact True.intro)) <;> (repeat' (first | exact True.intro | omega | exact CanE_ptr rfl (by simp) | refine ⟨?_, ?_⟩ | exact of_eq_true (CanE_nil _ _ _) | exact CanE_of rfl (by simp; done) | exact CanE_of rfl rfl | (refine CanE_msl rfl ?_ rfl; simp [irows]; done) | (refine CanE_msl rfl ?_ rfl; simp [irows]; omega) | (refine CanE_frz ?_ ?_; (focus ((refine ev ?_; try with_reducible exact True.intro); done)); (intro q hq k s0 l0; simp; done))))⟩
          · rw [decide_eq_false hb2] at c2
            rw [bad (by unfold grL; rw [decide_eq_false hb2, Bool.and_false])]
            (refine ev2 @hc @hmx ?_; try with_reducible exact True.intro)
            refine PFK_of c1 ?_
            (refine ev ?_; try with_reducible exact True.intro)
            refine PFK_of c2 ?_
            (refine ev ?_; try with_reducible exact True.intro)
        · rw [decide_eq_false ha] at c1
          rw [bad (by unfold grL; rw [decide_eq_false ha, Bool.false_and])]
          (refine ev2 @hc @hmx ?_; try with_reducible exact True.intro)
          refine PFK_of c1 ?_
          (refine ev ?_; try with_reducible exact True.intro)
      · have hie : i = s.length := by omega
        have hA : s.all (grL c) = true := List.all_eq_true.2 fun x hx => by
          obtain ⟨k, hk⟩ := List.mem_iff_getElem?.1 hx
          have := hg k (by have := (List.getElem?_eq_some_iff.1 hk).1; omega)
          rw [List.getD_eq_getElem?_getD, hk] at this
          exact this
        rw [hA]
        (refine ev1 @hc ?_; try with_reducible exact True.intro)
theorem c_sIsGrounded {T : Nat → Option Fn} (h : D_spec_IsGrounded T) {s : List Lk} (hw : wfL Lk.wf s := by first | omega | assumption | (simp; omega)) (hl : s.length ≤ 1048576 := by first | omega | assumption | (simp; omega)) : PF T 338 [lksV s] (.bool (grOk s)) := by
  have ci := c_sIsLinkSet h.d_spec_IsLinkSet hw
  have cc := c_sComponentOf h.d_spec_ComponentOf (v := 0) hw hl
  have cn := c_sNodesOfM h.d_spec_NodesOf hw hl
  have hcl := cpM_len s 0
  have hnl := nodesM_len s
  have hgr : ∀ hb : lksOk s = true, (s.all (grL (cpV s 0)) = true ↔ ∀ n ∈ nodesM s, n ∈ cpM s 0) := fun hb => by rw [cpM_t hb]; exact gr_nodes hb
  have hnf : lksOk s = false → nodesM s = [] := nodesM_f
  unfold grOk
  generalize s.all (grL (cpV s 0)) = A at *
  generalize nodesM s = nd at *
  generalize cpM s 0 = c at *
  refine pf_end (fun _ _ => false) h.hT rfl rfl ?_
  dsimp only [F_spec_IsGrounded, oN, oS, oG, oK, oA, oH, oV, cI]
  (refine ev ?_; try with_reducible exact True.intro)
  refine PFK_of cc ?_
  (refine ev ?_; try with_reducible exact True.intro)
  refine PFK_of cn ?_
  (refine ev ?_; try with_reducible exact True.intro)
  refine loop_at (fun _ _ => false) (α := Nat) (fun i => ⟨argE [lksV s, .any, .any, ints c, .any, .any, .any, .any, .any, ints nd, iv (nd.length : Nat), iv (i : Nat)], [], 0, 0, [], []⟩) (fun i => i ≤ nd.length ∧ ∀ k, k < i → nd.getD k 0 ∈ c) (fun i => nd.length - i) rfl 0 ?_ ?_ ?_
  · exact ⟨by omega, by intro k hk; omega⟩
  · (refine Fg_env ?_) <;> (try (refine ev ?_; try with_reducible exact True.intro)) <;> (repeat' (first | refine ⟨?_, ?_⟩ | exact EvV_int (by omega) | exact EvV_of (by simp) | exact EvV_nil _))
  · rintro i ⟨hi, hg⟩
    by_cases hcc : (i : Int) < (nd.length : Nat)
    · have hil : i < nd.length := by omega
      have hb : lksOk s = true := by
        cases hb : lksOk s
        · rw [hnf hb] at hil; simp at hil
        · rfl
      have ch := c_l07Has h.d_spec_l07Has (l := c) (n := nd.getD i 0) (by omega)
      by_cases ha : nd.getD i 0 ∈ c
      · rw [decide_eq_true ha] at ch
        (refine ev1 @hcc ?_; try with_reducible exact True.intro)
        refine PFK_of ch ?_
        (refine ev ?_; try with_reducible exact True.intro)
        refine ⟨i + 1, by omega, ⟨by omega, fun k hk => ?_⟩, by (refine Fg_re [] (by simp) (by intro p hp; cases hp) rfl ?_) <;> (try (refine ev ?_; try with_reducible exact True.intro)) <;> (repeat' (first | exact True.intro | omega | exact CanE_ptr rfl (by simp) | refine ⟨?_, ?_⟩ | exact of_eq_true (CanE_nil _ _ _) | exact CanE_of rfl (by simp; done) | exact CanE_of rfl rfl | (refine CanE_msl rfl ?_ rfl; simp [irows]; done) | (refine CanE_msl rfl ?_ rfl; simp [irows]; omega) | (refine CanE_frz ?_ ?_; (focus ((refine ev ?_; try with_reducible exact True.intro); done)); (intro q hq k s0 l0; simp; done))))⟩
        by_cases e : k = i
        · subst e; exact ha
        · exact hg k (by omega)
      · rw [decide_eq_false ha] at ch
        have hA : A = false := by
          cases hA : A
          · rfl
          · exact absurd ((hgr hb).1 hA _ (by rw [List.getD_eq_getElem?_getD, List.getElem?_eq_getElem hil]; exact List.getElem_mem hil)) ha
        rw [hA, Bool.and_false]
        (refine ev1 @hcc ?_; try with_reducible exact True.intro)
        refine PFK_of ch ?_
        (refine ev ?_; try with_reducible exact True.intro)
    · have hA : (lksOk s && A) = lksOk s := by
        cases hb : lksOk s
        · rfl
        · rw [(hgr hb).2 fun n hn => by
            obtain ⟨k, hk⟩ := List.mem_iff_getElem?.1 hn
            have := hg k (by have := (List.getElem?_eq_some_iff.1 hk).1; omega)
            rw [List.getD_eq_getElem?_getD, hk] at this
            exact this]
          rfl
      rw [hA]
      (refine ev1 @hcc ?_; try with_reducible exact True.intro)
      refine PFK_of ci ?_
      (refine ev ?_; try with_reducible exact True.intro)
end Go.Ml
end
section
set_option linter.unusedSimpArgs false
set_option linter.unusedVariables false
set_option maxRecDepth 100000
namespace Go.Ml
def F_laws_eqPoint : Fn := ⟨2, 17, [.tmp 4], (.seq (.reg false 2 [oN 2 (.box (.t 0)), oK 3 1 (.box (.t 1)), oK 4 2 (.mov (.c (.bool false)))]) (.seq (.seq (.reg false 0 [oN 5 (.fld 0 (.t 2)), oN 6 (.load 3 true (.t 5)), oN 7 (.fld 0 (.t 3)), oN 8 (.load 3 true (.t 7)), oN 9 (.call 40 [(.t 6), (.t 8)]), oN 10 (.un .not (.t 9))]) (.cond (.t 10) (.seq (.reg false 0 [oN 4 (.mov (.c (.bool false)))]) .ret) .skip)) (.seq (.seq (.reg false 0 [oN 11 (.fld 3 (.t 2)), oN 12 (.load 3 true (.t 11)), oN 13 (.fld 3 (.t 3)), oN 14 (.load 3 true (.t 13)), oN 15 (.call 40 [(.t 12), (.t 14)]), oN 16 (.un .not (.t 15))]) (.cond (.t 16) (.seq (.reg false 0 [oN 4 (.mov (.c (.bool false)))]) .ret) .skip)) (.seq (.reg false 0 [oN 4 (.mov (.c (.bool true)))]) .ret))))⟩
structure D_laws_eqPoint (T : Nat → Option Fn) : Prop where
  hT : T 33 = some F_laws_eqPoint
  d_laws_eqRat : D_laws_eqRat T
def F_laws_eqPointS : Fn := ⟨2, 27, [.tmp 4], (.seq (.reg false 0 [oN 4 (.mov (.c (.bool false)))]) (.seq (.seq (.reg false 0 [oN 6 (oV 0), oN 7 (.len (.t 6)), oN 8 (oV 1), oN 9 (.len (.t 8)), oN 10 (.bin .neq (.t 7) (.t 9))]) (.cond (.t 10) (.seq (.reg false 0 [oN 4 (.mov (.c (.bool false)))]) .ret) .skip)) (.seq (.seq (.reg false 0 [oN 5 (.mov (cI 0))]) (.block 0 (.loop (.seq (.seq (.reg false 0 [oN 11 (oV 5), oN 12 (oV 0), oN 13 (.len (.t 12)), oN 14 (.bin .lss (.t 11) (.t 13))]) (.cond (.t 14) .skip (.exit 0))) (.seq (.block 1 (.seq (.reg true 0 [oN 17 (oV 0), oN 18 (oV 5), oA 19 0 (.idx 6 (.t 17) (.t 18)) [0, 1], oA 20 0 (.load 6 true (.t 19)) [2], oN 21 (oV 1), oN 22 (oV 5), oA 23 0 (.idx 6 (.t 21) (.t 22)) [4, 5], oA 24 0 (.load 6 true (.t 23)) [6], oA 25 0 (.call 33 [(.t 20), (.t 24)]) [3, 7], oA 26 0 (.un .not (.t 25)) [8]]) (.cond (.t 26) (.seq (.reg false 0 [oN 4 (.mov (.c (.bool false)))]) .ret) .skip))) (.reg false 0 [oN 15 (oV 5), oN 16 (.bin .add (.t 15) (cI 1)), oN 5 (oV 16)])))))) (.seq (.reg false 0 [oN 4 (.mov (.c (.bool true)))]) .ret))))⟩
structure D_laws_eqPointS (T : Nat → Option Fn) : Prop where
  hT : T 13 = some F_laws_eqPointS
  d_laws_eqPoint : D_laws_eqPoint T
def F_laws_szLink : Fn := ⟨2, 24, [.tmp 4], (.seq (.reg false 1 [oN 2 (.box (.t 0)), oK 4 1 (.mov (cI 0))]) (.seq (.reg false 0 [oN 5 (.fld 2 (.t 2)), oN 6 (.load 3 true (.t 5)), oN 7 (oV 1), oN 8 (.call 46 [(.t 6), (.t 7)]), oN 1 (oV 8)]) (.seq (.seq (.reg false 0 [oN 9 (oV 1), oN 10 (.bin .lss (.t 9) (cI 0))]) (.cond (.t 10) (.seq (.reg false 0 [oN 4 (.mov (cI (-1)))]) .ret) .skip)) (.seq (.reg false 0 [oN 11 (.fld 5 (.t 2)), oN 12 (.load 3 true (.t 11)), oN 13 (oV 1), oN 14 (.call 46 [(.t 12), (.t 13)]), oN 1 (oV 14)]) (.seq (.seq (.reg false 0 [oN 15 (oV 1), oN 16 (.bin .lss (.t 15) (cI 0))]) (.cond (.t 16) (.seq (.reg false 0 [oN 4 (.mov (cI (-1)))]) .ret) .skip)) (.seq (.reg false 0 [oN 17 (.fld 8 (.t 2)), oN 18 (.load 3 true (.t 17)), oN 19 (oV 1), oN 20 (.call 46 [(.t 18), (.t 19)]), oN 1 (oV 20)]) (.seq (.seq (.reg false 0 [oN 21 (oV 1), oN 22 (.bin .lss (.t 21) (cI 0))]) (.cond (.t 22) (.seq (.reg false 0 [oN 4 (.mov (cI (-1)))]) .ret) .skip)) (.seq (.reg false 0 [oN 23 (oV 1), oN 4 (oV 23)]) .ret))))))))⟩
structure D_laws_szLink (T : Nat → Option Fn) : Prop where
  hT : T 43 = some F_laws_szLink
  d_laws_szRat : D_laws_szRat T
def F_laws_toLink : Fn := ⟨1, 23, [.cell 2 11 true], (.seq (.reg false 2 [oN 1 (.box (.t 0)), oK 2 1 (.alloc [.int .i64 0, .int .i64 0, .bool false, .nils, .nils, .bool false, .nils, .nils, .bool false, .nils, .nils])]) (.seq (.reg false 1 [oN 3 (.alloc [.int .i64 0, .int .i64 0, .bool false, .nils, .nils, .bool false, .nils, .nils, .bool false, .nils, .nils])]) (.seq (.reg false 0 [oN 4 (.fld 0 (.t 1)), oN 5 (.load 1 false (.t 4)), oN 6 (.fld 0 (.t 3)), oS (.store 1 (.t 6) (.t 5))]) (.seq (.reg false 0 [oN 7 (.fld 1 (.t 1)), oN 8 (.load 1 false (.t 7)), oN 9 (.fld 1 (.t 3)), oS (.store 1 (.t 9) (.t 8))]) (.seq (.reg false 0 [oN 10 (.fld 2 (.t 1)), oN 11 (.load 3 true (.t 10)), oN 12 (.call 48 [(.t 11)]), oN 13 (.fld 2 (.t 3)), oS (.store 3 (.t 13) (.t 12))]) (.seq (.reg false 0 [oN 14 (.fld 5 (.t 1)), oN 15 (.load 3 true (.t 14)), oN 16 (.call 48 [(.t 15)]), oN 17 (.fld 5 (.t 3)), oS (.store 3 (.t 17) (.t 16))]) (.seq (.reg false 0 [oN 18 (.fld 8 (.t 1)), oN 19 (.load 3 true (.t 18)), oN 20 (.call 48 [(.t 19)]), oN 21 (.fld 8 (.t 3)), oS (.store 3 (.t 21) (.t 20))]) (.seq (.reg false 0 [oN 22 (.load 11 true (.t 3)), oS (.store 11 (.t 2) (.t 22))]) .ret))))))))⟩
structure D_laws_toLink (T : Nat → Option Fn) : Prop where
  hT : T 44 = some F_laws_toLink
  d_laws_toRat : D_laws_toRat T
def F_laws_eqLink : Fn := ⟨2, 33, [.tmp 4], (.seq (.reg false 2 [oN 2 (.box (.t 0)), oK 3 1 (.box (.t 1)), oK 4 2 (.mov (.c (.bool false)))]) (.seq (.seq (.reg false 0 [oN 5 (.fld 0 (.t 2)), oN 6 (.load 1 false (.t 5)), oN 7 (.fld 0 (.t 3)), oN 8 (.load 1 false (.t 7)), oN 9 (.bin .neq (.t 6) (.t 8))]) (.cond (.t 9) (.seq (.reg false 0 [oN 4 (.mov (.c (.bool false)))]) .ret) .skip)) (.seq (.seq (.reg false 0 [oN 10 (.fld 1 (.t 2)), oN 11 (.load 1 false (.t 10)), oN 12 (.fld 1 (.t 3)), oN 13 (.load 1 false (.t 12)), oN 14 (.bin .neq (.t 11) (.t 13))]) (.cond (.t 14) (.seq (.reg false 0 [oN 4 (.mov (.c (.bool false)))]) .ret) .skip)) (.seq (.seq (.reg false 0 [oN 15 (.fld 2 (.t 2)), oN 16 (.load 3 true (.t 15)), oN 17 (.fld 2 (.t 3)), oN 18 (.load 3 true (.t 17)), oN 19 (.call 40 [(.t 16), (.t 18)]), oN 20 (.un .not (.t 19))]) (.cond (.t 20) (.seq (.reg false 0 [oN 4 (.mov (.c (.bool false)))]) .ret) .skip)) (.seq (.seq (.reg false 0 [oN 21 (.fld 5 (.t 2)), oN 22 (.load 3 true (.t 21)), oN 23 (.fld 5 (.t 3)), oN 24 (.load 3 true (.t 23)), oN 25 (.call 40 [(.t 22), (.t 24)]), oN 26 (.un .not (.t 25))]) (.cond (.t 26) (.seq (.reg false 0 [oN 4 (.mov (.c (.bool false)))]) .ret) .skip)) (.seq (.seq (.reg false 0 [oN 27 (.fld 8 (.t 2)), oN 28 (.load 3 true (.t 27)), oN 29 (.fld 8 (.t 3)), oN 30 (.load 3 true (.t 29)), oN 31 (.call 40 [(.t 28), (.t 30)]), oN 32 (.un .not (.t 31))]) (.cond (.t 32) (.seq (.reg false 0 [oN 4 (.mov (.c (.bool false)))]) .ret) .skip)) (.seq (.reg false 0 [oN 4 (.mov (.c (.bool true)))]) .ret)))))))⟩
structure D_laws_eqLink (T : Nat → Option Fn) : Prop where
  hT : T 16 = some F_laws_eqLink
  d_laws_eqRat : D_laws_eqRat T
def F_laws_szLinkS : Fn := ⟨2, 27, [.tmp 4], (.seq (.reg false 0 [oN 4 (.mov (cI 0))]) (.seq (.reg false 0 [oN 6 (oV 1), oN 7 (oV 0), oN 8 (.len (.t 7)), oN 9 (.bin .sub (.t 6) (.t 8)), oN 1 (oV 9)]) (.seq (.seq (.reg false 0 [oN 10 (oV 1), oN 11 (.bin .lss (.t 10) (cI 0))]) (.cond (.t 11) (.seq (.reg false 0 [oN 4 (.mov (cI (-1)))]) .ret) .skip)) (.seq (.seq (.reg false 0 [oN 5 (.mov (cI 0))]) (.block 0 (.loop (.seq (.seq (.reg false 0 [oN 12 (oV 5), oN 13 (oV 0), oN 14 (.len (.t 13)), oN 15 (.bin .lss (.t 12) (.t 14))]) (.cond (.t 15) .skip (.exit 0))) (.seq (.block 1 (.seq (.reg false 0 [oN 18 (oV 0), oN 19 (oV 5), oN 20 (.idx 11 (.t 18) (.t 19)), oN 21 (.load 11 true (.t 20)), oN 22 (oV 1), oN 23 (.call 43 [(.t 21), (.t 22)]), oN 1 (oV 23)]) (.seq (.reg false 0 [oN 24 (oV 1), oN 25 (.bin .lss (.t 24) (cI 0))]) (.cond (.t 25) (.seq (.reg false 0 [oN 4 (.mov (cI (-1)))]) .ret) .skip)))) (.reg false 0 [oN 16 (oV 5), oN 17 (.bin .add (.t 16) (cI 1)), oN 5 (oV 17)])))))) (.seq (.reg false 0 [oN 26 (oV 1), oN 4 (oV 26)]) .ret)))))⟩
structure D_laws_szLinkS (T : Nat → Option Fn) : Prop where
  hT : T 19 = some F_laws_szLinkS
  d_laws_szLink : D_laws_szLink T
def F_laws_toLinkS : Fn := ⟨1, 23, [.tmp 2], (.seq (.reg false 0 [oN 2 (.mov (.c (.nils)))]) (.seq (.reg false 1 [oK 5 1 (oV 0), oK 6 1 (.len (.t 5)), oN 7 (.make [.int .i64 0, .int .i64 0, .bool false, .nils, .nils, .bool false, .nils, .nils, .bool false, .nils, .nils] 184 (.t 6)), oK 3 1 (oV 7)]) (.seq (.seq (.reg false 0 [oN 4 (.mov (cI 0))]) (.block 0 (.loop (.seq (.seq (.reg false 0 [oN 8 (oV 4), oN 9 (oV 0), oN 10 (.len (.t 9)), oN 11 (.bin .lss (.t 8) (.t 10))]) (.cond (.t 11) .skip (.exit 0))) (.seq (.block 1 (.reg false 0 [oN 14 (oV 3), oN 15 (oV 4), oN 16 (oV 0), oN 17 (oV 4), oN 18 (.idx 11 (.t 16) (.t 17)), oN 19 (.load 11 true (.t 18)), oN 20 (.call 44 [(.t 19)]), oN 21 (.idx 11 (.t 14) (.t 15)), oS (.store 11 (.t 21) (.t 20))])) (.reg false 0 [oN 12 (oV 4), oN 13 (.bin .add (.t 12) (cI 1)), oN 4 (oV 13)])))))) (.seq (.reg false 0 [oN 22 (oV 3), oN 2 (oV 22)]) .ret))))⟩
structure D_laws_toLinkS (T : Nat → Option Fn) : Prop where
  hT : T 21 = some F_laws_toLinkS
  d_laws_toLink : D_laws_toLink T
def F_laws_eqLinkS : Fn := ⟨2, 27, [.tmp 4], (.seq (.reg false 0 [oN 4 (.mov (.c (.bool false)))]) (.seq (.seq (.reg false 0 [oN 6 (oV 0), oN 7 (.len (.t 6)), oN 8 (oV 1), oN 9 (.len (.t 8)), oN 10 (.bin .neq (.t 7) (.t 9))]) (.cond (.t 10) (.seq (.reg false 0 [oN 4 (.mov (.c (.bool false)))]) .ret) .skip)) (.seq (.seq (.reg false 0 [oN 5 (.mov (cI 0))]) (.block 0 (.loop (.seq (.seq (.reg false 0 [oN 11 (oV 5), oN 12 (oV 0), oN 13 (.len (.t 12)), oN 14 (.bin .lss (.t 11) (.t 13))]) (.cond (.t 14) .skip (.exit 0))) (.seq (.block 1 (.seq (.reg true 0 [oN 17 (oV 0), oN 18 (oV 5), oA 19 0 (.idx 11 (.t 17) (.t 18)) [0, 1], oA 20 0 (.load 11 true (.t 19)) [2], oN 21 (oV 1), oN 22 (oV 5), oA 23 0 (.idx 11 (.t 21) (.t 22)) [4, 5], oA 24 0 (.load 11 true (.t 23)) [6], oA 25 0 (.call 16 [(.t 20), (.t 24)]) [3, 7], oA 26 0 (.un .not (.t 25)) [8]]) (.cond (.t 26) (.seq (.reg false 0 [oN 4 (.mov (.c (.bool false)))]) .ret) .skip))) (.reg false 0 [oN 15 (oV 5), oN 16 (.bin .add (.t 15) (cI 1)), oN 5 (oV 16)])))))) (.seq (.reg false 0 [oN 4 (.mov (.c (.bool true)))]) .ret))))⟩
structure D_laws_eqLinkS (T : Nat → Option Fn) : Prop where
  hT : T 23 = some F_laws_eqLinkS
  d_laws_eqLink : D_laws_eqLink T
theorem c_szLink {T : Nat → Option Fn} (h : D_laws_szLink T) {x : Lk} {left : Int} (hw : x.wf := by first | omega | assumption | (simp; omega)) (h0 : 0 ≤ left ∧ left ≤ 1048576 := by first | omega | assumption | (simp; omega)) : PF T 43 [lkV x, iv left] (iv (szr left x.sz)) := by
  obtain ⟨w0, w1, w2⟩ := hw
  refine pf_end (fun _ _ => false) h.hT rfl rfl ?_
  dsimp only [F_laws_szLink, oN, oS, oG, oK, oA, oH, oV, cI]
  (refine ev ?_; try with_reducible exact True.intro)
  refine PFK_of (c_szRat h.d_laws_szRat (r := x.w) w0 ⟨by omega, by omega⟩) ?_
  (refine ev ?_; try with_reducible exact True.intro)
  have k0 := @szr_le left (x.w.sz)
  refine brK_dec (fun hb0 => ?_) fun hb0 => ?_ <;> (refine ev1 @hb0 ?_; try with_reducible exact True.intro)
  · rw [show x.sz = (x.w.sz) + (x.dx.sz + x.dy.sz) from by (unfold Lk.sz; omega), szr_neg hb0 h0.1]
  refine PFK_of (c_szRat h.d_laws_szRat (r := x.dx) w1 ⟨by omega, by omega⟩) ?_
  (refine ev ?_; try with_reducible exact True.intro)
  rw [szr_add hb0]
  have k1 := @szr_le left (x.w.sz + x.dx.sz)
  refine brK_dec (fun hb1 => ?_) fun hb1 => ?_ <;> (refine ev1 @hb1 ?_; try with_reducible exact True.intro)
  · rw [show x.sz = (x.w.sz + x.dx.sz) + (x.dy.sz) from by (unfold Lk.sz; omega), szr_neg hb1 h0.1]
  refine PFK_of (c_szRat h.d_laws_szRat (r := x.dy) w2 ⟨by omega, by omega⟩) ?_
  (refine ev ?_; try with_reducible exact True.intro)
  rw [szr_add hb1]
  have k2 := @szr_le left (x.w.sz + x.dx.sz + x.dy.sz)
  refine brK_dec (fun hb2 => ?_) fun hb2 => ?_ <;> (refine ev1 @hb2 ?_; try with_reducible exact True.intro)
  · rw [show x.sz = x.w.sz + x.dx.sz + x.dy.sz from rfl, szr_neg0 hb2 h0.1]
  · rfl
theorem c_toLink {T : Nat → Option Fn} (h : D_laws_toLink T) {x : Lk} (hl : x.sz ≤ 1048576 := by first | omega | assumption | (simp; omega)) : PF T 44 [lkV x] (lkV x) := by
  unfold Lk.sz at hl
  refine pf_end (fun _ _ => false) h.hT rfl rfl ?_
  dsimp only [F_laws_toLink, oN, oS, oG, oK, oA, oH, oV, cI]
  (refine ev ?_; try with_reducible exact True.intro)
  refine PFK_of (c_toRat h.d_laws_toRat (r := x.w) (by omega)) ?_
  (refine ev ?_; try with_reducible exact True.intro)
  refine PFK_of (c_toRat h.d_laws_toRat (r := x.dx) (by omega)) ?_
  (refine ev ?_; try with_reducible exact True.intro)
  refine PFK_of (c_toRat h.d_laws_toRat (r := x.dy) (by omega)) ?_
  (refine ev ?_; try with_reducible exact True.intro)
theorem c_eqLink {T : Nat → Option Fn} (h : D_laws_eqLink T) {x y : Lk} (hx : x.wf := by first | omega | assumption | (simp; omega)) (hy : y.wf := by first | omega | assumption | (simp; omega)) : PF T 16 [lkV x, lkV y] (.bool (decide (x = y))) := by
  obtain ⟨w0, w1, w2⟩ := hx
  obtain ⟨v0, v1, v2⟩ := hy
  refine pf_end (fun _ _ => false) h.hT rfl rfl ?_
  dsimp only [F_laws_eqLink, oN, oS, oG, oK, oA, oH, oV, cI]
  (refine ev ?_; try with_reducible exact True.intro)
  refine brK_dec (fun hb0 => ?_) fun hb0 => ?_ <;> (refine ev1 @hb0 ?_; try with_reducible exact True.intro)
  rotate_left
  · cases x; cases y; simp_all
  refine brK_dec (fun hb1 => ?_) fun hb1 => ?_ <;> (refine ev1 @hb1 ?_; try with_reducible exact True.intro)
  rotate_left
  · cases x; cases y; simp_all
  refine PFK_of (c_eqRat h.d_laws_eqRat (y := x.w) (z := y.w) w0 v0) ?_
  (refine ev ?_; try with_reducible exact True.intro)
  refine brK_dec (fun hb2 => ?_) fun hb2 => ?_ <;> (refine ev1 @hb2 ?_; try with_reducible exact True.intro)
  rotate_left
  · cases x; cases y; simp_all
  refine PFK_of (c_eqRat h.d_laws_eqRat (y := x.dx) (z := y.dx) w1 v1) ?_
  (refine ev ?_; try with_reducible exact True.intro)
  refine brK_dec (fun hb3 => ?_) fun hb3 => ?_ <;> (refine ev1 @hb3 ?_; try with_reducible exact True.intro)
  rotate_left
  · cases x; cases y; simp_all
  refine PFK_of (c_eqRat h.d_laws_eqRat (y := x.dy) (z := y.dy) w2 v2) ?_
  (refine ev ?_; try with_reducible exact True.intro)
  refine brK_dec (fun hb4 => ?_) fun hb4 => ?_ <;> (refine ev1 @hb4 ?_; try with_reducible exact True.intro)
  rotate_left
  · cases x; cases y; simp_all
  · cases x; cases y; simp_all
theorem c_szLinkS {T : Nat → Option Fn} (h : D_laws_szLinkS T) {l : List Lk} {left : Int} (hw : wfL Lk.wf l := by first | omega | assumption | (simp; omega)) (h0 : 0 ≤ left ∧ left ≤ 1048576 := by first | omega | assumption | (simp; omega)) : PF T 19 [lksV l, iv left] (iv (szr left (szL Lk.sz l))) := by
  have hlen := hw.1
  refine pf_end (fun _ _ => false) h.hT rfl rfl ?_
  dsimp only [F_laws_szLinkS, oN, oS, oG, oK, oA, oH, oV, cI]
  (refine ev ?_; try with_reducible exact True.intro)
  refine brK_dec (fun hb => ?_) fun hb => ?_ <;> (refine ev1 @hb ?_; try with_reducible exact True.intro)
  · rw [szr_no (by rw [szL_eq]; omega)]
  refine loop_at (fun _ _ => false) (α := Nat) (fun i => ⟨argE [lksV l, iv (left - (l.length : Nat) - (sumTo Lk.sz l i : Nat)), .any, .any, .any, iv (i : Nat)], [], 0, 0, [], []⟩) (fun i => i ≤ l.length ∧ (l.length : Int) + (sumTo Lk.sz l i : Nat) ≤ left) (fun i => l.length - i) rfl 0 ?_ ?_ ?_
  · rw [sumTo_zero]; omega
  · (refine Fg_env ?_) <;> (try (refine ev1 @sumTo_zero ?_; try with_reducible exact True.intro)) <;> (repeat' (first | refine ⟨?_, ?_⟩ | exact EvV_int (by omega) | exact EvV_of (by simp) | exact EvV_nil _))
  · rintro i ⟨hi, hs⟩
    (refine ev ?_; try with_reducible exact True.intro)
    refine brK_dec (fun hc => ?_) fun hc => ?_ <;> (refine ev2 @hc @mg ?_; try with_reducible exact True.intro)
    · refine PFK_of (c_szLink h.d_laws_szLink (x := l.getD i default) (hw.at_ (by omega)) ⟨by omega, by omega⟩) ?_
      (refine ev ?_; try with_reducible exact True.intro)
      have k1 := sumTo_mono Lk.sz (l := l) (i := i) (by omega)
      have k2 := sumTo_succ Lk.sz (l := l) (i := i) (by omega)
      refine brK_dec (fun hd => ?_) fun hd => ?_ <;> (refine ev1 @hd ?_; try with_reducible exact True.intro)
      · have := szr_lt hd (by omega)
        rw [szr_no (left := left) (by rw [szL_eq]; omega)]
      · have e1 : szr (left - (l.length : Nat) - (sumTo Lk.sz l i : Nat)) (Lk.sz (l.getD i default)) = left - (l.length : Nat) - (sumTo Lk.sz l (i + 1) : Nat) := by
          rw [szr_ok (szr_nlt hd)]; omega
        rw [show (l.getD i default).sz = Lk.sz (l.getD i default) from rfl, e1] at hd ⊢
        exact ⟨i + 1, by omega, ⟨by omega, by omega⟩, by (refine Fg_env ?_) <;> (try (refine ev ?_; try with_reducible exact True.intro)) <;> (repeat' (first | refine ⟨?_, ?_⟩ | exact EvV_int (by omega) | exact EvV_of (by simp) | exact EvV_nil _))⟩
    · have : i = l.length := by omega
      subst this
      rw [sumTo_all] at hs ⊢
      rw [szr_ok (by rw [szL_eq]; omega)]; rw [szL_eq]
      congr 1; omega
theorem c_toLinkS {T : Nat → Option Fn} (h : D_laws_toLinkS T) {l : List Lk} (hl : szL Lk.sz l ≤ 1048576 := by first | omega | assumption | (simp; omega)) : PF T 21 [lksV l] (lksV l) := by
  rw [szL_eq] at hl
  refine pf_end (fun _ _ => false) h.hT rfl rfl ?_
  dsimp only [F_laws_toLinkS, oN, oS, oG, oK, oA, oH, oV, cI]
  (refine ev ?_; try with_reducible exact True.intro)
  refine ⟨by omega, ?_⟩
  refine loop_at (fun _ _ => false) (α := Nat) (fun i => ⟨argE [lksV l, .any, .any, .msl 0 0 l.length, iv (i : Nat)], [some ⟨11, fillR Lk.cells l [iv 0, iv 0, .bool false, .nils, .nils, .bool false, .nils, .nils, .bool false, .nils, .nils] i⟩], 0, 0, [], []⟩) (fun i => i ≤ l.length) (fun i => l.length - i) rfl 0 ?_ ?_ ?_
  · omega
  · (refine Fg_env ?_) <;> (try (refine ev1 @fillR_zero ?_; try with_reducible exact True.intro)) <;> (repeat' (first | refine ⟨?_, ?_⟩ | exact EvV_int (by omega) | exact EvV_of (by simp) | exact EvV_nil _))
  · intro i hi
    have e1 := fillR_len Lk.cells l [iv 0, iv 0, .bool false, .nils, .nils, .bool false, .nils, .nils, .bool false, .nils, .nils] hi
    (refine ev1 @e1 ?_; try with_reducible exact True.intro)
    refine brK_dec (fun hb => ?_) fun hb => ?_ <;> (refine ev3 @hb @e1 @mg ?_; try with_reducible exact True.intro)
    · have k1 := sumTo_mono Lk.sz (l := l) (i := i) (by omega)
      refine PFK_of (c_toLink h.d_laws_toLink (x := l.getD i default) (by first | omega | (change Lk.sz _ ≤ _; omega))) ?_
      have e0 := fillR_get Lk.cells l [iv 0, iv 0, .bool false, .nils, .nils, .bool false, .nils, .nils, .bool false, .nils, .nils] (i := i) (by omega)
      (refine ev2 @e0 @e1 ?_; try with_reducible exact True.intro)
      have e2 := fillR_set Lk.cells l [iv 0, iv 0, .bool false, .nils, .nils, .bool false, .nils, .nils, .bool false, .nils, .nils] (i := i) (by omega)
      refine ⟨i + 1, by omega, by omega, Fg_env' ?_ (by rw [← e2])⟩
      (refine ev ?_; try with_reducible exact True.intro)
      repeat' (first | refine ⟨?_, ?_⟩ | exact EvV_int (by omega) | exact EvV_of (by simp))
    · have : i = l.length := by omega
      subst this
      rw [fillR_all, resO_st (still_map (f := Lk.cells) (l := l) (by intro x _ v hv; simp at hv; rcases hv with rfl | rfl | rfl | rfl | rfl | rfl | rfl | rfl | rfl | rfl | rfl <;> rfl)) (by simp), List.drop_zero, List.take_of_length_le (by simp)]; rfl
theorem c_eqLinkS {T : Nat → Option Fn} (h : D_laws_eqLinkS T) {a b : List Lk} (ha : wfL Lk.wf a := by first | omega | assumption | (simp; omega)) (hb : wfL Lk.wf b := by first | omega | assumption | (simp; omega)) : PF T 23 [lksV a, lksV b] (.bool (decide (a = b))) := by
  have l1 := ha.1
  have l2 := hb.1
  refine pf_end (fun _ _ => false) h.hT rfl rfl ?_
  dsimp only [F_laws_eqLinkS, oN, oS, oG, oK, oA, oH, oV, cI]
  (refine ev ?_; try with_reducible exact True.intro)
  refine brK_dec (fun h1 => ?_) fun h1 => ?_ <;> (refine ev1 @h1 ?_; try with_reducible exact True.intro)
  · have h1 : a.length = b.length := by omega
    refine loop_at (fun _ _ => false) (α := Nat) (fun i => ⟨argE [lksV a, lksV b, .any, .any, .any, iv (i : Nat)], [], 0, 0, [], []⟩) (fun i => i ≤ a.length ∧ ∀ j, j < i → a.getD j default = b.getD j default) (fun i => a.length - i) rfl 0 ?_ ?_ ?_
    · exact ⟨by omega, by intro j hj; omega⟩
    · (refine Fg_env ?_) <;> (try (refine ev ?_; try with_reducible exact True.intro)) <;> (repeat' (first | refine ⟨?_, ?_⟩ | exact EvV_int (by omega) | exact EvV_of (by simp) | exact EvV_nil _))
    · rintro i ⟨hi, hj⟩
      (refine ev ?_; try with_reducible exact True.intro)
      refine brK_dec (fun h2 => ?_) fun h2 => ?_ <;> (refine ev2 @h2 @mg ?_; try with_reducible exact True.intro)
      · refine PFK_of (c_eqLink h.d_laws_eqLink (x := a.getD i default) (y := b.getD i default) (ha.at_ (by omega)) (hb.at_ (by omega))) ?_
        (refine ev ?_; try with_reducible exact True.intro)
        refine brK_dec (fun h3 => ?_) fun h3 => ?_ <;> (refine ev1 @h3 ?_; try with_reducible exact True.intro)
        · refine ⟨i + 1, by omega, ⟨by omega, fun j hj' => ?_⟩, by (refine Fg_env ?_) <;> (try (refine ev ?_; try with_reducible exact True.intro)) <;> (repeat' (first | refine ⟨?_, ?_⟩ | exact EvV_int (by omega) | exact EvV_of (by simp) | exact EvV_nil _))⟩
          by_cases e : j = i
          · subst e; exact h3
          · exact hj j (by omega)
        · have : ¬ a = b := fun e => h3 (by rw [e])
          simp [this]
      · have : a = b := getD_ext' h1 fun j h => hj j (by omega)
        simp [this]
  · have : ¬ a = b := fun e => h1 (by rw [e])
    simp [this]
end Go.Ml
end
section
set_option linter.unusedSimpArgs false
set_option linter.unusedVariables false
set_option maxRecDepth 100000
set_option maxHeartbeats 4000000
namespace Go.Ml
def F_laws_FnExactIsGrounded : Fn := ⟨1, 27, [.tmp 2], (.seq (.reg false 0 [oN 2 (.mov (.c (.bool false)))]) (.seq (.reg false 0 [oN 3 (.mov (cI 1048576))]) (.seq (.reg false 0 [oN 7 (oV 0), oN 8 (oV 3), oN 9 (.call 19 [(.t 7), (.t 8)]), oN 3 (oV 9)]) (.seq (.seq (.reg false 0 [oN 10 (oV 3), oN 11 (.bin .lss (.t 10) (cI 0))]) (.cond (.t 11) (.seq (.reg false 0 [oN 2 (.mov (.c (.bool true)))]) .ret) .skip)) (.seq (.reg false 0 [oN 12 (oV 0), oN 13 (.call 21 [(.t 12)]), oN 14 (.call 338 [(.t 13)]), oN 4 (oV 14)]) (.seq (.reg false 0 [oN 15 (oV 0), oN 16 (.call 21 [(.t 15)]), oN 5 (oV 16)]) (.seq (.reg false 0 [oN 17 (oV 5), oN 18 (.call 339 [(.t 17)]), oN 6 (oV 18)]) (.seq (.seq (.reg false 0 [oN 19 (oV 6), oN 20 (oV 4), oN 21 (.beq true (.t 19) (.t 20))]) (.cond (.t 21) (.seq (.reg false 0 [oN 2 (.mov (.c (.bool false)))]) .ret) .skip)) (.seq (.seq (.reg false 0 [oN 22 (oV 5), oN 23 (oV 0), oN 24 (.call 21 [(.t 23)]), oN 25 (.call 23 [(.t 22), (.t 24)]), oN 26 (.un .not (.t 25))]) (.cond (.t 26) (.seq (.reg false 0 [oN 2 (.mov (.c (.bool false)))]) .ret) .skip)) (.seq (.reg false 0 [oN 2 (.mov (.c (.bool true)))]) .ret))))))))))⟩
structure D_laws_FnExactIsGrounded (T : Nat → Option Fn) : Prop where
  hT : T 331 = some F_laws_FnExactIsGrounded
  d_laws_szLinkS : D_laws_szLinkS T
  d_laws_toLinkS : D_laws_toLinkS T
  d_laws_eqLinkS : D_laws_eqLinkS T
  d_spec_IsGrounded : D_spec_IsGrounded T
  d_impl_IsGrounded : D_impl_IsGrounded T
theorem c_lawFnExactIsGrounded {T : Nat → Option Fn} (h : D_laws_FnExactIsGrounded T) (a : List Lk) (wa : (wfL Lk.wf) a) : PF T 331 [lksV a] (.bool true) := by
  refine pf_end (fun _ _ => false) h.hT rfl rfl ?_
  dsimp only [F_laws_FnExactIsGrounded, oN, oS, oG, oK, oA, oH, oV, cI]
  (refine ev ?_; try with_reducible exact True.intro)
  refine PFK_of (c_szLinkS h.d_laws_szLinkS (l := a) wa ⟨by omega, by omega⟩) ?_
  (refine ev ?_; try with_reducible exact True.intro)
  have ka := @szr_le (1048576) (szL Lk.sz a)
  refine brK_dec (fun hba => ?_) fun hba => ?_ <;> (refine ev1 @hba ?_; try with_reducible exact True.intro)
  have sa := szr_nlt hba
  repeat' (first | ((refine brK_dec (fun hb => ?_) fun hb => ?_) <;> (try (refine ev1 @hb ?_; try with_reducible exact True.intro))) | ((refine PFK_of (c_sIsGrounded h.d_spec_IsGrounded wa (by have := szL_eq Lk.sz a; omega)) ?_) <;> (try (refine ev ?_; try with_reducible exact True.intro))) | ((refine PFK_of (c_iIsGrounded h.d_impl_IsGrounded wa (by have := szL_eq Lk.sz a; omega)) ?_) <;> (try (refine ev ?_; try with_reducible exact True.intro))) | ((refine PFK_of (c_toLinkS h.d_laws_toLinkS (l := a) (by omega)) ?_) <;> (try (refine ev ?_; try with_reducible exact True.intro))) | ((refine PFK_of (c_eqLinkS h.d_laws_eqLinkS (a := a) (b := a) wa wa) ?_) <;> (try (refine ev ?_; try with_reducible exact True.intro))))
end Go.Ml
end
section
set_option linter.unusedSimpArgs false
namespace Go.Ml
def OutOk (P : Program) (fid : Nat) (o : OutF) : Prop :=
  ∀ args σ r σ', o.sem args σ r σ' → ∀ w M D (vals : Array Value), rdL w D (XS M D) args vals.toList → SRel w D M σ → Calls P fid vals w (Post M D w σ.length r σ')
def Fits (P : Program) (ν : Nat → Option Nat) (T : Nat → Option Fn) : Prop :=
  ∀ fid f F, ν fid = some f → T f = some F → (∃ fn, P.funcs[fid]? = some fn ∧ trFn P ν fn = some F) ∨ ∃ o, F.body = .lib o ∧ OutOk P fid o
theorem no_lib {T : Nat → Option Fn} {j : Job} {x : Out} (h : Run T j x) : ∀ o st, j ≠ .code (.lib o) st := by
  induction h with
  | gc ρ hn hρ h ih => intro o st e; cases e; exact ih o _ rfl
  | forget he ho hk h ih => intro o st e; cases e; exact ih o _ rfl
  | re W h h' ih => intro o st e; cases e; exact ih o _ rfl
  | _ => intro o st e; cases e
theorem trC_lib {P : Program} {ν : Nat → Option Nat} {nt : Nat} {o : OutF} : ∀ c : Code, trC P ν nt c ≠ some (.lib o) := by
  intro c h
  unfold trC at h
  cases c <;> simp at h
  all_goals (try (split at h <;> simp at h))
theorem trFn_lib {P : Program} {ν : Nat → Option Nat} {fn : Func} {F : Fn} {o : OutF} (h : trFn P ν fn = some F) (hb : F.body = .lib o) : False := by
  unfold trFn at h
  split at h <;> first | (cases h; done) | skip
  split at h <;> first | (cases h; done) | skip
  rename_i b rs' hb' hrs'
  split at h <;> first | (cases h; done) | skip
  simp only [Option.some.injEq] at h
  subst h
  simp only [] at hb
  subst hb
  exact trC_lib _ hb'
section
variable {P : Program} {ν : Nat → Option Nat} {T : Nat → Option Fn}
theorem okK_cons {m : Nat} {x : OpI} {l : List OpI} (h : okK m (x :: l) = true) : okK m l = true ∧ ∀ y ∈ l, y.i.makes = true → y.k ≠ x.k ∧ y.k < m := by
  have hm : ∀ (l : List OpI), okK m l = true → ∀ y ∈ l, y.i.makes = true → y.k < m := by
    intro l
    induction l with
    | nil => intro _ y hy; cases hy
    | cons z l ih =>
      intro h y hy hmk
      simp only [okK, Bool.and_eq_true] at h
      rcases List.mem_cons.1 hy with rfl | hy
      · have := h.1
        rw [if_pos hmk] at this
        simp only [Bool.and_eq_true, decide_eq_true_eq] at this
        exact this.1
      · exact ih h.2 y hy hmk
  simp only [okK, Bool.and_eq_true] at h
  refine ⟨h.2, fun y hy hmk => ⟨?_, hm l h.2 y hy hmk⟩⟩
  by_cases hx : x.i.makes = true
  · have := h.1
    rw [if_pos hx] at this
    simp only [Bool.and_eq_true, decide_eq_true_eq, List.all_eq_true] at this
    have := this.2 y hy
    simpa [hmk] using this
  · have := h.1
    rw [if_neg hx] at this
    simp only [beq_iff_eq] at this
    have := hm l h.2 y hy hmk
    omega
theorem okK_lt {m : Nat} : ∀ (l : List OpI), okK m l = true → ∀ x ∈ l, x.i.makes = true → x.k < m
  | [], _, y, hy, _ => by cases hy
  | z :: l, h, y, hy, hmk => by
    simp only [okK, Bool.and_eq_true] at h
    rcases List.mem_cons.1 hy with rfl | hy
    · have := h.1
      rw [if_pos hmk] at this
      simp only [Bool.and_eq_true, decide_eq_true_eq] at this
      exact this.1
    · exact okK_lt l h.2 y hy hmk
theorem okK_ne {m : Nat} : ∀ (l : List OpI), okK m l = true → ∀ (i j : Nat) (x y : OpI), l[i]? = some x → l[j]? = some y → i ≠ j → x.i.makes = true → x.k ≠ y.k
  | [], _, i, j, x, y, hx, _, _, _ => by simp at hx
  | z :: l, h, i, j, x, y, hx, hy, hij, hmk => by
    obtain ⟨k1, k2⟩ := okK_cons h
    cases i with
    | zero =>
      simp at hx; subst hx
      cases j with
      | zero => exact absurd rfl hij
      | succ j =>
        have hy' : y ∈ l := List.mem_of_getElem? (by simpa using hy)
        by_cases hmy : y.i.makes = true
        · exact fun e => (k2 y hy' hmy).1 e.symm
        · -- one that makes none has the number m
          have hm : ∀ (l : List OpI), okK m l = true → ∀ y ∈ l, y.i.makes ≠ true → y.k = m := by
            intro l
            induction l with
            | nil => intro _ y hy; cases hy
            | cons z l ih =>
              intro h y hy hn
              simp only [okK, Bool.and_eq_true] at h
              rcases List.mem_cons.1 hy with rfl | hy
              · have := h.1
                rw [if_neg hn] at this
                simpa using this
              · exact ih h.2 y hy hn
          have := hm l k1 y hy' hmy
          have h3 := okK_lt _ h z (by simp) hmk
          omega
    | succ i =>
      have hx' : x ∈ l := List.mem_of_getElem? (by simpa using hx)
      cases j with
      | zero =>
        simp at hy; subst hy
        exact (k2 x hx' hmk).1
      | succ j => exact okK_ne l k1 i j x y (by simpa using hx) (by simpa using hy) (by omega) hmk
theorem opsOk_cons {o : OpI} {l : List OpI} {st st1 st2 : St} (h1 : OpOk P ν o st st1) (h2 : OpsOk P ν l st1 st2) : OpsOk P ν (o :: l) st st2 := by
  obtain ⟨a1, a2, a3, a4⟩ := h1
  obtain ⟨b1, b2, b3, b4⟩ := h2
  refine ⟨b1.trans a1, b2.trans a2, Nat.le_trans a3 b3, ?_⟩
  intro ops dr nt m k rest htr hk M w0 D0 D a w hs hid Q hQ
  cases rest with
  | nil => simp [trOps] at htr
  | cons r rest =>
    simp only [trOps] at htr
    split at htr <;> first | (cases htr; done) | skip
    rename_i x hx
    split at htr <;> first | (cases htr; done) | skip
    rename_i l' hl'
    simp only [Option.some.injEq, List.cons.injEq] at htr
    obtain ⟨rfl, rfl⟩ := htr
    obtain ⟨k1, k2⟩ := okK_cons hk
    have key := a4 ops dr nt m k r hx M w0 D0 D a w hs (hid x (by simp)) (wpList P ops Q rest) Q (fun D' a' w' hs' hun => by
      refine b4 ops dr nt m _ rest hl' k1 M w0 D0 D' a' w' hs' (fun y hy hmk => ?_) Q hQ
      rw [a1]
      obtain ⟨e1, e2⟩ := hid y (by simp [hy]) hmk
      exact ⟨Nat.lt_of_lt_of_le e1 a3, hun _ (Nat.le_add_right _ _) e1 e2 (fun h => (k2 y hy hmk).1 (by omega))⟩)
    unfold wpList
    split
    · rename_i hw; rw [if_pos hw] at key; exact .inl key
    · rename_i hw; rw [if_neg hw] at key; exact key
theorem trC_inv {nt : Nat} {cc : Code} {c : C} (h : trC P ν nt cc = some c) : match c with
    | .skip => cc = .skip
    | .reg d m l => ∃ id ops, cc = .region id ops d ∧ trOps P ν ops d nt m 0 ops.toList = some l
    | .seq x y => ∃ a b, cc = .seq a b ∧ trC P ν nt a = some x ∧ trC P ν nt b = some y
    | .cond s x y => ∃ o a b, cc = .cond o a b ∧ trS o = some s ∧ trC P ν nt a = some x ∧ trC P ν nt b = some y
    | .block id x => ∃ a, cc = .block id a ∧ trC P ν nt a = some x
    | .loop x => ∃ a, cc = .loop a ∧ trC P ν nt a = some x
    | .exit id => cc = .exit id
    | .ret => cc = .ret
    | .lib _ => False := by
  cases cc with
  | skip => simp only [trC, Option.some.injEq] at h; subst h; rfl
  | region id ops d =>
    simp only [trC, Option.map_eq_some_iff] at h
    obtain ⟨l, h1, rfl⟩ := h
    exact ⟨id, ops, rfl, h1⟩
  | seq a b =>
    simp only [trC] at h
    split at h <;> first | (cases h; done) | skip
    rename_i x y h1 h2
    simp only [Option.some.injEq] at h; subst h
    exact ⟨a, b, rfl, h1, h2⟩
  | cond o a b =>
    simp only [trC] at h
    split at h <;> first | (cases h; done) | skip
    rename_i s x y h1 h2 h3
    simp only [Option.some.injEq] at h; subst h
    exact ⟨o, a, b, rfl, h1, h2, h3⟩
  | block id a =>
    simp only [trC, Option.map_eq_some_iff] at h
    obtain ⟨x, h1, rfl⟩ := h
    exact ⟨a, rfl, h1⟩
  | loop a =>
    simp only [trC, Option.map_eq_some_iff] at h
    obtain ⟨x, h1, rfl⟩ := h
    exact ⟨a, rfl, h1⟩
  | exit id => simp only [trC, Option.some.injEq] at h; subst h; rfl
  | ret => simp only [trC, Option.some.injEq] at h; subst h; rfl
  | _ => simp [trC] at h
theorem loop_of {c : C} {e : Ex} {st st' : St} (hk : st'.keep = st.keep) (h : LoopOk P ν c e st st') : CodeOk P ν (.loop c) e st st' := by
  refine ⟨hk, ?_⟩
  intro nt cc htr M w0 D0 D a w hs Q hQ
  obtain ⟨cb, rfl, hb⟩ := trC_inv htr
  intro b k cs
  obtain ⟨x, a', w', q, harr⟩ := h nt cb hb M w0 D0 D a w hs Q hQ b k cs
  exact ⟨x, a', w', q, .of_steps (.one step_loop) harr⟩
theorem exOf_ne {e : Ex} (h : e ≠ .normal) : exOf e ≠ .normal := by cases e <;> simp [exOf] at h ⊢
theorem then_of {next : Act → World → Prop} {Q : Exit → Act → World → Prop} {e : Ex} (h : e ≠ .normal) {a : Act} {w : World} (hq : Q (exOf e) a w) : Exit.then next Q (exOf e) a w := by
  cases e <;> first | (simp at h; done) | exact hq
def getRes (tmps : Array Value) : ResultVar → Sem Value
  | .tmp t => pure (tmps.getD t undef)
  | .cell q t => do loadVar t (← asAddr (tmps.getD q undef))
theorem results_eq (fn : Func) (tmps : Array Value) : results fn tmps = (do let vs ← fn.results.mapM (getRes tmps); pure (if h : vs.size = 1 then vs[0] else .tuple vs)) := rfl
theorem fnOk_lib (hT : Fits P ν T) {f : Nat} {args : List V} {σ : Store} {F : Fn} {o : OutF} {r : V} {σ' : Store} (hf : T f = some F) (hb : F.body = .lib o) (h : o.sem args σ r σ') : FnOk P ν f args σ r σ' := by
  intro fid hfid w M D vals hv hS
  rcases hT fid f F hfid hf with ⟨fn, hfn, htr⟩ | ⟨o', e, hO⟩
  · exact (trFn_lib htr hb).elim
  · rw [hb] at e
    cases e
    exact hO args σ r σ' h w M D vals hv hS
theorem fnOk_fn (hT : Fits P ν T) {f : Nat} {args : List V} {σ : Store} {F : Fn} {e : Ex} {st' : St} {rs : List V} (hf : T f = some F) (hl : args.length = F.nargs) (hnl : ∀ o, F.body ≠ .lib o)
    (ih : CodeOk P ν F.body e (St.enter args σ) st') (he : e = .normal ∨ e = .ret) (hr : F.res.mapM (Res.get st') = some rs) : FnOk P ν f args σ (packRes rs) st'.objs := by
  intro fid hfid w M D vals hv hS
  rcases hT fid f F hfid hf with ⟨fn, hfn, htr⟩ | ⟨o, e, _⟩
  case inr => exact (hnl o e).elim
  unfold trFn at htr
  split at htr <;> first | (cases htr; done) | skip
  rename_i body hbody
  split at htr <;> first | (cases htr; done) | skip
  rename_i b rs' hb hrs'
  split at htr <;> first | (cases htr; done) | skip
  rename_i hle
  simp only [Option.some.injEq] at htr; subst htr
  have hvl : vals.size = args.length := by simpa using (rdL_length _ _ hv).symm
  refine calls_of_wp hfn hbody ?_
  have hs0 : SR fn.ntmps M w D (St.enter args σ) D { tmps := vals ++ Array.replicate (fn.ntmps - vals.size) undef, defers := [] } w := by
    refine ⟨?_, ?_, rfl, hS, Gr.refl _ _, fun o d h => .inl ⟨o, d, h, rfl⟩, fun o _ => DSle.refl _⟩
    · intro t
      simp only [St.enter]
      by_cases ht : t < args.length
      · obtain ⟨y, h1, h2⟩ := rdL_get _ _ hv t args[t] (by simp [ht])
        have e1 : argE args t = args[t] := by simp [argE, ht]
        rw [e1]
        have e2 : (vals ++ Array.replicate (fn.ntmps - vals.size) undef).getD t undef = y := by
          rw [Array.getD_eq_getD_getElem?, Array.getElem?_append_left (by omega)]
          rw [← Array.getElem?_toList, h1]; rfl
        rw [e2]; exact h2
      · have e1 : argE args t = .any := by simp [argE, List.getD, List.getElem?_eq_none (Nat.le_of_not_lt ht)]
        rw [e1]; simp only [rd]
    · simp only [Array.size_append, Array.size_replicate]; simp only [] at hl; omega
  refine ih.2 fn.ntmps body hb M w D D _ w hs0 _ ?_
  intro D' a' w' hs'
  have hres : ∃ v, (results fn a'.tmps).run P w' = .ok v w' ∧ rd w' D' (XS M D') (packRes rs) v := by
    have hlist : ∀ (vars : List ResultVar) (rl : List Res) (vl : List V), vars.mapM (trRes P) = some rl → rl.mapM (Res.get st') = some vl →
        ∃ ys : List Value, (vars.mapM (getRes a'.tmps)).run P w' = .ok ys w' ∧ rdL w' D' (XS M D') vl ys := by
      intro vars
      induction vars with
      | nil => intro rl vl h1 h2; simp at h1; subst h1; simp at h2; subst h2; exact ⟨[], by simp, by simp [rdL]⟩
      | cons x vars ihv =>
        intro rl vl h1 h2
        simp only [List.mapM_cons, Option.pure_def, Option.bind_eq_bind, Option.bind_eq_some_iff, Option.some.injEq] at h1
        obtain ⟨r, hr1, rl', hr2, rfl⟩ := h1
        simp only [List.mapM_cons, Option.pure_def, Option.bind_eq_bind, Option.bind_eq_some_iff, Option.some.injEq] at h2
        obtain ⟨z, hz1, vl', hz2, rfl⟩ := h2
        obtain ⟨ys, k1, k2⟩ := ihv rl' vl' hr2 hz2
        cases x with
        | tmp t =>
          simp only [trRes, Option.some.injEq] at hr1; subst hr1
          simp only [Res.get, Option.some.injEq] at hz1; subst hz1
          refine ⟨a'.tmps.getD t undef :: ys, ?_, by simp only [rdL]; exact ⟨_, _, rfl, hs'.env t, k2⟩⟩
          have hg : (getRes a'.tmps (.tmp t)).run P w' = .ok (a'.tmps.getD t undef) w' := rfl
          simp only [List.mapM_cons, Sem.run_bind, Sem.run_pure, Result.andThen_ok, k1, hg]
        | cell q t =>
          simp only [trRes, Option.map_eq_some_iff] at hr1
          obtain ⟨⟨n, g⟩, hg, rfl⟩ := hr1
          simp only [Res.get] at hz1
          split at hz1 <;> first | (cases hz1; done) | skip
          rename_i row off hrow
          obtain ⟨u, j1, j2⟩ := run_load_agg hs'.store hg hrow (hs'.env q) hz1
          obtain ⟨bl, oo, hptr, _⟩ := rowAt_rd hs'.store hrow (hs'.env q)
          refine ⟨u :: ys, ?_, by simp only [rdL]; exact ⟨_, _, rfl, j2, k2⟩⟩
          have j1' : (loadVar t ⟨bl, oo + off, none⟩).run P w' = .ok u w' := by
            rw [hptr] at j1
            simpa [Instr.loadAt, Instr.sureAddr] using j1
          have hg : (getRes a'.tmps (.cell q t)).run P w' = .ok u w' := by
            simp only [getRes, hptr, asAddr, Sem.run_bind, Sem.run_pure, Result.andThen_ok, j1']
          simp only [List.mapM_cons, Sem.run_bind, Sem.run_pure, Result.andThen_ok, k1, hg]
    obtain ⟨ys, k1, k2⟩ := hlist fn.results.toList rs' rs hrs' hr
    refine ⟨if h : ys.toArray.size = 1 then ys.toArray[0] else .tuple ys.toArray, ?_, ?_⟩
    · have : (fn.results.mapM (getRes a'.tmps)).run P w' = .ok ys.toArray w' := by
        rw [← Array.toArray_toList (xs := fn.results), List.mapM_toArray, Sem.run_map, k1]; rfl
      rw [results_eq]
      simp only [Sem.run_bind, this, Result.andThen_ok, Sem.run_pure]
    · have hlen := rdL_length _ _ k2
      have gen : ∀ (rs : List V) (ys : List Value), rdL w' D' (XS M D') rs ys → rs.length = ys.length → rd w' D' (XS M D') (packRes rs) (if h : ys.toArray.size = 1 then ys.toArray[0] else .tuple ys.toArray) := by
        intro rs ys h hl
        cases rs with
        | nil =>
          cases ys with
          | nil => simp only [packRes]; rw [dif_neg (by simp)]; simp only [rd]; exact ⟨_, rfl, h⟩
          | cons y ys => simp at hl
        | cons x xs =>
          cases ys with
          | nil => simp at hl
          | cons y ys =>
            cases xs with
            | nil =>
              cases ys with
              | nil =>
                simp only [rdL] at h
                obtain ⟨y', ys', h0, h1, h2⟩ := h
                cases h0
                simpa [packRes] using h1
              | cons y' ys => simp at hl
            | cons x' xs =>
              cases ys with
              | nil => simp at hl
              | cons y' ys =>
                simp only [packRes]
                rw [dif_neg (by simp)]
                simp only [rd]
                exact ⟨_, rfl, h⟩
      exact gen rs ys k2 hlen
  obtain ⟨v, hv1, hv2⟩ := hres
  have hfin : bodyPost P fn (Post M D w σ.length (packRes rs) st'.objs) .ret a' w' :=
    ⟨hs'.df, v, hv1, v, D', rfl, hv2, hs'.store, hs'.gr, hs'.fr, fun o ho => hs'.kp o (by rw [ih.1]; exact ho)⟩
  rcases he with rfl | rfl <;> exact hfin
theorem trOps_get {ops : Array Oper} {dr : Bool} {nt m : Nat} : ∀ {k : Nat} {rest : List Oper} {l : List OpI}, trOps P ν ops dr nt m k rest = some l →
    l.length = rest.length ∧ ∀ (i : Nat) (x : OpI), l[i]? = some x → ∃ o k', rest[i]? = some o ∧ trOp P ν ops dr nt m k' o = some x
  | k, [], l, h => by simp only [trOps, Option.some.injEq] at h; subst h; simp
  | k, o :: rest, l, h => by
    simp only [trOps] at h
    split at h <;> first | (cases h; done) | skip
    rename_i x hx
    split at h <;> first | (cases h; done) | skip
    rename_i l' hl'
    simp only [Option.some.injEq] at h; subst h
    obtain ⟨e1, e2⟩ := trOps_get hl'
    refine ⟨by simp [e1], fun i y hi => ?_⟩
    cases i with
    | zero => simp at hi; subst hi; exact ⟨o, k, rfl, hx⟩
    | succ i => simpa using e2 i y (by simpa using hi)
theorem trOp_aft {ops : Array Oper} {nt m k : Nat} {o : Oper} {x : OpI} (h : trOp P ν ops true nt m k o = some x) : x.aft = trAft o := by
  unfold trOp at h
  split at h <;> first | (cases h; done) | skip
  split at h <;> first | (cases h; done) | skip
  simp only [Option.some.injEq] at h; subst h
  rfl
theorem ready_iff {ops : Array Oper} {nt m : Nat} {l : List OpI} (h : trOps P ν ops true nt m 0 ops.toList = some l) {done : List Nat} {listed : Array Bool} (hs : listed.size = ops.size)
    (hl : ∀ i, listed.getD i false = true ↔ i ∈ done) {i : Nat} : i ∈ Region.ready .any ops listed ↔ readyB l done i = true := by
  obtain ⟨e1, e2⟩ := trOps_get h
  rw [mem_ready]
  have hlt : ∀ {i : Nat}, i < ops.size → (listed.getD i true = false ↔ i ∉ done) := by
    intro i hi
    have : listed.getD i true = listed.getD i false := by
      rw [Array.getD_eq_getD_getElem?, Array.getD_eq_getD_getElem?, Array.getElem?_eq_getElem (by omega)]; rfl
    rw [this]
    constructor
    · intro h1 h2; rw [(hl i).2 h2] at h1; cases h1
    · intro h1
      cases hb : listed.getD i false with
      | false => rfl
      | true => exact absurd ((hl i).1 hb) h1
  constructor
  · rintro ⟨h1, o, ho, h2⟩
    have hi := (Array.getElem?_eq_some_iff.1 ho).1
    have hil : i < l.length := by rw [e1]; simpa using hi
    obtain ⟨o', k', ho', hx⟩ := e2 i l[i] (by simp [hil])
    have : o' = o := by rw [Array.getElem?_toList] at ho'; rw [ho] at ho'; exact (Option.some.inj ho').symm
    subst this
    unfold readyB
    rw [List.getElem?_eq_getElem hil]
    simp only [Bool.and_eq_true, Bool.not_eq_true', List.all_eq_true]
    refine ⟨?_, ?_⟩
    · have := (hlt hi).1 h1
      simpa using this
    · intro e he
      rw [trOp_aft hx] at he
      simp only [trAft, List.mem_map, List.mem_filter] at he
      obtain ⟨ed, ⟨h3, h4⟩, rfl⟩ := he
      have := h2 ed (by simpa using h3) h4
      simpa using (hl _).1 this
  · intro hr
    unfold readyB at hr
    split at hr <;> first | (cases hr; done) | skip
    rename_i x hx
    simp only [Bool.and_eq_true, Bool.not_eq_true', List.all_eq_true] at hr
    obtain ⟨o, k', ho, htr⟩ := e2 i x hx
    have ho' : ops[i]? = some o := by rwa [Array.getElem?_toList] at ho
    have hi := (Array.getElem?_eq_some_iff.1 ho').1
    refine ⟨(hlt hi).2 (by simpa using hr.1), o, ho', ?_⟩
    intro e he hb
    refine (hl _).2 ?_
    have := hr.2 e.on (by rw [trOp_aft htr]; simp only [trAft, List.mem_map, List.mem_filter]; exact ⟨e, ⟨by simpa using he, hb⟩, rfl⟩)
    simpa using this
theorem sound (hm : P.follows .mixedOrders = true) (hT : Fits P ν T) {j : Job} {o : Out} (h : Run T j o) : Sound P ν j o := by
  induction h with
  | skip st =>
    refine ⟨⟨rfl, ?_⟩, fun x h => by cases h⟩
    intro nt cc htr M w0 D0 D a w hs Q hQ
    have hc : cc = .skip := trC_inv htr
    subst hc
    exact Go.wp_skip (hQ D a w hs)
  | @reg m l st st' hk h ih =>
    obtain ⟨_, i1, i2, i3, i4⟩ := ih
    refine ⟨⟨i2, ?_⟩, fun x h => by cases h⟩
    intro nt cc htr M w0 D0 D a w hs Q hQ
    obtain ⟨id, ops, rfl, hops⟩ := trC_inv htr
    refine wp_region_list ?_
    refine i4 ops false nt m 0 ops.toList hops hk M w0 D0 D a w ⟨hs.env, hs.tm, hs.df, hs.mem m, hs.gr, hs.fr, hs.kp⟩ (fun x hx hmk => ?_) Q (fun D' a' w' h => hQ D' a' w' h)
    have hkm : x.k < m := by
      have : ∀ (l : List OpI), okK m l = true → ∀ x ∈ l, x.i.makes = true → x.k < m := by
        intro l
        induction l with
        | nil => intro _ y hy; cases hy
        | cons z l ih =>
          intro h y hy hmk
          simp only [okK, Bool.and_eq_true] at h
          rcases List.mem_cons.1 hy with rfl | hy
          · have := h.1
            rw [if_pos hmk] at this
            simp only [Bool.and_eq_true, decide_eq_true_eq] at this
            exact this.1
          · exact ih h.2 y hy hmk
      exact this l hk x hx hmk
    simp only [List.length_append, List.length_replicate]
    exact ⟨by omega, hs.store.far _ (by omega)⟩
  | @regD m l st st' hk h ih =>
    obtain ⟨_, i1, i2, i3, i4⟩ := ih
    refine ⟨⟨i2, ?_⟩, fun x h => by cases h⟩
    intro nt cc htr M w0 D0 D a w hs Q hQ
    obtain ⟨id, ops, rfl, hops⟩ := trC_inv htr
    refine wp_region_any hm ?_
    have hsd : SR nt M w0 D0 st D a { w with drawn := w.drawn + 1 } := by
      have hE : Ext w D (XS M D) { w with drawn := w.drawn + 1 } D (XS M D) := ⟨Nat.le_refl _, fun _ _ _ => rfl, fun _ _ h => h, fun _ => DSle.refl _⟩
      refine ⟨fun t => rd_mono _ _ hE (hs.env t), hs.tm, hs.df, ?_, ⟨hs.gr.size, hs.gr.os, hs.gr.tape, hs.gr.output, hs.gr.block⟩, hs.fr, hs.kp⟩
      refine ⟨fun o d ho => ?_, hs.store.alive, hs.store.inj, hs.store.far, hs.store.mlt⟩
      obtain ⟨ob, c, e, g1, g2, g3, g4, g5, g6, g7, g8, g9, g10, g11⟩ := hs.store.live o d ho
      refine ⟨ob, c, e, g1, g2, g3, g4, g5, g6, g7, g8, g9, g10, fun i x hi => ?_⟩
      obtain ⟨k0, y, k1, k2⟩ := g11 i x hi
      exact ⟨k0, y, k1, rd_mono _ _ hE k2⟩
    refine i4 ops nt m hops hk M w0 D0 D a _ ⟨hsd.env, hsd.tm, hsd.df, hsd.mem m, hsd.gr, hsd.fr, hsd.kp⟩ (fun i x hx _ hmk => ?_) Q (fun D' a' w' h => hQ D' a' w' h) _ _ (by simp) (fun i => ?_) ?_
    · have hkm : x.k < m := okK_lt l hk x (List.mem_of_getElem? hx) hmk
      simp only [List.length_append, List.length_replicate]
      exact ⟨by omega, hsd.store.far _ (by omega)⟩
    · simp only [Array.getD_eq_getD_getElem?, Array.getElem?_replicate]
      split <;> simp
    · simp
  | @anyN l done st h =>
    refine ⟨rfl, rfl, rfl, Nat.le_refl _, ?_⟩
    intro ops nt m htr hk M w0 D0 D a w hs hid Q hQ fuel listed h1 h2 h3
    refine wpAny_done ?_ (hQ D a w hs) fuel
    apply List.eq_nil_iff_forall_not_mem.2
    intro i hi
    rw [ready_iff htr h1 h2, h i] at hi
    cases hi
  | @anyC l done st st' i0 h0 f h h' ih ih' =>
    obtain ⟨_, b1, b2, b3, _⟩ := ih' i0 h0
    obtain ⟨x0, hx0⟩ : ∃ x0, l[i0]? = some x0 := by
      unfold readyB at h0
      split at h0 <;> first | (cases h0; done) | skip
      exact ⟨_, by assumption⟩
    obtain ⟨_, a1, a2, a3, _⟩ := ih i0 x0 hx0 h0
    refine ⟨rfl, b1.trans a1, b2.trans a2, Nat.le_trans a3 b3, ?_⟩
    intro ops nt m htr hk M w0 D0 D a w hs hid Q hQ fuel listed h1 h2 h3
    have hready : ∀ i, i ∈ Region.ready .any ops listed ↔ readyB l done i = true := fun i => ready_iff htr h1 h2
    have hpos : fuel ≠ 0 := by
      rintro rfl
      have hi := (hready i0).2 h0
      have := (mem_ready.1 hi).1
      obtain ⟨_, o, ho, _⟩ := mem_ready.1 hi
      have hlt := (Array.getElem?_eq_some_iff.1 ho).1
      have hmem : false ∈ listed.toList := by
        have : listed[i0]'(by omega) = false := by
          rw [Array.getD_eq_getD_getElem?, Array.getElem?_eq_getElem (by omega)] at this
          simpa using this
        rw [← this]; simp
      have := List.count_pos_iff.2 hmem
      omega
    obtain ⟨fuel, rfl⟩ := Nat.exists_eq_succ_of_ne_zero hpos
    refine ⟨fun hnil => ?_, fun i hi => ?_⟩
    · have := (hready i0).2 h0
      rw [hnil] at this; cases this
    · have hr := (hready i).1 hi
      obtain ⟨e1, e2⟩ := trOps_get htr
      obtain ⟨_, o, ho, _⟩ := mem_ready.1 hi
      have hlt := (Array.getElem?_eq_some_iff.1 ho).1
      have hil : i < l.length := by rw [e1]; simpa using hlt
      obtain ⟨o', k', ho', hx⟩ := e2 i l[i] (by simp [hil])
      have : o' = o := by rw [Array.getElem?_toList] at ho'; rw [ho] at ho'; exact (Option.some.inj ho').symm
      subst this
      have hli : l[i]? = some l[i] := by simp [hil]
      have hnd : i ∉ done := by
        unfold readyB at hr
        rw [hli] at hr
        simp only [Bool.and_eq_true, Bool.not_eq_true'] at hr
        simpa using hr.1
      obtain ⟨_, c1, c2, c3, c4⟩ := ih i l[i] hli hr
      obtain ⟨_, d1, d2, d3, d4⟩ := ih' i hr
      have key := c4 ops true nt m k' o' hx M w0 D0 D a w hs (fun hmk => hid i l[i] hli hnd hmk) (wpAny P .any ops Q fuel (listed.setIfInBounds i true)) Q (fun D' a' w' hs' hun => by
        refine d4 ops nt m htr hk M w0 D0 D' a' w' hs' (fun j y hy hj hmk => ?_) Q hQ fuel _ (by simpa using h1) (fun j => ?_) ?_
        · simp only [List.mem_cons, not_or] at hj
          rw [c1]
          obtain ⟨g1, g2⟩ := hid j y hy hj.2 hmk
          refine ⟨Nat.lt_of_lt_of_le g1 c3, hun _ (Nat.le_add_right _ _) g1 g2 ?_⟩
          intro he
          have hne := okK_ne l hk j i y l[i] hy hli hj.1 hmk
          omega
        · rw [Array.getD_eq_getD_getElem?, Array.getElem?_setIfInBounds]
          by_cases hij : i = j
          · subst hij
            simp [h1, hlt]
          · rw [if_neg hij, ← Array.getD_eq_getD_getElem?, h2 j]
            simp only [List.mem_cons]
            constructor
            · exact .inr
            · rintro (h | h)
              · exact absurd h.symm hij
              · exact h
        · have hfi : listed[i]'(by omega) = false := by
            have := (mem_ready.1 hi).1
            rw [Array.getD_eq_getD_getElem?, Array.getElem?_eq_getElem (by omega)] at this
            simpa using this
          rw [Array.toList_setIfInBounds, List.count_set (by simpa using (by omega : i < listed.size))]
          have h4 : listed.toList[i]'(by simpa using (by omega : i < listed.size)) = false := by simpa using hfi
          have h5 : 0 < listed.toList.count false := List.count_pos_iff.2 (by rw [← h4]; exact List.getElem_mem _)
          simp only [h4, beq_self_eq_true, if_true]
          have : (true == false) = false := rfl
          simp only [this, Bool.false_eq_true, if_false]
          omega)
      unfold wpOp
      simp only [ho]
      split
      · rename_i hw; rw [if_pos hw] at key; exact .inl key
      · rename_i hw; rw [if_neg hw] at key; exact key
  | @seqN a b st st1 o h h' ih ih' =>
    cases o with
    | fn r σ => trivial
    | code e st2 =>
    obtain ⟨⟨i1, i2⟩, _⟩ := ih
    obtain ⟨⟨j1, j2⟩, _⟩ := ih'
    refine ⟨⟨j1.trans i1, ?_⟩, fun x h => by cases h⟩
    intro nt cc htr M w0 D0 D a w hs Q hQ
    obtain ⟨ca, cb, rfl, ha, hb⟩ := trC_inv htr
    refine Go.wp_seq (i2 nt ca ha M w0 D0 D a w hs _ fun D' a' w' hs' => ?_)
    exact j2 nt cb hb M w0 D0 D' a' w' hs' Q hQ
  | @seqE a b st e st1 he h ih =>
    obtain ⟨⟨i1, i2⟩, _⟩ := ih
    refine ⟨⟨i1, ?_⟩, fun x h => by cases h⟩
    intro nt cc htr M w0 D0 D a w hs Q hQ
    obtain ⟨ca, cb, rfl, ha, hb⟩ := trC_inv htr
    exact Go.wp_seq (i2 nt ca ha M w0 D0 D a w hs _ fun D' a' w' hs' => then_of he (hQ D' a' w' hs'))
  | @cond x a b st t o hx h ih =>
    cases o with
    | fn r σ => trivial
    | code e st2 =>
    obtain ⟨⟨i1, i2⟩, _⟩ := ih
    refine ⟨⟨i1, ?_⟩, fun x h => by cases h⟩
    intro nt cc htr M w0 D0 D a w hs Q hQ
    obtain ⟨oc, ca, cb, rfl, h1, ha, hb⟩ := trC_inv htr
    have hv := rd_src hs.env h1
    rw [hx] at hv
    simp only [rd] at hv
    refine Go.wp_cond hv (i2 nt _ ?_ M w0 D0 D _ w hs Q hQ)
    cases t
    · exact hb
    · exact ha
  | @block id c st e st1 h ih =>
    obtain ⟨⟨i1, i2⟩, _⟩ := ih
    refine ⟨⟨i1, ?_⟩, fun x h => by cases h⟩
    intro nt cc htr M w0 D0 D a w hs Q hQ
    obtain ⟨ca, rfl, ha⟩ := trC_inv htr
    refine Go.wp_block (i2 nt ca ha M w0 D0 D a w hs _ fun D' a' w' hs' => ?_)
    have := hQ D' a' w' hs'
    cases e with
    | normal => exact this
    | ret => exact this
    | exit id' =>
      simp only [exOf, exIn, Exit.inBlock] at this ⊢
      by_cases hid : id' = id
      · simp only [hid, if_true] at this ⊢; exact this
      · simp only [hid, if_false] at this ⊢; exact this
  | @loopN c st st1 o h h' ih ih' =>
    cases o with
    | fn r σ => trivial
    | code e st2 =>
    obtain ⟨⟨i1, i2⟩, _⟩ := ih
    obtain ⟨⟨j1, _⟩, j2⟩ := ih'
    have key : LoopOk P ν c e st st2 := by
      intro nt cc htr M w0 D0 D a w hs Q hQ b k cs
      obtain ⟨x, a1, w1, ⟨D1, hx, hs1⟩, harr⟩ := i2 nt cc htr M w0 D0 D a w hs (fun x a' w' => ∃ D', x = .normal ∧ SR nt M w0 D0 st1 D' a' w') (fun D' a' w' h => ⟨D', rfl, h⟩) b (.inLoop cc :: k) cs
      subst hx
      obtain ⟨x2, a2, w2, q2, harr2⟩ := j2 c rfl nt cc htr M w0 D0 D1 a1 w1 hs1 Q hQ b k cs
      exact ⟨x2, a2, w2, q2, .of_steps (Steps.trans harr (.one step_inLoop)) harr2⟩
    exact ⟨loop_of (j1.trans i1) key, fun x hx => by cases hx; exact key⟩
  | @loopE c st e st1 he h ih =>
    obtain ⟨⟨i1, i2⟩, _⟩ := ih
    have key : LoopOk P ν c e st st1 := by
      intro nt cc htr M w0 D0 D a w hs Q hQ b k cs
      obtain ⟨x, a1, w1, ⟨D1, hx, hs1⟩, harr⟩ := i2 nt cc htr M w0 D0 D a w hs (fun x a' w' => ∃ D', x = exOf e ∧ SR nt M w0 D0 st1 D' a' w') (fun D' a' w' h => ⟨D', rfl, h⟩) b (.inLoop cc :: k) cs
      subst hx
      exact ⟨_, a1, w1, hQ D1 a1 w1 hs1, .pass (x := .inLoop cc) rfl (fun _ _ => .inl (exOf_ne he)) harr⟩
    exact ⟨loop_of i1 key, fun x hx => by cases hx; exact key⟩
  | exit id st =>
    refine ⟨⟨rfl, ?_⟩, fun x h => by cases h⟩
    intro nt cc htr M w0 D0 D a w hs Q hQ
    have hc : cc = .exit id := trC_inv htr
    subst hc
    exact Go.wp_exit (hQ D a w hs)
  | ret st =>
    refine ⟨⟨rfl, ?_⟩, fun x h => by cases h⟩
    intro nt cc htr M w0 D0 D a w hs Q hQ
    have hc : cc = .ret := trC_inv htr
    subst hc
    exact Go.wp_ret (hQ D a w hs)
  | @gc c st o ρ hn hρ h ih =>
    cases o with
    | fn r σ => trivial
    | code e st2 =>
    obtain ⟨⟨i1, i2⟩, i3⟩ := ih
    refine ⟨⟨i1, ?_⟩, ?_⟩
    · intro nt cc htr M w0 D0 D a w hs Q hQ
      exact i2 nt cc htr M w0 D0 _ a w (hs.gc hn hρ) Q hQ
    · intro x hx nt cc htr M w0 D0 D a w hs Q hQ
      exact i3 x hx nt cc htr M w0 D0 _ a w (hs.gc hn hρ) Q hQ
  | nil st =>
    refine ⟨rfl, rfl, rfl, Nat.le_refl _, ?_⟩
    intro ops dr nt m k rest htr hk M w0 D0 D a w hs hid Q hQ
    cases rest with
    | nil => exact hQ D a w hs
    | cons r rest =>
      simp only [trOps] at htr
      split at htr <;> first | (cases htr; done) | skip
      split at htr <;> first | (cases htr; done) | skip
  | @cons o l st st1 out h h' ih ih' =>
    cases out with
    | fn r σ => trivial
    | code e st2 => exact ⟨ih'.1, opsOk_cons ih.2 ih'.2⟩
  | off hg he => exact ⟨rfl, opOk_off hg he⟩
  | op hg h => exact ⟨rfl, opOk_op hg h⟩
  | callP hg hi ha h hR ih => exact ⟨rfl, opOk_callP hg hi ha ih hR⟩
  | callR ρ hn hρ hg hi h ih => exact ⟨rfl, opOk_callR hn hρ hg hi ih⟩
  | callG hg hi ha h hR ih => exact ⟨rfl, opOk_callG hg hi ha ih hR⟩
  | callI hg hi h hl hb ih => exact ⟨rfl, opOk_callI hg hi ih hl hb⟩
  | @fn f args σ F e st' rs hf hl h he hr ih => exact fnOk_fn hT hf hl (fun o e => no_lib h o (St.enter args σ) (by rw [e])) ih.1 he hr
  | lib hf hb h => exact fnOk_lib hT hf hb h
  | frz h hr ih => exact fnOk_frz hr ih
  | gcF ρ hn hρ h ih => exact fnOk_gcF hn hρ ih
  | @forget c st st2 o he ho hk h' ih =>
    cases o with
    | fn r σ => trivial
    | code e st3 =>
    obtain ⟨⟨i1, i2⟩, i3⟩ := ih
    refine ⟨⟨i1.trans hk, ?_⟩, ?_⟩
    · intro nt cc htr M w0 D0 D a w hs Q hQ
      exact i2 nt cc htr M w0 D0 _ a w (hs.forget he ho hk) Q hQ
    · intro x hx nt cc htr M w0 D0 D a w hs Q hQ
      exact i3 x hx nt cc htr M w0 D0 _ a w (hs.forget he ho hk) Q hQ
  | @re c st st2 o W h h' ih =>
    cases o with
    | fn r σ => trivial
    | code e st3 =>
    obtain ⟨⟨i1, i2⟩, i3⟩ := ih
    refine ⟨⟨i1.trans h.keep, ?_⟩, ?_⟩
    · intro nt cc htr M w0 D0 D a w hs Q hQ
      exact i2 nt cc htr M w0 D0 _ a w (hs.re h) Q hQ
    · intro x hx nt cc htr M w0 D0 D a w hs Q hQ
      exact i3 x hx nt cc htr M w0 D0 _ a w (hs.re h) Q hQ
  | reF W ha h hs hr ih => exact fnOk_reF ha hs hr ih
  | laxF ha h hr ih => exact fnOk_laxF ha hr ih
end
end Go.Ml
end
section
set_option linter.unusedSimpArgs false
set_option linter.unusedVariables false
namespace Go.Ml
open Go.ChangeShapes Go.WideShapes Go.ChangeAt Go.RowKit
def nuOf : List (Nat × Nat × Fn) → Nat → Option Nat
  | [], _ => none
  | x :: l, i => if x.1 = i then some x.2.1 else nuOf l i
def tbOf : List (Nat × Nat × Fn) → Nat → Option Fn
  | [], _ => none
  | x :: l, k => if x.2.1 = k then some x.2.2 else tbOf l k
theorem nuOf_mem : ∀ {l : List (Nat × Nat × Fn)} {i k : Nat}, nuOf l i = some k → ∃ x ∈ l, x.1 = i ∧ x.2.1 = k
  | [], _, _, h => by simp [nuOf] at h
  | x :: l, i, k, h => by
    simp only [nuOf] at h
    split at h
    · rename_i e; exact ⟨x, by simp, e, by simpa using h⟩
    · obtain ⟨y, hy, e⟩ := nuOf_mem h; exact ⟨y, by simp [hy], e⟩
theorem tbOf_mem : ∀ {l : List (Nat × Nat × Fn)} {k : Nat} {F : Fn}, tbOf l k = some F → ∃ x ∈ l, x.2.1 = k ∧ x.2.2 = F
  | [], _, _, h => by simp [tbOf] at h
  | x :: l, i, k, h => by
    simp only [tbOf] at h
    split at h
    · rename_i e; exact ⟨x, by simp, e, by simpa using h⟩
    · obtain ⟨y, hy, e⟩ := tbOf_mem h; exact ⟨y, by simp [hy], e⟩
theorem eq_of_nodup_map {α β : Type} {f : α → β} : ∀ {l : List α}, (l.map f).Nodup → ∀ {x y}, x ∈ l → y ∈ l → f x = f y → x = y
  | [], _, _, _, h, _, _ => by cases h
  | a :: l, hn, x, y, hx, hy, e => by
    simp only [List.map_cons, List.nodup_cons] at hn
    rcases List.mem_cons.1 hx with rfl | hx' <;> rcases List.mem_cons.1 hy with rfl | hy'
    · rfl
    · exact absurd (e ▸ List.mem_map_of_mem hy') hn.1
    · exact absurd (e ▸ List.mem_map_of_mem hx') hn.1
    · exact eq_of_nodup_map hn.2 hx' hy' e
theorem fits_of {P : Program} {l : List (Nat × Nat × Fn)} (hnd : (l.map (·.2.1)).Nodup) (h : ∀ x ∈ l, (∃ fn, P.funcs[x.1]? = some fn ∧ trFn P (nuOf l) fn = some x.2.2) ∨ ∃ o, x.2.2.body = .lib o ∧ OutOk P x.1 o) : Fits P (nuOf l) (tbOf l) := by
  intro fid f F h1 h2
  obtain ⟨x, hx, e1, e2⟩ := nuOf_mem h1
  obtain ⟨y, hy, e3, e4⟩ := tbOf_mem h2
  have : x = y := eq_of_nodup_map hnd hx hy (e2.trans e3.symm)
  subst this
  rw [← e1, ← e4]
  exact h x hx
theorem calls_of {P : Program} {l : List (Nat × Nat × Fn)} (hm : P.follows .mixedOrders = true) (hT : Fits P (nuOf l) (tbOf l)) {f fid : Nat} {args : List V} {r : V} (h : PF (tbOf l) f args r) (hf : nuOf l fid = some f)
    {w : World} {vals : Array Value} (hr : rdL w DM.none (fun _ => False) args vals.toList) :
    Calls P fid vals w fun e w' => (∃ v D X, e = .returned v ∧ rd w' D X r v) ∧ Below w.heap.size w w' := by
  have hs := sound hm hT h
  have hX : XS (fun _ => False) DM.none = fun _ => False := by
    funext b; simp [XS, DM.none]
  refine (hs fid hf w (fun _ => False) DM.none vals (by rw [hX]; exact hr) ⟨?_, ?_, ?_, ?_, ?_⟩).mono fun e w' hp => ?_
  · intro o d h; cases h
  · intro o ob h; simp [objAt] at h
  · intro o o' d d' h; cases h
  · intro o _; rfl
  · intro b h; exact h.elim
  · obtain ⟨v, D', e1, e2, e3, e4, _⟩ := hp
    refine ⟨⟨v, D', _, e1, e2⟩, ⟨e4.os, e4.tape, e4.output, e4.size, fun k hk => e4.block k hk ?_⟩⟩
    rintro ⟨o, d, h, _⟩; cases h
theorem calls_true {P : Program} {l : List (Nat × Nat × Fn)} (hm : P.follows .mixedOrders = true) (hT : Fits P (nuOf l) (tbOf l)) {f fid : Nat} {args : List V} (h : PF (tbOf l) f args (.bool true)) (hf : nuOf l fid = some f)
    {w : World} {vals : Array Value} (hr : rdL w DM.none (fun _ => False) args vals.toList) :
    Calls P fid vals w fun e w' => e = .returned (.bool true) ∧ Below w.heap.size w w' :=
  (calls_of hm hT h hf hr).mono fun e w' hp => by
    obtain ⟨⟨v, D, X, rfl, e2⟩, hb⟩ := hp
    have : v = .bool true := by simpa [rd] using e2
    exact ⟨by rw [this], hb⟩
end Go.Ml
end
section
set_option linter.unusedSimpArgs false
set_option linter.unusedVariables false
namespace Go.Ml
open Go.ChangeShapes Go.WideShapes Go.ChangeAt Go.RowKit
inductive Lf where
  | int (k : IntKind)
  | bool
  | str
  | sl (row : List Lf)
mutual
def Mt : Lf → V → Prop
  | .int k, v => ∃ n, v = .int k n ∧ (Lit.int k n).wf = true
  | .bool, v => ∃ b, v = .bool b
  | .str, v => ∃ s, v = .str s ∧ s.length ≤ maxLen
  | .sl row, v => ∃ rows : List (List V), v = .sl row.length rows ∧ rows.length ≤ maxLen ∧ ∀ r ∈ rows, MtL row r
def MtL : List Lf → List V → Prop
  | [], vs => vs = []
  | l :: ls, vs => ∃ v vs', vs = v :: vs' ∧ Mt l v ∧ MtL ls vs'
end
def shFs (P : Program) (sh : TypeId → Option (List Lf)) : List Field → Nat → Option (List Lf)
  | [], _ => some []
  | f :: fs, off => match sh f.type, shFs P sh fs (off + P.cellsOf f.type) with
    | some r, some rs => if f.offset = off ∧ r.length = P.cellsOf f.type then some (r ++ rs) else none
    | _, _ => none
def shapeOf (P : Program) : Nat → TypeId → Option (List Lf)
  | 0, _ => none
  | n + 1, t => match P.underlying t with
    | some (.int k) => some [.int k]
    | some .bool => some [.bool]
    | some .string => some [.str]
    | some (.slice e) => match shapeOf P n e with
      | some r => if r.length = P.cellsOf e ∧ 0 < r.length then some [.sl r] else none
      | none => none
    | some (.struct fs) => match shFs P (shapeOf P n) fs.toList 0 with
      | some r => if r.length = P.cellsOf t then some r else none
      | none => none
    | _ => none
theorem mtL_append {l1 l2 : List Lf} {v1 v2 : List V} (h1 : MtL l1 v1) (h2 : MtL l2 v2) : MtL (l1 ++ l2) (v1 ++ v2) := by
  induction l1 generalizing v1 with
  | nil => simp only [MtL] at h1; subst h1; simpa using h2
  | cons l l1 ih =>
    simp only [MtL] at h1
    obtain ⟨v, vs, rfl, a, b⟩ := h1
    simp only [List.cons_append, MtL]
    exact ⟨v, vs ++ v2, rfl, a, ih b⟩
theorem mtL_len {l : List Lf} {v : List V} (h : MtL l v) : v.length = l.length := by
  induction l generalizing v with
  | nil => simp only [MtL] at h; subst h; rfl
  | cons x l ih =>
    simp only [MtL] at h
    obtain ⟨v, vs, rfl, a, b⟩ := h
    simp [ih b]
theorem mt_leaf : ∀ {l : Lf} {v : V}, Mt l v → v.leaf = true := by
  intro l v h
  cases l <;> simp only [Mt] at h
  · obtain ⟨n, rfl, _⟩ := h; rfl
  · obtain ⟨b, rfl⟩ := h; rfl
  · obtain ⟨s, rfl, _⟩ := h; rfl
  · obtain ⟨rows, rfl, _⟩ := h; rfl
theorem mtL_leaf {l : List Lf} {v : List V} (h : MtL l v) : ∀ x ∈ v, x.leaf = true := by
  induction l generalizing v with
  | nil => simp only [MtL] at h; subst h; intro x hx; cases hx
  | cons y l ih =>
    simp only [MtL] at h
    obtain ⟨v, vs, rfl, a, b⟩ := h
    intro x hx
    rcases List.mem_cons.1 hx with rfl | hx
    · exact mt_leaf a
    · exact ih b x hx
theorem rdRows_of {w : World} {D : DM} {X : Nat → Prop} {b sz : Nat} : ∀ (off : Nat) (rows : List (List V)),
    (∀ i r, rows[i]? = some r → r.length = sz ∧ rdCells w D X b (off + i * sz) r) → rdRows w D X b sz off rows
  | _, [], _ => by simp [rdRows]
  | off, r :: rows, h => by
    simp only [rdRows]
    have h0 := h 0 r rfl
    refine ⟨h0.1, by simpa using h0.2, rdRows_of (off + sz) rows fun i r' hi => ?_⟩
    have := h (i + 1) r' (by simpa using hi)
    rwa [show off + (i + 1) * sz = off + sz + i * sz by rw [Nat.succ_mul]; omega] at this
theorem rdCells_of_rdL {w : World} {D : DM} {X : Nat → Prop} {b : Nat} : ∀ (off : Nat) (vs : List V) (cs : List Value), rdL w D X vs cs → (∀ x ∈ vs, x.leaf = true) →
    (∀ i, i < cs.length → w.cell? ⟨b, off + i, none⟩ = cs[i]?) → rdCells w D X b off vs
  | _, [], _, _, _, _ => by simp [rdCells]
  | off, v :: vs, cs, h, hl, hc => by
    simp only [rdL] at h
    obtain ⟨y, ys, rfl, h1, h2⟩ := h
    simp only [rdCells]
    refine ⟨hl v (by simp), ⟨y, by simpa using hc 0 (by simp), h1⟩, rdCells_of_rdL (off + 1) vs ys h2 (fun x hx => hl x (by simp [hx])) fun i hi => ?_⟩
    have := hc (i + 1) (by simpa using hi)
    rw [show off + 1 + i = off + (i + 1) by omega, this]
    simp
section
variable {H : Type} {enc : TypeId × Value → H} {P : Program} {w : World}
theorem shape_rd : ∀ (n : Nat) {t : TypeId} {L : List Lf} {fuel : Nat} {cs : List Value} {x : DataW H × List MemPlace}, shapeOf P n t = some L →
    DataW.trod enc P w 0 (fun _ => true) true fuel t cs = some x → ∃ vs, MtL L vs ∧ rdL w DM.none (fun _ => False) vs cs
  | 0, t, L, fuel, cs, x, h, _ => by simp [shapeOf] at h
  | n + 1, t, L, fuel, cs, x, h, hx => by
    cases fuel with
    | zero => simp [DataW.trod] at hx
    | succ fuel =>
    simp only [shapeOf] at h
    split at h
    · rename_i k hu
      simp only [Option.some.injEq] at h; subst h
      obtain ⟨m, rfl, _, hw⟩ := DataW.trod_int hu hx
      exact ⟨[.int k m], by simp [MtL, Mt, hw], by simp [rdL, rd]⟩
    · rename_i hu
      simp only [Option.some.injEq] at h; subst h
      rw [DataW.trod_step] at hx
      unfold DataW.trodStep at hx
      rw [hu] at hx
      split at hx <;> simp_all
      rename_i b
      exact ⟨[.bool b], by simp [MtL, Mt], by simp [rdL, rd]⟩
    · rename_i hu
      simp only [Option.some.injEq] at h; subst h
      rw [DataW.trod_step] at hx
      unfold DataW.trodStep at hx
      rw [hu] at hx
      split at hx <;> simp_all
      rename_i s
      exact ⟨[.str s.data.toList], by simp [MtL, Mt]; exact hx.1, by simp [rdL, rd]⟩
    · rename_i e hu
      split at h <;> first | (cases h; done) | skip
      rename_i r hr
      split at h <;> first | (cases h; done) | skip
      rename_i hsz
      simp only [Option.some.injEq] at h; subst h
      rcases DataW.trod_slice hu hx with ⟨rfl, _⟩ | ⟨a, len, cap, elems, rest, m, _, rfl, _, hb, hl, hm, hlen, hel, _, _⟩
      · exact ⟨[.sl r.length []], by simp [MtL, Mt], by simp only [rdL, rd]; exact ⟨_, [], rfl, ⟨none, 0, rfl, Nat.le_refl _, .inl (by trivial)⟩, rfl⟩⟩
      · have hel' : ∀ i, i < len → ∃ cs', w.cells? 0 (a.add (i * P.cellsOf e)) (P.cellsOf e) = some cs' ∧ ∃ vs, MtL r vs ∧ rdL w DM.none (fun _ => False) vs cs' := by
          intro i hi
          have h1 := hel i hi
          have h2 : elems[i]? = some (elems[i]'(by omega)) := List.getElem?_eq_getElem (by omega)
          rw [h2, Option.bind_eq_some_iff] at h1
          obtain ⟨cs', k1, k2⟩ := h1
          exact ⟨cs', k1, shape_rd n hr k2⟩
        have hch : ∀ i, ∃ p : List Value × List V, i < len → w.cells? 0 (a.add (i * P.cellsOf e)) (P.cellsOf e) = some p.1 ∧ MtL r p.2 ∧ rdL w DM.none (fun _ => False) p.2 p.1 := by
          intro i
          by_cases hi : i < len
          · obtain ⟨cs', k1, vs, k2, k3⟩ := hel' i hi
            exact ⟨(cs', vs), fun _ => ⟨k1, k2, k3⟩⟩
          · exact ⟨([], []), fun h => absurd h hi⟩
        obtain ⟨f, hf⟩ := Classical.axiomOfChoice hch
        have hrow : ∀ i vs, ((List.range len).map fun i => (f i).2)[i]? = some vs → i < len ∧ vs = (f i).2 := by
          intro i vs hi
          rw [List.getElem?_map, Option.map_eq_some_iff] at hi
          obtain ⟨j, h1, h2⟩ := hi
          obtain ⟨h3, h4⟩ := List.getElem?_eq_some_iff.1 h1
          rw [List.getElem_range] at h4
          subst h4
          exact ⟨by simpa using h3, h2.symm⟩
        refine ⟨[.sl r.length ((List.range len).map fun i => (f i).2)], ?_, ?_⟩
        · simp only [MtL, Mt]
          refine ⟨_, [], rfl, ⟨_, rfl, by simp; exact Nat.le_trans hl hm, fun rr hrr => ?_⟩, rfl⟩
          obtain ⟨i, hi⟩ := List.mem_iff_getElem?.1 hrr
          obtain ⟨h1, rfl⟩ := hrow i rr hi
          exact (hf i h1).2.1
        · simp only [rdL, rd]
          refine ⟨_, [], rfl, ⟨some a, cap, by simp, by simpa using hl, ?_⟩, rfl⟩
          by_cases h0 : len = 0
          · left; subst h0; rfl
          · right
            obtain ⟨b, off, spot⟩ := a
            have hspot : spot = none := by
              obtain ⟨_, _, hc⟩ := World.cells?_some (hf 0 (by omega)).1
              have hlen0 := (World.cells?_some (hf 0 (by omega)).1).2.1
              have hc0 := hc 0 (by omega)
              have hlt0 : 0 < (f 0).1.length := by omega
              rw [List.getElem?_eq_getElem hlt0] at hc0
              simpa [Addr.add] using World.cell?_spot hc0
            subst hspot
            have hb' : b < w.heap.size := by
              have := World.cells?_block (hf 0 (by omega)).1 (by omega)
              simpa [Addr.add] using this
            refine ⟨b, off, rfl, hb', fun h => h, rdRows_of _ _ fun i rr hi => ?_⟩
            obtain ⟨h1, rfl⟩ := hrow i rr hi
            obtain ⟨g1, g2, g3⟩ := hf i h1
            obtain ⟨_, hl2, hc⟩ := World.cells?_some g1
            refine ⟨mtL_len g2, rdCells_of_rdL _ _ _ g3 (mtL_leaf g2) fun j hj => ?_⟩
            have := hc j (by omega)
            rw [← this, hsz.1]
            congr 1
            simp only [addr_add]
    · rename_i fs hu
      split at h <;> first | (cases h; done) | skip
      rename_i r hr
      split at h <;> first | (cases h; done) | skip
      rename_i hsz
      simp only [Option.some.injEq] at h; subst h
      rw [DataW.trod_step] at hx
      unfold DataW.trodStep at hx
      rw [hu] at hx
      simp only [] at hx
      split at hx <;> first | (cases hx; done) | skip
      rename_i hlen
      rw [Option.map_eq_some_iff] at hx
      obtain ⟨xs, hxs, _⟩ := hx
      have key : ∀ (fl : List Field) (off : Nat) (r : List Lf) (xs : List (DataW H × List MemPlace)), shFs P (shapeOf P n) fl off = some r →
          (fl.mapM fun f => DataW.trod enc P w 0 (fun _ => true) true fuel f.type ((cs.drop f.offset).take (P.cellsOf f.type))) = some xs →
          ∃ vs, MtL r vs ∧ rdL w DM.none (fun _ => False) vs ((cs.drop off).take r.length) := by
        intro fl
        induction fl with
        | nil =>
          intro off r xs h _
          simp only [shFs, Option.some.injEq] at h; subst h
          exact ⟨[], by simp [MtL], by simp [rdL]⟩
        | cons f fl ih =>
          intro off r xs h hm
          simp only [shFs] at h
          split at h <;> first | (cases h; done) | skip
          rename_i r1 rs h1 h2
          split at h <;> first | (cases h; done) | skip
          rename_i hc
          simp only [Option.some.injEq] at h; subst h
          simp only [List.mapM_cons, Option.pure_def, Option.bind_eq_bind, Option.bind_eq_some_iff, Option.some.injEq] at hm
          obtain ⟨y, hy, ys, hys, rfl⟩ := hm
          obtain ⟨v1, a1, a2⟩ := shape_rd n h1 hy
          obtain ⟨v2, b1, b2⟩ := ih _ rs ys h2 hys
          refine ⟨v1 ++ v2, mtL_append a1 b1, ?_⟩
          have e : (cs.drop off).take (r1 ++ rs).length = (cs.drop off).take r1.length ++ (cs.drop (off + P.cellsOf f.type)).take rs.length := by
            rw [List.length_append, List.take_add, List.drop_drop, hc.2]
          rw [e]
          rw [hc.1, ← hc.2] at a2
          exact rdL_append _ _ _ _ a2 b2
      obtain ⟨vs, a1, a2⟩ := key fs.toList 0 r xs hr hxs
      refine ⟨vs, a1, ?_⟩
      rw [List.drop_zero, List.take_of_length_le (by omega)] at a2
      exact a2
    · cases h
theorem shape_in (n : Nat) {t : TypeId} {L : List Lf} {v : Value} {d : DataW H} {ps : List MemPlace} (hs : shapeOf P n t = some L) (h : DataW.Trod enc P w 0 (fun _ => true) true t v d ps) :
    ∃ vs, MtL L vs ∧ rdL w DM.none (fun _ => False) vs v.cells.toList := by
  obtain ⟨fuel, hf⟩ := h
  exact shape_rd n hs hf
end
end Go.Ml
namespace Go.Ml
open Go.ChangeShapes Go.WideShapes Go.ChangeAt Go.RowKit
def argV (g : Bool) (vs : List V) : V := if g = true then .agg vs else vs.headD .any
def ArgsMt : List (Bool × List Lf) → List V → Prop
  | [], vs => vs = []
  | s :: ss, vs => ∃ cs rest, vs = argV s.1 cs :: rest ∧ MtL s.2 cs ∧ ArgsMt ss rest
def argOk (P : Program) (t : TypeId) (s : Bool × List Lf) : Bool :=
  match P.underlying t with
  | some (.struct _) => s.1
  | some (.int _) | some .bool | some .string | some (.slice _) => !s.1
  | _ => false
def argsOk (P : Program) : List TypeId → List (Bool × List Lf) → Prop
  | [], ss => ss = []
  | t :: ts, ss => ∃ s rest, ss = s :: rest ∧ shapeOf P 20 t = some s.2 ∧ argOk P t s = true ∧ argsOk P ts rest
theorem args_in {H : Type} {enc : TypeId × Value → H} {P : Program} {w : World} {r : Reach} {b : Nat} : ∀ {ts : List TypeId} {ss : List (Bool × List Lf)} {vs : List Value} {ds : List (DataW H)} {ps : List MemPlace},
    argsOk P ts ss → (∀ (j : Nat) t v, ts[j]? = some t → vs[j]? = some v → Value.okWide P w r b t v) → DataW.TrodAll enc P w 0 (fun _ => true) true ts vs ds ps →
    ∃ Vs, ArgsMt ss Vs ∧ rdL w DM.none (fun _ => False) Vs vs
  | [], ss, [], ds, ps, h, _, _ => by simp only [argsOk] at h; subst h; exact ⟨[], rfl, by simp [rdL]⟩
  | [], _, _ :: _, ds, ps, _, _, ht => by cases ds <;> exact ht.elim
  | _ :: _, _, [], ds, ps, _, _, ht => by cases ds <;> exact ht.elim
  | t :: ts, ss, v :: vs, [], ps, _, _, ht => ht.elim
  | t :: ts, ss, v :: vs, d :: ds, ps, h, hw, ht => by
    simp only [argsOk] at h
    obtain ⟨s, rest, rfl, h1, h2, h3⟩ := h
    obtain ⟨p, q, k1, k2, _⟩ := ht
    obtain ⟨Vs, a1, a2⟩ := args_in h3 (fun j t' v' hj hv => hw (j + 1) t' v' (by simpa using hj) (by simpa using hv)) k2
    obtain ⟨cs, c1, c2⟩ := shape_in 20 h1 k1
    have hok := hw 0 t v rfl rfl
    refine ⟨argV s.1 cs :: Vs, ⟨cs, Vs, rfl, c1, a1⟩, ?_⟩
    simp only [rdL]
    refine ⟨v, vs, rfl, ?_, a2⟩
    unfold argOk at h2
    have one : (∀ cs', v ≠ .agg cs') → s.1 = false → s.2.length = 1 → rd w DM.none (fun _ => False) (argV s.1 cs) v := by
      intro hv hs hl
      have hvc : v.cells.toList = [v] := by cases v <;> first | rfl | (exact absurd rfl (hv _))
      rw [hvc] at c2
      have := mtL_len c1
      rw [hl] at this
      cases cs with
      | nil => simp at this
      | cons x xs =>
        simp only [rdL] at c2
        obtain ⟨y, ys, e, e2, _⟩ := c2
        simp only [List.cons.injEq] at e
        rw [hs]
        simp only [argV, Bool.false_eq_true, if_false, List.headD_cons]
        rw [e.1]; exact e2
    unfold shapeOf at h1
    split at h2
    · rename_i fs hu
      rw [h2]
      simp only [Value.okWide, hu] at hok
      obtain ⟨cs', rfl, _⟩ := hok
      simp only [argV, if_true, rd]
      exact ⟨cs', rfl, c2⟩
    · rename_i k hu
      rw [hu] at h1
      simp only [Option.some.injEq] at h1
      obtain ⟨n, rfl⟩ := okWide_int hu hok
      exact one (by intro cs' e; cases e) (by simpa using h2) (by rw [← h1]; rfl)
    · rename_i hu
      rw [hu] at h1
      simp only [Option.some.injEq] at h1
      obtain ⟨n, rfl⟩ := okWide_bool hu hok
      exact one (by intro cs' e; cases e) (by simpa using h2) (by rw [← h1]; rfl)
    · rename_i hu
      rw [hu] at h1
      simp only [Option.some.injEq] at h1
      obtain ⟨n, rfl⟩ := okWide_string hu hok
      exact one (by intro cs' e; cases e) (by simpa using h2) (by rw [← h1]; rfl)
    · rename_i e hu
      rw [hu] at h1
      simp only [] at h1
      obtain ⟨a0, l0, c0, rfl⟩ := okWide_slice hu hok
      refine one (by intro cs' e; cases e) (by simpa using h2) ?_
      split at h1 <;> first | (cases h1; done) | skip
      split at h1 <;> first | (cases h1; done) | skip
      simp only [Option.some.injEq] at h1
      rw [← h1]; rfl
    · cases h2
theorem trodAll_below {H : Type} {enc : TypeId × Value → H} {P : Program} (hl : laidOutB P = true) {W W' : World} (hb : Below W.heap.size W W') : ∀ {ts : List TypeId} {vs : List Value} {ds : List (DataW H)} {ps : List MemPlace},
    (ts.all fun t => P.readableRec t && decide (t < P.types.size)) = true → DataW.TrodAll enc P W 0 (fun _ => true) true ts vs ds ps → (∀ x ∈ ps, x.block < W.heap.size) →
    DataW.TrodAll enc P W' 0 (fun b => decide (b < W.heap.size)) true ts vs ds ps
  | [], [], [], ps, _, h, _ => h
  | [], _ :: _, ds, ps, _, ht, _ => by cases ds <;> exact ht.elim
  | [], [], _ :: _, ps, _, ht, _ => ht.elim
  | _ :: _, [], ds, ps, _, ht, _ => by cases ds <;> exact ht.elim
  | t :: ts, v :: vs, [], ps, _, ht, _ => ht.elim
  | t :: ts, v :: vs, d :: ds, ps, h, ht, hlt => by
    simp only [List.all_cons, Bool.and_eq_true, decide_eq_true_eq] at h
    obtain ⟨p, q, k1, k2, rfl⟩ := ht
    exact ⟨p, q, Below.trod hl h.1.1 h.1.2 k1 hb fun x hx => hlt x (by simp [hx]), trodAll_below hl hb (by simpa using h.2) k2 fun x hx => hlt x (by simp [hx]), rfl⟩
end Go.Ml
end
section
set_option linter.unusedSimpArgs false
set_option linter.unusedVariables false
namespace Go.Ml
theorem mtL_split : ∀ {a b : List Lf} {vs : List V}, MtL (a ++ b) vs → ∃ v1 v2, vs = v1 ++ v2 ∧ MtL a v1 ∧ MtL b v2
  | [], b, vs, h => ⟨[], vs, rfl, by simp [MtL], h⟩
  | x :: a, b, vs, h => by
    simp only [List.cons_append, MtL] at h
    obtain ⟨v, vs', rfl, h1, h2⟩ := h
    obtain ⟨v1, v2, rfl, h3, h4⟩ := mtL_split h2
    refine ⟨v :: v1, v2, rfl, ?_, h4⟩
    simp only [MtL]; exact ⟨v, v1, rfl, h1, h3⟩
theorem dec_list {α : Type} {row : List Lf} {f : α → List V} {W : α → Prop} (h : ∀ r, MtL row r → ∃ x, r = f x ∧ W x) {v : V} (hv : Mt (.sl row) v) : ∃ l : List α, v = .sl row.length (l.map f) ∧ wfL W l := by
  simp only [Mt] at hv
  obtain ⟨rows, rfl, hl, hr⟩ := hv
  have key : ∀ rows : List (List V), (∀ r ∈ rows, MtL row r) → ∃ l : List α, rows = l.map f ∧ ∀ x ∈ l, W x := by
    intro rows
    induction rows with
    | nil => intro _; exact ⟨[], rfl, by simp⟩
    | cons r rows ih =>
      intro hr
      obtain ⟨x, rfl, hx⟩ := h r (hr r (by simp))
      obtain ⟨l, rfl, hl⟩ := ih fun r hr' => hr r (by simp [hr'])
      exact ⟨x :: l, rfl, by simpa using ⟨hx, hl⟩⟩
  obtain ⟨l, rfl, hw⟩ := key rows hr
  exact ⟨l, rfl, by simpa [maxLen] using hl, hw⟩
theorem dec_intv {v : V} (h : Mt (.int .i64) v) : ∃ n, v = iv n ∧ (Lit.int .i64 n).wf = true := by simpa only [Mt] using h
theorem dec_bool {v : V} (h : Mt .bool v) : ∃ b, v = .bool b := by simpa only [Mt] using h
theorem dec_one {l : Lf} {r : List V} (h : MtL [l] r) : ∃ v, r = [v] ∧ Mt l v := by
  simp only [MtL] at h
  obtain ⟨v, vs, rfl, h1, rfl⟩ := h
  exact ⟨v, rfl, h1⟩
abbrev shI : Lf := .sl [.int .i64]
abbrev shR : List Lf := [.bool, shI, shI]
abbrev shLk : List Lf := [.int .i64] ++ ([.int .i64] ++ (shR ++ (shR ++ shR)))
theorem dec_ints {v : V} (h : Mt shI v) : ∃ l : List Int, v = ints l ∧ l.length ≤ 9223372036854775807 := by
  obtain ⟨l, rfl, hl⟩ := dec_list (f := fun n => [iv n]) (W := fun _ => True) (fun r hr => by
    obtain ⟨v, rfl, g⟩ := dec_one hr
    obtain ⟨n, rfl, _⟩ := dec_intv g
    exact ⟨n, rfl, trivial⟩) h
  exact ⟨l, rfl, hl.1⟩
theorem dec_R {vs : List V} (h : MtL shR vs) : ∃ r : R, vs = r.cells ∧ r.wf := by
  simp only [MtL] at h
  obtain ⟨v1, _, rfl, h1, v2, _, rfl, h2, v3, _, rfl, h3, rfl⟩ := h
  obtain ⟨b, rfl⟩ := dec_bool h1
  obtain ⟨m, rfl, hm⟩ := dec_ints h2
  obtain ⟨d, rfl, hd⟩ := dec_ints h3
  exact ⟨⟨b, m, d⟩, rfl, hm, hd⟩
theorem dec_int1 {vs : List V} (h : MtL [.int .i64] vs) : ∃ n, vs = [iv n] := by
  obtain ⟨v, rfl, g⟩ := dec_one h
  obtain ⟨n, rfl, _⟩ := dec_intv g
  exact ⟨n, rfl⟩
theorem dec_Lk {vs : List V} (h : MtL shLk vs) : ∃ p : Lk, vs = p.cells ∧ p.wf := by
  obtain ⟨v1, v2, rfl, h1, h⟩ := mtL_split h
  obtain ⟨v2, v3, rfl, h2, h⟩ := mtL_split h
  obtain ⟨v3, v4, rfl, h3, h⟩ := mtL_split h
  obtain ⟨v4, v5, rfl, h4, h5⟩ := mtL_split h
  obtain ⟨a, rfl⟩ := dec_int1 h1
  obtain ⟨b, rfl⟩ := dec_int1 h2
  obtain ⟨x, rfl, hx⟩ := dec_R h3
  obtain ⟨y, rfl, hy⟩ := dec_R h4
  obtain ⟨z, rfl, hz⟩ := dec_R h5
  exact ⟨⟨a, b, x, y, z⟩, rfl, hx, hy, hz⟩
theorem dec_Lks {v : V} (h : Mt (.sl shLk) v) : ∃ l, v = lksV l ∧ wfL Lk.wf l := dec_list (fun _ hr => dec_Lk hr) h
def AllP {α : Type} (P : α → Prop) : List α → Prop
  | [] => True
  | x :: l => P x ∧ AllP P l
theorem AllP.mem {α : Type} {P : α → Prop} : ∀ {l : List α}, AllP P l → ∀ x ∈ l, P x
  | [], _, x, hx => by cases hx
  | y :: l, h, x, hx => by
    rcases List.mem_cons.1 hx with rfl | hx
    · exact h.1
    · exact AllP.mem h.2 x hx
end Go.Ml
namespace Go.Ml
theorem trod_len {H : Type} {enc : TypeId × Value → H} {P : Program} {w : World} {b : Nat} {sp : Nat → Bool} {hd : Bool} : ∀ {ts : List TypeId} {vs : List Value} {ds : List (DataW H)} {ps : List MemPlace},
    DataW.TrodAll enc P w b sp hd ts vs ds ps → ds.length = ts.length
  | [], [], [], _, _ => rfl
  | [], [], _ :: _, _, h => h.elim
  | [], _ :: _, ds, _, h => by cases ds <;> exact h.elim
  | _ :: _, [], ds, _, h => by cases ds <;> exact h.elim
  | _ :: _, _ :: _, [], _, h => h.elim
  | t :: ts, v :: vs, d :: ds, ps, h => by
    obtain ⟨p, q, _, h2, _⟩ := h
    simp [trod_len h2]
end Go.Ml
end
