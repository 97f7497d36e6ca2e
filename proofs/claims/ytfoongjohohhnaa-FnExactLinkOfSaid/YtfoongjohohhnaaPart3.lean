/- A small language for the functions of this claim, its soundness, contracts. -/
import Derived.Test.YtfoongjohohhnaaPart2
section
set_option linter.unusedSimpArgs false
set_option linter.unusedVariables false
namespace Go.Ml
theorem Mk.go {T : Nat → Option Fn} {f : Nat} {t t' : V} {k k' : Int} (h : Mk T f t k t' k') {σ : Store} {v : V} {os : List Nat} (ho : OwV σ v t os) (hn : os.Nodup) :
    ∃ σ', Run T (.fn f [v, .int .i64 k] σ) (.fn (.int .i64 k') σ') ∧ OwV σ' v t' os ∧ Fr os σ σ' := by
  obtain ⟨σ', a, b, c, d⟩ := h σ v os ho hn
  exact ⟨σ', a, b, ⟨c, d⟩⟩
def V.sca : V → Bool
  | .int _ _ => true
  | .bool _ => true
  | _ => false
theorem owV_sca {σ : Store} {x : V} (h : x.sca = true) : OwV σ x x [] := by cases x <;> simp_all [V.sca, OwV]
theorem OwV.sca_inv {σ : Store} {v x : V} {os : List Nat} (h : OwV σ v x os) (hx : x.sca = true) : v = x ∧ os = [] := by
  cases x <;> simp_all [V.sca, OwV]
structure Cs (σ : Store) (cs ts : List V) (os : List Nat) : Prop where
  ow : OwL σ cs ts os
  nd : os.Nodup
theorem set_at {α : Type} {l : List α} {i : Nat} {x : α} (h : l[i]? = some x) : l.set i x = l := by
  apply List.ext_getElem?
  intro n
  rw [List.getElem?_set]
  split
  · subst_vars
    split
    · exact h.symm
    · rename_i hlt; rw [List.getElem?_eq_none (by omega)]
  · rfl
section
variable {σ σ' : Store} {cs ts : List V} {os : List Nat}
theorem Cs.lt (h : Cs σ cs ts os) : ∀ q ∈ os, q < σ.length := h.ow.lt
theorem Cs.frame (h : Cs σ cs ts os) (f : ∀ q ∈ os, objAt σ' q = objAt σ q) : Cs σ' cs ts os := ⟨h.ow.frame f, h.nd⟩
theorem Cs.fr {os' : List Nat} (h : Cs σ cs ts os) (f : Fr os' σ σ') (hd : ∀ q ∈ os, q ∉ os') : Cs σ' cs ts os := h.frame fun q hq => f.old q (h.lt q hq) (hd q hq)
theorem Cs.snoc (h : Cs σ cs ts os) {x : Option Obj} : Cs (σ ++ [x]) cs ts os := h.frame fun q hq => objAt_snoc_lt (h.lt q hq)
theorem Cs.set (h : Cs σ cs ts os) {o : Nat} {x : Option Obj} (ho : o ∉ os) : Cs (σ.set o x) cs ts os := h.frame fun q hq => objAt_setne fun e => ho (e ▸ hq)
theorem Cs.sca (h : Cs σ cs ts os) (c : Nat) (x : V) {t : V} (ht : ts[c]? = some t) (hs : t.sca = true := by rfl) (hx : x.sca = true := by rfl) : Cs σ (cs.set c x) (ts.set c x) os := by
  obtain ⟨vc, oc, j1, j2, j3, j4, j5⟩ := h.ow.focus c t h.nd ht
  obtain ⟨rfl, rfl⟩ := j2.sca_inv hs
  exact ⟨j5 σ x x (owV_sca hx) fun _ _ _ => rfl, h.nd⟩
theorem Cs.call {T : Nat → Option Fn} {f : Nat} {t t' v : V} {k k' : Int} (h : Cs σ cs ts os) (c : Nat) (hm : Mk T f t k t' k') (hv : cs[c]? = some v) (ht : ts[c]? = some t) :
    ∃ σ', Run T (.fn f [v, .int .i64 k] σ) (.fn (.int .i64 k') σ') ∧ Cs σ' cs (ts.set c t') os ∧ Fr os σ σ' := by
  obtain ⟨vc, oc, j1, j2, j3, j4, j5⟩ := h.ow.focus c t h.nd ht
  rw [hv] at j1
  cases j1
  obtain ⟨σ', m1, m2, m3⟩ := hm.go j2 j3
  refine ⟨σ', m1, ⟨?_, h.nd⟩, m3.mono j4⟩
  have := j5 σ' v t' m2 fun q hq' hq => m3.old q (h.lt q hq') hq
  rwa [set_at hv] at this
theorem Cs.part {T : Nat → Option Fn} {f : Nat} {t2 t2' : List V} {k k' : Int} (h : Cs σ cs ts os) (n m : Nat) (hm : Mk T f (.agg t2) k (.agg t2') k') (ht : (ts.drop n).take m = t2) (hn : n + m ≤ ts.length) :
    ∃ σ', Run T (.fn f [.agg ((cs.drop n).take m), .int .i64 k] σ) (.fn (.int .i64 k') σ') ∧ Cs σ' cs (ts.take n ++ t2' ++ ts.drop (n + m)) os ∧ Fr os σ σ' := by
  have e : ts = ts.take n ++ (t2 ++ ts.drop (n + m)) := by
    rw [← ht]
    conv => lhs; rw [← List.take_append_drop n ts, ← List.take_append_drop m (ts.drop n), List.drop_drop]
  have lt2 : t2.length = m := by rw [← ht]; simp; omega
  have h1 := h.ow
  rw [e] at h1
  obtain ⟨c1, c2, o1, o2, rfl, rfl, a1, a2⟩ := owL_split h1
  have l1 := a1.len
  obtain ⟨c3, c4, o3, o4, rfl, rfl, a3, a4⟩ := owL_split a2
  have l2 := a3.len
  have nd := h.nd
  have l1' : c1.length = n := by rw [l1]; simp; omega
  have e2 : ((c1 ++ (c3 ++ c4)).drop n).take m = c3 := by
    rw [← l1', List.drop_left, ← lt2, ← l2, List.take_left]
  rw [e2]
  simp only [List.nodup_append, List.mem_append] at nd
  obtain ⟨nd1, ⟨nd3, nd4, d34⟩, d1⟩ := nd
  obtain ⟨σ', m1, m2, m3⟩ := hm.go (owV_agg a3) nd3
  obtain ⟨cs', e3, m4⟩ := m2.agg_inv
  cases e3
  have lt := h.lt
  refine ⟨σ', m1, ⟨?_, h.nd⟩, m3.mono (by simp +contextual)⟩
  rw [List.append_assoc]
  refine owL_append (a1.frame fun q hq => m3.old q (lt q (by simp [hq])) fun hk => d1 q hq q (.inl hk) rfl) (owL_append m4 (a4.frame fun q hq => m3.old q (lt q (by simp [hq])) fun hk => d34 q hk q hq rfl))
theorem Cs.got {σ2 : Store} {r t : V} {os2 : List Nat} (h : Cs σ cs ts os) (g : Got σ σ2 r t os2) : Cs σ2 (cs ++ [r]) (ts ++ [t]) (os ++ os2) := by
  refine ⟨owL_append (h.ow.frame fun q hq => g.old q (h.lt q hq)) (by simpa using owL_v g.ow owL_nil), ?_⟩
  rw [List.nodup_append]
  refine ⟨h.nd, g.nd, fun x hx y hy e => ?_⟩
  have := h.lt x hx
  have := g.fresh y hy
  omega
theorem cs_nil : Cs σ [] [] [] := ⟨owL_nil, .nil⟩
theorem Cs.res (h : Cs σ cs ts os) (c : Nat) {v t : V} (hv : cs[c]? = some v) (ht : ts[c]? = some t) (hd : DepLe FD t) : resolve σ FD v = some t := by
  obtain ⟨vc, oc, j1, j2, _⟩ := h.ow.focus c t h.nd ht
  rw [hv] at j1
  cases j1
  exact ow_res FD j2 hd
end
theorem OwV.row_inv {σ : Store} {v : V} {sz : Nat} {rows : List (List V)} {os : List Nat} {i : Nat} {row : List V} (h : OwV σ v (.sl sz rows) os) (hn : os.Nodup) (hi : rows[i]? = some row) :
    ∃ o R cs oc, v = .msl o 0 rows.length ∧ objAt σ o = some ⟨sz, R⟩ ∧ R.length = rows.length ∧ R[i]? = some cs ∧ Cs σ cs row oc ∧ (∀ q ∈ oc, q ∈ os) ∧ o ∈ os ∧ o ∉ oc ∧
      (∀ σ' cs' row', Cs σ' cs' row' oc → objAt σ' o = some ⟨sz, R.set i cs'⟩ → Fr (o :: oc) σ σ' → OwV σ' v (.sl sz (rows.set i row')) os) := by
  simp only [OwV] at h
  rcases h with ⟨rfl, _, _⟩ | ⟨o, R, os', rfl, h2, rfl, h3⟩
  · simp at hi
  rw [List.nodup_cons] at hn
  have hlt := h3.lt
  obtain ⟨cs, oc, k1, k2, k3, k4, k5⟩ := h3.focus i row hn.2 hi
  refine ⟨o, R, cs, oc, rfl, h2, h3.len, k1, ⟨k2, k3⟩, fun q hq => by simp [k4 q hq], by simp, fun k => hn.1 (k4 o k), ?_⟩
  intro σ' cs' row' hc ho hf
  simp only [OwV]
  refine .inr ⟨o, _, os', by simp, ho, rfl, k5 σ' cs' row' hc.ow fun q hq hnq => hf.old q (hlt q hq) fun hk => ?_⟩
  rcases List.mem_cons.1 hk with rfl | hk
  · exact hn.1 hq
  · exact hnq hk
theorem OwV.sl_inv {σ : Store} {v : V} {sz : Nat} {rows : List (List V)} {os : List Nat} (h : OwV σ v (.sl sz rows) os) :
    (rows = [] ∧ v = .sl sz [] ∧ os = []) ∨ ∃ o R os', v = .msl o 0 rows.length ∧ objAt σ o = some ⟨sz, R⟩ ∧ R.length = rows.length ∧ os = o :: os' ∧ OwR σ R rows os' := by
  simp only [OwV] at h
  rcases h with ⟨rfl, h1, h2⟩ | ⟨o, R, os', rfl, h2, rfl, h3⟩
  · exact .inl ⟨rfl, h1, h2⟩
  · exact .inr ⟨o, R, os', rfl, h2, h3.len, rfl, h3⟩
theorem OwV.obj {σ : Store} {o n : Nat} {sz : Nat} {rows : List (List V)} {os : List Nat} (h : OwV σ (.msl o 0 n) (.sl sz rows) os) : ∃ R, objAt σ o = some ⟨sz, R⟩ ∧ R.length = n := by
  rcases h.sl_inv with ⟨_, e, _⟩ | ⟨o, R, os', e, h2, h3, _, _⟩
  · cases e
  · cases e; exact ⟨R, h2, h3⟩
theorem szL_at {α : Type} [Inhabited α] (f : α → Nat) {l : List α} {i : Nat} (h : i < l.length) : l.length + f (l.getD i default) ≤ szL f l := by
  have h1 := sumTo_succ f h
  have h2 := sumTo_le f l (i + 1)
  unfold szL
  omega
theorem RefK_mk {T : Nat → Option Fn} {f : Nat} {as : List Src} {dst : Option Nat} {env : Nat → V} {σ σ' : Store} {kp bs : Nat} {rs ms : List Nat} {k : St → Prop} {as' : List V} {r : V}
    (h : Run T (.fn f as' σ) (.fn r σ')) (ha : (as.map fun s => s.ev env) = as') (hl : σ.length ≤ σ'.length) (hb : σ.length ≤ bs) (hk : k ⟨updO env dst r, σ', kp, bs, rs, ms⟩) : RefK T f as dst ⟨env, σ, kp, bs, rs, ms⟩ k := by
  subst ha
  exact RefK_idn h hl hb hk
def mkL {α : Type} (f : Int → α → α) (c : α → Nat) : Int → List α → List α
  | _, [] => []
  | k, x :: l => f k x :: mkL f c (k + c x) l
def cnL {α : Type} (c : α → Nat) (l : List α) (i : Nat) : Nat := ((l.take i).map c).sum
theorem cnL_0 {α : Type} (c : α → Nat) (l : List α) : cnL c l 0 = 0 := by simp [cnL]
theorem cnL_s {α : Type} [Inhabited α] (c : α → Nat) (l : List α) {i : Nat} (h : i < l.length) : cnL c l (i + 1) = cnL c l i + c (l.getD i default) := by
  unfold cnL
  have e : l.take (i + 1) = l.take i ++ [l.getD i default] := by
    rw [List.take_add_one, List.getElem?_eq_getElem h, List.getD_eq_getElem?_getD, List.getElem?_eq_getElem h]; rfl
  rw [e, List.map_append, List.sum_append]
  simp
theorem cnL_cons {α : Type} (c : α → Nat) (x : α) (l : List α) (i : Nat) : cnL c (x :: l) (i + 1) = c x + cnL c l i := by simp [cnL]
theorem cnL_le {α : Type} (c : α → Nat) : ∀ (l : List α) {i : Nat}, i ≤ l.length → cnL c l i ≤ cnL c l l.length
  | [], i, h => by simp at h; subst h; exact Nat.le_refl _
  | x :: l, 0, h => by simp [cnL_0]
  | x :: l, i + 1, h => by
    rw [cnL_cons, List.length_cons, cnL_cons]
    have := cnL_le c l (i := i) (by simpa using h)
    omega
theorem mkL_len {α : Type} (f : Int → α → α) (c : α → Nat) : ∀ (k : Int) (l : List α), (mkL f c k l).length = l.length
  | _, [] => rfl
  | k, x :: l => by simp [mkL, mkL_len f c _ l]
theorem mkL_at {α : Type} [Inhabited α] (f : Int → α → α) (c : α → Nat) : ∀ (k : Int) (l : List α) (i : Nat), i < l.length → (mkL f c k l).getD i default = f (k + cnL c l i) (l.getD i default)
  | _, [], i, h => by simp at h
  | k, x :: l, 0, h => by simp [mkL, cnL_0]
  | k, x :: l, i + 1, h => by
    rw [cnL_cons, mkL, List.getD_cons_succ, List.getD_cons_succ, mkL_at f c _ l i (by simpa using h)]
    congr 1
    omega
def mkTo {α : Type} (f : Int → α → α) (c : α → Nat) (k : Int) (l : List α) (i : Nat) : List α := (mkL f c k l).take i ++ l.drop i
theorem mkTo_0 {α : Type} (f : Int → α → α) (c : α → Nat) (k : Int) (l : List α) : mkTo f c k l 0 = l := by simp [mkTo]
theorem mkTo_all {α : Type} (f : Int → α → α) (c : α → Nat) (k : Int) (l : List α) : mkTo f c k l l.length = mkL f c k l := by
  unfold mkTo
  rw [List.drop_length, List.append_nil, List.take_of_length_le (by rw [mkL_len]; exact Nat.le_refl _)]
theorem mkTo_len {α : Type} (f : Int → α → α) (c : α → Nat) (k : Int) (l : List α) {i : Nat} (h : i ≤ l.length) : (mkTo f c k l i).length = l.length := by
  simp [mkTo, mkL_len]; omega
theorem mkTo_at {α : Type} [Inhabited α] (f : Int → α → α) (c : α → Nat) (k : Int) (l : List α) {i : Nat} (h : i < l.length) : (mkTo f c k l i).getD i default = l.getD i default := by
  have e : ((mkL f c k l).take i).length = i := by simp [mkL_len]; omega
  unfold mkTo
  rw [List.getD_eq_getElem?_getD, List.getElem?_append_right (by omega), e, Nat.sub_self, List.getElem?_drop, Nat.add_zero, ← List.getD_eq_getElem?_getD]
theorem mkTo_set {α : Type} [Inhabited α] (f : Int → α → α) (c : α → Nat) (k : Int) (l : List α) {i : Nat} (h : i < l.length) : (mkTo f c k l i).set i (f (k + cnL c l i) (l.getD i default)) = mkTo f c k l (i + 1) := by
  have e : ((mkL f c k l).take i).length = i := by simp [mkL_len]; omega
  have h2 := mkL_at f c k l i h
  have h3 : i < (mkL f c k l).length := by rw [mkL_len]; exact h
  rw [List.getD_eq_getElem?_getD, List.getElem?_eq_getElem h3] at h2
  unfold mkTo
  rw [List.set_append_right _ _ (by omega), e, Nat.sub_self, List.drop_eq_getElem_cons h, List.set_cons_zero, ← h2]
  have e2 : (mkL f c k l).take (i + 1) = (mkL f c k l).take i ++ [(mkL f c k l)[i]] := by
    rw [List.take_add_one, List.getElem?_eq_getElem h3]; rfl
  rw [e2, List.append_assoc]
  rfl
end Go.Ml
end
section
set_option linter.unusedSimpArgs false
set_option linter.unusedVariables false
namespace Go.Ml
theorem mapL_eq (g : Nat → Option Nat) : ∀ l : List V, mapV.mapL g l = l.map (mapV g)
  | [] => rfl
  | x :: l => by simp only [mapV.mapL, List.map_cons, mapL_eq g l]
section
variable {σ σ2 : Store} {m : Nat}
theorem mapM_shift {n : Nat} (ih : ∀ v t : V, resolve σ n v = some t → resolve σ2 n (mapV (shiftN m) v) = some t) : ∀ (l l' : List V), l.mapM (resolve σ n) = some l' → (l.map (mapV (shiftN m))).mapM (resolve σ2 n) = some l'
  | [], l', h => by simpa using h
  | x :: l, l', h => by
    simp only [List.mapM_cons, Option.pure_def, Option.bind_eq_bind, Option.bind_eq_some_iff, List.map_cons] at h ⊢
    obtain ⟨a, ha, b, hb, e⟩ := h
    exact ⟨a, ih x a ha, b, mapM_shift ih l b hb, e⟩
theorem mapM_shiftR {n : Nat} (ih : ∀ v t : V, resolve σ n v = some t → resolve σ2 n (mapV (shiftN m) v) = some t) : ∀ (l : List (List V)) (l' : List (List V)), (l.mapM fun (r : List V) => r.mapM (resolve σ n)) = some l' →
    ((l.map fun r => r.map (mapV (shiftN m))).mapM fun (r : List V) => r.mapM (resolve σ2 n)) = some l'
  | [], l', h => by simpa using h
  | x :: l, l', h => by
    simp only [List.mapM_cons, Option.pure_def, Option.bind_eq_bind, Option.bind_eq_some_iff, List.map_cons] at h ⊢
    obtain ⟨a, ha, b, hb, e⟩ := h
    exact ⟨a, mapM_shift ih x a ha, b, mapM_shiftR ih l b hb, e⟩
theorem res_shift (hs : ∀ o, objAt σ2 (m + o) = (objAt σ o).map (mapO (shiftN m))) : ∀ (n : Nat) (v t : V), resolve σ n v = some t → resolve σ2 n (mapV (shiftN m) v) = some t
  | 0, _, _, h => by simp [resolve] at h
  | n + 1, v, t, h => by
    have ih := res_shift hs n
    cases v with
    | msl o s l =>
      simp only [mapV, shiftN, resolve, hs] at h ⊢
      cases ho : objAt σ o with
      | none => rw [ho] at h; cases h
      | some ob =>
        rw [ho] at h
        simp only [Option.map_some, mapO, List.length_map] at h ⊢
        split at h
        · rename_i hl
          rw [if_pos hl]
          obtain ⟨rows, h1, rfl⟩ := Option.map_eq_some_iff.1 h
          rw [Option.map_eq_some_iff]
          refine ⟨rows, ?_, rfl⟩
          rw [← List.map_drop, ← List.map_take]
          exact mapM_shiftR ih _ _ h1
        · cases h
    | ptr o r off =>
      simp only [mapV, shiftN, resolve, hs] at h ⊢
      cases ho : objAt σ o with
      | none => rw [ho] at h; cases h
      | some ob =>
        rw [ho] at h
        simp only [Option.map_some, mapO, List.getElem?_map] at h ⊢
        cases hr : ob.rows[r]? with
        | none => rw [hr] at h; cases h
        | some row =>
          rw [hr] at h
          simp only [Option.map_some] at h ⊢
          obtain ⟨row', h1, rfl⟩ := Option.map_eq_some_iff.1 h
          rw [Option.map_eq_some_iff]
          exact ⟨row', mapM_shift ih _ _ h1, rfl⟩
    | agg cs =>
      simp only [mapV, resolve] at h ⊢
      obtain ⟨cs', h1, rfl⟩ := Option.map_eq_some_iff.1 h
      rw [Option.map_eq_some_iff, mapL_eq]
      exact ⟨cs', mapM_shift ih _ _ h1, rfl⟩
    | tup cs =>
      simp only [mapV, resolve] at h ⊢
      obtain ⟨cs', h1, rfl⟩ := Option.map_eq_some_iff.1 h
      rw [Option.map_eq_some_iff, mapL_eq]
      exact ⟨cs', mapM_shift ih _ _ h1, rfl⟩
    | any => simp [resolve] at h
    | one => simpa only [mapV, resolve] using h
    | int k n => simpa only [mapV, resolve] using h
    | bool b => simpa only [mapV, resolve] using h
    | str b => simpa only [mapV, resolve] using h
    | nils => simpa only [mapV, resolve] using h
    | sl a b => simpa only [mapV, resolve] using h
    | fptr a b => simpa only [mapV, resolve] using h
end
def OwX (σ : Store) : List V → List (Bool × V) → List Nat → Prop
  | vs, [], os => vs = [] ∧ os = []
  | vs, (b, t) :: ts, os => ∃ v vs' o1 o2, vs = v :: vs' ∧ os = o1 ++ o2 ∧ (if b = true then OwV σ v t o1 else resolve σ FD v = some t ∧ o1 = []) ∧ OwX σ vs' ts o2
theorem OwX.shift {σ σ2 : Store} {n : Nat} (hs : ∀ o, objAt σ2 (n + o) = (objAt σ o).map (mapO (shiftN n))) : ∀ {ts : List (Bool × V)} {vs : List V} {os : List Nat}, OwX σ vs ts os → OwX σ2 (vs.map (mapV (shiftN n))) ts (os.map (n + ·))
  | [], vs, os, h => by simp only [OwX] at h ⊢; obtain ⟨rfl, rfl⟩ := h; exact ⟨rfl, rfl⟩
  | (b, t) :: ts, vs, os, h => by
    simp only [OwX] at h ⊢
    obtain ⟨v, vs', o1, o2, rfl, rfl, h1, h2⟩ := h
    refine ⟨_, _, o1.map (n + ·), o2.map (n + ·), rfl, by rw [List.map_append], ?_, OwX.shift hs h2⟩
    cases b with
    | true => simp only [if_true] at h1 ⊢; exact OwV.shift hs h1
    | false =>
      simp only [Bool.false_eq_true, if_false] at h1 ⊢
      exact ⟨res_shift hs _ _ _ h1.1, by rw [h1.2]; rfl⟩
structure GotX (σ σ2 : Store) (vs : List V) (ts : List (Bool × V)) (os : List Nat) : Prop where
  ow : OwX σ2 vs ts os
  nd : os.Nodup
  fresh : ∀ o ∈ os, σ.length ≤ o
  old : ∀ o, o < σ.length → objAt σ2 o = objAt σ o
  len : σ.length ≤ σ2.length
theorem OwnK_got0 {T : Nat → Option Fn} {f : Nat} {as : List Src} {dst : Option Nat} {env : Nat → V} {σ : Store} {kp bs : Nat} {rs ms : List Nat} {k : List Nat → St → Prop} {as' : List V} {t : V} (h : PO T f as' t)
    (ha : resK env σ as (· = as')) (hr : reachAll env σ as = []) (hk : ∀ r σ2 os, Got σ σ2 r t os → k [] ⟨updO env dst r, σ2, kp, bs, rs, ms⟩) : OwnK T f as dst ⟨env, σ, kp, bs, rs, ms⟩ k :=
  OwnK_got h ha fun r σ2 os g => by rw [hr]; exact hk r σ2 os g
theorem Got.tup1 {σ σ2 : Store} {r t : V} {b : Bool} {os : List Nat} (g : Got σ σ2 r (.tup [t, .bool b]) os) : ∃ v, r = .tup [v, .bool b] ∧ Got σ σ2 v t os := by
  obtain ⟨cs, rfl, h⟩ := g.ow.tup_inv
  obtain ⟨v, vs, o1, o2, rfl, rfl, h1, h2⟩ := h.inv
  obtain ⟨vs, rfl, h3⟩ := h2.bool_inv
  obtain ⟨rfl, rfl⟩ := h3.nil_inv
  exact ⟨v, rfl, by simpa using h1, g.nd, g.fresh, g.old, g.len⟩
theorem fin_bool {σ : Store} {b : Bool} : Fin σ (.bool b) (.bool b) := fin_of (os := []) (by simp [OwV]) .nil
theorem Fin.tup1 {σ : Store} {v t : V} {b : Bool} (h : Fin σ v t) : Fin σ (.tup [v, .bool b]) (.tup [t, .bool b]) := by
  obtain ⟨r', os, h1, h2, h3⟩ := h
  refine ⟨.tup [r', .bool b], os, ?_, owV_tup (by simpa using owL_v h2 (owL_bool owL_nil)), h3⟩
  simp only [LaxV, LaxL]
  exact ⟨_, rfl, _, _, rfl, h1, _, _, rfl, rfl, rfl⟩
end Go.Ml
end
section
set_option linter.unusedSimpArgs false
set_option linter.unusedVariables false
namespace Go.Ml
theorem dep_int (n : Nat) (q : IntKind) (k : Int) : DepLe (n + 1) (.int q k) := by simp [DepLe]
theorem dep_bool (n : Nat) (b : Bool) : DepLe (n + 1) (.bool b) := by simp [DepLe]
theorem dep_ints (n : Nat) (l : List Int) : DepLe (n + 2) (ints l) := by
  simp only [DepLe]
  intro r hr c hc
  simp only [irows, List.mem_map] at hr
  obtain ⟨x, _, rfl⟩ := hr
  simp only [List.mem_cons, List.not_mem_nil, or_false] at hc
  subst hc; simp [DepLe]
theorem dep_sl {α : Type} {f : α → List V} {n k : Nat} {l : List α} (h : ∀ x, ∀ c ∈ f x, DepLe n c) : DepLe (n + 1) (.sl k (l.map f)) := by
  simp only [DepLe]
  intro r hr c hc
  obtain ⟨x, _, rfl⟩ := List.mem_map.1 hr
  exact h x c hc
theorem dep_agg {n : Nat} {cs : List V} (h : ∀ c ∈ cs, DepLe n c) : DepLe (n + 1) (.agg cs) := by simpa only [DepLe] using h
theorem dc_lk (n : Nat) (x : Lk) : ∀ c ∈ x.cells, DepLe (n + 2) c := by
  simp only [List.forall_mem_cons]; exact ⟨dep_int _ _ _, dep_int _ _ _, dep_bool _ _, dep_ints _ _, dep_ints _ _, dep_bool _ _, dep_ints _ _, dep_ints _ _, dep_bool _ _, dep_ints _ _, dep_ints _ _, by simp⟩
theorem dep_lks (n : Nat) (l : List Lk) : DepLe (n + 3) (lksV l) := dep_sl fun x => dc_lk n x
theorem dep_lk (n : Nat) (x : Lk) : DepLe (n + 3) (lkV x) := dep_agg (dc_lk n x)
theorem dep_tup2 {n : Nat} {a b : V} (h1 : DepLe n a) (h2 : DepLe n b) : DepLe (n + 1) (.tup [a, b]) := by
  simp only [DepLe, List.forall_mem_cons]; exact ⟨h1, h2, by simp⟩
end Go.Ml
end
section
set_option linter.unusedSimpArgs false
set_option linter.unusedVariables false
set_option maxRecDepth 100000
set_option maxHeartbeats 4000000
namespace Go.Ml
def F_impl_neighborsOf : Fn := ⟨2, 35, [.tmp 4], (.seq (.reg false 0 [oN 4 (.mov (.c (.nils)))]) (.seq (.reg false 1 [oN 8 (.mkSl 1 [.int .i64 0] 0 []), oK 5 1 (oV 8)]) (.seq (.seq (.reg false 0 [oN 9 (oV 0), oN 10 (.len (.t 9)), oN 11 (.mov (cI 0))]) (.block 0 (.loop (.seq (.reg false 0 [oN 12 (.bin .lss (.t 11) (.t 10))]) (.seq (.cond (.t 12) .skip (.exit 0)) (.seq (.block 1 (.seq (.reg false 1 [oK 13 1 (.idx 11 (.t 9) (.t 11)), oK 14 1 (.load 11 true (.t 13)), oN 7 (.alloc [.int .i64 0, .int .i64 0, .bool false, .nils, .nils, .bool false, .nils, .nils, .bool false, .nils, .nils]), ⟨none, none, 1, .store 11 (.t 7) (.t 14), []⟩]) (.seq (.reg false 0 [oN 15 (.fld 0 (.t 7)), oN 16 (.load 1 false (.t 15)), oN 17 (oV 1), oN 18 (.bin .eql (.t 16) (.t 17))]) (.cond (.t 18) (.reg false 2 [oK 19 2 (oV 5), oK 20 2 (.fld 1 (.t 7)), oK 21 2 (.load 1 false (.t 20)), oN 22 (.mkSl 1 [.int .i64 0] 1 [(0, (.t 21))]), oK 23 1 (.app 1 8 (.t 19) (.t 22)), oK 5 2 (oV 23)]) (.seq (.reg false 0 [oN 24 (.fld 1 (.t 7)), oN 25 (.load 1 false (.t 24)), oN 26 (oV 1), oN 27 (.bin .eql (.t 25) (.t 26))]) (.cond (.t 27) (.reg false 2 [oK 28 2 (oV 5), oK 29 2 (.fld 0 (.t 7)), oK 30 2 (.load 1 false (.t 29)), oN 31 (.mkSl 1 [.int .i64 0] 1 [(0, (.t 30))]), oK 32 1 (.app 1 8 (.t 28) (.t 31)), oK 5 2 (oV 32)]) .skip)))))) (.reg false 0 [oN 33 (.bin .add (.t 11) (cI 1)), oN 11 (oV 33)]))))))) (.seq (.reg false 0 [oN 34 (oV 5), oN 4 (oV 34)]) .ret))))⟩
structure D_impl_neighborsOf (T : Nat → Option Fn) : Prop where
  hT : T 239 = some F_impl_neighborsOf
def F_impl_NeighborsOf : Fn := ⟨2, 11, [.tmp 4], (.seq (.reg false 0 [oN 4 (.mov (.c (.nils)))]) (.seq (.seq (.reg false 0 [oN 5 (oV 0), oN 6 (.call 89 [(.t 5)]), oN 7 (.un .not (.t 6))]) (.cond (.t 7) (.seq (.reg false 0 [oN 4 (.mov (.c (.nils)))]) .ret) .skip)) (.seq (.reg false 0 [oN 8 (oV 0), oN 9 (oV 1), oN 10 (.call 239 [(.t 8), (.t 9)]), oN 4 (oV 10)]) .ret)))⟩
structure D_impl_NeighborsOf (T : Nat → Option Fn) : Prop where
  hT : T 224 = some F_impl_NeighborsOf
  d_impl_IsLinkSet : D_impl_IsLinkSet T
  d_impl_neighborsOf : D_impl_neighborsOf T
def F_spec_l07Near : Fn := ⟨2, 33, [.tmp 4], (.seq (.reg false 0 [oN 4 (.mov (.c (.nils)))]) (.seq (.reg false 1 [oN 8 (.mkSl 1 [.int .i64 0] 0 []), oK 5 1 (oV 8)]) (.seq (.seq (.reg false 0 [oN 9 (oV 0), oN 10 (.len (.t 9)), oN 11 (.mov (cI 0))]) (.block 0 (.loop (.seq (.reg false 0 [oN 12 (.bin .lss (.t 11) (.t 10))]) (.seq (.cond (.t 12) .skip (.exit 0)) (.seq (.block 1 (.seq (.reg false 1 [oK 13 1 (.idx 11 (.t 9) (.t 11)), oK 14 1 (.load 11 true (.t 13)), oN 7 (.alloc [.int .i64 0, .int .i64 0, .bool false, .nils, .nils, .bool false, .nils, .nils, .bool false, .nils, .nils]), ⟨none, none, 1, .store 11 (.t 7) (.t 14), []⟩]) (.seq (.seq (.reg false 0 [oN 15 (.fld 0 (.t 7)), oN 16 (.load 1 false (.t 15)), oN 17 (oV 1), oN 18 (.bin .eql (.t 16) (.t 17))]) (.cond (.t 18) (.reg false 0 [oN 19 (oV 5), oN 20 (.fld 1 (.t 7)), oN 21 (.load 1 false (.t 20)), oN 22 (.call 237 [(.t 19), (.t 21)]), oN 5 (oV 22)]) .skip)) (.seq (.reg false 0 [oN 23 (.fld 1 (.t 7)), oN 24 (.load 1 false (.t 23)), oN 25 (oV 1), oN 26 (.bin .eql (.t 24) (.t 25))]) (.cond (.t 26) (.reg false 0 [oN 27 (oV 5), oN 28 (.fld 0 (.t 7)), oN 29 (.load 1 false (.t 28)), oN 30 (.call 237 [(.t 27), (.t 29)]), oN 5 (oV 30)]) .skip))))) (.reg false 0 [oN 31 (.bin .add (.t 11) (cI 1)), oN 11 (oV 31)]))))))) (.seq (.reg false 0 [oN 32 (oV 5), oN 4 (oV 32)]) .ret))))⟩
structure D_spec_l07Near (T : Nat → Option Fn) : Prop where
  hT : T 238 = some F_spec_l07Near
  d_spec_l07Put : D_spec_l07Put T
def F_spec_NeighborsOf : Fn := ⟨2, 11, [.tmp 4], (.seq (.reg false 0 [oN 4 (.mov (.c (.nils)))]) (.seq (.seq (.reg false 0 [oN 5 (oV 0), oN 6 (.call 193 [(.t 5)]), oN 7 (.un .not (.t 6))]) (.cond (.t 7) (.seq (.reg false 0 [oN 4 (.mov (.c (.nils)))]) .ret) .skip)) (.seq (.reg false 0 [oN 8 (oV 0), oN 9 (oV 1), oN 10 (.call 238 [(.t 8), (.t 9)]), oN 4 (oV 10)]) .ret)))⟩
structure D_spec_NeighborsOf (T : Nat → Option Fn) : Prop where
  hT : T 223 = some F_spec_NeighborsOf
  d_spec_IsLinkSet : D_spec_IsLinkSet T
  d_spec_l07Near : D_spec_l07Near T
theorem getD_get {α : Type} [Inhabited α] {l : List α} {i : Nat} (h : i < l.length) : l.getD i default = l[i] := by
  rw [List.getD_eq_getElem?_getD, List.getElem?_eq_getElem h]; rfl
end Go.Ml
end
section
set_option linter.unusedSimpArgs false
set_option linter.unusedVariables false
set_option maxRecDepth 100000
set_option maxHeartbeats 4000000
namespace Go.Ml
theorem po_toBigInt {T : Nat → Option Fn} (h : D_laws_toBigInt T) {z : Bi} (hl : z.mag.length ≤ 1048576 := by first | omega | assumption | (simp; omega)) : PO T 63 [biV z] (biV z) := by
  refine po_end2 (fun x d => x == 6) h.hT rfl rfl ?_
  dsimp only [F_laws_toBigInt, oN, oS, oG, oK, oA, oH, oV, cI, St.enter, List.length_cons, List.length_nil, Nat.zero_add]
  (refine ew ?_; try with_reducible exact True.intro)
  refine RefK_got (po_toIntS h.d_laws_toIntS (l := z.mag) (by omega)) (by (refine ew ?_; try with_reducible exact True.intro)) ?_
  intro r σ2 os g
  have g1 := g.at 1 (by simp) rfl
  have g2 := g.at 2 (by simp) rfl
  have gl : 3 ≤ σ2.length := g.len
  have lf := g.lf rfl
  have lb := g.lfb rfl
  have fr : ∀ o ∈ os, 3 ≤ o := g.fresh
  (refine ew4 @g1 @g2 @lf @lb ?_; try with_reducible exact True.intro)
  refine fin_of (owV_agg (owL_bool (owL_v (g.ow.frame fun o ho => ?_) owL_nil))) (by simpa using g.nd)
  have := fr o ho
  rw [objAt_setne (by omega), objAt_setne (by omega)]
theorem po_toRat {T : Nat → Option Fn} (h : D_laws_toRat T) {r : R} (hl : r.mag.length + r.den.length ≤ 1048576 := by first | omega | assumption | (simp; omega)) : PO T 48 [ratV r] (ratV r) := by
  refine po_end2 (fun x d => x == 6 || x == 63) h.hT rfl rfl ?_
  dsimp only [F_laws_toRat, oN, oS, oG, oK, oA, oH, oV, cI, St.enter, List.length_cons, List.length_nil, Nat.zero_add]
  (refine ew ?_; try with_reducible exact True.intro)
  refine RefK_got (po_toBigInt h.d_laws_toBigInt (z := r.num) (by show r.mag.length ≤ _; omega)) (by (refine ew ?_; try with_reducible exact True.intro)) ?_
  intro r1 σ1 o1 g
  obtain ⟨v1, rfl, k1⟩ := g.ow.bi_inv
  have a0 := g.at 0 (by simp) rfl
  have a1 := g.at 1 (by simp) rfl
  have a2 := g.at 2 (by simp) rfl
  have gl : 3 ≤ σ1.length := g.len
  have lf := cells_lf (k1.leaf rfl)
  have lb := k1.leaf rfl
  have f1 : ∀ o ∈ o1, 3 ≤ o := g.fresh
  (refine ew5 @a0 @a1 @a2 @lf @lb ?_; try with_reducible exact True.intro)
  refine RefK_got (po_toIntS h.d_laws_toIntS (l := r.den) (by omega)) (by (refine ew ?_; try with_reducible exact True.intro)) ?_
  intro v2 σ2 o2 g2
  have b1 := g2.old 1 (by simp; omega)
  have b2 := g2.old 2 (by simp; omega)
  have gl2 : σ1.length ≤ σ2.length := by simpa using g2.len
  have lf2 := cells_lf (g2.ow.leaf rfl)
  have lb2 := g2.ow.leaf rfl
  have f2 : ∀ o ∈ o2, σ1.length ≤ o := by simpa using g2.fresh
  (refine ew6 @b1 @b2 @a1 @lf2 @lb2 @lb ?_; try with_reducible exact True.intro)
  refine fin_of (owV_agg (owL_bool (owL_v (k1.frame fun o ho => ?_) (owL_v (g2.ow.frame fun o ho => ?_) owL_nil)))) ?_
  · have := f1 o ho
    have := k1.lt o ho
    rw [objAt_setne (by omega), objAt_setne (by omega), g2.old o (by simp; omega), objAt_setne (by omega)]
  · have := f2 o ho
    rw [objAt_setne (by omega), objAt_setne (by omega)]
  · rw [List.append_nil, List.nodup_append]
    refine ⟨by simpa using g.nd, g2.nd, fun a ha b hb e => ?_⟩
    have := k1.lt a ha
    have := f2 b hb
    omega
end Go.Ml
end
section
set_option linter.unusedSimpArgs false
set_option linter.unusedVariables false
set_option maxRecDepth 100000
set_option maxHeartbeats 4000000
namespace Go.Ml
def toSF (z : List V) (bytes sz f : Nat) : Fn := ⟨1, 23, [.tmp 2], (.seq (.reg false 0 [oN 2 (.mov (.c (.nils)))]) (.seq (.reg false 1 [oK 5 1 (oV 0), oK 6 1 (.len (.t 5)), oN 7 (.make z bytes (.t 6)), oK 3 1 (oV 7)]) (.seq (.seq (.reg false 0 [oN 4 (.mov (cI 0))]) (.block 0 (.loop (.seq (.seq (.reg false 0 [oN 8 (oV 4), oN 9 (oV 0), oN 10 (.len (.t 9)), oN 11 (.bin .lss (.t 8) (.t 10))]) (.cond (.t 11) .skip (.exit 0))) (.seq (.block 1 (.reg false 0 [oN 14 (oV 3), oN 15 (oV 4), oN 16 (oV 0), oN 17 (oV 4), oN 18 (.idx sz (.t 16) (.t 17)), oN 19 (.load sz true (.t 18)), oN 20 (.call f [(.t 19)]), oN 21 (.idx sz (.t 14) (.t 15)), oS (.store sz (.t 21) (.t 20))])) (.reg false 0 [oN 12 (oV 4), oN 13 (.bin .add (.t 12) (cI 1)), oN 4 (oV 13)])))))) (.seq (.reg false 0 [oN 22 (oV 3), oN 2 (oV 22)]) .ret))))⟩
theorem rep_get {α : Type} (A : List α) (z : α) {n i : Nat} (ha : A.length = i) (h : i < n) : (A ++ List.replicate (n - i) z)[i]? = some z := by
  rw [List.getElem?_append_right (by omega), ha, Nat.sub_self, show n - i = (n - (i + 1)) + 1 by omega, List.replicate_succ]; rfl
theorem rep_set {α : Type} (A : List α) (z x : α) {n i : Nat} (ha : A.length = i) (h : i < n) : (A ++ List.replicate (n - i) z).set i x = (A ++ [x]) ++ List.replicate (n - (i + 1)) z := by
  rw [List.set_append_right _ _ (by omega), ha, Nat.sub_self, show n - i = (n - (i + 1)) + 1 by omega, List.replicate_succ]; simp
theorem take_map_succ {α : Type} [Inhabited α] (cl : α → List V) (l : List α) {i : Nat} (h : i < l.length) : (l.take (i + 1)).map cl = (l.take i).map cl ++ [cl (l.getD i default)] := by
  rw [List.take_add_one, List.getElem?_eq_getElem h, List.getD_eq_getElem?_getD, List.getElem?_eq_getElem h, List.map_append]; rfl
theorem resC_still {σ : Store} : ∀ {cs : List V}, (∀ v ∈ cs, v.still = true) → resC σ cs = some cs
  | [], _ => rfl
  | c :: cs, h => by
    simp only [resC]
    rw [res_still (n := 10) (h c (by simp)), resC_still fun v hv => h v (by simp [hv])]
theorem res_agg_still {σ : Store} {cs : List V} (h : ∀ v ∈ cs, v.still = true) : resolve σ FD (.agg cs) = some (.agg cs) := by
  show (cs.mapM (resolve σ 11)).map V.agg = _
  rw [mapM_still (n := 10) h]; rfl
theorem po_toS {T : Nat → Option Fn} {n f bytes : Nat} {z : List V} {α : Type} [Inhabited α] {cl : α → List V} {l : List α} (hT : T n = some (toSF z bytes z.length f)) (hb : bytes ≤ 1024) (hl : l.length ≤ 1048576)
    (hcl : ∀ x ∈ l, (cl x).length = z.length ∧ (∀ v ∈ cl x, v.still = true) ∧ (cl x).all V.leaf = true) (hpo : ∀ x ∈ l, PO T f [.agg (cl x)] (.agg (cl x))) : PO T n [.sl z.length (l.map cl)] (.sl z.length (l.map cl)) := by

  refine po_end2 (fun x _ => x == f) hT rfl rfl ?_
  dsimp only [toSF, oN, oS, oG, oK, oA, oH, oV, cI]
  (refine ew ?_; try with_reducible exact True.intro)
  have hbl : l.length * bytes ≤ 1048576 * 1024 := Nat.mul_le_mul hl hb
  refine ⟨by omega, ?_⟩
  refine loop_at (fun x _ => x == f) (α := Nat × Store × List (List V)) (fun q => ⟨argE [.sl z.length (l.map cl), .any, .any, .msl 0 0 l.length, iv (q.1 : Nat)], q.2.1, 0, 0, [], []⟩) (fun q => q.1 ≤ l.length ∧ q.2.2.length = q.1 ∧ objAt q.2.1 0 = some ⟨z.length, q.2.2 ++ List.replicate (l.length - q.1) z⟩ ∧ OwRs 1 q.2.1 q.2.2 ((l.take q.1).map cl) ∧ 1 ≤ q.2.1.length) (fun q => l.length - q.1) rfl (0, [some ⟨z.length, List.replicate l.length z⟩], []) ?_ ?_ ?_
  · exact ⟨by omega, rfl, rfl, by simpa using owRs_nil, by simp⟩
  · (refine Fg_env ?_) <;> (try (refine ew ?_; try with_reducible exact True.intro)) <;> (repeat' (first | refine ⟨?_, ?_⟩ | exact EvV_int (by omega) | exact EvV_of (by simp) | exact EvV_nil _))
  · rintro ⟨i, s, A⟩ ⟨hi, hA, h0, hO, hs⟩
    dsimp only at hi hA h0 hO hs
    (refine ew1 @h0 ?_; try with_reducible exact True.intro)
    refine brK_dec (fun hc => ?_) fun hc => ?_ <;> (refine ew3 @hc @mg @h0 ?_; try with_reducible exact True.intro)
    · have hil : i < l.length := by omega
      have hx := getD_mem hil
      obtain ⟨x, hxe⟩ : ∃ x, l.getD i default = x := ⟨_, rfl⟩
      have hts := take_map_succ cl l hil
      rw [hxe] at hx hts ⊢
      obtain ⟨e1, e2, e3⟩ := hcl x hx
      have e4 : ∀ σ : Store, resC σ (cl x) = some (cl x) := fun σ => resC_still e2
      have e5 : ∀ σ : Store, resolve σ FD (.agg (cl x)) = some (.agg (cl x)) := fun σ => res_agg_still e2
      have eb : (f == f) = true := by simp
      (refine ew3 @e1 @e4 @eb ?_; try with_reducible exact True.intro)
      refine RefK_got (hpo x hx) (by (refine ew1 @e5 ?_; try with_reducible exact True.intro)) ?_
      intro r σ2 os g
      obtain ⟨cs, rfl, k1⟩ := g.ow.agg_inv
      have g0 := g.at 0 (by omega) h0
      have gl := g.len
      have lf := cells_agg (k1.leaf e3)
      have cl1 : cs.length = z.length := by rw [k1.len, e1]
      have r1 := rep_get A z hA hil
      have r2 := rep_set A z cs hA hil
      (refine ew5 @g0 @lf @cl1 @r1 @List.drop_length.{0} ?_; try with_reducible exact True.intro)
      rw [r2]
      refine ⟨(i + 1, σ2.set 0 (some ⟨z.length, (A ++ [cs]) ++ List.replicate (l.length - (i + 1)) z⟩), A ++ [cs]), by dsimp only; omega, ⟨by dsimp only; omega, by simp [hA], ?_, ?_, by simp; omega⟩, by (refine Fg_env ?_) <;> (try (refine ew ?_; try with_reducible exact True.intro)) <;> (repeat' (first | refine ⟨?_, ?_⟩ | exact EvV_int (by omega) | exact EvV_of (by simp) | exact EvV_nil _))⟩
      · dsimp only; exact objAt_seteq (by omega)
      · dsimp only
        rw [hts]
        exact (hO.got g hs).set (by omega)
    · have ei : i = l.length := by omega
      subst ei
      rw [Nat.sub_self, List.replicate_zero, List.append_nil] at h0
      rw [List.take_length] at hO
      have := hO.fin h0 (by omega)
      rw [List.length_map] at this
      exact this
end Go.Ml
end
section
set_option linter.unusedSimpArgs false
set_option linter.unusedVariables false
set_option maxRecDepth 100000
namespace Go.Ml
def F_laws_szPoint : Fn := ⟨2, 18, [.tmp 4], (.seq (.reg false 1 [oN 2 (.box (.t 0)), oK 4 1 (.mov (cI 0))]) (.seq (.reg false 0 [oN 5 (.fld 0 (.t 2)), oN 6 (.load 3 true (.t 5)), oN 7 (oV 1), oN 8 (.call 46 [(.t 6), (.t 7)]), oN 1 (oV 8)]) (.seq (.seq (.reg false 0 [oN 9 (oV 1), oN 10 (.bin .lss (.t 9) (cI 0))]) (.cond (.t 10) (.seq (.reg false 0 [oN 4 (.mov (cI (-1)))]) .ret) .skip)) (.seq (.reg false 0 [oN 11 (.fld 3 (.t 2)), oN 12 (.load 3 true (.t 11)), oN 13 (oV 1), oN 14 (.call 46 [(.t 12), (.t 13)]), oN 1 (oV 14)]) (.seq (.seq (.reg false 0 [oN 15 (oV 1), oN 16 (.bin .lss (.t 15) (cI 0))]) (.cond (.t 16) (.seq (.reg false 0 [oN 4 (.mov (cI (-1)))]) .ret) .skip)) (.seq (.reg false 0 [oN 17 (oV 1), oN 4 (oV 17)]) .ret))))))⟩
structure D_laws_szPoint (T : Nat → Option Fn) : Prop where
  hT : T 29 = some F_laws_szPoint
  d_laws_szRat : D_laws_szRat T
def F_laws_toPoint : Fn := ⟨1, 13, [.cell 2 6 true], (.seq (.reg false 2 [oN 1 (.box (.t 0)), oK 2 1 (.alloc [.bool false, .nils, .nils, .bool false, .nils, .nils])]) (.seq (.reg false 1 [oN 3 (.alloc [.bool false, .nils, .nils, .bool false, .nils, .nils])]) (.seq (.reg false 0 [oN 4 (.fld 0 (.t 1)), oN 5 (.load 3 true (.t 4)), oN 6 (.call 48 [(.t 5)]), oN 7 (.fld 0 (.t 3)), oS (.store 3 (.t 7) (.t 6))]) (.seq (.reg false 0 [oN 8 (.fld 3 (.t 1)), oN 9 (.load 3 true (.t 8)), oN 10 (.call 48 [(.t 9)]), oN 11 (.fld 3 (.t 3)), oS (.store 3 (.t 11) (.t 10))]) (.seq (.reg false 0 [oN 12 (.load 6 true (.t 3)), oS (.store 6 (.t 2) (.t 12))]) .ret)))))⟩
structure D_laws_toPoint (T : Nat → Option Fn) : Prop where
  hT : T 31 = some F_laws_toPoint
  d_laws_toRat : D_laws_toRat T
def F_laws_eqPoint : Fn := ⟨2, 17, [.tmp 4], (.seq (.reg false 2 [oN 2 (.box (.t 0)), oK 3 1 (.box (.t 1)), oK 4 2 (.mov (.c (.bool false)))]) (.seq (.seq (.reg false 0 [oN 5 (.fld 0 (.t 2)), oN 6 (.load 3 true (.t 5)), oN 7 (.fld 0 (.t 3)), oN 8 (.load 3 true (.t 7)), oN 9 (.call 40 [(.t 6), (.t 8)]), oN 10 (.un .not (.t 9))]) (.cond (.t 10) (.seq (.reg false 0 [oN 4 (.mov (.c (.bool false)))]) .ret) .skip)) (.seq (.seq (.reg false 0 [oN 11 (.fld 3 (.t 2)), oN 12 (.load 3 true (.t 11)), oN 13 (.fld 3 (.t 3)), oN 14 (.load 3 true (.t 13)), oN 15 (.call 40 [(.t 12), (.t 14)]), oN 16 (.un .not (.t 15))]) (.cond (.t 16) (.seq (.reg false 0 [oN 4 (.mov (.c (.bool false)))]) .ret) .skip)) (.seq (.reg false 0 [oN 4 (.mov (.c (.bool true)))]) .ret))))⟩
structure D_laws_eqPoint (T : Nat → Option Fn) : Prop where
  hT : T 33 = some F_laws_eqPoint
  d_laws_eqRat : D_laws_eqRat T
def F_laws_szPointS : Fn := ⟨2, 27, [.tmp 4], (.seq (.reg false 0 [oN 4 (.mov (cI 0))]) (.seq (.reg false 0 [oN 6 (oV 1), oN 7 (oV 0), oN 8 (.len (.t 7)), oN 9 (.bin .sub (.t 6) (.t 8)), oN 1 (oV 9)]) (.seq (.seq (.reg false 0 [oN 10 (oV 1), oN 11 (.bin .lss (.t 10) (cI 0))]) (.cond (.t 11) (.seq (.reg false 0 [oN 4 (.mov (cI (-1)))]) .ret) .skip)) (.seq (.seq (.reg false 0 [oN 5 (.mov (cI 0))]) (.block 0 (.loop (.seq (.seq (.reg false 0 [oN 12 (oV 5), oN 13 (oV 0), oN 14 (.len (.t 13)), oN 15 (.bin .lss (.t 12) (.t 14))]) (.cond (.t 15) .skip (.exit 0))) (.seq (.block 1 (.seq (.reg false 0 [oN 18 (oV 0), oN 19 (oV 5), oN 20 (.idx 6 (.t 18) (.t 19)), oN 21 (.load 6 true (.t 20)), oN 22 (oV 1), oN 23 (.call 29 [(.t 21), (.t 22)]), oN 1 (oV 23)]) (.seq (.reg false 0 [oN 24 (oV 1), oN 25 (.bin .lss (.t 24) (cI 0))]) (.cond (.t 25) (.seq (.reg false 0 [oN 4 (.mov (cI (-1)))]) .ret) .skip)))) (.reg false 0 [oN 16 (oV 5), oN 17 (.bin .add (.t 16) (cI 1)), oN 5 (oV 17)])))))) (.seq (.reg false 0 [oN 26 (oV 1), oN 4 (oV 26)]) .ret)))))⟩
structure D_laws_szPointS (T : Nat → Option Fn) : Prop where
  hT : T 9 = some F_laws_szPointS
  d_laws_szPoint : D_laws_szPoint T
def F_laws_toPointS : Fn := ⟨1, 23, [.tmp 2], (.seq (.reg false 0 [oN 2 (.mov (.c (.nils)))]) (.seq (.reg false 1 [oK 5 1 (oV 0), oK 6 1 (.len (.t 5)), oN 7 (.make [.bool false, .nils, .nils, .bool false, .nils, .nils] 112 (.t 6)), oK 3 1 (oV 7)]) (.seq (.seq (.reg false 0 [oN 4 (.mov (cI 0))]) (.block 0 (.loop (.seq (.seq (.reg false 0 [oN 8 (oV 4), oN 9 (oV 0), oN 10 (.len (.t 9)), oN 11 (.bin .lss (.t 8) (.t 10))]) (.cond (.t 11) .skip (.exit 0))) (.seq (.block 1 (.reg false 0 [oN 14 (oV 3), oN 15 (oV 4), oN 16 (oV 0), oN 17 (oV 4), oN 18 (.idx 6 (.t 16) (.t 17)), oN 19 (.load 6 true (.t 18)), oN 20 (.call 31 [(.t 19)]), oN 21 (.idx 6 (.t 14) (.t 15)), oS (.store 6 (.t 21) (.t 20))])) (.reg false 0 [oN 12 (oV 4), oN 13 (.bin .add (.t 12) (cI 1)), oN 4 (oV 13)])))))) (.seq (.reg false 0 [oN 22 (oV 3), oN 2 (oV 22)]) .ret))))⟩
structure D_laws_toPointS (T : Nat → Option Fn) : Prop where
  hT : T 11 = some F_laws_toPointS
  d_laws_toPoint : D_laws_toPoint T
def F_laws_eqPointS : Fn := ⟨2, 27, [.tmp 4], (.seq (.reg false 0 [oN 4 (.mov (.c (.bool false)))]) (.seq (.seq (.reg false 0 [oN 6 (oV 0), oN 7 (.len (.t 6)), oN 8 (oV 1), oN 9 (.len (.t 8)), oN 10 (.bin .neq (.t 7) (.t 9))]) (.cond (.t 10) (.seq (.reg false 0 [oN 4 (.mov (.c (.bool false)))]) .ret) .skip)) (.seq (.seq (.reg false 0 [oN 5 (.mov (cI 0))]) (.block 0 (.loop (.seq (.seq (.reg false 0 [oN 11 (oV 5), oN 12 (oV 0), oN 13 (.len (.t 12)), oN 14 (.bin .lss (.t 11) (.t 13))]) (.cond (.t 14) .skip (.exit 0))) (.seq (.block 1 (.seq (.reg true 0 [oN 17 (oV 0), oN 18 (oV 5), oA 19 0 (.idx 6 (.t 17) (.t 18)) [0, 1], oA 20 0 (.load 6 true (.t 19)) [2], oN 21 (oV 1), oN 22 (oV 5), oA 23 0 (.idx 6 (.t 21) (.t 22)) [4, 5], oA 24 0 (.load 6 true (.t 23)) [6], oA 25 0 (.call 33 [(.t 20), (.t 24)]) [3, 7], oA 26 0 (.un .not (.t 25)) [8]]) (.cond (.t 26) (.seq (.reg false 0 [oN 4 (.mov (.c (.bool false)))]) .ret) .skip))) (.reg false 0 [oN 15 (oV 5), oN 16 (.bin .add (.t 15) (cI 1)), oN 5 (oV 16)])))))) (.seq (.reg false 0 [oN 4 (.mov (.c (.bool true)))]) .ret))))⟩
structure D_laws_eqPointS (T : Nat → Option Fn) : Prop where
  hT : T 13 = some F_laws_eqPointS
  d_laws_eqPoint : D_laws_eqPoint T
def F_laws_szLink : Fn := ⟨2, 24, [.tmp 4], (.seq (.reg false 1 [oN 2 (.box (.t 0)), oK 4 1 (.mov (cI 0))]) (.seq (.reg false 0 [oN 5 (.fld 2 (.t 2)), oN 6 (.load 3 true (.t 5)), oN 7 (oV 1), oN 8 (.call 46 [(.t 6), (.t 7)]), oN 1 (oV 8)]) (.seq (.seq (.reg false 0 [oN 9 (oV 1), oN 10 (.bin .lss (.t 9) (cI 0))]) (.cond (.t 10) (.seq (.reg false 0 [oN 4 (.mov (cI (-1)))]) .ret) .skip)) (.seq (.reg false 0 [oN 11 (.fld 5 (.t 2)), oN 12 (.load 3 true (.t 11)), oN 13 (oV 1), oN 14 (.call 46 [(.t 12), (.t 13)]), oN 1 (oV 14)]) (.seq (.seq (.reg false 0 [oN 15 (oV 1), oN 16 (.bin .lss (.t 15) (cI 0))]) (.cond (.t 16) (.seq (.reg false 0 [oN 4 (.mov (cI (-1)))]) .ret) .skip)) (.seq (.reg false 0 [oN 17 (.fld 8 (.t 2)), oN 18 (.load 3 true (.t 17)), oN 19 (oV 1), oN 20 (.call 46 [(.t 18), (.t 19)]), oN 1 (oV 20)]) (.seq (.seq (.reg false 0 [oN 21 (oV 1), oN 22 (.bin .lss (.t 21) (cI 0))]) (.cond (.t 22) (.seq (.reg false 0 [oN 4 (.mov (cI (-1)))]) .ret) .skip)) (.seq (.reg false 0 [oN 23 (oV 1), oN 4 (oV 23)]) .ret))))))))⟩
structure D_laws_szLink (T : Nat → Option Fn) : Prop where
  hT : T 43 = some F_laws_szLink
  d_laws_szRat : D_laws_szRat T
def F_laws_toLink : Fn := ⟨1, 23, [.cell 2 11 true], (.seq (.reg false 2 [oN 1 (.box (.t 0)), oK 2 1 (.alloc [.int .i64 0, .int .i64 0, .bool false, .nils, .nils, .bool false, .nils, .nils, .bool false, .nils, .nils])]) (.seq (.reg false 1 [oN 3 (.alloc [.int .i64 0, .int .i64 0, .bool false, .nils, .nils, .bool false, .nils, .nils, .bool false, .nils, .nils])]) (.seq (.reg false 0 [oN 4 (.fld 0 (.t 1)), oN 5 (.load 1 false (.t 4)), oN 6 (.fld 0 (.t 3)), oS (.store 1 (.t 6) (.t 5))]) (.seq (.reg false 0 [oN 7 (.fld 1 (.t 1)), oN 8 (.load 1 false (.t 7)), oN 9 (.fld 1 (.t 3)), oS (.store 1 (.t 9) (.t 8))]) (.seq (.reg false 0 [oN 10 (.fld 2 (.t 1)), oN 11 (.load 3 true (.t 10)), oN 12 (.call 48 [(.t 11)]), oN 13 (.fld 2 (.t 3)), oS (.store 3 (.t 13) (.t 12))]) (.seq (.reg false 0 [oN 14 (.fld 5 (.t 1)), oN 15 (.load 3 true (.t 14)), oN 16 (.call 48 [(.t 15)]), oN 17 (.fld 5 (.t 3)), oS (.store 3 (.t 17) (.t 16))]) (.seq (.reg false 0 [oN 18 (.fld 8 (.t 1)), oN 19 (.load 3 true (.t 18)), oN 20 (.call 48 [(.t 19)]), oN 21 (.fld 8 (.t 3)), oS (.store 3 (.t 21) (.t 20))]) (.seq (.reg false 0 [oN 22 (.load 11 true (.t 3)), oS (.store 11 (.t 2) (.t 22))]) .ret))))))))⟩
structure D_laws_toLink (T : Nat → Option Fn) : Prop where
  hT : T 44 = some F_laws_toLink
  d_laws_toRat : D_laws_toRat T
def F_laws_eqLink : Fn := ⟨2, 33, [.tmp 4], (.seq (.reg false 2 [oN 2 (.box (.t 0)), oK 3 1 (.box (.t 1)), oK 4 2 (.mov (.c (.bool false)))]) (.seq (.seq (.reg false 0 [oN 5 (.fld 0 (.t 2)), oN 6 (.load 1 false (.t 5)), oN 7 (.fld 0 (.t 3)), oN 8 (.load 1 false (.t 7)), oN 9 (.bin .neq (.t 6) (.t 8))]) (.cond (.t 9) (.seq (.reg false 0 [oN 4 (.mov (.c (.bool false)))]) .ret) .skip)) (.seq (.seq (.reg false 0 [oN 10 (.fld 1 (.t 2)), oN 11 (.load 1 false (.t 10)), oN 12 (.fld 1 (.t 3)), oN 13 (.load 1 false (.t 12)), oN 14 (.bin .neq (.t 11) (.t 13))]) (.cond (.t 14) (.seq (.reg false 0 [oN 4 (.mov (.c (.bool false)))]) .ret) .skip)) (.seq (.seq (.reg false 0 [oN 15 (.fld 2 (.t 2)), oN 16 (.load 3 true (.t 15)), oN 17 (.fld 2 (.t 3)), oN 18 (.load 3 true (.t 17)), oN 19 (.call 40 [(.t 16), (.t 18)]), oN 20 (.un .not (.t 19))]) (.cond (.t 20) (.seq (.reg false 0 [oN 4 (.mov (.c (.bool false)))]) .ret) .skip)) (.seq (.seq (.reg false 0 [oN 21 (.fld 5 (.t 2)), oN 22 (.load 3 true (.t 21)), oN 23 (.fld 5 (.t 3)), oN 24 (.load 3 true (.t 23)), oN 25 (.call 40 [(.t 22), (.t 24)]), oN 26 (.un .not (.t 25))]) (.cond (.t 26) (.seq (.reg false 0 [oN 4 (.mov (.c (.bool false)))]) .ret) .skip)) (.seq (.seq (.reg false 0 [oN 27 (.fld 8 (.t 2)), oN 28 (.load 3 true (.t 27)), oN 29 (.fld 8 (.t 3)), oN 30 (.load 3 true (.t 29)), oN 31 (.call 40 [(.t 28), (.t 30)]), oN 32 (.un .not (.t 31))]) (.cond (.t 32) (.seq (.reg false 0 [oN 4 (.mov (.c (.bool false)))]) .ret) .skip)) (.seq (.reg false 0 [oN 4 (.mov (.c (.bool true)))]) .ret)))))))⟩
structure D_laws_eqLink (T : Nat → Option Fn) : Prop where
  hT : T 16 = some F_laws_eqLink
  d_laws_eqRat : D_laws_eqRat T
def F_laws_szLinkS : Fn := ⟨2, 27, [.tmp 4], (.seq (.reg false 0 [oN 4 (.mov (cI 0))]) (.seq (.reg false 0 [oN 6 (oV 1), oN 7 (oV 0), oN 8 (.len (.t 7)), oN 9 (.bin .sub (.t 6) (.t 8)), oN 1 (oV 9)]) (.seq (.seq (.reg false 0 [oN 10 (oV 1), oN 11 (.bin .lss (.t 10) (cI 0))]) (.cond (.t 11) (.seq (.reg false 0 [oN 4 (.mov (cI (-1)))]) .ret) .skip)) (.seq (.seq (.reg false 0 [oN 5 (.mov (cI 0))]) (.block 0 (.loop (.seq (.seq (.reg false 0 [oN 12 (oV 5), oN 13 (oV 0), oN 14 (.len (.t 13)), oN 15 (.bin .lss (.t 12) (.t 14))]) (.cond (.t 15) .skip (.exit 0))) (.seq (.block 1 (.seq (.reg false 0 [oN 18 (oV 0), oN 19 (oV 5), oN 20 (.idx 11 (.t 18) (.t 19)), oN 21 (.load 11 true (.t 20)), oN 22 (oV 1), oN 23 (.call 43 [(.t 21), (.t 22)]), oN 1 (oV 23)]) (.seq (.reg false 0 [oN 24 (oV 1), oN 25 (.bin .lss (.t 24) (cI 0))]) (.cond (.t 25) (.seq (.reg false 0 [oN 4 (.mov (cI (-1)))]) .ret) .skip)))) (.reg false 0 [oN 16 (oV 5), oN 17 (.bin .add (.t 16) (cI 1)), oN 5 (oV 17)])))))) (.seq (.reg false 0 [oN 26 (oV 1), oN 4 (oV 26)]) .ret)))))⟩
structure D_laws_szLinkS (T : Nat → Option Fn) : Prop where
  hT : T 19 = some F_laws_szLinkS
  d_laws_szLink : D_laws_szLink T
def F_laws_toLinkS : Fn := ⟨1, 23, [.tmp 2], (.seq (.reg false 0 [oN 2 (.mov (.c (.nils)))]) (.seq (.reg false 1 [oK 5 1 (oV 0), oK 6 1 (.len (.t 5)), oN 7 (.make [.int .i64 0, .int .i64 0, .bool false, .nils, .nils, .bool false, .nils, .nils, .bool false, .nils, .nils] 184 (.t 6)), oK 3 1 (oV 7)]) (.seq (.seq (.reg false 0 [oN 4 (.mov (cI 0))]) (.block 0 (.loop (.seq (.seq (.reg false 0 [oN 8 (oV 4), oN 9 (oV 0), oN 10 (.len (.t 9)), oN 11 (.bin .lss (.t 8) (.t 10))]) (.cond (.t 11) .skip (.exit 0))) (.seq (.block 1 (.reg false 0 [oN 14 (oV 3), oN 15 (oV 4), oN 16 (oV 0), oN 17 (oV 4), oN 18 (.idx 11 (.t 16) (.t 17)), oN 19 (.load 11 true (.t 18)), oN 20 (.call 44 [(.t 19)]), oN 21 (.idx 11 (.t 14) (.t 15)), oS (.store 11 (.t 21) (.t 20))])) (.reg false 0 [oN 12 (oV 4), oN 13 (.bin .add (.t 12) (cI 1)), oN 4 (oV 13)])))))) (.seq (.reg false 0 [oN 22 (oV 3), oN 2 (oV 22)]) .ret))))⟩
structure D_laws_toLinkS (T : Nat → Option Fn) : Prop where
  hT : T 21 = some F_laws_toLinkS
  d_laws_toLink : D_laws_toLink T
def F_laws_eqLinkS : Fn := ⟨2, 27, [.tmp 4], (.seq (.reg false 0 [oN 4 (.mov (.c (.bool false)))]) (.seq (.seq (.reg false 0 [oN 6 (oV 0), oN 7 (.len (.t 6)), oN 8 (oV 1), oN 9 (.len (.t 8)), oN 10 (.bin .neq (.t 7) (.t 9))]) (.cond (.t 10) (.seq (.reg false 0 [oN 4 (.mov (.c (.bool false)))]) .ret) .skip)) (.seq (.seq (.reg false 0 [oN 5 (.mov (cI 0))]) (.block 0 (.loop (.seq (.seq (.reg false 0 [oN 11 (oV 5), oN 12 (oV 0), oN 13 (.len (.t 12)), oN 14 (.bin .lss (.t 11) (.t 13))]) (.cond (.t 14) .skip (.exit 0))) (.seq (.block 1 (.seq (.reg true 0 [oN 17 (oV 0), oN 18 (oV 5), oA 19 0 (.idx 11 (.t 17) (.t 18)) [0, 1], oA 20 0 (.load 11 true (.t 19)) [2], oN 21 (oV 1), oN 22 (oV 5), oA 23 0 (.idx 11 (.t 21) (.t 22)) [4, 5], oA 24 0 (.load 11 true (.t 23)) [6], oA 25 0 (.call 16 [(.t 20), (.t 24)]) [3, 7], oA 26 0 (.un .not (.t 25)) [8]]) (.cond (.t 26) (.seq (.reg false 0 [oN 4 (.mov (.c (.bool false)))]) .ret) .skip))) (.reg false 0 [oN 15 (oV 5), oN 16 (.bin .add (.t 15) (cI 1)), oN 5 (oV 16)])))))) (.seq (.reg false 0 [oN 4 (.mov (.c (.bool true)))]) .ret))))⟩
structure D_laws_eqLinkS (T : Nat → Option Fn) : Prop where
  hT : T 23 = some F_laws_eqLinkS
  d_laws_eqLink : D_laws_eqLink T
theorem c_szLink {T : Nat → Option Fn} (h : D_laws_szLink T) {x : Lk} {left : Int} (hw : x.wf := by first | omega | assumption | (simp; omega)) (h0 : 0 ≤ left ∧ left ≤ 1048576 := by first | omega | assumption | (simp; omega)) : PF T 43 [lkV x, iv left] (iv (szr left x.sz)) := by
  obtain ⟨w0, w1, w2⟩ := hw
  refine pf_end (fun _ _ => false) h.hT rfl rfl ?_
  dsimp only [F_laws_szLink, oN, oS, oG, oK, oA, oH, oV, cI]
  (refine ev ?_; try with_reducible exact True.intro)
  refine PFK_of (c_szRat h.d_laws_szRat (r := x.w) w0 ⟨by omega, by omega⟩) ?_
  (refine ev ?_; try with_reducible exact True.intro)
  have k0 := @szr_le left (x.w.sz)
  refine brK_dec (fun hb0 => ?_) fun hb0 => ?_ <;> (refine ev1 @hb0 ?_; try with_reducible exact True.intro)
  · rw [show x.sz = (x.w.sz) + (x.dx.sz + x.dy.sz) from by (unfold Lk.sz; omega), szr_neg hb0 h0.1]
  refine PFK_of (c_szRat h.d_laws_szRat (r := x.dx) w1 ⟨by omega, by omega⟩) ?_
  (refine ev ?_; try with_reducible exact True.intro)
  rw [szr_add hb0]
  have k1 := @szr_le left (x.w.sz + x.dx.sz)
  refine brK_dec (fun hb1 => ?_) fun hb1 => ?_ <;> (refine ev1 @hb1 ?_; try with_reducible exact True.intro)
  · rw [show x.sz = (x.w.sz + x.dx.sz) + (x.dy.sz) from by (unfold Lk.sz; omega), szr_neg hb1 h0.1]
  refine PFK_of (c_szRat h.d_laws_szRat (r := x.dy) w2 ⟨by omega, by omega⟩) ?_
  (refine ev ?_; try with_reducible exact True.intro)
  rw [szr_add hb1]
  have k2 := @szr_le left (x.w.sz + x.dx.sz + x.dy.sz)
  refine brK_dec (fun hb2 => ?_) fun hb2 => ?_ <;> (refine ev1 @hb2 ?_; try with_reducible exact True.intro)
  · rw [show x.sz = x.w.sz + x.dx.sz + x.dy.sz from rfl, szr_neg0 hb2 h0.1]
  · rfl
theorem c_toLink {T : Nat → Option Fn} (h : D_laws_toLink T) {x : Lk} (hl : x.sz ≤ 1048576 := by first | omega | assumption | (simp; omega)) : PF T 44 [lkV x] (lkV x) := by
  unfold Lk.sz at hl
  refine pf_end (fun _ _ => false) h.hT rfl rfl ?_
  dsimp only [F_laws_toLink, oN, oS, oG, oK, oA, oH, oV, cI]
  (refine ev ?_; try with_reducible exact True.intro)
  refine PFK_of (c_toRat h.d_laws_toRat (r := x.w) (by omega)) ?_
  (refine ev ?_; try with_reducible exact True.intro)
  refine PFK_of (c_toRat h.d_laws_toRat (r := x.dx) (by omega)) ?_
  (refine ev ?_; try with_reducible exact True.intro)
  refine PFK_of (c_toRat h.d_laws_toRat (r := x.dy) (by omega)) ?_
  (refine ev ?_; try with_reducible exact True.intro)
theorem c_eqLink {T : Nat → Option Fn} (h : D_laws_eqLink T) {x y : Lk} (hx : x.wf := by first | omega | assumption | (simp; omega)) (hy : y.wf := by first | omega | assumption | (simp; omega)) : PF T 16 [lkV x, lkV y] (.bool (decide (x = y))) := by
  obtain ⟨w0, w1, w2⟩ := hx
  obtain ⟨v0, v1, v2⟩ := hy
  refine pf_end (fun _ _ => false) h.hT rfl rfl ?_
  dsimp only [F_laws_eqLink, oN, oS, oG, oK, oA, oH, oV, cI]
  (refine ev ?_; try with_reducible exact True.intro)
  refine brK_dec (fun hb0 => ?_) fun hb0 => ?_ <;> (refine ev1 @hb0 ?_; try with_reducible exact True.intro)
  rotate_left
  · cases x; cases y; simp_all
  refine brK_dec (fun hb1 => ?_) fun hb1 => ?_ <;> (refine ev1 @hb1 ?_; try with_reducible exact True.intro)
  rotate_left
  · cases x; cases y; simp_all
  refine PFK_of (c_eqRat h.d_laws_eqRat (y := x.w) (z := y.w) w0 v0) ?_
  (refine ev ?_; try with_reducible exact True.intro)
  refine brK_dec (fun hb2 => ?_) fun hb2 => ?_ <;> (refine ev1 @hb2 ?_; try with_reducible exact True.intro)
  rotate_left
  · cases x; cases y; simp_all
  refine PFK_of (c_eqRat h.d_laws_eqRat (y := x.dx) (z := y.dx) w1 v1) ?_
  (refine ev ?_; try with_reducible exact True.intro)
  refine brK_dec (fun hb3 => ?_) fun hb3 => ?_ <;> (refine ev1 @hb3 ?_; try with_reducible exact True.intro)
  rotate_left
  · cases x; cases y; simp_all
  refine PFK_of (c_eqRat h.d_laws_eqRat (y := x.dy) (z := y.dy) w2 v2) ?_
  (refine ev ?_; try with_reducible exact True.intro)
  refine brK_dec (fun hb4 => ?_) fun hb4 => ?_ <;> (refine ev1 @hb4 ?_; try with_reducible exact True.intro)
  rotate_left
  · cases x; cases y; simp_all
  · cases x; cases y; simp_all
theorem c_szLinkS {T : Nat → Option Fn} (h : D_laws_szLinkS T) {l : List Lk} {left : Int} (hw : wfL Lk.wf l := by first | omega | assumption | (simp; omega)) (h0 : 0 ≤ left ∧ left ≤ 1048576 := by first | omega | assumption | (simp; omega)) : PF T 19 [lksV l, iv left] (iv (szr left (szL Lk.sz l))) := by
  have hlen := hw.1
  refine pf_end (fun _ _ => false) h.hT rfl rfl ?_
  dsimp only [F_laws_szLinkS, oN, oS, oG, oK, oA, oH, oV, cI]
  (refine ev ?_; try with_reducible exact True.intro)
  refine brK_dec (fun hb => ?_) fun hb => ?_ <;> (refine ev1 @hb ?_; try with_reducible exact True.intro)
  · rw [szr_no (by rw [szL_eq]; omega)]
  refine loop_at (fun _ _ => false) (α := Nat) (fun i => ⟨argE [lksV l, iv (left - (l.length : Nat) - (sumTo Lk.sz l i : Nat)), .any, .any, .any, iv (i : Nat)], [], 0, 0, [], []⟩) (fun i => i ≤ l.length ∧ (l.length : Int) + (sumTo Lk.sz l i : Nat) ≤ left) (fun i => l.length - i) rfl 0 ?_ ?_ ?_
  · rw [sumTo_zero]; omega
  · (refine Fg_env ?_) <;> (try (refine ev1 @sumTo_zero ?_; try with_reducible exact True.intro)) <;> (repeat' (first | refine ⟨?_, ?_⟩ | exact EvV_int (by omega) | exact EvV_of (by simp) | exact EvV_nil _))
  · rintro i ⟨hi, hs⟩
    (refine ev ?_; try with_reducible exact True.intro)
    refine brK_dec (fun hc => ?_) fun hc => ?_ <;> (refine ev2 @hc @mg ?_; try with_reducible exact True.intro)
    · refine PFK_of (c_szLink h.d_laws_szLink (x := l.getD i default) (hw.at_ (by omega)) ⟨by omega, by omega⟩) ?_
      (refine ev ?_; try with_reducible exact True.intro)
      have k1 := sumTo_mono Lk.sz (l := l) (i := i) (by omega)
      have k2 := sumTo_succ Lk.sz (l := l) (i := i) (by omega)
      refine brK_dec (fun hd => ?_) fun hd => ?_ <;> (refine ev1 @hd ?_; try with_reducible exact True.intro)
      · have := szr_lt hd (by omega)
        rw [szr_no (left := left) (by rw [szL_eq]; omega)]
      · have e1 : szr (left - (l.length : Nat) - (sumTo Lk.sz l i : Nat)) (Lk.sz (l.getD i default)) = left - (l.length : Nat) - (sumTo Lk.sz l (i + 1) : Nat) := by
          rw [szr_ok (szr_nlt hd)]; omega
        rw [show (l.getD i default).sz = Lk.sz (l.getD i default) from rfl, e1] at hd ⊢
        exact ⟨i + 1, by omega, ⟨by omega, by omega⟩, by (refine Fg_env ?_) <;> (try (refine ev ?_; try with_reducible exact True.intro)) <;> (repeat' (first | refine ⟨?_, ?_⟩ | exact EvV_int (by omega) | exact EvV_of (by simp) | exact EvV_nil _))⟩
    · have : i = l.length := by omega
      subst this
      rw [sumTo_all] at hs ⊢
      rw [szr_ok (by rw [szL_eq]; omega)]; rw [szL_eq]
      congr 1; omega
theorem c_toLinkS {T : Nat → Option Fn} (h : D_laws_toLinkS T) {l : List Lk} (hl : szL Lk.sz l ≤ 1048576 := by first | omega | assumption | (simp; omega)) : PF T 21 [lksV l] (lksV l) := by
  rw [szL_eq] at hl
  refine pf_end (fun _ _ => false) h.hT rfl rfl ?_
  dsimp only [F_laws_toLinkS, oN, oS, oG, oK, oA, oH, oV, cI]
  (refine ev ?_; try with_reducible exact True.intro)
  refine ⟨by omega, ?_⟩
  refine loop_at (fun _ _ => false) (α := Nat) (fun i => ⟨argE [lksV l, .any, .any, .msl 0 0 l.length, iv (i : Nat)], [some ⟨11, fillR Lk.cells l [iv 0, iv 0, .bool false, .nils, .nils, .bool false, .nils, .nils, .bool false, .nils, .nils] i⟩], 0, 0, [], []⟩) (fun i => i ≤ l.length) (fun i => l.length - i) rfl 0 ?_ ?_ ?_
  · omega
  · (refine Fg_env ?_) <;> (try (refine ev1 @fillR_zero ?_; try with_reducible exact True.intro)) <;> (repeat' (first | refine ⟨?_, ?_⟩ | exact EvV_int (by omega) | exact EvV_of (by simp) | exact EvV_nil _))
  · intro i hi
    have e1 := fillR_len Lk.cells l [iv 0, iv 0, .bool false, .nils, .nils, .bool false, .nils, .nils, .bool false, .nils, .nils] hi
    (refine ev1 @e1 ?_; try with_reducible exact True.intro)
    refine brK_dec (fun hb => ?_) fun hb => ?_ <;> (refine ev3 @hb @e1 @mg ?_; try with_reducible exact True.intro)
    · have k1 := sumTo_mono Lk.sz (l := l) (i := i) (by omega)
      refine PFK_of (c_toLink h.d_laws_toLink (x := l.getD i default) (by first | omega | (change Lk.sz _ ≤ _; omega))) ?_
      have e0 := fillR_get Lk.cells l [iv 0, iv 0, .bool false, .nils, .nils, .bool false, .nils, .nils, .bool false, .nils, .nils] (i := i) (by omega)
      (refine ev2 @e0 @e1 ?_; try with_reducible exact True.intro)
      have e2 := fillR_set Lk.cells l [iv 0, iv 0, .bool false, .nils, .nils, .bool false, .nils, .nils, .bool false, .nils, .nils] (i := i) (by omega)
      refine ⟨i + 1, by omega, by omega, Fg_env' ?_ (by rw [← e2])⟩
      (refine ev ?_; try with_reducible exact True.intro)
      repeat' (first | refine ⟨?_, ?_⟩ | exact EvV_int (by omega) | exact EvV_of (by simp))
    · have : i = l.length := by omega
      subst this
      rw [fillR_all, resO_st (still_map (f := Lk.cells) (l := l) (by intro x _ v hv; simp at hv; rcases hv with rfl | rfl | rfl | rfl | rfl | rfl | rfl | rfl | rfl | rfl | rfl <;> rfl)) (by simp), List.drop_zero, List.take_of_length_le (by simp)]; rfl
theorem c_eqLinkS {T : Nat → Option Fn} (h : D_laws_eqLinkS T) {a b : List Lk} (ha : wfL Lk.wf a := by first | omega | assumption | (simp; omega)) (hb : wfL Lk.wf b := by first | omega | assumption | (simp; omega)) : PF T 23 [lksV a, lksV b] (.bool (decide (a = b))) := by
  have l1 := ha.1
  have l2 := hb.1
  refine pf_end (fun _ _ => false) h.hT rfl rfl ?_
  dsimp only [F_laws_eqLinkS, oN, oS, oG, oK, oA, oH, oV, cI]
  (refine ev ?_; try with_reducible exact True.intro)
  refine brK_dec (fun h1 => ?_) fun h1 => ?_ <;> (refine ev1 @h1 ?_; try with_reducible exact True.intro)
  · have h1 : a.length = b.length := by omega
    refine loop_at (fun _ _ => false) (α := Nat) (fun i => ⟨argE [lksV a, lksV b, .any, .any, .any, iv (i : Nat)], [], 0, 0, [], []⟩) (fun i => i ≤ a.length ∧ ∀ j, j < i → a.getD j default = b.getD j default) (fun i => a.length - i) rfl 0 ?_ ?_ ?_
    · exact ⟨by omega, by intro j hj; omega⟩
    · (refine Fg_env ?_) <;> (try (refine ev ?_; try with_reducible exact True.intro)) <;> (repeat' (first | refine ⟨?_, ?_⟩ | exact EvV_int (by omega) | exact EvV_of (by simp) | exact EvV_nil _))
    · rintro i ⟨hi, hj⟩
      (refine ev ?_; try with_reducible exact True.intro)
      refine brK_dec (fun h2 => ?_) fun h2 => ?_ <;> (refine ev2 @h2 @mg ?_; try with_reducible exact True.intro)
      · refine PFK_of (c_eqLink h.d_laws_eqLink (x := a.getD i default) (y := b.getD i default) (ha.at_ (by omega)) (hb.at_ (by omega))) ?_
        (refine ev ?_; try with_reducible exact True.intro)
        refine brK_dec (fun h3 => ?_) fun h3 => ?_ <;> (refine ev1 @h3 ?_; try with_reducible exact True.intro)
        · refine ⟨i + 1, by omega, ⟨by omega, fun j hj' => ?_⟩, by (refine Fg_env ?_) <;> (try (refine ev ?_; try with_reducible exact True.intro)) <;> (repeat' (first | refine ⟨?_, ?_⟩ | exact EvV_int (by omega) | exact EvV_of (by simp) | exact EvV_nil _))⟩
          by_cases e : j = i
          · subst e; exact h3
          · exact hj j (by omega)
        · have : ¬ a = b := fun e => h3 (by rw [e])
          simp [this]
      · have : a = b := getD_ext' h1 fun j h => hj j (by omega)
        simp [this]
  · have : ¬ a = b := fun e => h1 (by rw [e])
    simp [this]
end Go.Ml
end
section
set_option linter.unusedSimpArgs false
set_option linter.unusedVariables false
set_option maxRecDepth 100000
namespace Go.Ml
def F_laws_szParent : Fn := ⟨2, 24, [.tmp 4], (.seq (.reg false 1 [oN 2 (.box (.t 0)), oK 4 1 (.mov (cI 0))]) (.seq (.reg false 0 [oN 5 (.fld 1 (.t 2)), oN 6 (.load 3 true (.t 5)), oN 7 (oV 1), oN 8 (.call 46 [(.t 6), (.t 7)]), oN 1 (oV 8)]) (.seq (.seq (.reg false 0 [oN 9 (oV 1), oN 10 (.bin .lss (.t 9) (cI 0))]) (.cond (.t 10) (.seq (.reg false 0 [oN 4 (.mov (cI (-1)))]) .ret) .skip)) (.seq (.reg false 0 [oN 11 (.fld 4 (.t 2)), oN 12 (.load 3 true (.t 11)), oN 13 (oV 1), oN 14 (.call 46 [(.t 12), (.t 13)]), oN 1 (oV 14)]) (.seq (.seq (.reg false 0 [oN 15 (oV 1), oN 16 (.bin .lss (.t 15) (cI 0))]) (.cond (.t 16) (.seq (.reg false 0 [oN 4 (.mov (cI (-1)))]) .ret) .skip)) (.seq (.reg false 0 [oN 17 (.fld 7 (.t 2)), oN 18 (.load 3 true (.t 17)), oN 19 (oV 1), oN 20 (.call 46 [(.t 18), (.t 19)]), oN 1 (oV 20)]) (.seq (.seq (.reg false 0 [oN 21 (oV 1), oN 22 (.bin .lss (.t 21) (cI 0))]) (.cond (.t 22) (.seq (.reg false 0 [oN 4 (.mov (cI (-1)))]) .ret) .skip)) (.seq (.reg false 0 [oN 23 (oV 1), oN 4 (oV 23)]) .ret))))))))⟩
structure D_laws_szParent (T : Nat → Option Fn) : Prop where
  hT : T 62 = some F_laws_szParent
  d_laws_szRat : D_laws_szRat T
def F_laws_toParent : Fn := ⟨1, 20, [.cell 2 10 true], (.seq (.reg false 2 [oN 1 (.box (.t 0)), oK 2 1 (.alloc [.int .i64 0, .bool false, .nils, .nils, .bool false, .nils, .nils, .bool false, .nils, .nils])]) (.seq (.reg false 1 [oN 3 (.alloc [.int .i64 0, .bool false, .nils, .nils, .bool false, .nils, .nils, .bool false, .nils, .nils])]) (.seq (.reg false 0 [oN 4 (.fld 0 (.t 1)), oN 5 (.load 1 false (.t 4)), oN 6 (.fld 0 (.t 3)), oS (.store 1 (.t 6) (.t 5))]) (.seq (.reg false 0 [oN 7 (.fld 1 (.t 1)), oN 8 (.load 3 true (.t 7)), oN 9 (.call 48 [(.t 8)]), oN 10 (.fld 1 (.t 3)), oS (.store 3 (.t 10) (.t 9))]) (.seq (.reg false 0 [oN 11 (.fld 4 (.t 1)), oN 12 (.load 3 true (.t 11)), oN 13 (.call 48 [(.t 12)]), oN 14 (.fld 4 (.t 3)), oS (.store 3 (.t 14) (.t 13))]) (.seq (.reg false 0 [oN 15 (.fld 7 (.t 1)), oN 16 (.load 3 true (.t 15)), oN 17 (.call 48 [(.t 16)]), oN 18 (.fld 7 (.t 3)), oS (.store 3 (.t 18) (.t 17))]) (.seq (.reg false 0 [oN 19 (.load 10 true (.t 3)), oS (.store 10 (.t 2) (.t 19))]) .ret)))))))⟩
structure D_laws_toParent (T : Nat → Option Fn) : Prop where
  hT : T 64 = some F_laws_toParent
  d_laws_toRat : D_laws_toRat T
def F_laws_eqParent : Fn := ⟨2, 28, [.tmp 4], (.seq (.reg false 2 [oN 2 (.box (.t 0)), oK 3 1 (.box (.t 1)), oK 4 2 (.mov (.c (.bool false)))]) (.seq (.seq (.reg false 0 [oN 5 (.fld 0 (.t 2)), oN 6 (.load 1 false (.t 5)), oN 7 (.fld 0 (.t 3)), oN 8 (.load 1 false (.t 7)), oN 9 (.bin .neq (.t 6) (.t 8))]) (.cond (.t 9) (.seq (.reg false 0 [oN 4 (.mov (.c (.bool false)))]) .ret) .skip)) (.seq (.seq (.reg false 0 [oN 10 (.fld 1 (.t 2)), oN 11 (.load 3 true (.t 10)), oN 12 (.fld 1 (.t 3)), oN 13 (.load 3 true (.t 12)), oN 14 (.call 40 [(.t 11), (.t 13)]), oN 15 (.un .not (.t 14))]) (.cond (.t 15) (.seq (.reg false 0 [oN 4 (.mov (.c (.bool false)))]) .ret) .skip)) (.seq (.seq (.reg false 0 [oN 16 (.fld 4 (.t 2)), oN 17 (.load 3 true (.t 16)), oN 18 (.fld 4 (.t 3)), oN 19 (.load 3 true (.t 18)), oN 20 (.call 40 [(.t 17), (.t 19)]), oN 21 (.un .not (.t 20))]) (.cond (.t 21) (.seq (.reg false 0 [oN 4 (.mov (.c (.bool false)))]) .ret) .skip)) (.seq (.seq (.reg false 0 [oN 22 (.fld 7 (.t 2)), oN 23 (.load 3 true (.t 22)), oN 24 (.fld 7 (.t 3)), oN 25 (.load 3 true (.t 24)), oN 26 (.call 40 [(.t 23), (.t 25)]), oN 27 (.un .not (.t 26))]) (.cond (.t 27) (.seq (.reg false 0 [oN 4 (.mov (.c (.bool false)))]) .ret) .skip)) (.seq (.reg false 0 [oN 4 (.mov (.c (.bool true)))]) .ret))))))⟩
structure D_laws_eqParent (T : Nat → Option Fn) : Prop where
  hT : T 65 = some F_laws_eqParent
  d_laws_eqRat : D_laws_eqRat T
def F_laws_szParentS : Fn := ⟨2, 27, [.tmp 4], (.seq (.reg false 0 [oN 4 (.mov (cI 0))]) (.seq (.reg false 0 [oN 6 (oV 1), oN 7 (oV 0), oN 8 (.len (.t 7)), oN 9 (.bin .sub (.t 6) (.t 8)), oN 1 (oV 9)]) (.seq (.seq (.reg false 0 [oN 10 (oV 1), oN 11 (.bin .lss (.t 10) (cI 0))]) (.cond (.t 11) (.seq (.reg false 0 [oN 4 (.mov (cI (-1)))]) .ret) .skip)) (.seq (.seq (.reg false 0 [oN 5 (.mov (cI 0))]) (.block 0 (.loop (.seq (.seq (.reg false 0 [oN 12 (oV 5), oN 13 (oV 0), oN 14 (.len (.t 13)), oN 15 (.bin .lss (.t 12) (.t 14))]) (.cond (.t 15) .skip (.exit 0))) (.seq (.block 1 (.seq (.reg false 0 [oN 18 (oV 0), oN 19 (oV 5), oN 20 (.idx 10 (.t 18) (.t 19)), oN 21 (.load 10 true (.t 20)), oN 22 (oV 1), oN 23 (.call 62 [(.t 21), (.t 22)]), oN 1 (oV 23)]) (.seq (.reg false 0 [oN 24 (oV 1), oN 25 (.bin .lss (.t 24) (cI 0))]) (.cond (.t 25) (.seq (.reg false 0 [oN 4 (.mov (cI (-1)))]) .ret) .skip)))) (.reg false 0 [oN 16 (oV 5), oN 17 (.bin .add (.t 16) (cI 1)), oN 5 (oV 17)])))))) (.seq (.reg false 0 [oN 26 (oV 1), oN 4 (oV 26)]) .ret)))))⟩
structure D_laws_szParentS (T : Nat → Option Fn) : Prop where
  hT : T 47 = some F_laws_szParentS
  d_laws_szParent : D_laws_szParent T
def F_laws_toParentS : Fn := ⟨1, 23, [.tmp 2], (.seq (.reg false 0 [oN 2 (.mov (.c (.nils)))]) (.seq (.reg false 1 [oK 5 1 (oV 0), oK 6 1 (.len (.t 5)), oN 7 (.make [.int .i64 0, .bool false, .nils, .nils, .bool false, .nils, .nils, .bool false, .nils, .nils] 176 (.t 6)), oK 3 1 (oV 7)]) (.seq (.seq (.reg false 0 [oN 4 (.mov (cI 0))]) (.block 0 (.loop (.seq (.seq (.reg false 0 [oN 8 (oV 4), oN 9 (oV 0), oN 10 (.len (.t 9)), oN 11 (.bin .lss (.t 8) (.t 10))]) (.cond (.t 11) .skip (.exit 0))) (.seq (.block 1 (.reg false 0 [oN 14 (oV 3), oN 15 (oV 4), oN 16 (oV 0), oN 17 (oV 4), oN 18 (.idx 10 (.t 16) (.t 17)), oN 19 (.load 10 true (.t 18)), oN 20 (.call 64 [(.t 19)]), oN 21 (.idx 10 (.t 14) (.t 15)), oS (.store 10 (.t 21) (.t 20))])) (.reg false 0 [oN 12 (oV 4), oN 13 (.bin .add (.t 12) (cI 1)), oN 4 (oV 13)])))))) (.seq (.reg false 0 [oN 22 (oV 3), oN 2 (oV 22)]) .ret))))⟩
structure D_laws_toParentS (T : Nat → Option Fn) : Prop where
  hT : T 49 = some F_laws_toParentS
  d_laws_toParent : D_laws_toParent T
def F_laws_eqParentS : Fn := ⟨2, 27, [.tmp 4], (.seq (.reg false 0 [oN 4 (.mov (.c (.bool false)))]) (.seq (.seq (.reg false 0 [oN 6 (oV 0), oN 7 (.len (.t 6)), oN 8 (oV 1), oN 9 (.len (.t 8)), oN 10 (.bin .neq (.t 7) (.t 9))]) (.cond (.t 10) (.seq (.reg false 0 [oN 4 (.mov (.c (.bool false)))]) .ret) .skip)) (.seq (.seq (.reg false 0 [oN 5 (.mov (cI 0))]) (.block 0 (.loop (.seq (.seq (.reg false 0 [oN 11 (oV 5), oN 12 (oV 0), oN 13 (.len (.t 12)), oN 14 (.bin .lss (.t 11) (.t 13))]) (.cond (.t 14) .skip (.exit 0))) (.seq (.block 1 (.seq (.reg true 0 [oN 17 (oV 0), oN 18 (oV 5), oA 19 0 (.idx 10 (.t 17) (.t 18)) [0, 1], oA 20 0 (.load 10 true (.t 19)) [2], oN 21 (oV 1), oN 22 (oV 5), oA 23 0 (.idx 10 (.t 21) (.t 22)) [4, 5], oA 24 0 (.load 10 true (.t 23)) [6], oA 25 0 (.call 65 [(.t 20), (.t 24)]) [3, 7], oA 26 0 (.un .not (.t 25)) [8]]) (.cond (.t 26) (.seq (.reg false 0 [oN 4 (.mov (.c (.bool false)))]) .ret) .skip))) (.reg false 0 [oN 15 (oV 5), oN 16 (.bin .add (.t 15) (cI 1)), oN 5 (oV 16)])))))) (.seq (.reg false 0 [oN 4 (.mov (.c (.bool true)))]) .ret))))⟩
structure D_laws_eqParentS (T : Nat → Option Fn) : Prop where
  hT : T 50 = some F_laws_eqParentS
  d_laws_eqParent : D_laws_eqParent T
def F_laws_szConditional : Fn := ⟨2, 18, [.tmp 4], (.seq (.reg false 1 [oN 2 (.box (.t 0)), oK 4 1 (.mov (cI 0))]) (.seq (.reg false 0 [oN 5 (.fld 1 (.t 2)), oN 6 (.load 3 true (.t 5)), oN 7 (oV 1), oN 8 (.call 46 [(.t 6), (.t 7)]), oN 1 (oV 8)]) (.seq (.seq (.reg false 0 [oN 9 (oV 1), oN 10 (.bin .lss (.t 9) (cI 0))]) (.cond (.t 10) (.seq (.reg false 0 [oN 4 (.mov (cI (-1)))]) .ret) .skip)) (.seq (.reg false 0 [oN 11 (.fld 4 (.t 2)), oN 12 (.load 1 false (.t 11)), oN 13 (oV 1), oN 14 (.call 47 [(.t 12), (.t 13)]), oN 1 (oV 14)]) (.seq (.seq (.reg false 0 [oN 15 (oV 1), oN 16 (.bin .lss (.t 15) (cI 0))]) (.cond (.t 16) (.seq (.reg false 0 [oN 4 (.mov (cI (-1)))]) .ret) .skip)) (.seq (.reg false 0 [oN 17 (oV 1), oN 4 (oV 17)]) .ret))))))⟩
structure D_laws_szConditional (T : Nat → Option Fn) : Prop where
  hT : T 24 = some F_laws_szConditional
  d_laws_szRat : D_laws_szRat T
  d_laws_szParentS : D_laws_szParentS T
def F_laws_toConditional : Fn := ⟨1, 16, [.cell 2 5 true], (.seq (.reg false 2 [oN 1 (.box (.t 0)), oK 2 1 (.alloc [.int .i64 0, .bool false, .nils, .nils, .nils])]) (.seq (.reg false 1 [oN 3 (.alloc [.int .i64 0, .bool false, .nils, .nils, .nils])]) (.seq (.reg false 0 [oN 4 (.fld 0 (.t 1)), oN 5 (.load 1 false (.t 4)), oN 6 (.fld 0 (.t 3)), oS (.store 1 (.t 6) (.t 5))]) (.seq (.reg false 0 [oN 7 (.fld 1 (.t 1)), oN 8 (.load 3 true (.t 7)), oN 9 (.call 48 [(.t 8)]), oN 10 (.fld 1 (.t 3)), oS (.store 3 (.t 10) (.t 9))]) (.seq (.reg false 0 [oN 11 (.fld 4 (.t 1)), oN 12 (.load 1 false (.t 11)), oN 13 (.call 49 [(.t 12)]), oN 14 (.fld 4 (.t 3)), oS (.store 1 (.t 14) (.t 13))]) (.seq (.reg false 0 [oN 15 (.load 5 true (.t 3)), oS (.store 5 (.t 2) (.t 15))]) .ret))))))⟩
structure D_laws_toConditional (T : Nat → Option Fn) : Prop where
  hT : T 26 = some F_laws_toConditional
  d_laws_toRat : D_laws_toRat T
  d_laws_toParentS : D_laws_toParentS T
def F_laws_eqConditional : Fn := ⟨2, 22, [.tmp 4], (.seq (.reg false 2 [oN 2 (.box (.t 0)), oK 3 1 (.box (.t 1)), oK 4 2 (.mov (.c (.bool false)))]) (.seq (.seq (.reg false 0 [oN 5 (.fld 0 (.t 2)), oN 6 (.load 1 false (.t 5)), oN 7 (.fld 0 (.t 3)), oN 8 (.load 1 false (.t 7)), oN 9 (.bin .neq (.t 6) (.t 8))]) (.cond (.t 9) (.seq (.reg false 0 [oN 4 (.mov (.c (.bool false)))]) .ret) .skip)) (.seq (.seq (.reg false 0 [oN 10 (.fld 1 (.t 2)), oN 11 (.load 3 true (.t 10)), oN 12 (.fld 1 (.t 3)), oN 13 (.load 3 true (.t 12)), oN 14 (.call 40 [(.t 11), (.t 13)]), oN 15 (.un .not (.t 14))]) (.cond (.t 15) (.seq (.reg false 0 [oN 4 (.mov (.c (.bool false)))]) .ret) .skip)) (.seq (.seq (.reg false 0 [oN 16 (.fld 4 (.t 2)), oN 17 (.load 1 false (.t 16)), oN 18 (.fld 4 (.t 3)), oN 19 (.load 1 false (.t 18)), oN 20 (.call 50 [(.t 17), (.t 19)]), oN 21 (.un .not (.t 20))]) (.cond (.t 21) (.seq (.reg false 0 [oN 4 (.mov (.c (.bool false)))]) .ret) .skip)) (.seq (.reg false 0 [oN 4 (.mov (.c (.bool true)))]) .ret)))))⟩
structure D_laws_eqConditional (T : Nat → Option Fn) : Prop where
  hT : T 28 = some F_laws_eqConditional
  d_laws_eqRat : D_laws_eqRat T
  d_laws_eqParentS : D_laws_eqParentS T
def F_laws_eqConditionalS : Fn := ⟨2, 27, [.tmp 4], (.seq (.reg false 0 [oN 4 (.mov (.c (.bool false)))]) (.seq (.seq (.reg false 0 [oN 6 (oV 0), oN 7 (.len (.t 6)), oN 8 (oV 1), oN 9 (.len (.t 8)), oN 10 (.bin .neq (.t 7) (.t 9))]) (.cond (.t 10) (.seq (.reg false 0 [oN 4 (.mov (.c (.bool false)))]) .ret) .skip)) (.seq (.seq (.reg false 0 [oN 5 (.mov (cI 0))]) (.block 0 (.loop (.seq (.seq (.reg false 0 [oN 11 (oV 5), oN 12 (oV 0), oN 13 (.len (.t 12)), oN 14 (.bin .lss (.t 11) (.t 13))]) (.cond (.t 14) .skip (.exit 0))) (.seq (.block 1 (.seq (.reg true 0 [oN 17 (oV 0), oN 18 (oV 5), oA 19 0 (.idx 5 (.t 17) (.t 18)) [0, 1], oA 20 0 (.load 5 true (.t 19)) [2], oN 21 (oV 1), oN 22 (oV 5), oA 23 0 (.idx 5 (.t 21) (.t 22)) [4, 5], oA 24 0 (.load 5 true (.t 23)) [6], oA 25 0 (.call 28 [(.t 20), (.t 24)]) [3, 7], oA 26 0 (.un .not (.t 25)) [8]]) (.cond (.t 26) (.seq (.reg false 0 [oN 4 (.mov (.c (.bool false)))]) .ret) .skip))) (.reg false 0 [oN 15 (oV 5), oN 16 (.bin .add (.t 15) (cI 1)), oN 5 (oV 16)])))))) (.seq (.reg false 0 [oN 4 (.mov (.c (.bool true)))]) .ret))))⟩
structure D_laws_eqConditionalS (T : Nat → Option Fn) : Prop where
  hT : T 307 = some F_laws_eqConditionalS
  d_laws_eqConditional : D_laws_eqConditional T
end Go.Ml
end
section
set_option linter.unusedSimpArgs false
set_option linter.unusedVariables false
set_option maxRecDepth 100000
namespace Go.Ml
def F_laws_szTreeNode : Fn := ⟨2, 30, [.tmp 4], (.seq (.reg false 1 [oN 2 (.box (.t 0)), oK 4 1 (.mov (cI 0))]) (.seq (.reg false 0 [oN 5 (.fld 2 (.t 2)), oN 6 (.load 1 false (.t 5)), oN 7 (oV 1), oN 8 (.call 19 [(.t 6), (.t 7)]), oN 1 (oV 8)]) (.seq (.seq (.reg false 0 [oN 9 (oV 1), oN 10 (.bin .lss (.t 9) (cI 0))]) (.cond (.t 10) (.seq (.reg false 0 [oN 4 (.mov (cI (-1)))]) .ret) .skip)) (.seq (.reg false 0 [oN 11 (.fld 3 (.t 2)), oN 12 (.load 5 true (.t 11)), oN 13 (oV 1), oN 14 (.call 24 [(.t 12), (.t 13)]), oN 1 (oV 14)]) (.seq (.seq (.reg false 0 [oN 15 (oV 1), oN 16 (.bin .lss (.t 15) (cI 0))]) (.cond (.t 16) (.seq (.reg false 0 [oN 4 (.mov (cI (-1)))]) .ret) .skip)) (.seq (.reg false 0 [oN 17 (.fld 8 (.t 2)), oN 18 (.load 1 false (.t 17)), oN 19 (oV 1), oN 20 (.call 19 [(.t 18), (.t 19)]), oN 1 (oV 20)]) (.seq (.seq (.reg false 0 [oN 21 (oV 1), oN 22 (.bin .lss (.t 21) (cI 0))]) (.cond (.t 22) (.seq (.reg false 0 [oN 4 (.mov (cI (-1)))]) .ret) .skip)) (.seq (.reg false 0 [oN 23 (.fld 9 (.t 2)), oN 24 (.load 3 true (.t 23)), oN 25 (oV 1), oN 26 (.call 46 [(.t 24), (.t 25)]), oN 1 (oV 26)]) (.seq (.seq (.reg false 0 [oN 27 (oV 1), oN 28 (.bin .lss (.t 27) (cI 0))]) (.cond (.t 28) (.seq (.reg false 0 [oN 4 (.mov (cI (-1)))]) .ret) .skip)) (.seq (.reg false 0 [oN 29 (oV 1), oN 4 (oV 29)]) .ret))))))))))⟩
structure D_laws_szTreeNode (T : Nat → Option Fn) : Prop where
  hT : T 115 = some F_laws_szTreeNode
  d_laws_szLinkS : D_laws_szLinkS T
  d_laws_szConditional : D_laws_szConditional T
  d_laws_szRat : D_laws_szRat T
def F_laws_toTreeNode : Fn := ⟨1, 27, [.cell 2 12 true], (.seq (.reg false 2 [oN 1 (.box (.t 0)), oK 2 1 (.alloc [.int .i64 0, .int .i64 0, .nils, .int .i64 0, .bool false, .nils, .nils, .nils, .nils, .bool false, .nils, .nils])]) (.seq (.reg false 1 [oN 3 (.alloc [.int .i64 0, .int .i64 0, .nils, .int .i64 0, .bool false, .nils, .nils, .nils, .nils, .bool false, .nils, .nils])]) (.seq (.reg false 0 [oN 4 (.fld 0 (.t 1)), oN 5 (.load 1 false (.t 4)), oN 6 (.fld 0 (.t 3)), oS (.store 1 (.t 6) (.t 5))]) (.seq (.reg false 0 [oN 7 (.fld 1 (.t 1)), oN 8 (.load 1 false (.t 7)), oN 9 (.fld 1 (.t 3)), oS (.store 1 (.t 9) (.t 8))]) (.seq (.reg false 0 [oN 10 (.fld 2 (.t 1)), oN 11 (.load 1 false (.t 10)), oN 12 (.call 21 [(.t 11)]), oN 13 (.fld 2 (.t 3)), oS (.store 1 (.t 13) (.t 12))]) (.seq (.reg false 0 [oN 14 (.fld 3 (.t 1)), oN 15 (.load 5 true (.t 14)), oN 16 (.call 26 [(.t 15)]), oN 17 (.fld 3 (.t 3)), oS (.store 5 (.t 17) (.t 16))]) (.seq (.reg false 0 [oN 18 (.fld 8 (.t 1)), oN 19 (.load 1 false (.t 18)), oN 20 (.call 21 [(.t 19)]), oN 21 (.fld 8 (.t 3)), oS (.store 1 (.t 21) (.t 20))]) (.seq (.reg false 0 [oN 22 (.fld 9 (.t 1)), oN 23 (.load 3 true (.t 22)), oN 24 (.call 48 [(.t 23)]), oN 25 (.fld 9 (.t 3)), oS (.store 3 (.t 25) (.t 24))]) (.seq (.reg false 0 [oN 26 (.load 12 true (.t 3)), oS (.store 12 (.t 2) (.t 26))]) .ret)))))))))⟩
structure D_laws_toTreeNode (T : Nat → Option Fn) : Prop where
  hT : T 116 = some F_laws_toTreeNode
  d_laws_toLinkS : D_laws_toLinkS T
  d_laws_toConditional : D_laws_toConditional T
  d_laws_toRat : D_laws_toRat T
def F_laws_eqTreeNode : Fn := ⟨2, 39, [.tmp 4], (.seq (.reg false 2 [oN 2 (.box (.t 0)), oK 3 1 (.box (.t 1)), oK 4 2 (.mov (.c (.bool false)))]) (.seq (.seq (.reg false 0 [oN 5 (.fld 0 (.t 2)), oN 6 (.load 1 false (.t 5)), oN 7 (.fld 0 (.t 3)), oN 8 (.load 1 false (.t 7)), oN 9 (.bin .neq (.t 6) (.t 8))]) (.cond (.t 9) (.seq (.reg false 0 [oN 4 (.mov (.c (.bool false)))]) .ret) .skip)) (.seq (.seq (.reg false 0 [oN 10 (.fld 1 (.t 2)), oN 11 (.load 1 false (.t 10)), oN 12 (.fld 1 (.t 3)), oN 13 (.load 1 false (.t 12)), oN 14 (.bin .neq (.t 11) (.t 13))]) (.cond (.t 14) (.seq (.reg false 0 [oN 4 (.mov (.c (.bool false)))]) .ret) .skip)) (.seq (.seq (.reg false 0 [oN 15 (.fld 2 (.t 2)), oN 16 (.load 1 false (.t 15)), oN 17 (.fld 2 (.t 3)), oN 18 (.load 1 false (.t 17)), oN 19 (.call 23 [(.t 16), (.t 18)]), oN 20 (.un .not (.t 19))]) (.cond (.t 20) (.seq (.reg false 0 [oN 4 (.mov (.c (.bool false)))]) .ret) .skip)) (.seq (.seq (.reg false 0 [oN 21 (.fld 3 (.t 2)), oN 22 (.load 5 true (.t 21)), oN 23 (.fld 3 (.t 3)), oN 24 (.load 5 true (.t 23)), oN 25 (.call 28 [(.t 22), (.t 24)]), oN 26 (.un .not (.t 25))]) (.cond (.t 26) (.seq (.reg false 0 [oN 4 (.mov (.c (.bool false)))]) .ret) .skip)) (.seq (.seq (.reg false 0 [oN 27 (.fld 8 (.t 2)), oN 28 (.load 1 false (.t 27)), oN 29 (.fld 8 (.t 3)), oN 30 (.load 1 false (.t 29)), oN 31 (.call 23 [(.t 28), (.t 30)]), oN 32 (.un .not (.t 31))]) (.cond (.t 32) (.seq (.reg false 0 [oN 4 (.mov (.c (.bool false)))]) .ret) .skip)) (.seq (.seq (.reg false 0 [oN 33 (.fld 9 (.t 2)), oN 34 (.load 3 true (.t 33)), oN 35 (.fld 9 (.t 3)), oN 36 (.load 3 true (.t 35)), oN 37 (.call 40 [(.t 34), (.t 36)]), oN 38 (.un .not (.t 37))]) (.cond (.t 38) (.seq (.reg false 0 [oN 4 (.mov (.c (.bool false)))]) .ret) .skip)) (.seq (.reg false 0 [oN 4 (.mov (.c (.bool true)))]) .ret))))))))⟩
structure D_laws_eqTreeNode (T : Nat → Option Fn) : Prop where
  hT : T 117 = some F_laws_eqTreeNode
  d_laws_eqLinkS : D_laws_eqLinkS T
  d_laws_eqConditional : D_laws_eqConditional T
  d_laws_eqRat : D_laws_eqRat T
def F_laws_szTreeNodeS : Fn := ⟨2, 27, [.tmp 4], (.seq (.reg false 0 [oN 4 (.mov (cI 0))]) (.seq (.reg false 0 [oN 6 (oV 1), oN 7 (oV 0), oN 8 (.len (.t 7)), oN 9 (.bin .sub (.t 6) (.t 8)), oN 1 (oV 9)]) (.seq (.seq (.reg false 0 [oN 10 (oV 1), oN 11 (.bin .lss (.t 10) (cI 0))]) (.cond (.t 11) (.seq (.reg false 0 [oN 4 (.mov (cI (-1)))]) .ret) .skip)) (.seq (.seq (.reg false 0 [oN 5 (.mov (cI 0))]) (.block 0 (.loop (.seq (.seq (.reg false 0 [oN 12 (oV 5), oN 13 (oV 0), oN 14 (.len (.t 13)), oN 15 (.bin .lss (.t 12) (.t 14))]) (.cond (.t 15) .skip (.exit 0))) (.seq (.block 1 (.seq (.reg false 0 [oN 18 (oV 0), oN 19 (oV 5), oN 20 (.idx 12 (.t 18) (.t 19)), oN 21 (.load 12 true (.t 20)), oN 22 (oV 1), oN 23 (.call 115 [(.t 21), (.t 22)]), oN 1 (oV 23)]) (.seq (.reg false 0 [oN 24 (oV 1), oN 25 (.bin .lss (.t 24) (cI 0))]) (.cond (.t 25) (.seq (.reg false 0 [oN 4 (.mov (cI (-1)))]) .ret) .skip)))) (.reg false 0 [oN 16 (oV 5), oN 17 (.bin .add (.t 16) (cI 1)), oN 5 (oV 17)])))))) (.seq (.reg false 0 [oN 26 (oV 1), oN 4 (oV 26)]) .ret)))))⟩
structure D_laws_szTreeNodeS (T : Nat → Option Fn) : Prop where
  hT : T 95 = some F_laws_szTreeNodeS
  d_laws_szTreeNode : D_laws_szTreeNode T
def F_laws_toTreeNodeS : Fn := ⟨1, 23, [.tmp 2], (.seq (.reg false 0 [oN 2 (.mov (.c (.nils)))]) (.seq (.reg false 1 [oK 5 1 (oV 0), oK 6 1 (.len (.t 5)), oN 7 (.make [.int .i64 0, .int .i64 0, .nils, .int .i64 0, .bool false, .nils, .nils, .nils, .nils, .bool false, .nils, .nils] 208 (.t 6)), oK 3 1 (oV 7)]) (.seq (.seq (.reg false 0 [oN 4 (.mov (cI 0))]) (.block 0 (.loop (.seq (.seq (.reg false 0 [oN 8 (oV 4), oN 9 (oV 0), oN 10 (.len (.t 9)), oN 11 (.bin .lss (.t 8) (.t 10))]) (.cond (.t 11) .skip (.exit 0))) (.seq (.block 1 (.reg false 0 [oN 14 (oV 3), oN 15 (oV 4), oN 16 (oV 0), oN 17 (oV 4), oN 18 (.idx 12 (.t 16) (.t 17)), oN 19 (.load 12 true (.t 18)), oN 20 (.call 116 [(.t 19)]), oN 21 (.idx 12 (.t 14) (.t 15)), oS (.store 12 (.t 21) (.t 20))])) (.reg false 0 [oN 12 (oV 4), oN 13 (.bin .add (.t 12) (cI 1)), oN 4 (oV 13)])))))) (.seq (.reg false 0 [oN 22 (oV 3), oN 2 (oV 22)]) .ret))))⟩
structure D_laws_toTreeNodeS (T : Nat → Option Fn) : Prop where
  hT : T 96 = some F_laws_toTreeNodeS
  d_laws_toTreeNode : D_laws_toTreeNode T
def F_laws_eqTreeNodeS : Fn := ⟨2, 27, [.tmp 4], (.seq (.reg false 0 [oN 4 (.mov (.c (.bool false)))]) (.seq (.seq (.reg false 0 [oN 6 (oV 0), oN 7 (.len (.t 6)), oN 8 (oV 1), oN 9 (.len (.t 8)), oN 10 (.bin .neq (.t 7) (.t 9))]) (.cond (.t 10) (.seq (.reg false 0 [oN 4 (.mov (.c (.bool false)))]) .ret) .skip)) (.seq (.seq (.reg false 0 [oN 5 (.mov (cI 0))]) (.block 0 (.loop (.seq (.seq (.reg false 0 [oN 11 (oV 5), oN 12 (oV 0), oN 13 (.len (.t 12)), oN 14 (.bin .lss (.t 11) (.t 13))]) (.cond (.t 14) .skip (.exit 0))) (.seq (.block 1 (.seq (.reg true 0 [oN 17 (oV 0), oN 18 (oV 5), oA 19 0 (.idx 12 (.t 17) (.t 18)) [0, 1], oA 20 0 (.load 12 true (.t 19)) [2], oN 21 (oV 1), oN 22 (oV 5), oA 23 0 (.idx 12 (.t 21) (.t 22)) [4, 5], oA 24 0 (.load 12 true (.t 23)) [6], oA 25 0 (.call 117 [(.t 20), (.t 24)]) [3, 7], oA 26 0 (.un .not (.t 25)) [8]]) (.cond (.t 26) (.seq (.reg false 0 [oN 4 (.mov (.c (.bool false)))]) .ret) .skip))) (.reg false 0 [oN 15 (oV 5), oN 16 (.bin .add (.t 15) (cI 1)), oN 5 (oV 16)])))))) (.seq (.reg false 0 [oN 4 (.mov (.c (.bool true)))]) .ret))))⟩
structure D_laws_eqTreeNodeS (T : Nat → Option Fn) : Prop where
  hT : T 97 = some F_laws_eqTreeNodeS
  d_laws_eqTreeNode : D_laws_eqTreeNode T
end Go.Ml
end
section
set_option linter.unusedSimpArgs false
set_option linter.unusedVariables false
set_option maxRecDepth 100000
namespace Go.Ml
def F_laws_szTree : Fn := ⟨2, 12, [.tmp 4], (.seq (.reg false 1 [oN 2 (.box (.t 0)), oK 4 1 (.mov (cI 0))]) (.seq (.reg false 0 [oN 5 (.fld 0 (.t 2)), oN 6 (.load 1 false (.t 5)), oN 7 (oV 1), oN 8 (.call 95 [(.t 6), (.t 7)]), oN 1 (oV 8)]) (.seq (.seq (.reg false 0 [oN 9 (oV 1), oN 10 (.bin .lss (.t 9) (cI 0))]) (.cond (.t 10) (.seq (.reg false 0 [oN 4 (.mov (cI (-1)))]) .ret) .skip)) (.seq (.reg false 0 [oN 11 (oV 1), oN 4 (oV 11)]) .ret))))⟩
structure D_laws_szTree (T : Nat → Option Fn) : Prop where
  hT : T 77 = some F_laws_szTree
  d_laws_szTreeNodeS : D_laws_szTreeNodeS T
def F_laws_toTree : Fn := ⟨1, 9, [.cell 2 1 true], (.seq (.reg false 2 [oN 1 (.box (.t 0)), oK 2 1 (.alloc [.nils])]) (.seq (.reg false 1 [oN 3 (.alloc [.nils])]) (.seq (.reg false 0 [oN 4 (.fld 0 (.t 1)), oN 5 (.load 1 false (.t 4)), oN 6 (.call 96 [(.t 5)]), oN 7 (.fld 0 (.t 3)), oS (.store 1 (.t 7) (.t 6))]) (.seq (.reg false 0 [oN 8 (.load 1 true (.t 3)), oS (.store 1 (.t 2) (.t 8))]) .ret))))⟩
structure D_laws_toTree (T : Nat → Option Fn) : Prop where
  hT : T 79 = some F_laws_toTree
  d_laws_toTreeNodeS : D_laws_toTreeNodeS T
def F_laws_eqTree : Fn := ⟨2, 11, [.tmp 4], (.seq (.reg false 2 [oN 2 (.box (.t 0)), oK 3 1 (.box (.t 1)), oK 4 2 (.mov (.c (.bool false)))]) (.seq (.seq (.reg false 0 [oN 5 (.fld 0 (.t 2)), oN 6 (.load 1 false (.t 5)), oN 7 (.fld 0 (.t 3)), oN 8 (.load 1 false (.t 7)), oN 9 (.call 97 [(.t 6), (.t 8)]), oN 10 (.un .not (.t 9))]) (.cond (.t 10) (.seq (.reg false 0 [oN 4 (.mov (.c (.bool false)))]) .ret) .skip)) (.seq (.reg false 0 [oN 4 (.mov (.c (.bool true)))]) .ret)))⟩
structure D_laws_eqTree (T : Nat → Option Fn) : Prop where
  hT : T 81 = some F_laws_eqTree
  d_laws_eqTreeNodeS : D_laws_eqTreeNodeS T
end Go.Ml
end
section
set_option linter.unusedSimpArgs false
set_option linter.unusedVariables false
set_option maxRecDepth 100000
namespace Go.Ml
def F_laws_szRatS : Fn := ⟨2, 27, [.tmp 4], (.seq (.reg false 0 [oN 4 (.mov (cI 0))]) (.seq (.reg false 0 [oN 6 (oV 1), oN 7 (oV 0), oN 8 (.len (.t 7)), oN 9 (.bin .sub (.t 6) (.t 8)), oN 1 (oV 9)]) (.seq (.seq (.reg false 0 [oN 10 (oV 1), oN 11 (.bin .lss (.t 10) (cI 0))]) (.cond (.t 11) (.seq (.reg false 0 [oN 4 (.mov (cI (-1)))]) .ret) .skip)) (.seq (.seq (.reg false 0 [oN 5 (.mov (cI 0))]) (.block 0 (.loop (.seq (.seq (.reg false 0 [oN 12 (oV 5), oN 13 (oV 0), oN 14 (.len (.t 13)), oN 15 (.bin .lss (.t 12) (.t 14))]) (.cond (.t 15) .skip (.exit 0))) (.seq (.block 1 (.seq (.reg false 0 [oN 18 (oV 0), oN 19 (oV 5), oN 20 (.idx 3 (.t 18) (.t 19)), oN 21 (.load 3 true (.t 20)), oN 22 (oV 1), oN 23 (.call 46 [(.t 21), (.t 22)]), oN 1 (oV 23)]) (.seq (.reg false 0 [oN 24 (oV 1), oN 25 (.bin .lss (.t 24) (cI 0))]) (.cond (.t 25) (.seq (.reg false 0 [oN 4 (.mov (cI (-1)))]) .ret) .skip)))) (.reg false 0 [oN 16 (oV 5), oN 17 (.bin .add (.t 16) (cI 1)), oN 5 (oV 17)])))))) (.seq (.reg false 0 [oN 26 (oV 1), oN 4 (oV 26)]) .ret)))))⟩
structure D_laws_szRatS (T : Nat → Option Fn) : Prop where
  hT : T 112 = some F_laws_szRatS
  d_laws_szRat : D_laws_szRat T
def F_laws_toRatS : Fn := ⟨1, 23, [.tmp 2], (.seq (.reg false 0 [oN 2 (.mov (.c (.nils)))]) (.seq (.reg false 1 [oK 5 1 (oV 0), oK 6 1 (.len (.t 5)), oN 7 (.make [.bool false, .nils, .nils] 56 (.t 6)), oK 3 1 (oV 7)]) (.seq (.seq (.reg false 0 [oN 4 (.mov (cI 0))]) (.block 0 (.loop (.seq (.seq (.reg false 0 [oN 8 (oV 4), oN 9 (oV 0), oN 10 (.len (.t 9)), oN 11 (.bin .lss (.t 8) (.t 10))]) (.cond (.t 11) .skip (.exit 0))) (.seq (.block 1 (.reg false 0 [oN 14 (oV 3), oN 15 (oV 4), oN 16 (oV 0), oN 17 (oV 4), oN 18 (.idx 3 (.t 16) (.t 17)), oN 19 (.load 3 true (.t 18)), oN 20 (.call 48 [(.t 19)]), oN 21 (.idx 3 (.t 14) (.t 15)), oS (.store 3 (.t 21) (.t 20))])) (.reg false 0 [oN 12 (oV 4), oN 13 (.bin .add (.t 12) (cI 1)), oN 4 (oV 13)])))))) (.seq (.reg false 0 [oN 22 (oV 3), oN 2 (oV 22)]) .ret))))⟩
structure D_laws_toRatS (T : Nat → Option Fn) : Prop where
  hT : T 113 = some F_laws_toRatS
  d_laws_toRat : D_laws_toRat T
def F_laws_eqRatS : Fn := ⟨2, 27, [.tmp 4], (.seq (.reg false 0 [oN 4 (.mov (.c (.bool false)))]) (.seq (.seq (.reg false 0 [oN 6 (oV 0), oN 7 (.len (.t 6)), oN 8 (oV 1), oN 9 (.len (.t 8)), oN 10 (.bin .neq (.t 7) (.t 9))]) (.cond (.t 10) (.seq (.reg false 0 [oN 4 (.mov (.c (.bool false)))]) .ret) .skip)) (.seq (.seq (.reg false 0 [oN 5 (.mov (cI 0))]) (.block 0 (.loop (.seq (.seq (.reg false 0 [oN 11 (oV 5), oN 12 (oV 0), oN 13 (.len (.t 12)), oN 14 (.bin .lss (.t 11) (.t 13))]) (.cond (.t 14) .skip (.exit 0))) (.seq (.block 1 (.seq (.reg true 0 [oN 17 (oV 0), oN 18 (oV 5), oA 19 0 (.idx 3 (.t 17) (.t 18)) [0, 1], oA 20 0 (.load 3 true (.t 19)) [2], oN 21 (oV 1), oN 22 (oV 5), oA 23 0 (.idx 3 (.t 21) (.t 22)) [4, 5], oA 24 0 (.load 3 true (.t 23)) [6], oA 25 0 (.call 40 [(.t 20), (.t 24)]) [3, 7], oA 26 0 (.un .not (.t 25)) [8]]) (.cond (.t 26) (.seq (.reg false 0 [oN 4 (.mov (.c (.bool false)))]) .ret) .skip))) (.reg false 0 [oN 15 (oV 5), oN 16 (.bin .add (.t 15) (cI 1)), oN 5 (oV 16)])))))) (.seq (.reg false 0 [oN 4 (.mov (.c (.bool true)))]) .ret))))⟩
structure D_laws_eqRatS (T : Nat → Option Fn) : Prop where
  hT : T 114 = some F_laws_eqRatS
  d_laws_eqRat : D_laws_eqRat T
def F_laws_szRatSS : Fn := ⟨2, 27, [.tmp 4], (.seq (.reg false 0 [oN 4 (.mov (cI 0))]) (.seq (.reg false 0 [oN 6 (oV 1), oN 7 (oV 0), oN 8 (.len (.t 7)), oN 9 (.bin .sub (.t 6) (.t 8)), oN 1 (oV 9)]) (.seq (.seq (.reg false 0 [oN 10 (oV 1), oN 11 (.bin .lss (.t 10) (cI 0))]) (.cond (.t 11) (.seq (.reg false 0 [oN 4 (.mov (cI (-1)))]) .ret) .skip)) (.seq (.seq (.reg false 0 [oN 5 (.mov (cI 0))]) (.block 0 (.loop (.seq (.seq (.reg false 0 [oN 12 (oV 5), oN 13 (oV 0), oN 14 (.len (.t 13)), oN 15 (.bin .lss (.t 12) (.t 14))]) (.cond (.t 15) .skip (.exit 0))) (.seq (.block 1 (.seq (.reg false 0 [oN 18 (oV 0), oN 19 (oV 5), oN 20 (.idx 1 (.t 18) (.t 19)), oN 21 (.load 1 false (.t 20)), oN 22 (oV 1), oN 23 (.call 112 [(.t 21), (.t 22)]), oN 1 (oV 23)]) (.seq (.reg false 0 [oN 24 (oV 1), oN 25 (.bin .lss (.t 24) (cI 0))]) (.cond (.t 25) (.seq (.reg false 0 [oN 4 (.mov (cI (-1)))]) .ret) .skip)))) (.reg false 0 [oN 16 (oV 5), oN 17 (.bin .add (.t 16) (cI 1)), oN 5 (oV 17)])))))) (.seq (.reg false 0 [oN 26 (oV 1), oN 4 (oV 26)]) .ret)))))⟩
structure D_laws_szRatSS (T : Nat → Option Fn) : Prop where
  hT : T 90 = some F_laws_szRatSS
  d_laws_szRatS : D_laws_szRatS T
def F_laws_toRatSS : Fn := ⟨1, 23, [.tmp 2], (.seq (.reg false 0 [oN 2 (.mov (.c (.nils)))]) (.seq (.reg false 1 [oK 5 1 (oV 0), oK 6 1 (.len (.t 5)), oN 7 (.make [.nils] 24 (.t 6)), oK 3 1 (oV 7)]) (.seq (.seq (.reg false 0 [oN 4 (.mov (cI 0))]) (.block 0 (.loop (.seq (.seq (.reg false 0 [oN 8 (oV 4), oN 9 (oV 0), oN 10 (.len (.t 9)), oN 11 (.bin .lss (.t 8) (.t 10))]) (.cond (.t 11) .skip (.exit 0))) (.seq (.block 1 (.reg false 0 [oN 14 (oV 3), oN 15 (oV 4), oN 16 (oV 0), oN 17 (oV 4), oN 18 (.idx 1 (.t 16) (.t 17)), oN 19 (.load 1 false (.t 18)), oN 20 (.call 113 [(.t 19)]), oN 21 (.idx 1 (.t 14) (.t 15)), oS (.store 1 (.t 21) (.t 20))])) (.reg false 0 [oN 12 (oV 4), oN 13 (.bin .add (.t 12) (cI 1)), oN 4 (oV 13)])))))) (.seq (.reg false 0 [oN 22 (oV 3), oN 2 (oV 22)]) .ret))))⟩
structure D_laws_toRatSS (T : Nat → Option Fn) : Prop where
  hT : T 92 = some F_laws_toRatSS
  d_laws_toRatS : D_laws_toRatS T
def F_laws_eqRatSS : Fn := ⟨2, 27, [.tmp 4], (.seq (.reg false 0 [oN 4 (.mov (.c (.bool false)))]) (.seq (.seq (.reg false 0 [oN 6 (oV 0), oN 7 (.len (.t 6)), oN 8 (oV 1), oN 9 (.len (.t 8)), oN 10 (.bin .neq (.t 7) (.t 9))]) (.cond (.t 10) (.seq (.reg false 0 [oN 4 (.mov (.c (.bool false)))]) .ret) .skip)) (.seq (.seq (.reg false 0 [oN 5 (.mov (cI 0))]) (.block 0 (.loop (.seq (.seq (.reg false 0 [oN 11 (oV 5), oN 12 (oV 0), oN 13 (.len (.t 12)), oN 14 (.bin .lss (.t 11) (.t 13))]) (.cond (.t 14) .skip (.exit 0))) (.seq (.block 1 (.seq (.reg true 0 [oN 17 (oV 0), oN 18 (oV 5), oA 19 0 (.idx 1 (.t 17) (.t 18)) [0, 1], oA 20 0 (.load 1 false (.t 19)) [2], oN 21 (oV 1), oN 22 (oV 5), oA 23 0 (.idx 1 (.t 21) (.t 22)) [4, 5], oA 24 0 (.load 1 false (.t 23)) [6], oA 25 0 (.call 114 [(.t 20), (.t 24)]) [3, 7], oA 26 0 (.un .not (.t 25)) [8]]) (.cond (.t 26) (.seq (.reg false 0 [oN 4 (.mov (.c (.bool false)))]) .ret) .skip))) (.reg false 0 [oN 15 (oV 5), oN 16 (.bin .add (.t 15) (cI 1)), oN 5 (oV 16)])))))) (.seq (.reg false 0 [oN 4 (.mov (.c (.bool true)))]) .ret))))⟩
structure D_laws_eqRatSS (T : Nat → Option Fn) : Prop where
  hT : T 94 = some F_laws_eqRatSS
  d_laws_eqRatS : D_laws_eqRatS T
end Go.Ml
end
section
set_option linter.unusedSimpArgs false
set_option linter.unusedVariables false
set_option maxRecDepth 100000
set_option maxHeartbeats 4000000
namespace Go.Ml
def F_laws_markRatS : Fn := ⟨2, 38, [.tmp 4], (.seq (.reg false 0 [oN 4 (.mov (cI 0))]) (.seq (.seq (.reg false 0 [oN 5 (.mov (cI 0))]) (.block 0 (.loop (.seq (.seq (.reg false 0 [oN 6 (oV 5), oN 7 (oV 0), oN 8 (.len (.t 7)), oN 9 (.bin .lss (.t 6) (.t 8))]) (.cond (.t 9) .skip (.exit 0))) (.seq (.block 1 (.seq (.reg false 0 [oN 12 (oV 0), oN 13 (oV 5), oN 14 (oV 1), oN 15 (.bin .rem (.t 14) (cI 3)), oN 16 (.bin .eql (.t 15) (cI 0)), oN 17 (.idx 3 (.t 12) (.t 13)), oN 18 (.fld 0 (.t 17)), oN 19 (.fld 0 (.t 18)), oS (.store 1 (.t 19) (.t 16))]) (.seq (.reg false 0 [oN 20 (oV 1), oN 21 (.bin .add (.t 20) (cI 1)), oN 1 (oV 21)]) (.seq (.reg false 0 [oN 22 (oV 0), oN 23 (oV 5), oN 24 (.idx 3 (.t 22) (.t 23)), oN 25 (.fld 0 (.t 24)), oN 26 (.fld 1 (.t 25)), oN 27 (.load 1 false (.t 26)), oN 28 (oV 1), oN 29 (.call 57 [(.t 27), (.t 28)]), oN 1 (oV 29)]) (.reg false 0 [oN 30 (oV 0), oN 31 (oV 5), oN 32 (.idx 3 (.t 30) (.t 31)), oN 33 (.fld 2 (.t 32)), oN 34 (.load 1 false (.t 33)), oN 35 (oV 1), oN 36 (.call 57 [(.t 34), (.t 35)]), oN 1 (oV 36)]))))) (.reg false 0 [oN 10 (oV 5), oN 11 (.bin .add (.t 10) (cI 1)), oN 5 (oV 11)])))))) (.seq (.reg false 0 [oN 37 (oV 1), oN 4 (oV 37)]) .ret)))⟩
structure D_laws_markRatS (T : Nat → Option Fn) : Prop where
  hT : T 312 = some F_laws_markRatS
  d_laws_markIntS : D_laws_markIntS T
def F_laws_markPointS : Fn := ⟨2, 69, [.tmp 4], (.seq (.reg false 0 [oN 4 (.mov (cI 0))]) (.seq (.seq (.reg false 0 [oN 5 (.mov (cI 0))]) (.block 0 (.loop (.seq (.seq (.reg false 0 [oN 6 (oV 5), oN 7 (oV 0), oN 8 (.len (.t 7)), oN 9 (.bin .lss (.t 6) (.t 8))]) (.cond (.t 9) .skip (.exit 0))) (.seq (.block 1 (.seq (.reg false 0 [oN 12 (oV 0), oN 13 (oV 5), oN 14 (oV 1), oN 15 (.bin .rem (.t 14) (cI 3)), oN 16 (.bin .eql (.t 15) (cI 0)), oN 17 (.idx 6 (.t 12) (.t 13)), oN 18 (.fld 0 (.t 17)), oN 19 (.fld 0 (.t 18)), oN 20 (.fld 0 (.t 19)), oS (.store 1 (.t 20) (.t 16))]) (.seq (.reg false 0 [oN 21 (oV 1), oN 22 (.bin .add (.t 21) (cI 1)), oN 1 (oV 22)]) (.seq (.reg false 0 [oN 23 (oV 0), oN 24 (oV 5), oN 25 (.idx 6 (.t 23) (.t 24)), oN 26 (.fld 0 (.t 25)), oN 27 (.fld 0 (.t 26)), oN 28 (.fld 1 (.t 27)), oN 29 (.load 1 false (.t 28)), oN 30 (oV 1), oN 31 (.call 57 [(.t 29), (.t 30)]), oN 1 (oV 31)]) (.seq (.reg false 0 [oN 32 (oV 0), oN 33 (oV 5), oN 34 (.idx 6 (.t 32) (.t 33)), oN 35 (.fld 0 (.t 34)), oN 36 (.fld 2 (.t 35)), oN 37 (.load 1 false (.t 36)), oN 38 (oV 1), oN 39 (.call 57 [(.t 37), (.t 38)]), oN 1 (oV 39)]) (.seq (.reg false 0 [oN 40 (oV 0), oN 41 (oV 5), oN 42 (oV 1), oN 43 (.bin .rem (.t 42) (cI 3)), oN 44 (.bin .eql (.t 43) (cI 0)), oN 45 (.idx 6 (.t 40) (.t 41)), oN 46 (.fld 3 (.t 45)), oN 47 (.fld 0 (.t 46)), oN 48 (.fld 0 (.t 47)), oS (.store 1 (.t 48) (.t 44))]) (.seq (.reg false 0 [oN 49 (oV 1), oN 50 (.bin .add (.t 49) (cI 1)), oN 1 (oV 50)]) (.seq (.reg false 0 [oN 51 (oV 0), oN 52 (oV 5), oN 53 (.idx 6 (.t 51) (.t 52)), oN 54 (.fld 3 (.t 53)), oN 55 (.fld 0 (.t 54)), oN 56 (.fld 1 (.t 55)), oN 57 (.load 1 false (.t 56)), oN 58 (oV 1), oN 59 (.call 57 [(.t 57), (.t 58)]), oN 1 (oV 59)]) (.reg false 0 [oN 60 (oV 0), oN 61 (oV 5), oN 62 (.idx 6 (.t 60) (.t 61)), oN 63 (.fld 3 (.t 62)), oN 64 (.fld 2 (.t 63)), oN 65 (.load 1 false (.t 64)), oN 66 (oV 1), oN 67 (.call 57 [(.t 65), (.t 66)]), oN 1 (oV 67)]))))))))) (.reg false 0 [oN 10 (oV 5), oN 11 (.bin .add (.t 10) (cI 1)), oN 5 (oV 11)])))))) (.seq (.reg false 0 [oN 68 (oV 1), oN 4 (oV 68)]) .ret)))⟩
structure D_laws_markPointS (T : Nat → Option Fn) : Prop where
  hT : T 334 = some F_laws_markPointS
  d_laws_markIntS : D_laws_markIntS T
def F_laws_markLinkS : Fn := ⟨2, 111, [.tmp 4], (.seq (.reg false 0 [oN 4 (.mov (cI 0))]) (.seq (.seq (.reg false 0 [oN 5 (.mov (cI 0))]) (.block 0 (.loop (.seq (.seq (.reg false 0 [oN 6 (oV 5), oN 7 (oV 0), oN 8 (.len (.t 7)), oN 9 (.bin .lss (.t 6) (.t 8))]) (.cond (.t 9) .skip (.exit 0))) (.seq (.block 1 (.seq (.reg false 0 [oN 12 (oV 0), oN 13 (oV 5), oN 14 (oV 1), oN 15 (.idx 11 (.t 12) (.t 13)), oN 16 (.fld 0 (.t 15)), oS (.store 1 (.t 16) (.t 14))]) (.seq (.reg false 0 [oN 17 (oV 1), oN 18 (.bin .add (.t 17) (cI 1)), oN 1 (oV 18)]) (.seq (.reg false 0 [oN 19 (oV 0), oN 20 (oV 5), oN 21 (oV 1), oN 22 (.idx 11 (.t 19) (.t 20)), oN 23 (.fld 1 (.t 22)), oS (.store 1 (.t 23) (.t 21))]) (.seq (.reg false 0 [oN 24 (oV 1), oN 25 (.bin .add (.t 24) (cI 1)), oN 1 (oV 25)]) (.seq (.reg false 0 [oN 26 (oV 0), oN 27 (oV 5), oN 28 (oV 1), oN 29 (.bin .rem (.t 28) (cI 3)), oN 30 (.bin .eql (.t 29) (cI 0)), oN 31 (.idx 11 (.t 26) (.t 27)), oN 32 (.fld 2 (.t 31)), oN 33 (.fld 0 (.t 32)), oN 34 (.fld 0 (.t 33)), oS (.store 1 (.t 34) (.t 30))]) (.seq (.reg false 0 [oN 35 (oV 1), oN 36 (.bin .add (.t 35) (cI 1)), oN 1 (oV 36)]) (.seq (.reg false 0 [oN 37 (oV 0), oN 38 (oV 5), oN 39 (.idx 11 (.t 37) (.t 38)), oN 40 (.fld 2 (.t 39)), oN 41 (.fld 0 (.t 40)), oN 42 (.fld 1 (.t 41)), oN 43 (.load 1 false (.t 42)), oN 44 (oV 1), oN 45 (.call 57 [(.t 43), (.t 44)]), oN 1 (oV 45)]) (.seq (.reg false 0 [oN 46 (oV 0), oN 47 (oV 5), oN 48 (.idx 11 (.t 46) (.t 47)), oN 49 (.fld 2 (.t 48)), oN 50 (.fld 2 (.t 49)), oN 51 (.load 1 false (.t 50)), oN 52 (oV 1), oN 53 (.call 57 [(.t 51), (.t 52)]), oN 1 (oV 53)]) (.seq (.reg false 0 [oN 54 (oV 0), oN 55 (oV 5), oN 56 (oV 1), oN 57 (.bin .rem (.t 56) (cI 3)), oN 58 (.bin .eql (.t 57) (cI 0)), oN 59 (.idx 11 (.t 54) (.t 55)), oN 60 (.fld 5 (.t 59)), oN 61 (.fld 0 (.t 60)), oN 62 (.fld 0 (.t 61)), oS (.store 1 (.t 62) (.t 58))]) (.seq (.reg false 0 [oN 63 (oV 1), oN 64 (.bin .add (.t 63) (cI 1)), oN 1 (oV 64)]) (.seq (.reg false 0 [oN 65 (oV 0), oN 66 (oV 5), oN 67 (.idx 11 (.t 65) (.t 66)), oN 68 (.fld 5 (.t 67)), oN 69 (.fld 0 (.t 68)), oN 70 (.fld 1 (.t 69)), oN 71 (.load 1 false (.t 70)), oN 72 (oV 1), oN 73 (.call 57 [(.t 71), (.t 72)]), oN 1 (oV 73)]) (.seq (.reg false 0 [oN 74 (oV 0), oN 75 (oV 5), oN 76 (.idx 11 (.t 74) (.t 75)), oN 77 (.fld 5 (.t 76)), oN 78 (.fld 2 (.t 77)), oN 79 (.load 1 false (.t 78)), oN 80 (oV 1), oN 81 (.call 57 [(.t 79), (.t 80)]), oN 1 (oV 81)]) (.seq (.reg false 0 [oN 82 (oV 0), oN 83 (oV 5), oN 84 (oV 1), oN 85 (.bin .rem (.t 84) (cI 3)), oN 86 (.bin .eql (.t 85) (cI 0)), oN 87 (.idx 11 (.t 82) (.t 83)), oN 88 (.fld 8 (.t 87)), oN 89 (.fld 0 (.t 88)), oN 90 (.fld 0 (.t 89)), oS (.store 1 (.t 90) (.t 86))]) (.seq (.reg false 0 [oN 91 (oV 1), oN 92 (.bin .add (.t 91) (cI 1)), oN 1 (oV 92)]) (.seq (.reg false 0 [oN 93 (oV 0), oN 94 (oV 5), oN 95 (.idx 11 (.t 93) (.t 94)), oN 96 (.fld 8 (.t 95)), oN 97 (.fld 0 (.t 96)), oN 98 (.fld 1 (.t 97)), oN 99 (.load 1 false (.t 98)), oN 100 (oV 1), oN 101 (.call 57 [(.t 99), (.t 100)]), oN 1 (oV 101)]) (.reg false 0 [oN 102 (oV 0), oN 103 (oV 5), oN 104 (.idx 11 (.t 102) (.t 103)), oN 105 (.fld 8 (.t 104)), oN 106 (.fld 2 (.t 105)), oN 107 (.load 1 false (.t 106)), oN 108 (oV 1), oN 109 (.call 57 [(.t 107), (.t 108)]), oN 1 (oV 109)]))))))))))))))))) (.reg false 0 [oN 10 (oV 5), oN 11 (.bin .add (.t 10) (cI 1)), oN 5 (oV 11)])))))) (.seq (.reg false 0 [oN 110 (oV 1), oN 4 (oV 110)]) .ret)))⟩
structure D_laws_markLinkS (T : Nat → Option Fn) : Prop where
  hT : T 118 = some F_laws_markLinkS
  d_laws_markIntS : D_laws_markIntS T
def F_laws_markParentS : Fn := ⟨2, 104, [.tmp 4], (.seq (.reg false 0 [oN 4 (.mov (cI 0))]) (.seq (.seq (.reg false 0 [oN 5 (.mov (cI 0))]) (.block 0 (.loop (.seq (.seq (.reg false 0 [oN 6 (oV 5), oN 7 (oV 0), oN 8 (.len (.t 7)), oN 9 (.bin .lss (.t 6) (.t 8))]) (.cond (.t 9) .skip (.exit 0))) (.seq (.block 1 (.seq (.reg false 0 [oN 12 (oV 0), oN 13 (oV 5), oN 14 (oV 1), oN 15 (.idx 10 (.t 12) (.t 13)), oN 16 (.fld 0 (.t 15)), oS (.store 1 (.t 16) (.t 14))]) (.seq (.reg false 0 [oN 17 (oV 1), oN 18 (.bin .add (.t 17) (cI 1)), oN 1 (oV 18)]) (.seq (.reg false 0 [oN 19 (oV 0), oN 20 (oV 5), oN 21 (oV 1), oN 22 (.bin .rem (.t 21) (cI 3)), oN 23 (.bin .eql (.t 22) (cI 0)), oN 24 (.idx 10 (.t 19) (.t 20)), oN 25 (.fld 1 (.t 24)), oN 26 (.fld 0 (.t 25)), oN 27 (.fld 0 (.t 26)), oS (.store 1 (.t 27) (.t 23))]) (.seq (.reg false 0 [oN 28 (oV 1), oN 29 (.bin .add (.t 28) (cI 1)), oN 1 (oV 29)]) (.seq (.reg false 0 [oN 30 (oV 0), oN 31 (oV 5), oN 32 (.idx 10 (.t 30) (.t 31)), oN 33 (.fld 1 (.t 32)), oN 34 (.fld 0 (.t 33)), oN 35 (.fld 1 (.t 34)), oN 36 (.load 1 false (.t 35)), oN 37 (oV 1), oN 38 (.call 57 [(.t 36), (.t 37)]), oN 1 (oV 38)]) (.seq (.reg false 0 [oN 39 (oV 0), oN 40 (oV 5), oN 41 (.idx 10 (.t 39) (.t 40)), oN 42 (.fld 1 (.t 41)), oN 43 (.fld 2 (.t 42)), oN 44 (.load 1 false (.t 43)), oN 45 (oV 1), oN 46 (.call 57 [(.t 44), (.t 45)]), oN 1 (oV 46)]) (.seq (.reg false 0 [oN 47 (oV 0), oN 48 (oV 5), oN 49 (oV 1), oN 50 (.bin .rem (.t 49) (cI 3)), oN 51 (.bin .eql (.t 50) (cI 0)), oN 52 (.idx 10 (.t 47) (.t 48)), oN 53 (.fld 4 (.t 52)), oN 54 (.fld 0 (.t 53)), oN 55 (.fld 0 (.t 54)), oS (.store 1 (.t 55) (.t 51))]) (.seq (.reg false 0 [oN 56 (oV 1), oN 57 (.bin .add (.t 56) (cI 1)), oN 1 (oV 57)]) (.seq (.reg false 0 [oN 58 (oV 0), oN 59 (oV 5), oN 60 (.idx 10 (.t 58) (.t 59)), oN 61 (.fld 4 (.t 60)), oN 62 (.fld 0 (.t 61)), oN 63 (.fld 1 (.t 62)), oN 64 (.load 1 false (.t 63)), oN 65 (oV 1), oN 66 (.call 57 [(.t 64), (.t 65)]), oN 1 (oV 66)]) (.seq (.reg false 0 [oN 67 (oV 0), oN 68 (oV 5), oN 69 (.idx 10 (.t 67) (.t 68)), oN 70 (.fld 4 (.t 69)), oN 71 (.fld 2 (.t 70)), oN 72 (.load 1 false (.t 71)), oN 73 (oV 1), oN 74 (.call 57 [(.t 72), (.t 73)]), oN 1 (oV 74)]) (.seq (.reg false 0 [oN 75 (oV 0), oN 76 (oV 5), oN 77 (oV 1), oN 78 (.bin .rem (.t 77) (cI 3)), oN 79 (.bin .eql (.t 78) (cI 0)), oN 80 (.idx 10 (.t 75) (.t 76)), oN 81 (.fld 7 (.t 80)), oN 82 (.fld 0 (.t 81)), oN 83 (.fld 0 (.t 82)), oS (.store 1 (.t 83) (.t 79))]) (.seq (.reg false 0 [oN 84 (oV 1), oN 85 (.bin .add (.t 84) (cI 1)), oN 1 (oV 85)]) (.seq (.reg false 0 [oN 86 (oV 0), oN 87 (oV 5), oN 88 (.idx 10 (.t 86) (.t 87)), oN 89 (.fld 7 (.t 88)), oN 90 (.fld 0 (.t 89)), oN 91 (.fld 1 (.t 90)), oN 92 (.load 1 false (.t 91)), oN 93 (oV 1), oN 94 (.call 57 [(.t 92), (.t 93)]), oN 1 (oV 94)]) (.reg false 0 [oN 95 (oV 0), oN 96 (oV 5), oN 97 (.idx 10 (.t 95) (.t 96)), oN 98 (.fld 7 (.t 97)), oN 99 (.fld 2 (.t 98)), oN 100 (.load 1 false (.t 99)), oN 101 (oV 1), oN 102 (.call 57 [(.t 100), (.t 101)]), oN 1 (oV 102)]))))))))))))))) (.reg false 0 [oN 10 (oV 5), oN 11 (.bin .add (.t 10) (cI 1)), oN 5 (oV 11)])))))) (.seq (.reg false 0 [oN 103 (oV 1), oN 4 (oV 103)]) .ret)))⟩
structure D_laws_markParentS (T : Nat → Option Fn) : Prop where
  hT : T 119 = some F_laws_markParentS
  d_laws_markIntS : D_laws_markIntS T
def F_laws_markConditionalS : Fn := ⟨2, 55, [.tmp 4], (.seq (.reg false 0 [oN 4 (.mov (cI 0))]) (.seq (.seq (.reg false 0 [oN 5 (.mov (cI 0))]) (.block 0 (.loop (.seq (.seq (.reg false 0 [oN 6 (oV 5), oN 7 (oV 0), oN 8 (.len (.t 7)), oN 9 (.bin .lss (.t 6) (.t 8))]) (.cond (.t 9) .skip (.exit 0))) (.seq (.block 1 (.seq (.reg false 0 [oN 12 (oV 0), oN 13 (oV 5), oN 14 (oV 1), oN 15 (.idx 5 (.t 12) (.t 13)), oN 16 (.fld 0 (.t 15)), oS (.store 1 (.t 16) (.t 14))]) (.seq (.reg false 0 [oN 17 (oV 1), oN 18 (.bin .add (.t 17) (cI 1)), oN 1 (oV 18)]) (.seq (.reg false 0 [oN 19 (oV 0), oN 20 (oV 5), oN 21 (oV 1), oN 22 (.bin .rem (.t 21) (cI 3)), oN 23 (.bin .eql (.t 22) (cI 0)), oN 24 (.idx 5 (.t 19) (.t 20)), oN 25 (.fld 1 (.t 24)), oN 26 (.fld 0 (.t 25)), oN 27 (.fld 0 (.t 26)), oS (.store 1 (.t 27) (.t 23))]) (.seq (.reg false 0 [oN 28 (oV 1), oN 29 (.bin .add (.t 28) (cI 1)), oN 1 (oV 29)]) (.seq (.reg false 0 [oN 30 (oV 0), oN 31 (oV 5), oN 32 (.idx 5 (.t 30) (.t 31)), oN 33 (.fld 1 (.t 32)), oN 34 (.fld 0 (.t 33)), oN 35 (.fld 1 (.t 34)), oN 36 (.load 1 false (.t 35)), oN 37 (oV 1), oN 38 (.call 57 [(.t 36), (.t 37)]), oN 1 (oV 38)]) (.seq (.reg false 0 [oN 39 (oV 0), oN 40 (oV 5), oN 41 (.idx 5 (.t 39) (.t 40)), oN 42 (.fld 1 (.t 41)), oN 43 (.fld 2 (.t 42)), oN 44 (.load 1 false (.t 43)), oN 45 (oV 1), oN 46 (.call 57 [(.t 44), (.t 45)]), oN 1 (oV 46)]) (.reg false 0 [oN 47 (oV 0), oN 48 (oV 5), oN 49 (.idx 5 (.t 47) (.t 48)), oN 50 (.fld 4 (.t 49)), oN 51 (.load 1 false (.t 50)), oN 52 (oV 1), oN 53 (.call 119 [(.t 51), (.t 52)]), oN 1 (oV 53)])))))))) (.reg false 0 [oN 10 (oV 5), oN 11 (.bin .add (.t 10) (cI 1)), oN 5 (oV 11)])))))) (.seq (.reg false 0 [oN 54 (oV 1), oN 4 (oV 54)]) .ret)))⟩
structure D_laws_markConditionalS (T : Nat → Option Fn) : Prop where
  hT : T 385 = some F_laws_markConditionalS
  d_laws_markIntS : D_laws_markIntS T
  d_laws_markParentS : D_laws_markParentS T
def F_laws_markTreeNodeS : Fn := ⟨2, 116, [.tmp 4], (.seq (.reg false 0 [oN 4 (.mov (cI 0))]) (.seq (.seq (.reg false 0 [oN 5 (.mov (cI 0))]) (.block 0 (.loop (.seq (.seq (.reg false 0 [oN 6 (oV 5), oN 7 (oV 0), oN 8 (.len (.t 7)), oN 9 (.bin .lss (.t 6) (.t 8))]) (.cond (.t 9) .skip (.exit 0))) (.seq (.block 1 (.seq (.reg false 0 [oN 12 (oV 0), oN 13 (oV 5), oN 14 (oV 1), oN 15 (.idx 12 (.t 12) (.t 13)), oN 16 (.fld 0 (.t 15)), oS (.store 1 (.t 16) (.t 14))]) (.seq (.reg false 0 [oN 17 (oV 1), oN 18 (.bin .add (.t 17) (cI 1)), oN 1 (oV 18)]) (.seq (.reg false 0 [oN 19 (oV 0), oN 20 (oV 5), oN 21 (oV 1), oN 22 (.idx 12 (.t 19) (.t 20)), oN 23 (.fld 1 (.t 22)), oS (.store 1 (.t 23) (.t 21))]) (.seq (.reg false 0 [oN 24 (oV 1), oN 25 (.bin .add (.t 24) (cI 1)), oN 1 (oV 25)]) (.seq (.reg false 0 [oN 26 (oV 0), oN 27 (oV 5), oN 28 (.idx 12 (.t 26) (.t 27)), oN 29 (.fld 2 (.t 28)), oN 30 (.load 1 false (.t 29)), oN 31 (oV 1), oN 32 (.call 118 [(.t 30), (.t 31)]), oN 1 (oV 32)]) (.seq (.reg false 0 [oN 33 (oV 0), oN 34 (oV 5), oN 35 (oV 1), oN 36 (.idx 12 (.t 33) (.t 34)), oN 37 (.fld 3 (.t 36)), oN 38 (.fld 0 (.t 37)), oS (.store 1 (.t 38) (.t 35))]) (.seq (.reg false 0 [oN 39 (oV 1), oN 40 (.bin .add (.t 39) (cI 1)), oN 1 (oV 40)]) (.seq (.reg false 0 [oN 41 (oV 0), oN 42 (oV 5), oN 43 (oV 1), oN 44 (.bin .rem (.t 43) (cI 3)), oN 45 (.bin .eql (.t 44) (cI 0)), oN 46 (.idx 12 (.t 41) (.t 42)), oN 47 (.fld 3 (.t 46)), oN 48 (.fld 1 (.t 47)), oN 49 (.fld 0 (.t 48)), oN 50 (.fld 0 (.t 49)), oS (.store 1 (.t 50) (.t 45))]) (.seq (.reg false 0 [oN 51 (oV 1), oN 52 (.bin .add (.t 51) (cI 1)), oN 1 (oV 52)]) (.seq (.reg false 0 [oN 53 (oV 0), oN 54 (oV 5), oN 55 (.idx 12 (.t 53) (.t 54)), oN 56 (.fld 3 (.t 55)), oN 57 (.fld 1 (.t 56)), oN 58 (.fld 0 (.t 57)), oN 59 (.fld 1 (.t 58)), oN 60 (.load 1 false (.t 59)), oN 61 (oV 1), oN 62 (.call 57 [(.t 60), (.t 61)]), oN 1 (oV 62)]) (.seq (.reg false 0 [oN 63 (oV 0), oN 64 (oV 5), oN 65 (.idx 12 (.t 63) (.t 64)), oN 66 (.fld 3 (.t 65)), oN 67 (.fld 1 (.t 66)), oN 68 (.fld 2 (.t 67)), oN 69 (.load 1 false (.t 68)), oN 70 (oV 1), oN 71 (.call 57 [(.t 69), (.t 70)]), oN 1 (oV 71)]) (.seq (.reg false 0 [oN 72 (oV 0), oN 73 (oV 5), oN 74 (.idx 12 (.t 72) (.t 73)), oN 75 (.fld 3 (.t 74)), oN 76 (.fld 4 (.t 75)), oN 77 (.load 1 false (.t 76)), oN 78 (oV 1), oN 79 (.call 119 [(.t 77), (.t 78)]), oN 1 (oV 79)]) (.seq (.reg false 0 [oN 80 (oV 0), oN 81 (oV 5), oN 82 (.idx 12 (.t 80) (.t 81)), oN 83 (.fld 8 (.t 82)), oN 84 (.load 1 false (.t 83)), oN 85 (oV 1), oN 86 (.call 118 [(.t 84), (.t 85)]), oN 1 (oV 86)]) (.seq (.reg false 0 [oN 87 (oV 0), oN 88 (oV 5), oN 89 (oV 1), oN 90 (.bin .rem (.t 89) (cI 3)), oN 91 (.bin .eql (.t 90) (cI 0)), oN 92 (.idx 12 (.t 87) (.t 88)), oN 93 (.fld 9 (.t 92)), oN 94 (.fld 0 (.t 93)), oN 95 (.fld 0 (.t 94)), oS (.store 1 (.t 95) (.t 91))]) (.seq (.reg false 0 [oN 96 (oV 1), oN 97 (.bin .add (.t 96) (cI 1)), oN 1 (oV 97)]) (.seq (.reg false 0 [oN 98 (oV 0), oN 99 (oV 5), oN 100 (.idx 12 (.t 98) (.t 99)), oN 101 (.fld 9 (.t 100)), oN 102 (.fld 0 (.t 101)), oN 103 (.fld 1 (.t 102)), oN 104 (.load 1 false (.t 103)), oN 105 (oV 1), oN 106 (.call 57 [(.t 104), (.t 105)]), oN 1 (oV 106)]) (.reg false 0 [oN 107 (oV 0), oN 108 (oV 5), oN 109 (.idx 12 (.t 107) (.t 108)), oN 110 (.fld 9 (.t 109)), oN 111 (.fld 2 (.t 110)), oN 112 (.load 1 false (.t 111)), oN 113 (oV 1), oN 114 (.call 57 [(.t 112), (.t 113)]), oN 1 (oV 114)])))))))))))))))))) (.reg false 0 [oN 10 (oV 5), oN 11 (.bin .add (.t 10) (cI 1)), oN 5 (oV 11)])))))) (.seq (.reg false 0 [oN 115 (oV 1), oN 4 (oV 115)]) .ret)))⟩
structure D_laws_markTreeNodeS (T : Nat → Option Fn) : Prop where
  hT : T 98 = some F_laws_markTreeNodeS
  d_laws_markIntS : D_laws_markIntS T
  d_laws_markLinkS : D_laws_markLinkS T
  d_laws_markParentS : D_laws_markParentS T
def F_laws_markRatSS : Fn := ⟨2, 19, [.tmp 4], (.seq (.reg false 0 [oN 4 (.mov (cI 0))]) (.seq (.seq (.reg false 0 [oN 5 (.mov (cI 0))]) (.block 0 (.loop (.seq (.seq (.reg false 0 [oN 6 (oV 5), oN 7 (oV 0), oN 8 (.len (.t 7)), oN 9 (.bin .lss (.t 6) (.t 8))]) (.cond (.t 9) .skip (.exit 0))) (.seq (.block 1 (.reg false 0 [oN 12 (oV 0), oN 13 (oV 5), oN 14 (.idx 1 (.t 12) (.t 13)), oN 15 (.load 1 false (.t 14)), oN 16 (oV 1), oN 17 (.call 312 [(.t 15), (.t 16)]), oN 1 (oV 17)])) (.reg false 0 [oN 10 (oV 5), oN 11 (.bin .add (.t 10) (cI 1)), oN 5 (oV 11)])))))) (.seq (.reg false 0 [oN 18 (oV 1), oN 4 (oV 18)]) .ret)))⟩
structure D_laws_markRatSS (T : Nat → Option Fn) : Prop where
  hT : T 302 = some F_laws_markRatSS
  d_laws_markRatS : D_laws_markRatS T
def R.ct (x : R) : Nat := 1 + x.mag.length + x.den.length
def R.mk3 (k : Int) (x : R) : R := ⟨decide ((k).tmod 3 = 0), cnt x.mag.length (k + 1), cnt x.den.length (k + 1 + x.mag.length)⟩
def Pt.ct (x : Pt) : Nat := 1 + x.x.mag.length + x.x.den.length + 1 + x.y.mag.length + x.y.den.length
def Pt.mk3 (k : Int) (x : Pt) : Pt := ⟨⟨decide ((k).tmod 3 = 0), cnt x.x.mag.length (k + 1), cnt x.x.den.length (k + 1 + x.x.mag.length)⟩, ⟨decide ((k + 1 + x.x.mag.length + x.x.den.length).tmod 3 = 0), cnt x.y.mag.length (k + 1 + x.x.mag.length + x.x.den.length + 1), cnt x.y.den.length (k + 1 + x.x.mag.length + x.x.den.length + 1 + x.y.mag.length)⟩⟩
def Lk.ct (x : Lk) : Nat := 1 + 1 + 1 + x.w.mag.length + x.w.den.length + 1 + x.dx.mag.length + x.dx.den.length + 1 + x.dy.mag.length + x.dy.den.length
def Lk.mk3 (k : Int) (x : Lk) : Lk := ⟨k, k + 1, ⟨decide ((k + 1 + 1).tmod 3 = 0), cnt x.w.mag.length (k + 1 + 1 + 1), cnt x.w.den.length (k + 1 + 1 + 1 + x.w.mag.length)⟩, ⟨decide ((k + 1 + 1 + 1 + x.w.mag.length + x.w.den.length).tmod 3 = 0), cnt x.dx.mag.length (k + 1 + 1 + 1 + x.w.mag.length + x.w.den.length + 1), cnt x.dx.den.length (k + 1 + 1 + 1 + x.w.mag.length + x.w.den.length + 1 + x.dx.mag.length)⟩, ⟨decide ((k + 1 + 1 + 1 + x.w.mag.length + x.w.den.length + 1 + x.dx.mag.length + x.dx.den.length).tmod 3 = 0), cnt x.dy.mag.length (k + 1 + 1 + 1 + x.w.mag.length + x.w.den.length + 1 + x.dx.mag.length + x.dx.den.length + 1), cnt x.dy.den.length (k + 1 + 1 + 1 + x.w.mag.length + x.w.den.length + 1 + x.dx.mag.length + x.dx.den.length + 1 + x.dy.mag.length)⟩⟩
theorem mk_markLinkS {T : Nat → Option Fn} (h : D_laws_markLinkS T) {l : List Lk} {k : Int} (hl : szL Lk.sz l ≤ 1048576 := by first | omega | assumption | (simp; omega)) (hk : 0 ≤ k ∧ k + cnL Lk.ct l l.length ≤ 1000000000000 := by first | omega | assumption | (simp; omega)) :
    Mk T 118 (lksV l) k (lksV (mkL Lk.mk3 Lk.ct k l)) (k + cnL Lk.ct l l.length) := by
  refine mk_iff fun σ v os ho hn => ?_
  have hll : l.length ≤ 1048576 := by unfold szL at hl; omega
  rcases ho.sl_inv with ⟨e, rfl, rfl⟩ | ⟨o, R0, os', rfl, _, _, hos, _⟩
  · have el : l = [] := by simpa using e
    subst el
    have : ∃ r σ', Run T (.fn 118 [.sl 11 [], iv k] σ) (.fn r σ') ∧ (r = iv k ∧ σ' = σ) := by
      refine run_end (fun _ _ => false) h.hT rfl rfl ?_
      dsimp only [F_laws_markLinkS, oN, oS, oG, oK, oA, oH, oV, cI, St.enter, List.length_cons, List.length_nil, Nat.zero_add]
      (refine ew ?_; try with_reducible exact True.intro)
      refine loop_at (fun _ _ => false) (α := Nat) (fun i => ⟨argE [.sl 11 [], iv k, .any, .any, .any, iv 0], σ, σ.length, 0, [], []⟩) (fun i => i = 0) (fun i => i) rfl 0 ?_ ?_ ?_
      · rfl
      · (refine Fg_env ?_) <;> (try (refine ew ?_; try with_reducible exact True.intro)) <;> (repeat' (first | refine ⟨?_, ?_⟩ | exact EvV_int (by omega) | exact EvV_of (by simp) | exact EvV_nil _))
      · rintro i rfl
        (refine ew ?_; try with_reducible exact True.intro)
        refine brK_dec (fun hc => absurd hc (by omega)) fun hc => ?_
        (refine ew ?_; try with_reducible exact True.intro)
    obtain ⟨r, σ', h2, rfl, rfl⟩ := this
    exact ⟨σ', by simpa [cnL] using h2, ho, Fr.refl _ _⟩
  · rw [List.length_map] at ho ⊢
    have : ∃ r σ', Run T (.fn 118 [.msl o 0 l.length, iv k] σ) (.fn r σ') ∧ (r = iv (k + cnL Lk.ct l l.length) ∧ OwV σ' (.msl o 0 l.length) (lksV (mkTo Lk.mk3 Lk.ct k l l.length)) os ∧ Fr os σ σ') := by
      refine run_end (fun x d => x == 57) h.hT rfl rfl ?_
      dsimp only [F_laws_markLinkS, oN, oS, oG, oK, oA, oH, oV, cI, St.enter, List.length_cons, List.length_nil, Nat.zero_add]
      (refine ew ?_; try with_reducible exact True.intro)
      refine loop_at (fun x d => x == 57) (α := Nat × Store) (fun q => ⟨argE [.msl o 0 l.length, iv (k + cnL Lk.ct l q.1), .any, .any, .any, iv (q.1 : Nat)], q.2, σ.length, 0, [], []⟩) (fun q => q.1 ≤ l.length ∧ OwV q.2 (.msl o 0 l.length) (lksV (mkTo Lk.mk3 Lk.ct k l q.1)) os ∧ Fr os σ q.2) (fun q => l.length - q.1) rfl (0, σ) ?_ ?_ ?_
      · exact ⟨by omega, by rw [mkTo_0]; exact ho, Fr.refl _ _⟩
      · (refine Fg_env ?_) <;> (try (refine ew1 @cnL_0 ?_; try with_reducible exact True.intro)) <;> (repeat' (first | refine ⟨?_, ?_⟩ | exact EvV_int (by omega) | exact EvV_of (by simp) | exact EvV_nil _))
      · rintro ⟨i, s⟩ ⟨hi, h2, h3⟩
        dsimp only at hi h2 h3
        have hls := h3.len
        obtain ⟨A, hob, hM⟩ := h2.obj
        (refine ew1 @hob ?_; try with_reducible exact True.intro)
        refine brK_dec (fun hc => ?_) fun hc => ?_
        · have hil : i < l.length := by omega
          obtain ⟨o', M', cs, oc, hv, hob', hM', hRi, hcs, hoc, hoo, hno, hre⟩ := h2.row_inv hn (i := i) (mg? (by rw [mkTo_len _ _ _ _ hi]; exact hil))
          rw [List.length_map, mkTo_len _ _ _ _ hi] at hv
          cases hv
          rw [hob] at hob'
          cases hob'
          rw [mkTo_at _ _ _ _ hil] at hcs
          obtain ⟨x, hx⟩ : ∃ x, l.getD i default = x := ⟨_, rfl⟩
          rw [hx] at hcs
          have hcn := cnL_s Lk.ct l hil
          have hcl := cnL_le Lk.ct l (i := i + 1) hil
          have hms := mkTo_set Lk.mk3 Lk.ct k l hil
          rw [hx] at hcn hms
          rw [hcn] at hcl
          obtain ⟨kk, hkk⟩ : ∃ kk, k + (cnL Lk.ct l i : Int) = kk := ⟨_, rfl⟩
          obtain ⟨c0, c1, c2, c3, c4, c5, c6, c7, c8, c9, c10, rfl⟩ : ∃ c0 c1 c2 c3 c4 c5 c6 c7 c8 c9 c10, cs = [c0, c1, c2, c3, c4, c5, c6, c7, c8, c9, c10] := by
            have := hcs.ow.len
            match cs, this with
            | [a0, a1, a2, a3, a4, a5, a6, a7, a8, a9, a10], _ => exact ⟨a0, a1, a2, a3, a4, a5, a6, a7, a8, a9, a10, rfl⟩
          have hlo := objAt_lt hob
          have rs : ∀ r, (A.set i r)[i]? = some r := fun r => by rw [List.getElem?_set_self (by omega)]
          have hct : Lk.ct x = 1 + 1 + 1 + x.w.mag.length + x.w.den.length + 1 + x.dx.mag.length + x.dx.den.length + 1 + x.dy.mag.length + x.dy.den.length := rfl
          have hxs : Lk.sz x ≤ 1048576 := by
            have := szL_at Lk.sz hil
            rw [hx] at this
            omega
          simp only [Lk.sz, R.sz] at hxs
          have F0 : Fr (o :: oc) s s := Fr.refl _ _
          have hcs := hcs.sca 0 (.int .i64 (kk)) rfl
          have hcs := hcs.sca 1 (.int .i64 (kk + 1)) rfl
          have hcs := hcs.sca 2 (.bool (decide ((kk + 1 + 1).tmod 3 = 0))) rfl
          (refine ew7 @hkk @hc @hob @hRi @hlo @rs @List.set_set.{0} ?_; try with_reducible exact True.intro)
          have hcs := hcs.set (x := some ⟨11, A.set i [.int .i64 (kk), .int .i64 (kk + 1), .bool (decide ((kk + 1 + 1).tmod 3 = 0)), c3, c4, c5, c6, c7, c8, c9, c10]⟩) hno
          have G0 := F0.trans (fr_set (σ := s) (o := o) (x := some ⟨11, A.set i [.int .i64 (kk), .int .i64 (kk + 1), .bool (decide ((kk + 1 + 1).tmod 3 = 0)), c3, c4, c5, c6, c7, c8, c9, c10]⟩) (by simp))
          obtain ⟨s1, hr, hcs, hf1⟩ := hcs.call 3 (mk_markIntS h.d_laws_markIntS (l := x.w.mag) (k := kk + 1 + 1 + 1) (by omega) (by omega)) rfl rfl
          refine RefK_mk hr rfl hf1.len (by simp) ?_
          have hb1 := (hf1.old o (by simpa using hlo) hno).trans (objAt_seteq hlo)
          have hl1 := objAt_lt hb1
          have F1 := G0.trans (hf1.mono (by simp +contextual))
          (refine ew4 @hb1 @rs @hl1 @List.set_set.{0} ?_; try with_reducible exact True.intro)
          have G1 := F1
          obtain ⟨s2, hr, hcs, hf2⟩ := hcs.call 4 (mk_markIntS h.d_laws_markIntS (l := x.w.den) (k := kk + 1 + 1 + 1 + x.w.mag.length) (by omega) (by omega)) rfl rfl
          refine RefK_mk hr rfl hf2.len (by simp) ?_
          have hb2 := (hf2.old o hl1 hno).trans hb1
          have hl2 := objAt_lt hb2
          have F2 := G1.trans (hf2.mono (by simp +contextual))
          have hcs := hcs.sca 5 (.bool (decide ((kk + 1 + 1 + 1 + x.w.mag.length + x.w.den.length).tmod 3 = 0))) rfl
          (refine ew4 @hb2 @rs @hl2 @List.set_set.{0} ?_; try with_reducible exact True.intro)
          have hcs := hcs.set (x := some ⟨11, A.set i [.int .i64 (kk), .int .i64 (kk + 1), .bool (decide ((kk + 1 + 1).tmod 3 = 0)), c3, c4, .bool (decide ((kk + 1 + 1 + 1 + x.w.mag.length + x.w.den.length).tmod 3 = 0)), c6, c7, c8, c9, c10]⟩) hno
          have G2 := F2.trans (fr_set (σ := s2) (o := o) (x := some ⟨11, A.set i [.int .i64 (kk), .int .i64 (kk + 1), .bool (decide ((kk + 1 + 1).tmod 3 = 0)), c3, c4, .bool (decide ((kk + 1 + 1 + 1 + x.w.mag.length + x.w.den.length).tmod 3 = 0)), c6, c7, c8, c9, c10]⟩) (by simp))
          obtain ⟨s3, hr, hcs, hf3⟩ := hcs.call 6 (mk_markIntS h.d_laws_markIntS (l := x.dx.mag) (k := kk + 1 + 1 + 1 + x.w.mag.length + x.w.den.length + 1) (by omega) (by omega)) rfl rfl
          refine RefK_mk hr rfl hf3.len (by simp) ?_
          have hb3 := (hf3.old o (by simpa using hl2) hno).trans (objAt_seteq hl2)
          have hl3 := objAt_lt hb3
          have F3 := G2.trans (hf3.mono (by simp +contextual))
          (refine ew4 @hb3 @rs @hl3 @List.set_set.{0} ?_; try with_reducible exact True.intro)
          have G3 := F3
          obtain ⟨s4, hr, hcs, hf4⟩ := hcs.call 7 (mk_markIntS h.d_laws_markIntS (l := x.dx.den) (k := kk + 1 + 1 + 1 + x.w.mag.length + x.w.den.length + 1 + x.dx.mag.length) (by omega) (by omega)) rfl rfl
          refine RefK_mk hr rfl hf4.len (by simp) ?_
          have hb4 := (hf4.old o hl3 hno).trans hb3
          have hl4 := objAt_lt hb4
          have F4 := G3.trans (hf4.mono (by simp +contextual))
          have hcs := hcs.sca 8 (.bool (decide ((kk + 1 + 1 + 1 + x.w.mag.length + x.w.den.length + 1 + x.dx.mag.length + x.dx.den.length).tmod 3 = 0))) rfl
          (refine ew4 @hb4 @rs @hl4 @List.set_set.{0} ?_; try with_reducible exact True.intro)
          have hcs := hcs.set (x := some ⟨11, A.set i [.int .i64 (kk), .int .i64 (kk + 1), .bool (decide ((kk + 1 + 1).tmod 3 = 0)), c3, c4, .bool (decide ((kk + 1 + 1 + 1 + x.w.mag.length + x.w.den.length).tmod 3 = 0)), c6, c7, .bool (decide ((kk + 1 + 1 + 1 + x.w.mag.length + x.w.den.length + 1 + x.dx.mag.length + x.dx.den.length).tmod 3 = 0)), c9, c10]⟩) hno
          have G4 := F4.trans (fr_set (σ := s4) (o := o) (x := some ⟨11, A.set i [.int .i64 (kk), .int .i64 (kk + 1), .bool (decide ((kk + 1 + 1).tmod 3 = 0)), c3, c4, .bool (decide ((kk + 1 + 1 + 1 + x.w.mag.length + x.w.den.length).tmod 3 = 0)), c6, c7, .bool (decide ((kk + 1 + 1 + 1 + x.w.mag.length + x.w.den.length + 1 + x.dx.mag.length + x.dx.den.length).tmod 3 = 0)), c9, c10]⟩) (by simp))
          obtain ⟨s5, hr, hcs, hf5⟩ := hcs.call 9 (mk_markIntS h.d_laws_markIntS (l := x.dy.mag) (k := kk + 1 + 1 + 1 + x.w.mag.length + x.w.den.length + 1 + x.dx.mag.length + x.dx.den.length + 1) (by omega) (by omega)) rfl rfl
          refine RefK_mk hr rfl hf5.len (by simp) ?_
          have hb5 := (hf5.old o (by simpa using hl4) hno).trans (objAt_seteq hl4)
          have hl5 := objAt_lt hb5
          have F5 := G4.trans (hf5.mono (by simp +contextual))
          (refine ew4 @hb5 @rs @hl5 @List.set_set.{0} ?_; try with_reducible exact True.intro)
          have G5 := F5
          obtain ⟨s6, hr, hcs, hf6⟩ := hcs.call 10 (mk_markIntS h.d_laws_markIntS (l := x.dy.den) (k := kk + 1 + 1 + 1 + x.w.mag.length + x.w.den.length + 1 + x.dx.mag.length + x.dx.den.length + 1 + x.dy.mag.length) (by omega) (by omega)) rfl rfl
          refine RefK_mk hr rfl hf6.len (by simp) ?_
          have hb6 := (hf6.old o hl5 hno).trans hb5
          have hl6 := objAt_lt hb6
          have F6 := G5.trans (hf6.mono (by simp +contextual))
          (refine ew4 @hb6 @rs @hl6 @List.set_set.{0} ?_; try with_reducible exact True.intro)
          refine ⟨(i + 1, s6), by dsimp only; omega, ⟨by dsimp only; omega, ?_, ?_⟩, by (refine Fg_env ?_) <;> (try (refine ew ?_; try with_reducible exact True.intro)) <;> (repeat' (first | refine ⟨?_, ?_⟩ | exact EvV_int (by omega) | exact EvV_of (by simp) | exact EvV_nil _))⟩
          · dsimp only
            rw [← hms, hkk]
            show OwV _ _ (.sl 11 (List.map Lk.cells _)) _
            rw [List.map_set]
            exact hre _ _ _ hcs hb6 F6
          · exact h3.trans (F6.mono (by simpa using ⟨hoo, hoc⟩))
        · have : i = l.length := by omega
          subst this
          (refine ew1 @hc ?_; try with_reducible exact True.intro)
          exact ⟨h2, h3⟩
    obtain ⟨r, σ', h2, rfl, h3, h4⟩ := this
    rw [mkTo_all] at h3
    exact ⟨σ', h2, h3, h4⟩
def Pa.ct (x : Pa) : Nat := 1 + 1 + x.share.mag.length + x.share.den.length + 1 + x.dx.mag.length + x.dx.den.length + 1 + x.dy.mag.length + x.dy.den.length
def Pa.mk3 (k : Int) (x : Pa) : Pa := ⟨k, ⟨decide ((k + 1).tmod 3 = 0), cnt x.share.mag.length (k + 1 + 1), cnt x.share.den.length (k + 1 + 1 + x.share.mag.length)⟩, ⟨decide ((k + 1 + 1 + x.share.mag.length + x.share.den.length).tmod 3 = 0), cnt x.dx.mag.length (k + 1 + 1 + x.share.mag.length + x.share.den.length + 1), cnt x.dx.den.length (k + 1 + 1 + x.share.mag.length + x.share.den.length + 1 + x.dx.mag.length)⟩, ⟨decide ((k + 1 + 1 + x.share.mag.length + x.share.den.length + 1 + x.dx.mag.length + x.dx.den.length).tmod 3 = 0), cnt x.dy.mag.length (k + 1 + 1 + x.share.mag.length + x.share.den.length + 1 + x.dx.mag.length + x.dx.den.length + 1), cnt x.dy.den.length (k + 1 + 1 + x.share.mag.length + x.share.den.length + 1 + x.dx.mag.length + x.dx.den.length + 1 + x.dy.mag.length)⟩⟩
def Cd.ct (x : Cd) : Nat := 1 + 1 + x.total.mag.length + x.total.den.length + cnL Pa.ct x.ps x.ps.length
def Cd.mk3 (k : Int) (x : Cd) : Cd := ⟨k, ⟨decide ((k + 1).tmod 3 = 0), cnt x.total.mag.length (k + 1 + 1), cnt x.total.den.length (k + 1 + 1 + x.total.mag.length)⟩, mkL Pa.mk3 Pa.ct (k + 1 + 1 + x.total.mag.length + x.total.den.length) x.ps⟩
def Tn.ct (x : Tn) : Nat := 1 + 1 + cnL Lk.ct x.own x.own.length + 1 + 1 + x.cond.total.mag.length + x.cond.total.den.length + cnL Pa.ct x.cond.ps x.cond.ps.length + cnL Lk.ct x.msgs x.msgs.length + 1 + x.energy.mag.length + x.energy.den.length
def Tn.mk3 (k : Int) (x : Tn) : Tn := ⟨k, k + 1, mkL Lk.mk3 Lk.ct (k + 1 + 1) x.own, ⟨k + 1 + 1 + cnL Lk.ct x.own x.own.length, ⟨decide ((k + 1 + 1 + cnL Lk.ct x.own x.own.length + 1).tmod 3 = 0), cnt x.cond.total.mag.length (k + 1 + 1 + cnL Lk.ct x.own x.own.length + 1 + 1), cnt x.cond.total.den.length (k + 1 + 1 + cnL Lk.ct x.own x.own.length + 1 + 1 + x.cond.total.mag.length)⟩, mkL Pa.mk3 Pa.ct (k + 1 + 1 + cnL Lk.ct x.own x.own.length + 1 + 1 + x.cond.total.mag.length + x.cond.total.den.length) x.cond.ps⟩, mkL Lk.mk3 Lk.ct (k + 1 + 1 + cnL Lk.ct x.own x.own.length + 1 + 1 + x.cond.total.mag.length + x.cond.total.den.length + cnL Pa.ct x.cond.ps x.cond.ps.length) x.msgs, ⟨decide ((k + 1 + 1 + cnL Lk.ct x.own x.own.length + 1 + 1 + x.cond.total.mag.length + x.cond.total.den.length + cnL Pa.ct x.cond.ps x.cond.ps.length + cnL Lk.ct x.msgs x.msgs.length).tmod 3 = 0), cnt x.energy.mag.length (k + 1 + 1 + cnL Lk.ct x.own x.own.length + 1 + 1 + x.cond.total.mag.length + x.cond.total.den.length + cnL Pa.ct x.cond.ps x.cond.ps.length + cnL Lk.ct x.msgs x.msgs.length + 1), cnt x.energy.den.length (k + 1 + 1 + cnL Lk.ct x.own x.own.length + 1 + 1 + x.cond.total.mag.length + x.cond.total.den.length + cnL Pa.ct x.cond.ps x.cond.ps.length + cnL Lk.ct x.msgs x.msgs.length + 1 + x.energy.mag.length)⟩⟩
end Go.Ml
end
section
set_option linter.unusedSimpArgs false
set_option linter.unusedVariables false
set_option maxRecDepth 100000
set_option maxHeartbeats 4000000
namespace Go.Ml
def F_laws_markBigInt : Fn := ⟨2, 10, [.tmp 4], (.seq (.reg false 1 [oN 2 (.box (.t 0)), oK 4 1 (.mov (cI 0))]) (.seq (.reg false 0 [oN 5 (.fld 1 (.t 2)), oN 6 (.load 1 false (.t 5)), oN 7 (oV 1), oN 8 (.call 57 [(.t 6), (.t 7)]), oN 1 (oV 8)]) (.seq (.reg false 0 [oN 9 (oV 1), oN 4 (oV 9)]) .ret)))⟩
structure D_laws_markBigInt (T : Nat → Option Fn) : Prop where
  hT : T 56 = some F_laws_markBigInt
  d_laws_markIntS : D_laws_markIntS T
def F_laws_markRat : Fn := ⟨2, 14, [.tmp 4], (.seq (.reg false 1 [oN 2 (.box (.t 0)), oK 4 1 (.mov (cI 0))]) (.seq (.reg false 0 [oN 5 (.fld 0 (.t 2)), oN 6 (.load 2 true (.t 5)), oN 7 (oV 1), oN 8 (.call 56 [(.t 6), (.t 7)]), oN 1 (oV 8)]) (.seq (.reg false 0 [oN 9 (.fld 2 (.t 2)), oN 10 (.load 1 false (.t 9)), oN 11 (oV 1), oN 12 (.call 57 [(.t 10), (.t 11)]), oN 1 (oV 12)]) (.seq (.reg false 0 [oN 13 (oV 1), oN 4 (oV 13)]) .ret))))⟩
structure D_laws_markRat (T : Nat → Option Fn) : Prop where
  hT : T 41 = some F_laws_markRat
  d_laws_markBigInt : D_laws_markBigInt T
  d_laws_markIntS : D_laws_markIntS T
def F_laws_markPoint : Fn := ⟨2, 14, [.tmp 4], (.seq (.reg false 1 [oN 2 (.box (.t 0)), oK 4 1 (.mov (cI 0))]) (.seq (.reg false 0 [oN 5 (.fld 0 (.t 2)), oN 6 (.load 3 true (.t 5)), oN 7 (oV 1), oN 8 (.call 41 [(.t 6), (.t 7)]), oN 1 (oV 8)]) (.seq (.reg false 0 [oN 9 (.fld 3 (.t 2)), oN 10 (.load 3 true (.t 9)), oN 11 (oV 1), oN 12 (.call 41 [(.t 10), (.t 11)]), oN 1 (oV 12)]) (.seq (.reg false 0 [oN 13 (oV 1), oN 4 (oV 13)]) .ret))))⟩
structure D_laws_markPoint (T : Nat → Option Fn) : Prop where
  hT : T 296 = some F_laws_markPoint
  d_laws_markRat : D_laws_markRat T
def F_laws_markLink : Fn := ⟨2, 18, [.tmp 4], (.seq (.reg false 1 [oN 2 (.box (.t 0)), oK 4 1 (.mov (cI 0))]) (.seq (.reg false 0 [oN 5 (.fld 2 (.t 2)), oN 6 (.load 3 true (.t 5)), oN 7 (oV 1), oN 8 (.call 41 [(.t 6), (.t 7)]), oN 1 (oV 8)]) (.seq (.reg false 0 [oN 9 (.fld 5 (.t 2)), oN 10 (.load 3 true (.t 9)), oN 11 (oV 1), oN 12 (.call 41 [(.t 10), (.t 11)]), oN 1 (oV 12)]) (.seq (.reg false 0 [oN 13 (.fld 8 (.t 2)), oN 14 (.load 3 true (.t 13)), oN 15 (oV 1), oN 16 (.call 41 [(.t 14), (.t 15)]), oN 1 (oV 16)]) (.seq (.reg false 0 [oN 17 (oV 1), oN 4 (oV 17)]) .ret)))))⟩
structure D_laws_markLink (T : Nat → Option Fn) : Prop where
  hT : T 17 = some F_laws_markLink
  d_laws_markRat : D_laws_markRat T
def F_laws_markConditional : Fn := ⟨2, 14, [.tmp 4], (.seq (.reg false 1 [oN 2 (.box (.t 0)), oK 4 1 (.mov (cI 0))]) (.seq (.reg false 0 [oN 5 (.fld 1 (.t 2)), oN 6 (.load 3 true (.t 5)), oN 7 (oV 1), oN 8 (.call 41 [(.t 6), (.t 7)]), oN 1 (oV 8)]) (.seq (.reg false 0 [oN 9 (.fld 4 (.t 2)), oN 10 (.load 1 false (.t 9)), oN 11 (oV 1), oN 12 (.call 119 [(.t 10), (.t 11)]), oN 1 (oV 12)]) (.seq (.reg false 0 [oN 13 (oV 1), oN 4 (oV 13)]) .ret))))⟩
structure D_laws_markConditional (T : Nat → Option Fn) : Prop where
  hT : T 367 = some F_laws_markConditional
  d_laws_markRat : D_laws_markRat T
  d_laws_markParentS : D_laws_markParentS T
def F_laws_markTree : Fn := ⟨2, 10, [.tmp 4], (.seq (.reg false 1 [oN 2 (.box (.t 0)), oK 4 1 (.mov (cI 0))]) (.seq (.reg false 0 [oN 5 (.fld 0 (.t 2)), oN 6 (.load 1 false (.t 5)), oN 7 (oV 1), oN 8 (.call 98 [(.t 6), (.t 7)]), oN 1 (oV 8)]) (.seq (.reg false 0 [oN 9 (oV 1), oN 4 (oV 9)]) .ret)))⟩
structure D_laws_markTree (T : Nat → Option Fn) : Prop where
  hT : T 82 = some F_laws_markTree
  d_laws_markTreeNodeS : D_laws_markTreeNodeS T
theorem ivc {a b : Int} (h : a = b) : iv a = iv b := by rw [h]
def V.els : V → List V
  | .agg l => l
  | _ => []
def Bi.ct2 (x : Bi) : Nat := x.mag.length
def Bi.mk2 (k : Int) (x : Bi) : Bi := ⟨x.neg, cnt x.mag.length k⟩
theorem mk_markBigInt {T : Nat → Option Fn} (h : D_laws_markBigInt T) {x : Bi} {k : Int} (hl : x.mag.length ≤ 1048576 := by first | omega | assumption | (simp; omega)) (hk : 0 ≤ k ∧ k + Bi.ct2 x ≤ 1000000000000 := by first | omega | assumption | (simp; omega)) :
    Mk T 56 (biV x) k (biV (Bi.mk2 k x)) (k + Bi.ct2 x) := by
  refine mk_iff fun σ v os ho hn => ?_
  have hk' := hk
  simp only [Bi.ct2] at hk'
  obtain ⟨cs, rfl, hcs⟩ := ho.agg_inv
  replace hcs : Cs _ _ _ _ := ⟨hcs, hn⟩
  obtain ⟨c0, c1, rfl⟩ : ∃ c0 c1, cs = [c0, c1] := by
    have := hcs.ow.len
    match cs, this with
    | [a0, a1], _ => exact ⟨a0, a1, rfl⟩
  have hlf := hcs.ow.leaf rfl
  have hce := cells_agg hlf
  have lfs : c0.leaf = true ∧ c1.leaf = true := by simpa using hlf
  have key : ∃ r σ', Run T (.fn 56 [.agg [c0, c1], iv k] σ) (.fn r σ') ∧ (r = iv (k + Bi.ct2 x) ∧ Cs σ' [c0, c1] ((biV (Bi.mk2 k x) : V).els) os ∧ Fr os σ σ') := by
    refine run_end (fun x d => x == 57) h.hT rfl rfl ?_
    dsimp only [F_laws_markBigInt, oN, oS, oG, oK, oA, oH, oV, cI, St.enter, List.length_cons, List.length_nil, Nat.zero_add]
    (refine ew ?_; try with_reducible exact True.intro)
    have F0 : Fr os σ (σ ++ [some ⟨2, [[c0, c1]]⟩]) := fr_snoc
    replace hcs := hcs.snoc (x := some ⟨2, [[c0, c1]]⟩)
    have hno : σ.length ∉ os := fun hm => absurd (ho.lt _ hm) (by omega)
    (refine ew2 @hce @lfs ?_; try with_reducible exact True.intro)
    obtain ⟨s1, hr, hcs, hf1⟩ := hcs.call 1 (mk_markIntS h.d_laws_markIntS (l := x.mag) (k := k) (by first | omega | (simp only [Bi.ct2, R.ct2, Bi.ct2]; omega)) (by first | omega | (simp only [Bi.ct2, R.ct2, Bi.ct2]; omega))) rfl rfl
    refine RefK_mk hr rfl hf1.len (by simp) ?_
    have hb1 := (hf1.old σ.length (by simp) hno).trans (objAt_snoc _ _)
    have F1 := F0.trans hf1
    have hlq1 := objAt_lt hb1
    (refine ew2 @hb1 @lfs ?_; try with_reducible exact True.intro)
    exact ⟨ivc (by simp only [Bi.ct2]; first | done | omega), hcs, F1⟩
  obtain ⟨r, σ', h2, rfl, h3, h4⟩ := key
  exact ⟨σ', h2, owV_agg h3.ow, h4⟩
def R.ct2 (x : R) : Nat := Bi.ct2 x.num + x.den.length
def R.mk2 (k : Int) (x : R) : R := ⟨x.neg, cnt x.mag.length k, cnt x.den.length (k + x.mag.length)⟩
theorem mk_markRat {T : Nat → Option Fn} (h : D_laws_markRat T) {x : R} {k : Int} (hl : x.sz ≤ 1048576 := by first | omega | assumption | (simp; omega)) (hk : 0 ≤ k ∧ k + R.ct2 x ≤ 1000000000000 := by first | omega | assumption | (simp; omega)) :
    Mk T 41 (ratV x) k (ratV (R.mk2 k x)) (k + R.ct2 x) := by
  refine mk_iff fun σ v os ho hn => ?_
  have hl' := hl
  simp only [R.sz] at hl'
  have hk' := hk
  simp only [R.ct2, Bi.ct2] at hk'
  obtain ⟨cs, rfl, hcs⟩ := ho.agg_inv
  replace hcs : Cs _ _ _ _ := ⟨hcs, hn⟩
  obtain ⟨c0, c1, c2, rfl⟩ : ∃ c0 c1 c2, cs = [c0, c1, c2] := by
    have := hcs.ow.len
    match cs, this with
    | [a0, a1, a2], _ => exact ⟨a0, a1, a2, rfl⟩
  have hlf := hcs.ow.leaf rfl
  have hce := cells_agg hlf
  have lfs : c0.leaf = true ∧ c1.leaf = true ∧ c2.leaf = true := by simpa using hlf
  have key : ∃ r σ', Run T (.fn 41 [.agg [c0, c1, c2], iv k] σ) (.fn r σ') ∧ (r = iv (k + R.ct2 x) ∧ Cs σ' [c0, c1, c2] ((ratV (R.mk2 k x) : V).els) os ∧ Fr os σ σ') := by
    refine run_end (fun x d => x == 56 || x == 57) h.hT rfl rfl ?_
    dsimp only [F_laws_markRat, oN, oS, oG, oK, oA, oH, oV, cI, St.enter, List.length_cons, List.length_nil, Nat.zero_add]
    (refine ew ?_; try with_reducible exact True.intro)
    have F0 : Fr os σ (σ ++ [some ⟨3, [[c0, c1, c2]]⟩]) := fr_snoc
    replace hcs := hcs.snoc (x := some ⟨3, [[c0, c1, c2]]⟩)
    have hno : σ.length ∉ os := fun hm => absurd (ho.lt _ hm) (by omega)
    (refine ew2 @hce @lfs ?_; try with_reducible exact True.intro)
    obtain ⟨s1, hr, hcs, hf1⟩ := hcs.part 0 2 (mk_markBigInt h.d_laws_markBigInt (x := x.num) (k := k) (by first | omega | (simp only [R.sz, R.ct2, Bi.ct2]; omega)) (by first | omega | (simp only [R.sz, R.ct2, Bi.ct2]; omega))) rfl (by simp)
    refine RefK_mk hr rfl hf1.len (by simp) ?_
    have hb1 := (hf1.old σ.length (by simp) hno).trans (objAt_snoc _ _)
    have F1 := F0.trans hf1
    have hlq1 := objAt_lt hb1
    (refine ew2 @hb1 @lfs ?_; try with_reducible exact True.intro)
    obtain ⟨s2, hr, hcs, hf2⟩ := hcs.call 2 (mk_markIntS h.d_laws_markIntS (l := x.den) (k := k + Bi.ct2 x.num) (by first | omega | (simp only [R.sz, R.ct2, Bi.ct2]; omega)) (by first | omega | (simp only [R.sz, R.ct2, Bi.ct2]; omega))) rfl rfl
    refine RefK_mk hr rfl hf2.len (by simp) ?_
    have hb2 := (hf2.old σ.length (objAt_lt hb1) hno).trans (hb1)
    have F2 := F1.trans hf2
    have hlq2 := objAt_lt hb2
    (refine ew2 @hb2 @lfs ?_; try with_reducible exact True.intro)
    exact ⟨ivc (by simp only [R.ct2, Bi.ct2]; first | done | omega), hcs, F2⟩
  obtain ⟨r, σ', h2, rfl, h3, h4⟩ := key
  exact ⟨σ', h2, owV_agg h3.ow, h4⟩
def Pt.ct2 (x : Pt) : Nat := x.x.ct2 + x.y.ct2
def Pt.mk2 (k : Int) (x : Pt) : Pt := ⟨R.mk2 (k) x.x, R.mk2 (k + x.x.ct2) x.y⟩
def Lk.ct2 (x : Lk) : Nat := x.w.ct2 + x.dx.ct2 + x.dy.ct2
def Lk.mk2 (k : Int) (x : Lk) : Lk := ⟨x.a, x.b, R.mk2 (k) x.w, R.mk2 (k + x.w.ct2) x.dx, R.mk2 (k + x.w.ct2 + x.dx.ct2) x.dy⟩
theorem mk_markLink {T : Nat → Option Fn} (h : D_laws_markLink T) {x : Lk} {k : Int} (hl : x.sz ≤ 1048576 := by first | omega | assumption | (simp; omega)) (hk : 0 ≤ k ∧ k + Lk.ct2 x ≤ 1000000000000 := by first | omega | assumption | (simp; omega)) :
    Mk T 17 (lkV x) k (lkV (Lk.mk2 k x)) (k + Lk.ct2 x) := by
  refine mk_iff fun σ v os ho hn => ?_
  have hl' := hl
  simp only [Lk.sz, R.sz] at hl'
  have hk' := hk
  simp only [Lk.ct2, R.ct2, Bi.ct2] at hk'
  obtain ⟨cs, rfl, hcs⟩ := ho.agg_inv
  replace hcs : Cs _ _ _ _ := ⟨hcs, hn⟩
  obtain ⟨c0, c1, c2, c3, c4, c5, c6, c7, c8, c9, c10, rfl⟩ : ∃ c0 c1 c2 c3 c4 c5 c6 c7 c8 c9 c10, cs = [c0, c1, c2, c3, c4, c5, c6, c7, c8, c9, c10] := by
    have := hcs.ow.len
    match cs, this with
    | [a0, a1, a2, a3, a4, a5, a6, a7, a8, a9, a10], _ => exact ⟨a0, a1, a2, a3, a4, a5, a6, a7, a8, a9, a10, rfl⟩
  have hlf := hcs.ow.leaf rfl
  have hce := cells_agg hlf
  have lfs : c0.leaf = true ∧ c1.leaf = true ∧ c2.leaf = true ∧ c3.leaf = true ∧ c4.leaf = true ∧ c5.leaf = true ∧ c6.leaf = true ∧ c7.leaf = true ∧ c8.leaf = true ∧ c9.leaf = true ∧ c10.leaf = true := by simpa using hlf
  have key : ∃ r σ', Run T (.fn 17 [.agg [c0, c1, c2, c3, c4, c5, c6, c7, c8, c9, c10], iv k] σ) (.fn r σ') ∧ (r = iv (k + Lk.ct2 x) ∧ Cs σ' [c0, c1, c2, c3, c4, c5, c6, c7, c8, c9, c10] ((lkV (Lk.mk2 k x) : V).els) os ∧ Fr os σ σ') := by
    refine run_end (fun x d => x == 41) h.hT rfl rfl ?_
    dsimp only [F_laws_markLink, oN, oS, oG, oK, oA, oH, oV, cI, St.enter, List.length_cons, List.length_nil, Nat.zero_add]
    (refine ew ?_; try with_reducible exact True.intro)
    have F0 : Fr os σ (σ ++ [some ⟨11, [[c0, c1, c2, c3, c4, c5, c6, c7, c8, c9, c10]]⟩]) := fr_snoc
    replace hcs := hcs.snoc (x := some ⟨11, [[c0, c1, c2, c3, c4, c5, c6, c7, c8, c9, c10]]⟩)
    have hno : σ.length ∉ os := fun hm => absurd (ho.lt _ hm) (by omega)
    (refine ew2 @hce @lfs ?_; try with_reducible exact True.intro)
    obtain ⟨s1, hr, hcs, hf1⟩ := hcs.part 2 3 (mk_markRat h.d_laws_markRat (x := x.w) (k := k) (by first | omega | (simp only [Lk.sz, R.sz, R.ct2, Bi.ct2]; omega)) (by first | omega | (simp only [Lk.sz, R.sz, R.ct2, Bi.ct2]; omega))) rfl (by simp)
    refine RefK_mk hr rfl hf1.len (by simp) ?_
    have hb1 := (hf1.old σ.length (by simp) hno).trans (objAt_snoc _ _)
    have F1 := F0.trans hf1
    have hlq1 := objAt_lt hb1
    (refine ew2 @hb1 @lfs ?_; try with_reducible exact True.intro)
    obtain ⟨s2, hr, hcs, hf2⟩ := hcs.part 5 3 (mk_markRat h.d_laws_markRat (x := x.dx) (k := k + x.w.ct2) (by first | omega | (simp only [Lk.sz, R.sz, R.ct2, Bi.ct2]; omega)) (by first | omega | (simp only [Lk.sz, R.sz, R.ct2, Bi.ct2]; omega))) rfl (by simp)
    refine RefK_mk hr rfl hf2.len (by simp) ?_
    have hb2 := (hf2.old σ.length (objAt_lt hb1) hno).trans (hb1)
    have F2 := F1.trans hf2
    have hlq2 := objAt_lt hb2
    (refine ew2 @hb2 @lfs ?_; try with_reducible exact True.intro)
    obtain ⟨s3, hr, hcs, hf3⟩ := hcs.part 8 3 (mk_markRat h.d_laws_markRat (x := x.dy) (k := k + x.w.ct2 + x.dx.ct2) (by first | omega | (simp only [Lk.sz, R.sz, R.ct2, Bi.ct2]; omega)) (by first | omega | (simp only [Lk.sz, R.sz, R.ct2, Bi.ct2]; omega))) rfl (by simp)
    refine RefK_mk hr rfl hf3.len (by simp) ?_
    have hb3 := (hf3.old σ.length (objAt_lt hb2) hno).trans (hb2)
    have F3 := F2.trans hf3
    have hlq3 := objAt_lt hb3
    (refine ew2 @hb3 @lfs ?_; try with_reducible exact True.intro)
    exact ⟨ivc (by simp only [Lk.ct2, R.ct2, Bi.ct2]; first | done | omega), hcs, F3⟩
  obtain ⟨r, σ', h2, rfl, h3, h4⟩ := key
  exact ⟨σ', h2, owV_agg h3.ow, h4⟩
def Cd.ct2 (x : Cd) : Nat := x.total.ct2 + cnL Pa.ct x.ps x.ps.length
def Cd.mk2 (k : Int) (x : Cd) : Cd := ⟨x.node, R.mk2 (k) x.total, mkL Pa.mk3 Pa.ct (k + x.total.ct2) x.ps⟩
end Go.Ml
end
section
set_option linter.unusedSimpArgs false
set_option linter.unusedVariables false
set_option maxRecDepth 100000
set_option maxHeartbeats 4000000
namespace Go.Ml
theorem szL_memb {α : Type} {f : α → Nat} {l : List α} {x : α} {n : Nat} (h : szL f l ≤ n) (hx : x ∈ l) : f x ≤ n := by
  have : ∀ l : List α, x ∈ l → f x ≤ (l.map f).sum := by
    intro l
    induction l with
    | nil => intro h; simp at h
    | cons y l ih =>
      intro h
      rw [List.map_cons, List.sum_cons]
      rcases List.mem_cons.1 h with rfl | h
      · omega
      · have := ih h; omega
  have := this l hx
  unfold szL at h
  omega
theorem po_toLink {T : Nat → Option Fn} (h : D_laws_toLink T) {x : Lk} (hl : x.sz ≤ 1048576 := by first | omega | assumption | (simp; omega)) : PO T 44 [lkV x] (lkV x) := by
  simp only [Lk.sz, R.sz] at hl
  refine po_end2 (fun x d => x == 48) h.hT rfl rfl ?_
  dsimp only [F_laws_toLink, oN, oS, oG, oK, oA, oH, oV, cI, St.enter, List.length_cons, List.length_nil, Nat.zero_add]
  (refine ew ?_; try with_reducible exact True.intro)
  have O := fun s : Store => @ow_nil 3 s
  replace O := fun s => (O s).int .i64 x.a
  replace O := fun s => (O s).int .i64 x.b
  refine RefK_got (po_toRat h.d_laws_toRat (r := x.w) (by first | omega | (simp only [Lk.sz, R.sz]; omega))) (by (refine ew ?_; try with_reducible exact True.intro)) ?_
  intro r σ1 os g
  have lq : 3 ≤ σ1.length := g.len
  have B0 := g.at 0 (by simp) rfl
  have B1 := g.at 1 (by simp) rfl
  have B2 := g.at 2 (by simp) rfl
  replace O := (O _).got g (by simp)
  obtain ⟨a0, d0, _, _, rfl, _, k1, k2⟩ := g.ow.rat_inv
  replace O := O.flat rfl
  have la := k1.leaf rfl
  have ld := k2.leaf rfl
  have lfs := And.intro la ld
  have fc := fun q => cells_agg (cs := [.bool x.w.neg, a0, d0]) (by simp [la, ld, show ∀ b, V.leaf (.bool b) = true from fun _ => rfl]) q
  clear g
  (refine ew6 @B0 @B1 @B2 @lq @lfs @fc ?_; try with_reducible exact True.intro)
  refine RefK_got (po_toRat h.d_laws_toRat (r := x.dx) (by first | omega | (simp only [Lk.sz, R.sz]; omega))) (by (refine ew6 @B0 @B1 @B2 @lq @lfs @fc ?_; try with_reducible exact True.intro)) ?_
  intro r σ2 os g
  have lp := lq
  replace lq : 3 ≤ σ2.length := by have := g.len; simp at this; omega
  replace B0 := (g.old 0 (by simp; omega)).trans ((objAt_setne (by decide)).trans B0)
  replace B1 := (g.old 1 (by simp; omega)).trans ((objAt_setne (by decide)).trans B1)
  replace B2 := (g.old 2 (by simp; omega)).trans (objAt_seteq (by omega))
  replace O := (O.set (by decide)).got g (by simp; omega)
  obtain ⟨a1, d1, _, _, rfl, _, k1, k2⟩ := g.ow.rat_inv
  replace O := O.flat rfl
  have la := k1.leaf rfl
  have ld := k2.leaf rfl
  replace lfs := And.intro lfs (And.intro la ld)
  replace fc := fun q => cells_agg (cs := [.bool x.dx.neg, a1, d1]) (by simp [la, ld, show ∀ b, V.leaf (.bool b) = true from fun _ => rfl]) q
  clear g
  (refine ew6 @B0 @B1 @B2 @lq @lfs @fc ?_; try with_reducible exact True.intro)
  refine RefK_got (po_toRat h.d_laws_toRat (r := x.dy) (by first | omega | (simp only [Lk.sz, R.sz]; omega))) (by (refine ew6 @B0 @B1 @B2 @lq @lfs @fc ?_; try with_reducible exact True.intro)) ?_
  intro r σ3 os g
  have lp := lq
  replace lq : 3 ≤ σ3.length := by have := g.len; simp at this; omega
  replace B0 := (g.old 0 (by simp; omega)).trans ((objAt_setne (by decide)).trans B0)
  replace B1 := (g.old 1 (by simp; omega)).trans ((objAt_setne (by decide)).trans B1)
  replace B2 := (g.old 2 (by simp; omega)).trans (objAt_seteq (by omega))
  replace O := (O.set (by decide)).got g (by simp; omega)
  obtain ⟨a2, d2, _, _, rfl, _, k1, k2⟩ := g.ow.rat_inv
  replace O := O.flat rfl
  have la := k1.leaf rfl
  have ld := k2.leaf rfl
  replace lfs := And.intro lfs (And.intro la ld)
  replace fc := fun q => cells_agg (cs := [.bool x.dy.neg, a2, d2]) (by simp [la, ld, show ∀ b, V.leaf (.bool b) = true from fun _ => rfl]) q
  clear g
  (refine ew6 @B0 @B1 @B2 @lq @lfs @fc ?_; try with_reducible exact True.intro)
  exact ((O.set (by decide)).set (by decide)).fin
theorem po_toLinkS {T : Nat → Option Fn} (h : D_laws_toLinkS T) {l : List Lk} (hl : szL Lk.sz l ≤ 1048576 := by first | omega | assumption | (simp; omega)) : PO T 21 [lksV l] (lksV l) := by
  have hll : l.length ≤ 1048576 := by unfold szL at hl; omega
  exact po_toS (cl := Lk.cells) (z := [iv 0, iv 0, .bool false, .nils, .nils, .bool false, .nils, .nils, .bool false, .nils, .nils]) (h.hT.trans rfl) (by decide) hll (fun x hx => ⟨rfl, st_Lk l _ (List.mem_map.2 ⟨x, hx, rfl⟩), rfl⟩) fun x hx => po_toLink h.d_laws_toLink (x := x) (szL_memb (f := Lk.sz) hl hx)
end Go.Ml
end
section
set_option linter.unusedSimpArgs false
set_option linter.unusedVariables false
namespace Go.Ml
structure Grow (s : Store) (v : V) (sz : Nat) (A ts : List (List V)) : Prop where
  ex : ∃ os, OwR s A ts os ∧ os.Nodup ∧ ((A = [] ∧ v = .nils) ∨ ∃ o, v = .msl o 0 A.length ∧ objAt s o = some ⟨sz, A⟩ ∧ o ∉ os)
section
variable {s s1 σ2 S : Store} {v : V} {sz : Nat} {A ts : List (List V)}
theorem Grow.len (h : Grow s v sz A ts) : A.length = ts.length := by obtain ⟨os, a, _⟩ := h.ex; exact a.len
theorem Grow.cases (h : Grow s v sz A ts) : (A = [] ∧ ts = [] ∧ v = .nils) ∨ ∃ o, v = .msl o 0 A.length ∧ objAt s o = some ⟨sz, A⟩ ∧ o < s.length := by
  have hl := h.len
  obtain ⟨os, a, b, c⟩ := h.ex
  rcases c with ⟨rfl, rfl⟩ | ⟨o, rfl, h1, h2⟩
  · exact .inl ⟨rfl, List.eq_nil_of_length_eq_zero (by simpa using hl.symm), rfl⟩
  · exact .inr ⟨o, rfl, h1, objAt_lt h1⟩
theorem Grow.frame (h : Grow s v sz A ts) (f : ∀ o, o < s.length → objAt S o = objAt s o) : Grow S v sz A ts := by
  obtain ⟨os, a, b, c⟩ := h.ex
  refine ⟨os, a.frame fun q hq => f q (a.lt q hq), b, ?_⟩
  rcases c with c | ⟨o, rfl, h1, h2⟩
  · exact .inl c
  · exact .inr ⟨o, rfl, (f o (objAt_lt h1)).trans h1, h2⟩
theorem Grow.fin (h : Grow s v sz A ts) : Fin s v (.sl sz ts) := by
  have hl := h.len
  obtain ⟨os, a, b, c⟩ := h.ex
  rcases c with ⟨rfl, rfl⟩ | ⟨o, rfl, h1, h2⟩
  · have : ts = [] := List.eq_nil_of_length_eq_zero (by simpa using hl.symm)
    subst this; exact fin_nil
  · rw [hl]
    refine fin_of (os := o :: os) ?_ (List.nodup_cons.2 ⟨h2, b⟩)
    simp only [OwV]
    exact .inr ⟨o, A, os, rfl, h1, rfl, a⟩
theorem Grow.app {cs tcs : List V} {os2 : List Nat} {id2 : Nat} (h : Grow s v sz A ts) (hs : ∀ o, o < s.length → objAt s1 o = objAt s o) (hl : s.length ≤ s1.length) (g : Got s1 σ2 (.agg cs) (.agg tcs) os2)
    (h0 : s.length ≤ id2) (hid : id2 < s1.length) (h2 : objAt S id2 = some ⟨sz, A ++ [cs]⟩)
    (hf : ∀ q, q ≠ id2 → (q < s.length ∨ s1.length ≤ q) → (∀ n, v ≠ .msl q 0 n) → objAt S q = objAt σ2 q) : Grow S (.msl id2 0 (A.length + 1)) sz (A ++ [cs]) (ts ++ [tcs]) := by
  obtain ⟨os, a, b, c⟩ := h.ex
  have a' := a.frame (σ' := σ2) fun q hq => by
    have := a.lt q hq
    rw [g.old q (by omega), hs q this]
  obtain ⟨cs', e, hc⟩ := g.ow.agg_inv
  cases e
  have hlt := a.lt
  have hv : ∀ q ∈ os ++ os2, ∀ n, v ≠ .msl q 0 n := by
    intro q hq n
    rcases c with ⟨_, rfl⟩ | ⟨o, rfl, h1, h2⟩
    · simp
    · intro e
      have e2 : o = q := by injection e
      rw [e2] at h1 h2
      rcases List.mem_append.1 hq with hq | hq
      · exact h2 hq
      · have := g.fresh q hq
        have := objAt_lt h1
        omega
  have hne : ∀ q ∈ os ++ os2, q ≠ id2 ∧ (q < s.length ∨ s1.length ≤ q) := by
    intro q hq
    rcases List.mem_append.1 hq with hq | hq
    · have := hlt q hq; exact ⟨by omega, by omega⟩
    · have := g.fresh q hq; exact ⟨by omega, by omega⟩
  have fr : ∀ q ∈ os ++ os2, objAt S q = objAt σ2 q := fun q hq => hf q (hne q hq).1 (hne q hq).2 (hv q hq)
  refine ⟨os ++ os2, owR_append (a'.frame fun q hq => fr q (List.mem_append_left _ hq)) (owR_1 (hc.frame fun q hq => fr q (List.mem_append_right _ hq))), ?_, .inr ⟨id2, by simp, h2, fun hm => (hne id2 hm).1 rfl⟩⟩
  rw [List.nodup_append]
  refine ⟨b, g.nd, fun x hx y hy e => ?_⟩
  have := hlt x hx
  have := g.fresh y hy
  omega
theorem objAt_app_lt {s t : Store} {o : Nat} (h : o < s.length) : objAt (s ++ t) o = objAt s o := by
  unfold objAt; rw [List.getElem?_append_left h]
end
theorem Got.finSet {s σ2 : Store} {r t : V} {os : List Nat} (g : Got s σ2 r t os) {o : Nat} {x : Option Obj} (h : o < s.length) : Fin (σ2.set o x) r t :=
  fin_of (g.ow.frame fun q hq => objAt_setne (by have := g.fresh q hq; omega)) g.nd
theorem brK_decT {c : Prop} [Decidable c] {a b : Prop} (h1 : c = True → a) (h2 : c = False → b) : brK (decide c) a b := brK_dec (fun h => h1 (eq_true h)) fun h => h2 (eq_false h)
theorem st1_Lk (x : Lk) : ∀ v ∈ x.cells, v.still = true := fun v hv => st_Lk [x] _ (by simp) v hv
end Go.Ml
end
section
set_option linter.unusedSimpArgs false
set_option linter.unusedVariables false
set_option maxRecDepth 100000
set_option maxHeartbeats 4000000
namespace Go.Ml
def F_impl_copyRat : Fn := ⟨1, 15, [.cell 2 3 true], (.seq (.reg false 2 [oN 1 (.box (.t 0)), oK 2 1 (.alloc [.bool false, .nils, .nils])]) (.seq (.reg true 0 [oN 3 (.fld 0 (.t 1)), oA 4 0 (.fld 0 (.t 3)) [0], oA 5 0 (.load 1 false (.t 4)) [1], oN 6 (.fld 0 (.t 1)), oA 7 0 (.fld 1 (.t 6)) [3], oA 8 0 (.load 1 false (.t 7)) [4], oA 9 0 (.call 139 [(.t 8)]) [5], oA 10 0 (.build [.bool false, .nils] [(0, 1, (.t 5)), (1, 1, (.t 9))]) [2, 6], oN 11 (.fld 2 (.t 1)), oA 12 0 (.load 1 false (.t 11)) [8], oA 13 0 (.call 139 [(.t 12)]) [9, 6], oA 14 0 (.build [.bool false, .nils, .nils] [(0, 2, (.t 10)), (2, 1, (.t 13))]) [7, 10], ⟨none, none, 0, .store 3 (.t 2) (.t 14), [11, 10, 0, 1, 2, 3, 4, 5, 6, 7, 8, 9, 10, 11]⟩]) .ret))⟩
structure D_impl_copyRat (T : Nat → Option Fn) : Prop where
  hT : T 145 = some F_impl_copyRat
  d_impl_copyInts : D_impl_copyInts T
def F_impl_copyLink : Fn := ⟨1, 17, [.cell 2 11 true], (.seq (.reg false 2 [oN 1 (.box (.t 0)), oK 2 1 (.alloc [.int .i64 0, .int .i64 0, .bool false, .nils, .nils, .bool false, .nils, .nils, .bool false, .nils, .nils])]) (.seq (.reg true 0 [oN 3 (.fld 0 (.t 1)), oA 4 0 (.load 1 false (.t 3)) [0], oN 5 (.fld 1 (.t 1)), oA 6 0 (.load 1 false (.t 5)) [2], oN 7 (.fld 2 (.t 1)), oA 8 0 (.load 3 true (.t 7)) [4], oA 9 0 (.call 145 [(.t 8)]) [5], oN 10 (.fld 5 (.t 1)), oA 11 0 (.load 3 true (.t 10)) [7], oA 12 0 (.call 145 [(.t 11)]) [8, 6], oN 13 (.fld 8 (.t 1)), oA 14 0 (.load 3 true (.t 13)) [10], oA 15 0 (.call 145 [(.t 14)]) [11, 9], oA 16 0 (.build [.int .i64 0, .int .i64 0, .bool false, .nils, .nils, .bool false, .nils, .nils, .bool false, .nils, .nils] [(0, 1, (.t 4)), (1, 1, (.t 6)), (2, 3, (.t 9)), (5, 3, (.t 12)), (8, 3, (.t 15))]) [1, 3, 6, 9, 12], ⟨none, none, 0, .store 11 (.t 2) (.t 16), [13, 12, 0, 1, 2, 3, 4, 5, 6, 7, 8, 9, 10, 11, 12, 13]⟩]) .ret))⟩
structure D_impl_copyLink (T : Nat → Option Fn) : Prop where
  hT : T 133 = some F_impl_copyLink
  d_impl_copyRat : D_impl_copyRat T
def F_impl_copyLinks : Fn := ⟨1, 20, [.tmp 2], (.seq (.reg false 0 [oN 2 (.mov (.c (.nils)))]) (.seq (.reg false 1 [oN 6 (.mkSl 11 [.int .i64 0, .int .i64 0, .bool false, .nils, .nils, .bool false, .nils, .nils, .bool false, .nils, .nils] 0 []), oK 3 1 (oV 6)]) (.seq (.seq (.reg false 0 [oN 7 (oV 0), oN 8 (.len (.t 7)), oN 9 (.mov (cI 0))]) (.block 0 (.loop (.seq (.reg false 0 [oN 10 (.bin .lss (.t 9) (.t 8))]) (.seq (.cond (.t 10) .skip (.exit 0)) (.seq (.block 1 (.seq (.reg false 1 [oK 11 1 (.idx 11 (.t 7) (.t 9)), oK 12 1 (.load 11 true (.t 11)), oN 5 (.alloc [.int .i64 0, .int .i64 0, .bool false, .nils, .nils, .bool false, .nils, .nils, .bool false, .nils, .nils]), ⟨none, none, 1, .store 11 (.t 5) (.t 12), []⟩]) (.reg false 2 [oK 13 2 (oV 3), oK 14 2 (.load 11 true (.t 5)), oK 15 2 (.call 133 [(.t 14)]), oN 16 (.mkSl 11 [.int .i64 0, .int .i64 0, .bool false, .nils, .nils, .bool false, .nils, .nils, .bool false, .nils, .nils] 1 [(0, (.t 15))]), oK 17 1 (.app 11 184 (.t 13) (.t 16)), oK 3 2 (oV 17)]))) (.reg false 0 [oN 18 (.bin .add (.t 9) (cI 1)), oN 9 (oV 18)]))))))) (.seq (.reg false 0 [oN 19 (oV 3), oN 2 (oV 19)]) .ret))))⟩
structure D_impl_copyLinks (T : Nat → Option Fn) : Prop where
  hT : T 110 = some F_impl_copyLinks
  d_impl_copyLink : D_impl_copyLink T
def F_impl_copyConditional : Fn := ⟨1, 40, [.cell 2 5 true], (.seq (.reg false 2 [oN 1 (.box (.t 0)), oK 2 1 (.alloc [.int .i64 0, .bool false, .nils, .nils, .nils])]) (.seq (.reg true 1 [oK 7 1 (.fld 0 (.t 1)), oA 8 1 (.load 1 false (.t 7)) [0], oK 9 1 (.fld 1 (.t 1)), oA 10 1 (.load 3 true (.t 9)) [2], oA 11 1 (.call 145 [(.t 10)]) [3], oA 12 1 (.build [.int .i64 0, .bool false, .nils, .nils, .nils] [(0, 1, (.t 8)), (1, 3, (.t 11))]) [1, 4], oN 3 (.alloc [.int .i64 0, .bool false, .nils, .nils, .nils]), ⟨none, none, 1, .store 5 (.t 3) (.t 12), [6, 5, 4, 0, 1, 2, 3, 4, 5, 6]⟩]) (.seq (.seq (.reg false 0 [oN 13 (.fld 4 (.t 1)), oN 14 (.load 1 false (.t 13)), oN 15 (.len (.t 14)), oN 16 (.mov (cI 0))]) (.block 0 (.loop (.seq (.reg false 0 [oN 17 (.bin .lss (.t 16) (.t 15))]) (.seq (.cond (.t 17) .skip (.exit 0)) (.seq (.block 1 (.seq (.reg false 1 [oK 18 1 (.idx 10 (.t 14) (.t 16)), oK 19 1 (.load 10 true (.t 18)), oN 5 (.alloc [.int .i64 0, .bool false, .nils, .nils, .bool false, .nils, .nils, .bool false, .nils, .nils]), ⟨none, none, 1, .store 10 (.t 5) (.t 19), []⟩]) (.seq (.reg true 1 [oK 20 1 (.fld 0 (.t 5)), oA 21 1 (.load 1 false (.t 20)) [0], oK 22 1 (.fld 1 (.t 5)), oA 23 1 (.load 3 true (.t 22)) [2], oA 24 1 (.call 145 [(.t 23)]) [3], oK 25 1 (.fld 4 (.t 5)), oA 26 1 (.load 3 true (.t 25)) [5], oA 27 1 (.call 145 [(.t 26)]) [6, 4], oK 28 1 (.fld 7 (.t 5)), oA 29 1 (.load 3 true (.t 28)) [8], oA 30 1 (.call 145 [(.t 29)]) [9, 7], oA 31 1 (.build [.int .i64 0, .bool false, .nils, .nils, .bool false, .nils, .nils, .bool false, .nils, .nils] [(0, 1, (.t 21)), (1, 3, (.t 24)), (4, 3, (.t 27)), (7, 3, (.t 30))]) [1, 4, 7, 10], oN 6 (.alloc [.int .i64 0, .bool false, .nils, .nils, .bool false, .nils, .nils, .bool false, .nils, .nils]), ⟨none, none, 1, .store 10 (.t 6) (.t 31), [12, 11, 10, 0, 1, 2, 3, 4, 5, 6, 7, 8, 9, 10, 11, 12]⟩]) (.reg false 2 [oK 32 2 (.fld 4 (.t 3)), oK 33 2 (.load 1 false (.t 32)), oK 34 2 (.load 10 true (.t 6)), oN 35 (.mkSl 10 [.int .i64 0, .bool false, .nils, .nils, .bool false, .nils, .nils, .bool false, .nils, .nils] 1 [(0, (.t 34))]), oK 36 1 (.app 10 176 (.t 33) (.t 35)), oK 37 2 (.fld 4 (.t 3)), ⟨none, none, 2, .store 1 (.t 37) (.t 36), []⟩])))) (.reg false 0 [oN 38 (.bin .add (.t 16) (cI 1)), oN 16 (oV 38)]))))))) (.seq (.reg false 0 [oN 39 (.load 5 true (.t 3)), oS (.store 5 (.t 2) (.t 39))]) .ret))))⟩
structure D_impl_copyConditional (T : Nat → Option Fn) : Prop where
  hT : T 183 = some F_impl_copyConditional
  d_impl_copyRat : D_impl_copyRat T
theorem po_copyRat {T : Nat → Option Fn} (h : D_impl_copyRat T) {r : R} (hl : r.sz ≤ 1048576 := by first | omega | assumption | (simp; omega)) : PO T 145 [ratV r] (ratV r) := by
  simp only [R.sz] at hl
  refine po_end2 (fun x d => x == 139) h.hT rfl rfl ?_
  dsimp only [F_impl_copyRat, oN, oS, oG, oK, oA, oH, oV, cI, St.enter, List.length_cons, List.length_nil, Nat.zero_add]
  (refine ew ?_; try with_reducible exact True.intro)
  have O := fun s : Store => (@ow_nil 2 s).bool r.neg
  refine OwnK_got0 (po_copyInts h.d_impl_copyInts (l := r.mag) (by omega)) (by (refine ew ?_; try with_reducible exact True.intro)) (by (refine ew ?_; try with_reducible exact True.intro)) ?_
  intro v1 σ1 o1 g
  have B1 := g.at 1 (by simp) rfl
  have B0 := g.at 0 (by simp) rfl
  have lq : 2 ≤ σ1.length := g.len
  have lf := g.lf rfl
  have lb := g.lfb rfl
  replace O := (O _).got g (by simp)
  (refine ew5 @B0 @B1 @lq @lf @lb ?_; try with_reducible exact True.intro)
  refine OwnK_got0 (po_copyInts h.d_impl_copyInts (l := r.den) (by omega)) (by (refine ew ?_; try with_reducible exact True.intro)) (by (refine ew ?_; try with_reducible exact True.intro)) ?_
  intro v2 σ2 o2 g2
  replace B1 := (g2.old 1 (by omega)).trans B1
  have lq2 : 2 ≤ σ2.length := by have := g2.len; omega
  have lf2 := g2.lf rfl
  have lb2 := g2.lfb rfl
  replace O := O.got g2 (by omega)
  (refine ew6 @B1 @lq2 @lf2 @lb2 @lf @lb ?_; try with_reducible exact True.intro)
  refine ⟨by unfold OkA; decide +kernel, ?_⟩
  (refine ew1 @lq2 ?_; try with_reducible exact True.intro)
  exact (O.set (by decide)).fin
theorem po_copyLink {T : Nat → Option Fn} (h : D_impl_copyLink T) {x : Lk} (hl : x.sz ≤ 1048576 := by first | omega | assumption | (simp; omega)) : PO T 133 [lkV x] (lkV x) := by
  simp only [Lk.sz, R.sz] at hl
  refine po_end2 (fun x d => x == 145) h.hT rfl rfl ?_
  dsimp only [F_impl_copyLink, oN, oS, oG, oK, oA, oH, oV, cI, St.enter, List.length_cons, List.length_nil, Nat.zero_add]
  (refine ew ?_; try with_reducible exact True.intro)
  have O := fun s : Store => @ow_nil 2 s
  replace O := fun s => (O s).int .i64 x.a
  replace O := fun s => (O s).int .i64 x.b
  refine OwnK_got0 (po_copyRat h.d_impl_copyRat (r := x.w) (by simp only [R.sz]; omega)) (by (refine ew ?_; try with_reducible exact True.intro)) (by (refine ew ?_; try with_reducible exact True.intro)) ?_
  intro r σ1 os g
  have lq : 2 ≤ σ1.length := g.len
  have B0 := g.at 0 (by simp) rfl
  have B1 := g.at 1 (by simp) rfl
  replace O := (O _).got g (by simp)
  obtain ⟨a0, d0, _, _, rfl, _, k1, k2⟩ := g.ow.rat_inv
  replace O := O.flat rfl
  have la := k1.leaf rfl
  have ld := k2.leaf rfl
  have lfs := And.intro la ld
  have fc := (fun q => cells_agg (cs := [.bool x.w.neg, a0, d0]) (by simp [la, ld, show ∀ b, V.leaf (.bool b) = true from fun _ => rfl]) q)
  clear g
  (refine ew5 @B0 @B1 @lq @lfs @fc ?_; try with_reducible exact True.intro)
  refine OwnK_got0 (po_copyRat h.d_impl_copyRat (r := x.dx) (by simp only [R.sz]; omega)) (by (refine ew5 @B0 @B1 @lq @lfs @fc ?_; try with_reducible exact True.intro)) (by (refine ew5 @B0 @B1 @lq @lfs @fc ?_; try with_reducible exact True.intro)) ?_
  intro r σ2 os g
  replace B0 := (g.old 0 (by omega)).trans B0
  replace B1 := (g.old 1 (by omega)).trans B1
  replace O := O.got g (by omega)
  replace lq : 2 ≤ σ2.length := by have := g.len; omega
  obtain ⟨a1, d1, _, _, rfl, _, k1, k2⟩ := g.ow.rat_inv
  replace O := O.flat rfl
  have la := k1.leaf rfl
  have ld := k2.leaf rfl
  replace lfs := And.intro lfs (And.intro la ld)
  replace fc := And.intro fc (fun q => cells_agg (cs := [.bool x.dx.neg, a1, d1]) (by simp [la, ld, show ∀ b, V.leaf (.bool b) = true from fun _ => rfl]) q)
  clear g
  (refine ew5 @B0 @B1 @lq @lfs @fc ?_; try with_reducible exact True.intro)
  refine OwnK_got0 (po_copyRat h.d_impl_copyRat (r := x.dy) (by simp only [R.sz]; omega)) (by (refine ew5 @B0 @B1 @lq @lfs @fc ?_; try with_reducible exact True.intro)) (by (refine ew5 @B0 @B1 @lq @lfs @fc ?_; try with_reducible exact True.intro)) ?_
  intro r σ3 os g
  replace B0 := (g.old 0 (by omega)).trans B0
  replace B1 := (g.old 1 (by omega)).trans B1
  replace O := O.got g (by omega)
  replace lq : 2 ≤ σ3.length := by have := g.len; omega
  obtain ⟨a2, d2, _, _, rfl, _, k1, k2⟩ := g.ow.rat_inv
  replace O := O.flat rfl
  have la := k1.leaf rfl
  have ld := k2.leaf rfl
  replace lfs := And.intro lfs (And.intro la ld)
  replace fc := And.intro fc (fun q => cells_agg (cs := [.bool x.dy.neg, a2, d2]) (by simp [la, ld, show ∀ b, V.leaf (.bool b) = true from fun _ => rfl]) q)
  clear g
  (refine ew5 @B0 @B1 @lq @lfs @fc ?_; try with_reducible exact True.intro)
  refine ⟨by unfold OkA; decide +kernel, ?_⟩
  (refine ew1 @lq ?_; try with_reducible exact True.intro)
  exact (O.set (by decide)).fin
end Go.Ml
end
section
set_option linter.unusedSimpArgs false
set_option linter.unusedVariables false
set_option maxRecDepth 100000
set_option maxHeartbeats 4000000
namespace Go.Ml
def F_spec_l04Copy : Fn := ⟨1, 17, [.cell 2 3 true], (.seq (.reg false 2 [oN 1 (.box (.t 0)), oK 2 1 (.alloc [.bool false, .nils, .nils])]) (.seq (.reg true 4 [oK 3 4 (.fld 0 (.t 1)), oA 4 4 (.fld 0 (.t 3)) [0], oA 5 4 (.load 1 false (.t 4)) [1], oN 6 (.mkSl 1 [.int .i64 0] 0 []), oK 7 4 (.fld 0 (.t 1)), oA 8 4 (.fld 1 (.t 7)) [4], oA 9 4 (.load 1 false (.t 8)) [5], oA 10 1 (.app 1 8 (.t 6) (.t 9)) [3, 6], oA 11 4 (.build [.bool false, .nils] [(0, 1, (.t 5)), (1, 1, (.t 10))]) [2, 7], oK 12 2 (.mkSl 1 [.int .i64 0] 0 []), oK 13 4 (.fld 2 (.t 1)), oA 14 4 (.load 1 false (.t 13)) [10], oA 15 3 (.app 1 8 (.t 12) (.t 14)) [9, 11, 7], oA 16 4 (.build [.bool false, .nils, .nils] [(0, 2, (.t 11)), (2, 1, (.t 15))]) [8, 12], ⟨none, none, 4, .store 3 (.t 2) (.t 16), [13, 12, 0, 1, 2, 3, 4, 5, 6, 7, 8, 9, 10, 11, 12, 13]⟩]) .ret))⟩
structure D_spec_l04Copy (T : Nat → Option Fn) : Prop where
  hT : T 204 = some F_spec_l04Copy
def F_spec_l06Copy : Fn := ⟨1, 17, [.cell 2 11 true], (.seq (.reg false 2 [oN 1 (.box (.t 0)), oK 2 1 (.alloc [.int .i64 0, .int .i64 0, .bool false, .nils, .nils, .bool false, .nils, .nils, .bool false, .nils, .nils])]) (.seq (.reg true 0 [oN 3 (.fld 0 (.t 1)), oA 4 0 (.load 1 false (.t 3)) [0], oN 5 (.fld 1 (.t 1)), oA 6 0 (.load 1 false (.t 5)) [2], oN 7 (.fld 2 (.t 1)), oA 8 0 (.load 3 true (.t 7)) [4], oA 9 0 (.call 204 [(.t 8)]) [5], oN 10 (.fld 5 (.t 1)), oA 11 0 (.load 3 true (.t 10)) [7], oA 12 0 (.call 204 [(.t 11)]) [8, 6], oN 13 (.fld 8 (.t 1)), oA 14 0 (.load 3 true (.t 13)) [10], oA 15 0 (.call 204 [(.t 14)]) [11, 9], oA 16 0 (.build [.int .i64 0, .int .i64 0, .bool false, .nils, .nils, .bool false, .nils, .nils, .bool false, .nils, .nils] [(0, 1, (.t 4)), (1, 1, (.t 6)), (2, 3, (.t 9)), (5, 3, (.t 12)), (8, 3, (.t 15))]) [1, 3, 6, 9, 12], ⟨none, none, 0, .store 11 (.t 2) (.t 16), [13, 12, 0, 1, 2, 3, 4, 5, 6, 7, 8, 9, 10, 11, 12, 13]⟩]) .ret))⟩
structure D_spec_l06Copy (T : Nat → Option Fn) : Prop where
  hT : T 197 = some F_spec_l06Copy
  d_spec_l04Copy : D_spec_l04Copy T
def F_spec_WithoutNode : Fn := ⟨2, 35, [.tmp 4], (.seq (.reg false 0 [oN 4 (.mov (.c (.nils)))]) (.seq (.reg false 1 [oN 8 (.mkSl 11 [.int .i64 0, .int .i64 0, .bool false, .nils, .nils, .bool false, .nils, .nils, .bool false, .nils, .nils] 0 []), oK 5 1 (oV 8)]) (.seq (.seq (.reg false 0 [oN 9 (oV 0), oN 10 (.call 193 [(.t 9)]), oN 11 (.un .not (.t 10))]) (.cond (.t 11) (.seq (.reg false 0 [oN 4 (.mov (.c (.nils)))]) .ret) .skip)) (.seq (.seq (.reg false 0 [oN 12 (oV 0), oN 13 (.len (.t 12)), oN 14 (.mov (cI 0))]) (.block 0 (.loop (.seq (.reg false 0 [oN 15 (.bin .lss (.t 14) (.t 13))]) (.seq (.cond (.t 15) .skip (.exit 0)) (.seq (.block 1 (.seq (.reg false 1 [oK 16 1 (.idx 11 (.t 12) (.t 14)), oK 17 1 (.load 11 true (.t 16)), oN 7 (.alloc [.int .i64 0, .int .i64 0, .bool false, .nils, .nils, .bool false, .nils, .nils, .bool false, .nils, .nils]), ⟨none, none, 1, .store 11 (.t 7) (.t 17), []⟩]) (.seq (.reg false 0 [oN 18 (.fld 0 (.t 7)), oN 19 (.load 1 false (.t 18)), oN 20 (oV 1), oN 21 (.bin .neq (.t 19) (.t 20)), oN 22 (oV 21), oG 22 true 23 (.fld 1 (.t 7)), oG 22 true 24 (.load 1 false (.t 23)), oG 22 true 25 (oV 1), oG 22 true 26 (.bin .neq (.t 24) (.t 25)), oN 27 (.pick (.t 22) (.t 26) (.c (.bool false)))]) (.cond (.t 27) (.reg false 2 [oK 28 2 (oV 5), oK 29 2 (.load 11 true (.t 7)), oK 30 2 (.call 197 [(.t 29)]), oN 31 (.mkSl 11 [.int .i64 0, .int .i64 0, .bool false, .nils, .nils, .bool false, .nils, .nils, .bool false, .nils, .nils] 1 [(0, (.t 30))]), oK 32 1 (.app 11 184 (.t 28) (.t 31)), oK 5 2 (oV 32)]) .skip)))) (.reg false 0 [oN 33 (.bin .add (.t 14) (cI 1)), oN 14 (oV 33)]))))))) (.seq (.reg false 0 [oN 34 (oV 5), oN 4 (oV 34)]) .ret)))))⟩
structure D_spec_WithoutNode (T : Nat → Option Fn) : Prop where
  hT : T 227 = some F_spec_WithoutNode
  d_spec_IsLinkSet : D_spec_IsLinkSet T
  d_spec_l06Copy : D_spec_l06Copy T
def F_impl_withoutNode : Fn := ⟨2, 31, [.tmp 4], (.seq (.reg false 0 [oN 4 (.mov (.c (.nils)))]) (.seq (.reg false 1 [oN 8 (.mkSl 11 [.int .i64 0, .int .i64 0, .bool false, .nils, .nils, .bool false, .nils, .nils, .bool false, .nils, .nils] 0 []), oK 5 1 (oV 8)]) (.seq (.seq (.reg false 0 [oN 9 (oV 0), oN 10 (.len (.t 9)), oN 11 (.mov (cI 0))]) (.block 0 (.loop (.seq (.reg false 0 [oN 12 (.bin .lss (.t 11) (.t 10))]) (.seq (.cond (.t 12) .skip (.exit 0)) (.seq (.block 1 (.seq (.reg false 1 [oK 13 1 (.idx 11 (.t 9) (.t 11)), oK 14 1 (.load 11 true (.t 13)), oN 7 (.alloc [.int .i64 0, .int .i64 0, .bool false, .nils, .nils, .bool false, .nils, .nils, .bool false, .nils, .nils]), ⟨none, none, 1, .store 11 (.t 7) (.t 14), []⟩]) (.seq (.reg false 0 [oN 15 (.fld 0 (.t 7)), oN 16 (.load 1 false (.t 15)), oN 17 (oV 1), oN 18 (.bin .neq (.t 16) (.t 17)), oN 19 (oV 18), oG 19 true 20 (.fld 1 (.t 7)), oG 19 true 21 (.load 1 false (.t 20)), oG 19 true 22 (oV 1), oG 19 true 23 (.bin .neq (.t 21) (.t 22)), oN 24 (.pick (.t 19) (.t 23) (.c (.bool false)))]) (.cond (.t 24) (.reg false 2 [oK 25 2 (oV 5), oK 26 2 (.load 11 true (.t 7)), oN 27 (.mkSl 11 [.int .i64 0, .int .i64 0, .bool false, .nils, .nils, .bool false, .nils, .nils, .bool false, .nils, .nils] 1 [(0, (.t 26))]), oK 28 1 (.app 11 184 (.t 25) (.t 27)), oK 5 2 (oV 28)]) .skip)))) (.reg false 0 [oN 29 (.bin .add (.t 11) (cI 1)), oN 11 (oV 29)]))))))) (.seq (.reg false 0 [oN 30 (oV 5), oN 4 (oV 30)]) .ret))))⟩
structure D_impl_withoutNode (T : Nat → Option Fn) : Prop where
  hT : T 241 = some F_impl_withoutNode
def F_impl_WithoutNode : Fn := ⟨2, 12, [.tmp 4], (.seq (.reg false 0 [oN 4 (.mov (.c (.nils)))]) (.seq (.seq (.reg false 0 [oN 5 (oV 0), oN 6 (.call 89 [(.t 5)]), oN 7 (.un .not (.t 6))]) (.cond (.t 7) (.seq (.reg false 0 [oN 4 (.mov (.c (.nils)))]) .ret) .skip)) (.seq (.reg false 0 [oN 8 (oV 0), oN 9 (oV 1), oN 10 (.call 241 [(.t 8), (.t 9)]), oN 11 (.call 110 [(.t 10)]), oN 4 (oV 11)]) .ret)))⟩
structure D_impl_WithoutNode (T : Nat → Option Fn) : Prop where
  hT : T 228 = some F_impl_WithoutNode
  d_impl_IsLinkSet : D_impl_IsLinkSet T
  d_impl_copyLinks : D_impl_copyLinks T
  d_impl_withoutNode : D_impl_withoutNode T
def F_spec_LinkOf : Fn := ⟨3, 46, [.cell 6 11 true, .tmp 7], (.seq (.reg false 1 [oN 6 (.alloc [.int .i64 0, .int .i64 0, .bool false, .nils, .nils, .bool false, .nils, .nils, .bool false, .nils, .nils]), oK 7 1 (.mov (.c (.bool false)))]) (.seq (.seq (.reg false 0 [oN 10 (oV 0), oN 11 (.call 193 [(.t 10)]), oN 12 (.un .not (.t 11))]) (.cond (.t 12) (.seq (.reg false 0 [oN 13 (.build [.int .i64 0, .int .i64 0, .bool false, .nils, .nils, .bool false, .nils, .nils, .bool false, .nils, .nils] []), oS (.store 11 (.t 6) (.t 13)), oN 7 (.mov (.c (.bool false)))]) .ret) .skip)) (.seq (.seq (.reg false 0 [oN 14 (oV 0), oN 15 (.len (.t 14)), oN 16 (.mov (cI 0))]) (.block 0 (.loop (.seq (.reg false 0 [oN 17 (.bin .lss (.t 16) (.t 15))]) (.seq (.cond (.t 17) .skip (.exit 0)) (.seq (.block 1 (.seq (.reg false 1 [oK 18 1 (.idx 11 (.t 14) (.t 16)), oK 19 1 (.load 11 true (.t 18)), oN 9 (.alloc [.int .i64 0, .int .i64 0, .bool false, .nils, .nils, .bool false, .nils, .nils, .bool false, .nils, .nils]), ⟨none, none, 1, .store 11 (.t 9) (.t 19), []⟩]) (.seq (.reg false 0 [oN 20 (.fld 0 (.t 9)), oN 21 (.load 1 false (.t 20)), oN 22 (oV 1), oN 23 (.bin .eql (.t 21) (.t 22)), oN 24 (oV 23), oG 24 true 25 (.fld 1 (.t 9)), oG 24 true 26 (.load 1 false (.t 25)), oG 24 true 27 (oV 2), oG 24 true 28 (.bin .eql (.t 26) (.t 27)), oN 29 (.pick (.t 24) (.t 28) (.c (.bool false))), oN 30 (oV 29), oG 30 false 31 (.fld 0 (.t 9)), oG 30 false 32 (.load 1 false (.t 31)), oG 30 false 33 (oV 2), oG 30 false 34 (.bin .eql (.t 32) (.t 33)), oG 30 false 35 (oV 34), oG 35 true 36 (.fld 1 (.t 9)), oG 35 true 37 (.load 1 false (.t 36)), oG 35 true 38 (oV 1), oG 35 true 39 (.bin .eql (.t 37) (.t 38)), oG 30 false 40 (.pick (.t 35) (.t 39) (.c (.bool false))), oN 41 (.pick (.t 30) (.c (.bool true)) (.t 40))]) (.cond (.t 41) (.seq (.reg false 0 [oN 42 (.load 11 true (.t 9)), oN 43 (.call 197 [(.t 42)]), oS (.store 11 (.t 6) (.t 43)), oN 7 (.mov (.c (.bool true)))]) .ret) .skip)))) (.reg false 0 [oN 44 (.bin .add (.t 16) (cI 1)), oN 16 (oV 44)]))))))) (.seq (.reg false 0 [oN 45 (.build [.int .i64 0, .int .i64 0, .bool false, .nils, .nils, .bool false, .nils, .nils, .bool false, .nils, .nils] []), oS (.store 11 (.t 6) (.t 45)), oN 7 (.mov (.c (.bool false)))]) .ret))))⟩
structure D_spec_LinkOf (T : Nat → Option Fn) : Prop where
  hT : T 225 = some F_spec_LinkOf
  d_spec_IsLinkSet : D_spec_IsLinkSet T
  d_spec_l06Copy : D_spec_l06Copy T
def F_impl_findLink : Fn := ⟨3, 41, [.cell 6 11 true, .tmp 7], (.seq (.reg false 1 [oN 6 (.alloc [.int .i64 0, .int .i64 0, .bool false, .nils, .nils, .bool false, .nils, .nils, .bool false, .nils, .nils]), oK 7 1 (.mov (.c (.bool false)))]) (.seq (.seq (.reg false 0 [oN 10 (oV 0), oN 11 (.len (.t 10)), oN 12 (.mov (cI 0))]) (.block 0 (.loop (.seq (.reg false 0 [oN 13 (.bin .lss (.t 12) (.t 11))]) (.seq (.cond (.t 13) .skip (.exit 0)) (.seq (.block 1 (.seq (.reg false 1 [oK 14 1 (.idx 11 (.t 10) (.t 12)), oK 15 1 (.load 11 true (.t 14)), oN 9 (.alloc [.int .i64 0, .int .i64 0, .bool false, .nils, .nils, .bool false, .nils, .nils, .bool false, .nils, .nils]), ⟨none, none, 1, .store 11 (.t 9) (.t 15), []⟩]) (.seq (.reg false 0 [oN 16 (.fld 0 (.t 9)), oN 17 (.load 1 false (.t 16)), oN 18 (oV 1), oN 19 (.bin .eql (.t 17) (.t 18)), oN 20 (oV 19), oG 20 true 21 (.fld 1 (.t 9)), oG 20 true 22 (.load 1 false (.t 21)), oG 20 true 23 (oV 2), oG 20 true 24 (.bin .eql (.t 22) (.t 23)), oN 25 (.pick (.t 20) (.t 24) (.c (.bool false))), oN 26 (oV 25), oG 26 false 27 (.fld 0 (.t 9)), oG 26 false 28 (.load 1 false (.t 27)), oG 26 false 29 (oV 2), oG 26 false 30 (.bin .eql (.t 28) (.t 29)), oG 26 false 31 (oV 30), oG 31 true 32 (.fld 1 (.t 9)), oG 31 true 33 (.load 1 false (.t 32)), oG 31 true 34 (oV 1), oG 31 true 35 (.bin .eql (.t 33) (.t 34)), oG 26 false 36 (.pick (.t 31) (.t 35) (.c (.bool false))), oN 37 (.pick (.t 26) (.c (.bool true)) (.t 36))]) (.cond (.t 37) (.seq (.reg false 0 [oN 38 (.load 11 true (.t 9)), oS (.store 11 (.t 6) (.t 38)), oN 7 (.mov (.c (.bool true)))]) .ret) .skip)))) (.reg false 0 [oN 39 (.bin .add (.t 12) (cI 1)), oN 12 (oV 39)]))))))) (.seq (.reg false 0 [oN 40 (.build [.int .i64 0, .int .i64 0, .bool false, .nils, .nils, .bool false, .nils, .nils, .bool false, .nils, .nils] []), oS (.store 11 (.t 6) (.t 40)), oN 7 (.mov (.c (.bool false)))]) .ret)))⟩
structure D_impl_findLink (T : Nat → Option Fn) : Prop where
  hT : T 240 = some F_impl_findLink
def F_impl_LinkOf : Fn := ⟨3, 26, [.cell 6 11 true, .tmp 7], (.seq (.reg false 1 [oN 6 (.alloc [.int .i64 0, .int .i64 0, .bool false, .nils, .nils, .bool false, .nils, .nils, .bool false, .nils, .nils]), oK 7 1 (.mov (.c (.bool false)))]) (.seq (.seq (.reg false 0 [oN 10 (oV 0), oN 11 (.call 89 [(.t 10)]), oN 12 (.un .not (.t 11))]) (.cond (.t 12) (.seq (.reg false 0 [oN 13 (.build [.int .i64 0, .int .i64 0, .bool false, .nils, .nils, .bool false, .nils, .nils, .bool false, .nils, .nils] []), oS (.store 11 (.t 6) (.t 13)), oN 7 (.mov (.c (.bool false)))]) .ret) .skip)) (.seq (.reg false 1 [oK 15 1 (oV 0), oK 16 1 (oV 1), oK 17 1 (oV 2), oK 18 1 (.call 240 [(.t 15), (.t 16), (.t 17)]), oK 14 1 (oV 18), oK 19 1 (.extr 0 (.t 14)), oK 20 1 (.extr 1 (.t 14)), oN 8 (.alloc [.int .i64 0, .int .i64 0, .bool false, .nils, .nils, .bool false, .nils, .nils, .bool false, .nils, .nils]), ⟨none, none, 1, .store 11 (.t 8) (.t 19), []⟩, oK 9 1 (oV 20)]) (.seq (.seq (.reg false 0 [oN 21 (oV 9), oN 22 (.un .not (.t 21))]) (.cond (.t 22) (.seq (.reg false 0 [oN 23 (.build [.int .i64 0, .int .i64 0, .bool false, .nils, .nils, .bool false, .nils, .nils, .bool false, .nils, .nils] []), oS (.store 11 (.t 6) (.t 23)), oN 7 (.mov (.c (.bool false)))]) .ret) .skip)) (.seq (.reg false 0 [oN 24 (.load 11 true (.t 8)), oN 25 (.call 133 [(.t 24)]), oS (.store 11 (.t 6) (.t 25)), oN 7 (.mov (.c (.bool true)))]) .ret)))))⟩
structure D_impl_LinkOf (T : Nat → Option Fn) : Prop where
  hT : T 226 = some F_impl_LinkOf
  d_impl_IsLinkSet : D_impl_IsLinkSet T
  d_impl_copyLink : D_impl_copyLink T
  d_impl_findLink : D_impl_findLink T
theorem lax_rat {r : R} {a b : V} (h1 : LaxV (ints r.mag) a) (h2 : LaxV (ints r.den) b) : LaxV (ratV r) (.agg [.bool r.neg, a, b]) := by
  simp only [LaxV_agg, LaxL_c, LaxL_n, LaxV_bool, true_and, and_true]
  exact ⟨h1, h2⟩
theorem lax_ints0 {l : List Int} (h : irows l = []) : LaxV (ints l) .nils := by
  show LaxV (.sl 1 (irows l)) .nils
  rw [h]; exact of_eq_true (LaxV_nil 1)
theorem c_l04Copy {T : Nat → Option Fn} (h : D_spec_l04Copy T) {r : R} (hl : r.sz ≤ 1048576 := by first | omega | assumption | (simp; omega)) : PF T 204 [ratV r] (ratV r) := by
  simp only [R.sz] at hl
  refine pf_endL (fun _ _ => false) h.hT rfl rfl ?_
  dsimp only [F_spec_l04Copy, oN, oS, oG, oK, oA, oH, oV, cI]
  (refine ev ?_; try with_reducible exact True.intro)
  refine ⟨fun e1 => ⟨fun e2 => ?_, fun e2 => ⟨by omega, ?_⟩⟩, fun e1 => ⟨by omega, fun e2 => ?_, fun e2 => ⟨by omega, ?_⟩⟩⟩
  · refine ⟨by unfold OkA; decide +kernel, ?_⟩
    exact lax_rat (lax_ints0 e1) (lax_ints0 e2)
  · refine ⟨by unfold OkA; decide +kernel, ?_⟩
    exact lax_rat (lax_ints0 e1) (laxV_refl _)
  · refine ⟨by unfold OkA; decide +kernel, ?_⟩
    exact lax_rat (laxV_refl _) (lax_ints0 e2)
  · refine ⟨by unfold OkA; decide +kernel, ?_⟩
    exact lax_rat (laxV_refl _) (laxV_refl _)
theorem c_l06Copy {T : Nat → Option Fn} (h : D_spec_l06Copy T) {x : Lk} (hl : x.sz ≤ 1048576 := by first | omega | assumption | (simp; omega)) : PF T 197 [lkV x] (lkV x) := by
  simp only [Lk.sz, R.sz] at hl
  refine pf_endL (fun _ _ => false) h.hT rfl rfl ?_
  dsimp only [F_spec_l06Copy, oN, oS, oG, oK, oA, oH, oV, cI]
  (refine ev ?_; try with_reducible exact True.intro)
  refine PFK_of (c_l04Copy h.d_spec_l04Copy (r := x.w) (by simp only [R.sz]; omega)) ?_
  (refine ev ?_; try with_reducible exact True.intro)
  refine PFK_of (c_l04Copy h.d_spec_l04Copy (r := x.dx) (by simp only [R.sz]; omega)) ?_
  (refine ev ?_; try with_reducible exact True.intro)
  refine PFK_of (c_l04Copy h.d_spec_l04Copy (r := x.dy) (by simp only [R.sz]; omega)) ?_
  (refine ev ?_; try with_reducible exact True.intro)
  refine ⟨by unfold OkA; decide +kernel, ?_⟩
  (refine ev ?_; try with_reducible exact True.intro)
  exact laxV_refl _
abbrev Lk0 : Lk := ⟨0, 0, R0, R0, R0⟩
theorem laxLk0 : LaxV (lkV Lk0) (.agg [iv 0, iv 0, .bool false, .nils, .nils, .bool false, .nils, .nils, .bool false, .nils, .nils]) := by
  show LaxV (.agg [iv 0, iv 0, .bool false, .sl 1 [], .sl 1 [], .bool false, .sl 1 [], .sl 1 [], .bool false, .sl 1 [], .sl 1 []]) _
  simp only [LaxV_agg, LaxL_c, LaxL_n, LaxV_bool, LaxV_int, LaxV_nil, and_true]
theorem lax_tup1 {v w : V} {b : Bool} (h : LaxV v w) : LaxV (.tup [v, .bool b]) (.tup [w, .bool b]) := by
  simp only [LaxV, LaxL]
  exact ⟨_, rfl, _, _, rfl, h, _, _, rfl, rfl, rfl⟩
theorem owV_Lk0 {σ : Store} : OwV σ (lkV Lk0) (lkV Lk0) [] := by
  refine owV_agg (owL_int (owL_int (owL_bool ?_)))
  have e : ∀ {vs ts : List V}, OwL σ vs ts [] → OwL σ (ints [] :: vs) (ints [] :: ts) [] := fun h => owL_v (o1 := []) owV_ints0 h
  exact e (e (owL_bool (e (e (owL_bool (e (e owL_nil)))))))
theorem fin_Lk0 {σ : Store} : Fin σ (.agg [iv 0, iv 0, .bool false, .nils, .nils, .bool false, .nils, .nils, .bool false, .nils, .nils]) (lkV Lk0) := ⟨_, [], laxLk0, owV_Lk0, .nil⟩
def lkP (a b : Int) (x : Lk) : Bool := (decide (x.a = a) && decide (x.b = b)) || (decide (x.a = b) && decide (x.b = a))
def fndL (l : List Lk) (a b : Int) : Option Lk := l.find? (lkP a b)
theorem fndL_t {l : List Lk} {a b : Int} {i : Nat} (hi : i < l.length) (hj : ∀ j, j < i → lkP a b (l.getD j default) = false) (h : lkP a b (l.getD i default) = true) : fndL l a b = some (l.getD i default) := by
  unfold fndL
  have : l = l.take i ++ l.getD i default :: l.drop (i + 1) := by
    conv => lhs; rw [← List.take_append_drop i l, List.drop_eq_getElem_cons hi]
    rw [getD_get hi]
  rw [this, List.find?_append, List.find?_cons, ← this, h]
  have : (l.take i).find? (lkP a b) = none := by
    rw [List.find?_eq_none]
    intro x hx
    obtain ⟨j, hj'⟩ := List.mem_iff_getElem?.1 hx
    have hlt := (List.getElem?_eq_some_iff.1 hj').1
    rw [List.length_take] at hlt
    have hlt' : j < i := by omega
    have := hj j hlt'
    rw [List.getElem?_take_of_lt hlt'] at hj'
    rw [List.getD_eq_getElem?_getD, hj'] at this
    simpa using this
  rw [this]; rfl
theorem fndL_f {l : List Lk} {a b : Int} (hj : ∀ j, j < l.length → lkP a b (l.getD j default) = false) : fndL l a b = none := by
  unfold fndL
  rw [List.find?_eq_none]
  intro x hx
  obtain ⟨j, hj'⟩ := List.mem_iff_getElem?.1 hx
  have hlt := (List.getElem?_eq_some_iff.1 hj').1
  have := hj j hlt
  rw [List.getD_eq_getElem?_getD, hj'] at this
  simpa using this
theorem fndL_mem {l : List Lk} {a b : Int} {x : Lk} (h : fndL l a b = some x) : x ∈ l := List.mem_of_find?_eq_some h
theorem c_findLink {T : Nat → Option Fn} (h : D_impl_findLink T) {l : List Lk} {a b : Int} (hl : l.length ≤ 1048576 := by first | omega | assumption | (simp; omega)) : PF T 240 [lksV l, iv a, iv b] (.tup [lkV ((fndL l a b).getD Lk0), .bool (fndL l a b).isSome]) := by
  refine pf_endL (fun _ _ => false) h.hT rfl rfl ?_
  dsimp only [F_impl_findLink, oN, oS, oG, oK, oA, oH, oV, cI]
  (refine ev ?_; try with_reducible exact True.intro)
  refine loop_at (fun _ _ => false) (α := Nat) (fun i => ⟨argE [.any, iv a, iv b, .any, .any, .any, .ptr 0 0 0, .any, .any, .any, lksV l, iv (l.length : Nat), iv (i : Nat)], [some ⟨11, [[iv 0, iv 0, .bool false, .nils, .nils, .bool false, .nils, .nils, .bool false, .nils, .nils]]⟩], 0, 0, [], []⟩) (fun i => i ≤ l.length ∧ ∀ j, j < i → lkP a b (l.getD j default) = false) (fun i => l.length - i) rfl 0 ?_ ?_ ?_
  · exact ⟨by omega, fun j hj => absurd hj (by omega)⟩
  · (refine Fg_env ?_) <;> (try (refine ev ?_; try with_reducible exact True.intro)) <;> (repeat' (first | refine ⟨?_, ?_⟩ | exact EvV_int (by omega) | exact EvV_of (by simp) | exact EvV_nil _))
  · rintro i ⟨hi, hj⟩
    by_cases hc : (i : Int) < (l.length : Nat)
    · have hil : i < l.length := by omega
      obtain ⟨y, hy⟩ : ∃ y, l.getD i default = y := ⟨_, rfl⟩
      (refine ev3 @hc @mg @hy ?_; try with_reducible exact True.intro)
      repeat' ((refine brK_decT (fun hb => ?_) fun hb => ?_) <;> (try (refine ev1 @hb ?_; try with_reducible exact True.intro)))
      all_goals simp only [eq_iff_iff, iff_true, iff_false] at *
      all_goals first
        | (exfalso; omega)
        | (have hn : ∀ j, j < i + 1 → lkP a b (l.getD j default) = false := fun j hj' => by
            by_cases e : j = i
            · rw [e, hy]; simp only [lkP, Bool.or_eq_false_iff, Bool.and_eq_false_iff, decide_eq_false_iff_not]; omega
            · exact hj j (by omega)
           exact ⟨i + 1, by omega, ⟨by omega, hn⟩, by (refine Fg_re [(0, _)] (by simp) (by intro p hp; simp only [List.mem_cons, List.not_mem_nil, or_false] at hp; rcases hp with rfl <;> refine ⟨rfl, ?_⟩ <;> first | exact ir_still _ | simp [stillR, V.still]) rfl ?_) <;> (try (refine ev ?_; try with_reducible exact True.intro)) <;> (repeat' (first | exact True.intro | omega | exact CanE_ptr rfl (by simp) | refine ⟨?_, ?_⟩ | exact of_eq_true (CanE_nil _ _ _) | exact CanE_of rfl (by simp; done) | exact CanE_of rfl rfl | (refine CanE_msl rfl ?_ rfl; simp [irows]; done) | (refine CanE_msl rfl ?_ rfl; simp [irows]; omega) | (refine CanE_frz ?_ ?_; (focus ((refine ev ?_; try with_reducible exact True.intro); done)); (intro q hq k s0 l0; simp; done))))⟩)
        | (have hm : lkP a b (l.getD i default) = true := by rw [hy]; simp only [lkP, Bool.or_eq_true, Bool.and_eq_true, decide_eq_true_eq]; omega
           rw [fndL_t hil hj hm, hy]
           simp only [Option.getD_some, Option.isSome_some]
           exact laxV_refl _)
    · have : i = l.length := by omega
      subst this
      rw [fndL_f hj]
      (refine ev1 @hc ?_; try with_reducible exact True.intro)
      simp only [Option.getD_none, Option.isSome_none]
      exact lax_tup1 laxLk0
end Go.Ml
end
section
set_option linter.unusedSimpArgs false
set_option linter.unusedVariables false
set_option maxRecDepth 100000
set_option maxHeartbeats 8000000
namespace Go.Ml
def lkOf (l : List Lk) (a b : Int) : Lk := if lksOk l = true then (fndL l a b).getD Lk0 else Lk0
def lkOfB (l : List Lk) (a b : Int) : Bool := lksOk l && (fndL l a b).isSome
theorem lkOf_sz {l : List Lk} {a b : Int} (h : szL Lk.sz l ≤ 1048576) : (lkOf l a b).sz ≤ 1048576 := by
  unfold lkOf
  split
  · cases hf : fndL l a b with
    | none => simp [Lk.sz, R.sz]
    | some x => exact szL_memb (f := Lk.sz) h (fndL_mem hf)
  · simp [Lk.sz, R.sz]
theorem lkOf_wf {l : List Lk} {a b : Int} (h : wfL Lk.wf l) : (lkOf l a b).wf := by
  have h0 : Lk0.wf := by simp [Lk.wf, R.wf]
  unfold lkOf
  split
  · cases hf : fndL l a b with
    | none => exact h0
    | some x => exact h.2 x (fndL_mem hf)
  · exact h0
theorem c_sLinkOf {T : Nat → Option Fn} (h : D_spec_LinkOf T) {l : List Lk} {a b : Int} (hw : wfL Lk.wf l := by first | omega | assumption | (simp; omega)) (hz : szL Lk.sz l ≤ 1048576 := by first | omega | assumption | (simp; omega)) : PF T 225 [lksV l, iv a, iv b] (.tup [lkV (lkOf l a b), .bool (lkOfB l a b)]) := by
  have hl : l.length ≤ 1048576 := by have := szL_eq Lk.sz l; omega
  have ci := c_sIsLinkSet h.d_spec_IsLinkSet hw
  unfold lkOf lkOfB
  cases hb : lksOk l
  · rw [hb] at ci
    refine pf_endL (fun _ _ => false) h.hT rfl rfl ?_
    dsimp only [F_spec_LinkOf, oN, oS, oG, oK, oA, oH, oV, cI]
    (refine ev ?_; try with_reducible exact True.intro)
    refine PFK_of ci ?_
    (refine ev ?_; try with_reducible exact True.intro)
    exact lax_tup1 laxLk0
  rw [hb] at ci
  simp only [Bool.true_and, if_true]
  refine pf_endL (fun _ _ => false) h.hT rfl rfl ?_
  dsimp only [F_spec_LinkOf, oN, oS, oG, oK, oA, oH, oV, cI]
  (refine ev ?_; try with_reducible exact True.intro)
  refine PFK_of ci ?_
  (refine ev ?_; try with_reducible exact True.intro)
  refine loop_at (fun _ _ => false) (α := Nat) (fun i => ⟨argE [.any, iv a, iv b, .any, .any, .any, .ptr 0 0 0, .any, .any, .any, .any, .any, .any, .any, lksV l, iv (l.length : Nat), iv (i : Nat)], [some ⟨11, [[iv 0, iv 0, .bool false, .nils, .nils, .bool false, .nils, .nils, .bool false, .nils, .nils]]⟩], 0, 0, [], []⟩) (fun i => i ≤ l.length ∧ ∀ j, j < i → lkP a b (l.getD j default) = false) (fun i => l.length - i) rfl 0 ?_ ?_ ?_
  · exact ⟨by omega, fun j hj => absurd hj (by omega)⟩
  · (refine Fg_env ?_) <;> (try (refine ev ?_; try with_reducible exact True.intro)) <;> (repeat' (first | refine ⟨?_, ?_⟩ | exact EvV_int (by omega) | exact EvV_of (by simp) | exact EvV_nil _))
  · rintro i ⟨hi, hj⟩
    by_cases hc : (i : Int) < (l.length : Nat)
    · have hil : i < l.length := by omega
      have hys := szL_memb (f := Lk.sz) hz (getD_mem hil)
      obtain ⟨y, hy⟩ : ∃ y, l.getD i default = y := ⟨_, rfl⟩
      rw [hy] at hys
      have cc := c_l06Copy h.d_spec_l06Copy hys
      (refine ev3 @hc @mg @hy ?_; try with_reducible exact True.intro)
      repeat' ((refine brK_decT (fun hb => ?_) fun hb => ?_) <;> (try (refine ev1 @hb ?_; try with_reducible exact True.intro)))
      all_goals simp only [eq_iff_iff, iff_true, iff_false] at *
      all_goals first
        | (exfalso; omega)
        | (have hn : ∀ j, j < i + 1 → lkP a b (l.getD j default) = false := fun j hj' => by
            by_cases e : j = i
            · rw [e, hy]; simp only [lkP, Bool.or_eq_false_iff, Bool.and_eq_false_iff, decide_eq_false_iff_not]; omega
            · exact hj j (by omega)
           exact ⟨i + 1, by omega, ⟨by omega, hn⟩, by (refine Fg_re [(0, _)] (by simp) (by intro p hp; simp only [List.mem_cons, List.not_mem_nil, or_false] at hp; rcases hp with rfl <;> refine ⟨rfl, ?_⟩ <;> first | exact ir_still _ | simp [stillR, V.still]) rfl ?_) <;> (try (refine ev ?_; try with_reducible exact True.intro)) <;> (repeat' (first | exact True.intro | omega | exact CanE_ptr rfl (by simp) | refine ⟨?_, ?_⟩ | exact of_eq_true (CanE_nil _ _ _) | exact CanE_of rfl (by simp; done) | exact CanE_of rfl rfl | (refine CanE_msl rfl ?_ rfl; simp [irows]; done) | (refine CanE_msl rfl ?_ rfl; simp [irows]; omega) | (refine CanE_frz ?_ ?_; (focus ((refine ev ?_; try with_reducible exact True.intro); done)); (intro q hq k s0 l0; simp; done))))⟩)
        | (have hm : lkP a b (l.getD i default) = true := by rw [hy]; simp only [lkP, Bool.or_eq_true, Bool.and_eq_true, decide_eq_true_eq]; omega
           rw [fndL_t hil hj hm, hy]
           simp only [Option.getD_some, Option.isSome_some]
           refine PFK_of cc ?_
           (refine ev ?_; try with_reducible exact True.intro)
           exact laxV_refl _)
    · have : i = l.length := by omega
      subst this
      rw [fndL_f hj]
      (refine ev1 @hc ?_; try with_reducible exact True.intro)
      simp only [Option.getD_none, Option.isSome_none]
      exact lax_tup1 laxLk0
theorem po_iLinkOf {T : Nat → Option Fn} (h : D_impl_LinkOf T) {l : List Lk} {a b : Int} (hw : wfL Lk.wf l := by first | omega | assumption | (simp; omega)) (hz : szL Lk.sz l ≤ 1048576 := by first | omega | assumption | (simp; omega)) : PO T 226 [lksV l, iv a, iv b] (.tup [lkV (lkOf l a b), .bool (lkOfB l a b)]) := by
  have hl : l.length ≤ 1048576 := by have := szL_eq Lk.sz l; omega
  have ci := c_iIsLinkSet h.d_impl_IsLinkSet hw
  have cf := c_findLink h.d_impl_findLink (a := a) (b := b) hl
  unfold lkOf lkOfB
  cases hb : lksOk l
  · rw [hb] at ci
    refine po_end2 (fun x d => x == 133) h.hT rfl rfl ?_
    dsimp only [F_impl_LinkOf, oN, oS, oG, oK, oA, oH, oV, cI, St.enter, List.length_cons, List.length_nil, Nat.zero_add]
    (refine ew ?_; try with_reducible exact True.intro)
    refine PFK_of ci ?_
    (refine ew ?_; try with_reducible exact True.intro)
    exact fin_Lk0.tup1
  rw [hb] at ci
  simp only [Bool.true_and, if_true]
  cases hf : fndL l a b with
  | none =>
    rw [hf] at cf
    simp only [Option.getD_none, Option.isSome_none] at cf ⊢
    refine po_end2 (fun x d => x == 133) h.hT rfl rfl ?_
    dsimp only [F_impl_LinkOf, oN, oS, oG, oK, oA, oH, oV, cI, St.enter, List.length_cons, List.length_nil, Nat.zero_add]
    (refine ew ?_; try with_reducible exact True.intro)
    refine PFK_of ci ?_
    (refine ew ?_; try with_reducible exact True.intro)
    refine PFK_of cf ?_
    (refine ew ?_; try with_reducible exact True.intro)
    exact fin_Lk0.tup1
  | some y =>
    have hys := szL_memb (f := Lk.sz) hz (fndL_mem hf)
    rw [hf] at cf
    simp only [Option.getD_some, Option.isSome_some] at cf ⊢
    have e4 : ∀ σ : Store, resolve σ FD (lkV y) = some (lkV y) := fun σ => res_agg_still (st1_Lk y)
    refine po_end2 (fun x d => x == 133) h.hT rfl rfl ?_
    dsimp only [F_impl_LinkOf, oN, oS, oG, oK, oA, oH, oV, cI, St.enter, List.length_cons, List.length_nil, Nat.zero_add]
    (refine ew ?_; try with_reducible exact True.intro)
    refine PFK_of ci ?_
    (refine ew ?_; try with_reducible exact True.intro)
    refine PFK_of cf ?_
    (refine ew ?_; try with_reducible exact True.intro)
    refine RefK_got (po_copyLink h.d_impl_copyLink hys) (by (refine ew1 @e4 ?_; try with_reducible exact True.intro)) ?_
    intro r σ2 os g
    obtain ⟨cs, rfl, k1⟩ := g.ow.agg_inv
    have g0 := g.at 0 (by simp) rfl
    have gl : 1 ≤ σ2.length := by have := g.len; simp at this; omega
    have lf := cells_agg (k1.leaf rfl)
    have cl1 : cs.length = 11 := k1.len
    (refine ew4 @lf @cl1 @gl @g0 ?_; try with_reducible exact True.intro)
    exact (g.finSet (by simp)).tup1
end Go.Ml
end
section
set_option linter.unusedSimpArgs false
set_option linter.unusedVariables false
set_option maxRecDepth 100000
set_option maxHeartbeats 4000000
namespace Go.Ml
def F_laws_heldRatS : Fn := ⟨2, 44, [.tmp 4], (.seq (.reg false 0 [oN 4 (.mov (cI 0))]) (.seq (.seq (.reg false 0 [oN 5 (.mov (cI 0))]) (.block 0 (.loop (.seq (.seq (.reg false 0 [oN 6 (oV 5), oN 7 (oV 0), oN 8 (.len (.t 7)), oN 9 (.bin .lss (.t 6) (.t 8))]) (.cond (.t 9) .skip (.exit 0))) (.seq (.block 1 (.seq (.seq (.reg false 0 [oN 12 (oV 0), oN 13 (oV 5), oN 14 (.idx 3 (.t 12) (.t 13)), oN 15 (.fld 0 (.t 14)), oN 16 (.fld 0 (.t 15)), oN 17 (.load 1 false (.t 16)), oN 18 (oV 1), oN 19 (.bin .rem (.t 18) (cI 3)), oN 20 (.bin .eql (.t 19) (cI 0)), oN 21 (.beq true (.t 17) (.t 20))]) (.cond (.t 21) (.seq (.reg false 0 [oN 4 (.mov (cI (-1)))]) .ret) .skip)) (.seq (.reg false 0 [oN 22 (oV 1), oN 23 (.bin .add (.t 22) (cI 1)), oN 1 (oV 23)]) (.seq (.reg false 0 [oN 24 (oV 0), oN 25 (oV 5), oN 26 (.idx 3 (.t 24) (.t 25)), oN 27 (.fld 0 (.t 26)), oN 28 (.fld 1 (.t 27)), oN 29 (.load 1 false (.t 28)), oN 30 (oV 1), oN 31 (.call 59 [(.t 29), (.t 30)]), oN 1 (oV 31)]) (.seq (.seq (.reg false 0 [oN 32 (oV 1), oN 33 (.bin .lss (.t 32) (cI 0))]) (.cond (.t 33) (.seq (.reg false 0 [oN 4 (.mov (cI (-1)))]) .ret) .skip)) (.seq (.reg false 0 [oN 34 (oV 0), oN 35 (oV 5), oN 36 (.idx 3 (.t 34) (.t 35)), oN 37 (.fld 2 (.t 36)), oN 38 (.load 1 false (.t 37)), oN 39 (oV 1), oN 40 (.call 59 [(.t 38), (.t 39)]), oN 1 (oV 40)]) (.seq (.reg false 0 [oN 41 (oV 1), oN 42 (.bin .lss (.t 41) (cI 0))]) (.cond (.t 42) (.seq (.reg false 0 [oN 4 (.mov (cI (-1)))]) .ret) .skip)))))))) (.reg false 0 [oN 10 (oV 5), oN 11 (.bin .add (.t 10) (cI 1)), oN 5 (oV 11)])))))) (.seq (.reg false 0 [oN 43 (oV 1), oN 4 (oV 43)]) .ret)))⟩
structure D_laws_heldRatS (T : Nat → Option Fn) : Prop where
  hT : T 313 = some F_laws_heldRatS
  d_laws_heldIntS : D_laws_heldIntS T
def F_laws_heldLinkS : Fn := ⟨2, 133, [.tmp 4], (.seq (.reg false 0 [oN 4 (.mov (cI 0))]) (.seq (.seq (.reg false 0 [oN 5 (.mov (cI 0))]) (.block 0 (.loop (.seq (.seq (.reg false 0 [oN 6 (oV 5), oN 7 (oV 0), oN 8 (.len (.t 7)), oN 9 (.bin .lss (.t 6) (.t 8))]) (.cond (.t 9) .skip (.exit 0))) (.seq (.block 1 (.seq (.seq (.reg false 0 [oN 12 (oV 0), oN 13 (oV 5), oN 14 (.idx 11 (.t 12) (.t 13)), oN 15 (.fld 0 (.t 14)), oN 16 (.load 1 false (.t 15)), oN 17 (oV 1), oN 18 (.bin .neq (.t 16) (.t 17))]) (.cond (.t 18) (.seq (.reg false 0 [oN 4 (.mov (cI (-1)))]) .ret) .skip)) (.seq (.reg false 0 [oN 19 (oV 1), oN 20 (.bin .add (.t 19) (cI 1)), oN 1 (oV 20)]) (.seq (.seq (.reg false 0 [oN 21 (oV 0), oN 22 (oV 5), oN 23 (.idx 11 (.t 21) (.t 22)), oN 24 (.fld 1 (.t 23)), oN 25 (.load 1 false (.t 24)), oN 26 (oV 1), oN 27 (.bin .neq (.t 25) (.t 26))]) (.cond (.t 27) (.seq (.reg false 0 [oN 4 (.mov (cI (-1)))]) .ret) .skip)) (.seq (.reg false 0 [oN 28 (oV 1), oN 29 (.bin .add (.t 28) (cI 1)), oN 1 (oV 29)]) (.seq (.seq (.reg false 0 [oN 30 (oV 0), oN 31 (oV 5), oN 32 (.idx 11 (.t 30) (.t 31)), oN 33 (.fld 2 (.t 32)), oN 34 (.fld 0 (.t 33)), oN 35 (.fld 0 (.t 34)), oN 36 (.load 1 false (.t 35)), oN 37 (oV 1), oN 38 (.bin .rem (.t 37) (cI 3)), oN 39 (.bin .eql (.t 38) (cI 0)), oN 40 (.beq true (.t 36) (.t 39))]) (.cond (.t 40) (.seq (.reg false 0 [oN 4 (.mov (cI (-1)))]) .ret) .skip)) (.seq (.reg false 0 [oN 41 (oV 1), oN 42 (.bin .add (.t 41) (cI 1)), oN 1 (oV 42)]) (.seq (.reg false 0 [oN 43 (oV 0), oN 44 (oV 5), oN 45 (.idx 11 (.t 43) (.t 44)), oN 46 (.fld 2 (.t 45)), oN 47 (.fld 0 (.t 46)), oN 48 (.fld 1 (.t 47)), oN 49 (.load 1 false (.t 48)), oN 50 (oV 1), oN 51 (.call 59 [(.t 49), (.t 50)]), oN 1 (oV 51)]) (.seq (.seq (.reg false 0 [oN 52 (oV 1), oN 53 (.bin .lss (.t 52) (cI 0))]) (.cond (.t 53) (.seq (.reg false 0 [oN 4 (.mov (cI (-1)))]) .ret) .skip)) (.seq (.reg false 0 [oN 54 (oV 0), oN 55 (oV 5), oN 56 (.idx 11 (.t 54) (.t 55)), oN 57 (.fld 2 (.t 56)), oN 58 (.fld 2 (.t 57)), oN 59 (.load 1 false (.t 58)), oN 60 (oV 1), oN 61 (.call 59 [(.t 59), (.t 60)]), oN 1 (oV 61)]) (.seq (.seq (.reg false 0 [oN 62 (oV 1), oN 63 (.bin .lss (.t 62) (cI 0))]) (.cond (.t 63) (.seq (.reg false 0 [oN 4 (.mov (cI (-1)))]) .ret) .skip)) (.seq (.seq (.reg false 0 [oN 64 (oV 0), oN 65 (oV 5), oN 66 (.idx 11 (.t 64) (.t 65)), oN 67 (.fld 5 (.t 66)), oN 68 (.fld 0 (.t 67)), oN 69 (.fld 0 (.t 68)), oN 70 (.load 1 false (.t 69)), oN 71 (oV 1), oN 72 (.bin .rem (.t 71) (cI 3)), oN 73 (.bin .eql (.t 72) (cI 0)), oN 74 (.beq true (.t 70) (.t 73))]) (.cond (.t 74) (.seq (.reg false 0 [oN 4 (.mov (cI (-1)))]) .ret) .skip)) (.seq (.reg false 0 [oN 75 (oV 1), oN 76 (.bin .add (.t 75) (cI 1)), oN 1 (oV 76)]) (.seq (.reg false 0 [oN 77 (oV 0), oN 78 (oV 5), oN 79 (.idx 11 (.t 77) (.t 78)), oN 80 (.fld 5 (.t 79)), oN 81 (.fld 0 (.t 80)), oN 82 (.fld 1 (.t 81)), oN 83 (.load 1 false (.t 82)), oN 84 (oV 1), oN 85 (.call 59 [(.t 83), (.t 84)]), oN 1 (oV 85)]) (.seq (.seq (.reg false 0 [oN 86 (oV 1), oN 87 (.bin .lss (.t 86) (cI 0))]) (.cond (.t 87) (.seq (.reg false 0 [oN 4 (.mov (cI (-1)))]) .ret) .skip)) (.seq (.reg false 0 [oN 88 (oV 0), oN 89 (oV 5), oN 90 (.idx 11 (.t 88) (.t 89)), oN 91 (.fld 5 (.t 90)), oN 92 (.fld 2 (.t 91)), oN 93 (.load 1 false (.t 92)), oN 94 (oV 1), oN 95 (.call 59 [(.t 93), (.t 94)]), oN 1 (oV 95)]) (.seq (.seq (.reg false 0 [oN 96 (oV 1), oN 97 (.bin .lss (.t 96) (cI 0))]) (.cond (.t 97) (.seq (.reg false 0 [oN 4 (.mov (cI (-1)))]) .ret) .skip)) (.seq (.seq (.reg false 0 [oN 98 (oV 0), oN 99 (oV 5), oN 100 (.idx 11 (.t 98) (.t 99)), oN 101 (.fld 8 (.t 100)), oN 102 (.fld 0 (.t 101)), oN 103 (.fld 0 (.t 102)), oN 104 (.load 1 false (.t 103)), oN 105 (oV 1), oN 106 (.bin .rem (.t 105) (cI 3)), oN 107 (.bin .eql (.t 106) (cI 0)), oN 108 (.beq true (.t 104) (.t 107))]) (.cond (.t 108) (.seq (.reg false 0 [oN 4 (.mov (cI (-1)))]) .ret) .skip)) (.seq (.reg false 0 [oN 109 (oV 1), oN 110 (.bin .add (.t 109) (cI 1)), oN 1 (oV 110)]) (.seq (.reg false 0 [oN 111 (oV 0), oN 112 (oV 5), oN 113 (.idx 11 (.t 111) (.t 112)), oN 114 (.fld 8 (.t 113)), oN 115 (.fld 0 (.t 114)), oN 116 (.fld 1 (.t 115)), oN 117 (.load 1 false (.t 116)), oN 118 (oV 1), oN 119 (.call 59 [(.t 117), (.t 118)]), oN 1 (oV 119)]) (.seq (.seq (.reg false 0 [oN 120 (oV 1), oN 121 (.bin .lss (.t 120) (cI 0))]) (.cond (.t 121) (.seq (.reg false 0 [oN 4 (.mov (cI (-1)))]) .ret) .skip)) (.seq (.reg false 0 [oN 122 (oV 0), oN 123 (oV 5), oN 124 (.idx 11 (.t 122) (.t 123)), oN 125 (.fld 8 (.t 124)), oN 126 (.fld 2 (.t 125)), oN 127 (.load 1 false (.t 126)), oN 128 (oV 1), oN 129 (.call 59 [(.t 127), (.t 128)]), oN 1 (oV 129)]) (.seq (.reg false 0 [oN 130 (oV 1), oN 131 (.bin .lss (.t 130) (cI 0))]) (.cond (.t 131) (.seq (.reg false 0 [oN 4 (.mov (cI (-1)))]) .ret) .skip)))))))))))))))))))))))) (.reg false 0 [oN 10 (oV 5), oN 11 (.bin .add (.t 10) (cI 1)), oN 5 (oV 11)])))))) (.seq (.reg false 0 [oN 132 (oV 1), oN 4 (oV 132)]) .ret)))⟩
structure D_laws_heldLinkS (T : Nat → Option Fn) : Prop where
  hT : T 229 = some F_laws_heldLinkS
  d_laws_heldIntS : D_laws_heldIntS T
def F_laws_heldParentS : Fn := ⟨2, 124, [.tmp 4], (.seq (.reg false 0 [oN 4 (.mov (cI 0))]) (.seq (.seq (.reg false 0 [oN 5 (.mov (cI 0))]) (.block 0 (.loop (.seq (.seq (.reg false 0 [oN 6 (oV 5), oN 7 (oV 0), oN 8 (.len (.t 7)), oN 9 (.bin .lss (.t 6) (.t 8))]) (.cond (.t 9) .skip (.exit 0))) (.seq (.block 1 (.seq (.seq (.reg false 0 [oN 12 (oV 0), oN 13 (oV 5), oN 14 (.idx 10 (.t 12) (.t 13)), oN 15 (.fld 0 (.t 14)), oN 16 (.load 1 false (.t 15)), oN 17 (oV 1), oN 18 (.bin .neq (.t 16) (.t 17))]) (.cond (.t 18) (.seq (.reg false 0 [oN 4 (.mov (cI (-1)))]) .ret) .skip)) (.seq (.reg false 0 [oN 19 (oV 1), oN 20 (.bin .add (.t 19) (cI 1)), oN 1 (oV 20)]) (.seq (.seq (.reg false 0 [oN 21 (oV 0), oN 22 (oV 5), oN 23 (.idx 10 (.t 21) (.t 22)), oN 24 (.fld 1 (.t 23)), oN 25 (.fld 0 (.t 24)), oN 26 (.fld 0 (.t 25)), oN 27 (.load 1 false (.t 26)), oN 28 (oV 1), oN 29 (.bin .rem (.t 28) (cI 3)), oN 30 (.bin .eql (.t 29) (cI 0)), oN 31 (.beq true (.t 27) (.t 30))]) (.cond (.t 31) (.seq (.reg false 0 [oN 4 (.mov (cI (-1)))]) .ret) .skip)) (.seq (.reg false 0 [oN 32 (oV 1), oN 33 (.bin .add (.t 32) (cI 1)), oN 1 (oV 33)]) (.seq (.reg false 0 [oN 34 (oV 0), oN 35 (oV 5), oN 36 (.idx 10 (.t 34) (.t 35)), oN 37 (.fld 1 (.t 36)), oN 38 (.fld 0 (.t 37)), oN 39 (.fld 1 (.t 38)), oN 40 (.load 1 false (.t 39)), oN 41 (oV 1), oN 42 (.call 59 [(.t 40), (.t 41)]), oN 1 (oV 42)]) (.seq (.seq (.reg false 0 [oN 43 (oV 1), oN 44 (.bin .lss (.t 43) (cI 0))]) (.cond (.t 44) (.seq (.reg false 0 [oN 4 (.mov (cI (-1)))]) .ret) .skip)) (.seq (.reg false 0 [oN 45 (oV 0), oN 46 (oV 5), oN 47 (.idx 10 (.t 45) (.t 46)), oN 48 (.fld 1 (.t 47)), oN 49 (.fld 2 (.t 48)), oN 50 (.load 1 false (.t 49)), oN 51 (oV 1), oN 52 (.call 59 [(.t 50), (.t 51)]), oN 1 (oV 52)]) (.seq (.seq (.reg false 0 [oN 53 (oV 1), oN 54 (.bin .lss (.t 53) (cI 0))]) (.cond (.t 54) (.seq (.reg false 0 [oN 4 (.mov (cI (-1)))]) .ret) .skip)) (.seq (.seq (.reg false 0 [oN 55 (oV 0), oN 56 (oV 5), oN 57 (.idx 10 (.t 55) (.t 56)), oN 58 (.fld 4 (.t 57)), oN 59 (.fld 0 (.t 58)), oN 60 (.fld 0 (.t 59)), oN 61 (.load 1 false (.t 60)), oN 62 (oV 1), oN 63 (.bin .rem (.t 62) (cI 3)), oN 64 (.bin .eql (.t 63) (cI 0)), oN 65 (.beq true (.t 61) (.t 64))]) (.cond (.t 65) (.seq (.reg false 0 [oN 4 (.mov (cI (-1)))]) .ret) .skip)) (.seq (.reg false 0 [oN 66 (oV 1), oN 67 (.bin .add (.t 66) (cI 1)), oN 1 (oV 67)]) (.seq (.reg false 0 [oN 68 (oV 0), oN 69 (oV 5), oN 70 (.idx 10 (.t 68) (.t 69)), oN 71 (.fld 4 (.t 70)), oN 72 (.fld 0 (.t 71)), oN 73 (.fld 1 (.t 72)), oN 74 (.load 1 false (.t 73)), oN 75 (oV 1), oN 76 (.call 59 [(.t 74), (.t 75)]), oN 1 (oV 76)]) (.seq (.seq (.reg false 0 [oN 77 (oV 1), oN 78 (.bin .lss (.t 77) (cI 0))]) (.cond (.t 78) (.seq (.reg false 0 [oN 4 (.mov (cI (-1)))]) .ret) .skip)) (.seq (.reg false 0 [oN 79 (oV 0), oN 80 (oV 5), oN 81 (.idx 10 (.t 79) (.t 80)), oN 82 (.fld 4 (.t 81)), oN 83 (.fld 2 (.t 82)), oN 84 (.load 1 false (.t 83)), oN 85 (oV 1), oN 86 (.call 59 [(.t 84), (.t 85)]), oN 1 (oV 86)]) (.seq (.seq (.reg false 0 [oN 87 (oV 1), oN 88 (.bin .lss (.t 87) (cI 0))]) (.cond (.t 88) (.seq (.reg false 0 [oN 4 (.mov (cI (-1)))]) .ret) .skip)) (.seq (.seq (.reg false 0 [oN 89 (oV 0), oN 90 (oV 5), oN 91 (.idx 10 (.t 89) (.t 90)), oN 92 (.fld 7 (.t 91)), oN 93 (.fld 0 (.t 92)), oN 94 (.fld 0 (.t 93)), oN 95 (.load 1 false (.t 94)), oN 96 (oV 1), oN 97 (.bin .rem (.t 96) (cI 3)), oN 98 (.bin .eql (.t 97) (cI 0)), oN 99 (.beq true (.t 95) (.t 98))]) (.cond (.t 99) (.seq (.reg false 0 [oN 4 (.mov (cI (-1)))]) .ret) .skip)) (.seq (.reg false 0 [oN 100 (oV 1), oN 101 (.bin .add (.t 100) (cI 1)), oN 1 (oV 101)]) (.seq (.reg false 0 [oN 102 (oV 0), oN 103 (oV 5), oN 104 (.idx 10 (.t 102) (.t 103)), oN 105 (.fld 7 (.t 104)), oN 106 (.fld 0 (.t 105)), oN 107 (.fld 1 (.t 106)), oN 108 (.load 1 false (.t 107)), oN 109 (oV 1), oN 110 (.call 59 [(.t 108), (.t 109)]), oN 1 (oV 110)]) (.seq (.seq (.reg false 0 [oN 111 (oV 1), oN 112 (.bin .lss (.t 111) (cI 0))]) (.cond (.t 112) (.seq (.reg false 0 [oN 4 (.mov (cI (-1)))]) .ret) .skip)) (.seq (.reg false 0 [oN 113 (oV 0), oN 114 (oV 5), oN 115 (.idx 10 (.t 113) (.t 114)), oN 116 (.fld 7 (.t 115)), oN 117 (.fld 2 (.t 116)), oN 118 (.load 1 false (.t 117)), oN 119 (oV 1), oN 120 (.call 59 [(.t 118), (.t 119)]), oN 1 (oV 120)]) (.seq (.reg false 0 [oN 121 (oV 1), oN 122 (.bin .lss (.t 121) (cI 0))]) (.cond (.t 122) (.seq (.reg false 0 [oN 4 (.mov (cI (-1)))]) .ret) .skip)))))))))))))))))))))) (.reg false 0 [oN 10 (oV 5), oN 11 (.bin .add (.t 10) (cI 1)), oN 5 (oV 11)])))))) (.seq (.reg false 0 [oN 123 (oV 1), oN 4 (oV 123)]) .ret)))⟩
structure D_laws_heldParentS (T : Nat → Option Fn) : Prop where
  hT : T 398 = some F_laws_heldParentS
  d_laws_heldIntS : D_laws_heldIntS T
def F_laws_heldConditionalS : Fn := ⟨2, 65, [.tmp 4], (.seq (.reg false 0 [oN 4 (.mov (cI 0))]) (.seq (.seq (.reg false 0 [oN 5 (.mov (cI 0))]) (.block 0 (.loop (.seq (.seq (.reg false 0 [oN 6 (oV 5), oN 7 (oV 0), oN 8 (.len (.t 7)), oN 9 (.bin .lss (.t 6) (.t 8))]) (.cond (.t 9) .skip (.exit 0))) (.seq (.block 1 (.seq (.seq (.reg false 0 [oN 12 (oV 0), oN 13 (oV 5), oN 14 (.idx 5 (.t 12) (.t 13)), oN 15 (.fld 0 (.t 14)), oN 16 (.load 1 false (.t 15)), oN 17 (oV 1), oN 18 (.bin .neq (.t 16) (.t 17))]) (.cond (.t 18) (.seq (.reg false 0 [oN 4 (.mov (cI (-1)))]) .ret) .skip)) (.seq (.reg false 0 [oN 19 (oV 1), oN 20 (.bin .add (.t 19) (cI 1)), oN 1 (oV 20)]) (.seq (.seq (.reg false 0 [oN 21 (oV 0), oN 22 (oV 5), oN 23 (.idx 5 (.t 21) (.t 22)), oN 24 (.fld 1 (.t 23)), oN 25 (.fld 0 (.t 24)), oN 26 (.fld 0 (.t 25)), oN 27 (.load 1 false (.t 26)), oN 28 (oV 1), oN 29 (.bin .rem (.t 28) (cI 3)), oN 30 (.bin .eql (.t 29) (cI 0)), oN 31 (.beq true (.t 27) (.t 30))]) (.cond (.t 31) (.seq (.reg false 0 [oN 4 (.mov (cI (-1)))]) .ret) .skip)) (.seq (.reg false 0 [oN 32 (oV 1), oN 33 (.bin .add (.t 32) (cI 1)), oN 1 (oV 33)]) (.seq (.reg false 0 [oN 34 (oV 0), oN 35 (oV 5), oN 36 (.idx 5 (.t 34) (.t 35)), oN 37 (.fld 1 (.t 36)), oN 38 (.fld 0 (.t 37)), oN 39 (.fld 1 (.t 38)), oN 40 (.load 1 false (.t 39)), oN 41 (oV 1), oN 42 (.call 59 [(.t 40), (.t 41)]), oN 1 (oV 42)]) (.seq (.seq (.reg false 0 [oN 43 (oV 1), oN 44 (.bin .lss (.t 43) (cI 0))]) (.cond (.t 44) (.seq (.reg false 0 [oN 4 (.mov (cI (-1)))]) .ret) .skip)) (.seq (.reg false 0 [oN 45 (oV 0), oN 46 (oV 5), oN 47 (.idx 5 (.t 45) (.t 46)), oN 48 (.fld 1 (.t 47)), oN 49 (.fld 2 (.t 48)), oN 50 (.load 1 false (.t 49)), oN 51 (oV 1), oN 52 (.call 59 [(.t 50), (.t 51)]), oN 1 (oV 52)]) (.seq (.seq (.reg false 0 [oN 53 (oV 1), oN 54 (.bin .lss (.t 53) (cI 0))]) (.cond (.t 54) (.seq (.reg false 0 [oN 4 (.mov (cI (-1)))]) .ret) .skip)) (.seq (.reg false 0 [oN 55 (oV 0), oN 56 (oV 5), oN 57 (.idx 5 (.t 55) (.t 56)), oN 58 (.fld 4 (.t 57)), oN 59 (.load 1 false (.t 58)), oN 60 (oV 1), oN 61 (.call 398 [(.t 59), (.t 60)]), oN 1 (oV 61)]) (.seq (.reg false 0 [oN 62 (oV 1), oN 63 (.bin .lss (.t 62) (cI 0))]) (.cond (.t 63) (.seq (.reg false 0 [oN 4 (.mov (cI (-1)))]) .ret) .skip)))))))))))) (.reg false 0 [oN 10 (oV 5), oN 11 (.bin .add (.t 10) (cI 1)), oN 5 (oV 11)])))))) (.seq (.reg false 0 [oN 64 (oV 1), oN 4 (oV 64)]) .ret)))⟩
structure D_laws_heldConditionalS (T : Nat → Option Fn) : Prop where
  hT : T 394 = some F_laws_heldConditionalS
  d_laws_heldIntS : D_laws_heldIntS T
  d_laws_heldParentS : D_laws_heldParentS T
def F_laws_heldRatSS : Fn := ⟨2, 21, [.tmp 4], (.seq (.reg false 0 [oN 4 (.mov (cI 0))]) (.seq (.seq (.reg false 0 [oN 5 (.mov (cI 0))]) (.block 0 (.loop (.seq (.seq (.reg false 0 [oN 6 (oV 5), oN 7 (oV 0), oN 8 (.len (.t 7)), oN 9 (.bin .lss (.t 6) (.t 8))]) (.cond (.t 9) .skip (.exit 0))) (.seq (.block 1 (.seq (.reg false 0 [oN 12 (oV 0), oN 13 (oV 5), oN 14 (.idx 1 (.t 12) (.t 13)), oN 15 (.load 1 false (.t 14)), oN 16 (oV 1), oN 17 (.call 313 [(.t 15), (.t 16)]), oN 1 (oV 17)]) (.seq (.reg false 0 [oN 18 (oV 1), oN 19 (.bin .lss (.t 18) (cI 0))]) (.cond (.t 19) (.seq (.reg false 0 [oN 4 (.mov (cI (-1)))]) .ret) .skip)))) (.reg false 0 [oN 10 (oV 5), oN 11 (.bin .add (.t 10) (cI 1)), oN 5 (oV 11)])))))) (.seq (.reg false 0 [oN 20 (oV 1), oN 4 (oV 20)]) .ret)))⟩
structure D_laws_heldRatSS (T : Nat → Option Fn) : Prop where
  hT : T 303 = some F_laws_heldRatSS
  d_laws_heldRatS : D_laws_heldRatS T
def F_laws_heldBigInt : Fn := ⟨2, 12, [.tmp 4], (.seq (.reg false 1 [oN 2 (.box (.t 0)), oK 4 1 (.mov (cI 0))]) (.seq (.reg false 0 [oN 5 (.fld 1 (.t 2)), oN 6 (.load 1 false (.t 5)), oN 7 (oV 1), oN 8 (.call 59 [(.t 6), (.t 7)]), oN 1 (oV 8)]) (.seq (.seq (.reg false 0 [oN 9 (oV 1), oN 10 (.bin .lss (.t 9) (cI 0))]) (.cond (.t 10) (.seq (.reg false 0 [oN 4 (.mov (cI (-1)))]) .ret) .skip)) (.seq (.reg false 0 [oN 11 (oV 1), oN 4 (oV 11)]) .ret))))⟩
structure D_laws_heldBigInt (T : Nat → Option Fn) : Prop where
  hT : T 58 = some F_laws_heldBigInt
  d_laws_heldIntS : D_laws_heldIntS T
def F_laws_heldRat : Fn := ⟨2, 18, [.tmp 4], (.seq (.reg false 1 [oN 2 (.box (.t 0)), oK 4 1 (.mov (cI 0))]) (.seq (.reg false 0 [oN 5 (.fld 0 (.t 2)), oN 6 (.load 2 true (.t 5)), oN 7 (oV 1), oN 8 (.call 58 [(.t 6), (.t 7)]), oN 1 (oV 8)]) (.seq (.seq (.reg false 0 [oN 9 (oV 1), oN 10 (.bin .lss (.t 9) (cI 0))]) (.cond (.t 10) (.seq (.reg false 0 [oN 4 (.mov (cI (-1)))]) .ret) .skip)) (.seq (.reg false 0 [oN 11 (.fld 2 (.t 2)), oN 12 (.load 1 false (.t 11)), oN 13 (oV 1), oN 14 (.call 59 [(.t 12), (.t 13)]), oN 1 (oV 14)]) (.seq (.seq (.reg false 0 [oN 15 (oV 1), oN 16 (.bin .lss (.t 15) (cI 0))]) (.cond (.t 16) (.seq (.reg false 0 [oN 4 (.mov (cI (-1)))]) .ret) .skip)) (.seq (.reg false 0 [oN 17 (oV 1), oN 4 (oV 17)]) .ret))))))⟩
structure D_laws_heldRat (T : Nat → Option Fn) : Prop where
  hT : T 42 = some F_laws_heldRat
  d_laws_heldBigInt : D_laws_heldBigInt T
  d_laws_heldIntS : D_laws_heldIntS T
def F_laws_heldPoint : Fn := ⟨2, 18, [.tmp 4], (.seq (.reg false 1 [oN 2 (.box (.t 0)), oK 4 1 (.mov (cI 0))]) (.seq (.reg false 0 [oN 5 (.fld 0 (.t 2)), oN 6 (.load 3 true (.t 5)), oN 7 (oV 1), oN 8 (.call 42 [(.t 6), (.t 7)]), oN 1 (oV 8)]) (.seq (.seq (.reg false 0 [oN 9 (oV 1), oN 10 (.bin .lss (.t 9) (cI 0))]) (.cond (.t 10) (.seq (.reg false 0 [oN 4 (.mov (cI (-1)))]) .ret) .skip)) (.seq (.reg false 0 [oN 11 (.fld 3 (.t 2)), oN 12 (.load 3 true (.t 11)), oN 13 (oV 1), oN 14 (.call 42 [(.t 12), (.t 13)]), oN 1 (oV 14)]) (.seq (.seq (.reg false 0 [oN 15 (oV 1), oN 16 (.bin .lss (.t 15) (cI 0))]) (.cond (.t 16) (.seq (.reg false 0 [oN 4 (.mov (cI (-1)))]) .ret) .skip)) (.seq (.reg false 0 [oN 17 (oV 1), oN 4 (oV 17)]) .ret))))))⟩
structure D_laws_heldPoint (T : Nat → Option Fn) : Prop where
  hT : T 368 = some F_laws_heldPoint
  d_laws_heldRat : D_laws_heldRat T
def F_laws_heldLink : Fn := ⟨2, 24, [.tmp 4], (.seq (.reg false 1 [oN 2 (.box (.t 0)), oK 4 1 (.mov (cI 0))]) (.seq (.reg false 0 [oN 5 (.fld 2 (.t 2)), oN 6 (.load 3 true (.t 5)), oN 7 (oV 1), oN 8 (.call 42 [(.t 6), (.t 7)]), oN 1 (oV 8)]) (.seq (.seq (.reg false 0 [oN 9 (oV 1), oN 10 (.bin .lss (.t 9) (cI 0))]) (.cond (.t 10) (.seq (.reg false 0 [oN 4 (.mov (cI (-1)))]) .ret) .skip)) (.seq (.reg false 0 [oN 11 (.fld 5 (.t 2)), oN 12 (.load 3 true (.t 11)), oN 13 (oV 1), oN 14 (.call 42 [(.t 12), (.t 13)]), oN 1 (oV 14)]) (.seq (.seq (.reg false 0 [oN 15 (oV 1), oN 16 (.bin .lss (.t 15) (cI 0))]) (.cond (.t 16) (.seq (.reg false 0 [oN 4 (.mov (cI (-1)))]) .ret) .skip)) (.seq (.reg false 0 [oN 17 (.fld 8 (.t 2)), oN 18 (.load 3 true (.t 17)), oN 19 (oV 1), oN 20 (.call 42 [(.t 18), (.t 19)]), oN 1 (oV 20)]) (.seq (.seq (.reg false 0 [oN 21 (oV 1), oN 22 (.bin .lss (.t 21) (cI 0))]) (.cond (.t 22) (.seq (.reg false 0 [oN 4 (.mov (cI (-1)))]) .ret) .skip)) (.seq (.reg false 0 [oN 23 (oV 1), oN 4 (oV 23)]) .ret))))))))⟩
structure D_laws_heldLink (T : Nat → Option Fn) : Prop where
  hT : T 18 = some F_laws_heldLink
  d_laws_heldRat : D_laws_heldRat T
def F_laws_heldConditional : Fn := ⟨2, 18, [.tmp 4], (.seq (.reg false 1 [oN 2 (.box (.t 0)), oK 4 1 (.mov (cI 0))]) (.seq (.reg false 0 [oN 5 (.fld 1 (.t 2)), oN 6 (.load 3 true (.t 5)), oN 7 (oV 1), oN 8 (.call 42 [(.t 6), (.t 7)]), oN 1 (oV 8)]) (.seq (.seq (.reg false 0 [oN 9 (oV 1), oN 10 (.bin .lss (.t 9) (cI 0))]) (.cond (.t 10) (.seq (.reg false 0 [oN 4 (.mov (cI (-1)))]) .ret) .skip)) (.seq (.reg false 0 [oN 11 (.fld 4 (.t 2)), oN 12 (.load 1 false (.t 11)), oN 13 (oV 1), oN 14 (.call 398 [(.t 12), (.t 13)]), oN 1 (oV 14)]) (.seq (.seq (.reg false 0 [oN 15 (oV 1), oN 16 (.bin .lss (.t 15) (cI 0))]) (.cond (.t 16) (.seq (.reg false 0 [oN 4 (.mov (cI (-1)))]) .ret) .skip)) (.seq (.reg false 0 [oN 17 (oV 1), oN 4 (oV 17)]) .ret))))))⟩
structure D_laws_heldConditional (T : Nat → Option Fn) : Prop where
  hT : T 390 = some F_laws_heldConditional
  d_laws_heldRat : D_laws_heldRat T
  d_laws_heldParentS : D_laws_heldParentS T
theorem c_heldBigInt {T : Nat → Option Fn} (h : D_laws_heldBigInt T) {x : Bi} {k : Int} (hl : x.mag.length ≤ 1048576 := by first | omega | assumption | (simp; omega)) (hk : 0 ≤ k ∧ k + Bi.ct2 x ≤ 1000000000000 := by first | omega | assumption | (simp; omega)) :
    PF T 58 [biV (Bi.mk2 k x), iv k] (iv (k + Bi.ct2 x)) := by
  have hk' := hk
  simp only [Bi.ct2] at hk'
  refine pf_end (fun _ _ => false) h.hT rfl rfl ?_
  dsimp only [F_laws_heldBigInt, oN, oS, oG, oK, oA, oH, oV, cI]
  (refine ev ?_; try with_reducible exact True.intro)
  refine PFK_of (c_heldIntS h.d_laws_heldIntS (n := x.mag.length) (k := k) (by first | omega | (simp only [Bi.ct2, R.ct2, Bi.ct2]; omega)) (by first | omega | (simp only [Bi.ct2, R.ct2, Bi.ct2]; omega))) ?_
  (refine ev ?_; try with_reducible exact True.intro)
  refine brK_dec (fun hc => absurd hc (by first | omega | (simp only [Bi.ct2]; omega))) fun _ => ?_
  (refine ev ?_; try with_reducible exact True.intro)
  exact ivc (by first | rfl | (simp only [Bi.ct2]; omega))
theorem c_heldRat {T : Nat → Option Fn} (h : D_laws_heldRat T) {x : R} {k : Int} (hl : x.sz ≤ 1048576 := by first | omega | assumption | (simp; omega)) (hk : 0 ≤ k ∧ k + R.ct2 x ≤ 1000000000000 := by first | omega | assumption | (simp; omega)) :
    PF T 42 [ratV (R.mk2 k x), iv k] (iv (k + R.ct2 x)) := by
  have hl' := hl
  simp only [R.sz] at hl'
  have hk' := hk
  simp only [R.ct2, Bi.ct2] at hk'
  refine pf_end (fun _ _ => false) h.hT rfl rfl ?_
  dsimp only [F_laws_heldRat, oN, oS, oG, oK, oA, oH, oV, cI]
  (refine ev ?_; try with_reducible exact True.intro)
  refine PFK_of (c_heldBigInt h.d_laws_heldBigInt (x := x.num) (k := k) (by first | omega | (simp only [R.sz, R.ct2, Bi.ct2]; omega)) (by first | omega | (simp only [R.sz, R.ct2, Bi.ct2]; omega))) ?_
  (refine ev ?_; try with_reducible exact True.intro)
  refine brK_dec (fun hc => absurd hc (by first | omega | (simp only [R.ct2, Bi.ct2]; omega))) fun _ => ?_
  (refine ev ?_; try with_reducible exact True.intro)
  refine PFK_of (c_heldIntS h.d_laws_heldIntS (n := x.den.length) (k := k + Bi.ct2 x.num) (by first | omega | (simp only [R.sz, R.ct2, Bi.ct2]; omega)) (by first | omega | (simp only [R.sz, R.ct2, Bi.ct2]; omega))) ?_
  (refine ev ?_; try with_reducible exact True.intro)
  refine brK_dec (fun hc => absurd hc (by first | omega | (simp only [R.ct2, Bi.ct2]; omega))) fun _ => ?_
  (refine ev ?_; try with_reducible exact True.intro)
  exact ivc (by first | rfl | (simp only [R.ct2, Bi.ct2]; omega))
theorem c_heldLink {T : Nat → Option Fn} (h : D_laws_heldLink T) {x : Lk} {k : Int} (hl : x.sz ≤ 1048576 := by first | omega | assumption | (simp; omega)) (hk : 0 ≤ k ∧ k + Lk.ct2 x ≤ 1000000000000 := by first | omega | assumption | (simp; omega)) :
    PF T 18 [lkV (Lk.mk2 k x), iv k] (iv (k + Lk.ct2 x)) := by
  have hl' := hl
  simp only [Lk.sz, R.sz] at hl'
  have hk' := hk
  simp only [Lk.ct2, R.ct2, Bi.ct2] at hk'
  refine pf_end (fun _ _ => false) h.hT rfl rfl ?_
  dsimp only [F_laws_heldLink, oN, oS, oG, oK, oA, oH, oV, cI]
  (refine ev ?_; try with_reducible exact True.intro)
  refine PFK_of (c_heldRat h.d_laws_heldRat (x := x.w) (k := k) (by first | omega | (simp only [Lk.sz, R.sz, R.ct2, Bi.ct2]; omega)) (by first | omega | (simp only [Lk.sz, R.sz, R.ct2, Bi.ct2]; omega))) ?_
  (refine ev ?_; try with_reducible exact True.intro)
  refine brK_dec (fun hc => absurd hc (by first | omega | (simp only [Lk.ct2, R.ct2, Bi.ct2]; omega))) fun _ => ?_
  (refine ev ?_; try with_reducible exact True.intro)
  refine PFK_of (c_heldRat h.d_laws_heldRat (x := x.dx) (k := k + x.w.ct2) (by first | omega | (simp only [Lk.sz, R.sz, R.ct2, Bi.ct2]; omega)) (by first | omega | (simp only [Lk.sz, R.sz, R.ct2, Bi.ct2]; omega))) ?_
  (refine ev ?_; try with_reducible exact True.intro)
  refine brK_dec (fun hc => absurd hc (by first | omega | (simp only [Lk.ct2, R.ct2, Bi.ct2]; omega))) fun _ => ?_
  (refine ev ?_; try with_reducible exact True.intro)
  refine PFK_of (c_heldRat h.d_laws_heldRat (x := x.dy) (k := k + x.w.ct2 + x.dx.ct2) (by first | omega | (simp only [Lk.sz, R.sz, R.ct2, Bi.ct2]; omega)) (by first | omega | (simp only [Lk.sz, R.sz, R.ct2, Bi.ct2]; omega))) ?_
  (refine ev ?_; try with_reducible exact True.intro)
  refine brK_dec (fun hc => absurd hc (by first | omega | (simp only [Lk.ct2, R.ct2, Bi.ct2]; omega))) fun _ => ?_
  (refine ev ?_; try with_reducible exact True.intro)
  exact ivc (by first | rfl | (simp only [Lk.ct2, R.ct2, Bi.ct2]; omega))
end Go.Ml
end
section
set_option linter.unusedSimpArgs false
set_option linter.unusedVariables false
namespace Go.Ml
theorem cnL_bd {α : Type} {c f : α → Nat} {K : Nat} (h : ∀ x, c x ≤ K * (1 + f x)) (l : List α) : cnL c l l.length ≤ K * szL f l := by
  unfold cnL szL
  rw [List.take_length]
  induction l with
  | nil => simp
  | cons x l ih =>
    rw [List.map_cons, List.sum_cons, List.map_cons, List.sum_cons, List.length_cons]
    have := h x
    rw [show l.length + 1 + (f x + (l.map f).sum) = (1 + f x) + (l.length + (l.map f).sum) by omega, Nat.mul_add]
    omega
theorem cb_Lk (x : Lk) : Lk.ct x ≤ 5 * (1 + x.sz) := by unfold Lk.ct Lk.sz R.sz; omega
theorem cb_LinkS (l : List Lk) : cnL Lk.ct l l.length ≤ 5 * szL Lk.sz l := cnL_bd cb_Lk l
theorem cb_Rat (x : R) : x.ct2 ≤ x.sz := by unfold R.ct2 Bi.ct2 R.sz; exact Nat.le_refl _
theorem cb_Link (x : Lk) : x.ct2 ≤ x.sz := by have := cb_Rat x.w; have := cb_Rat x.dx; have := cb_Rat x.dy; unfold Lk.ct2 Lk.sz; omega
end Go.Ml
end
section
set_option linter.unusedSimpArgs false
set_option linter.unusedVariables false
namespace Go.Ml
structure Ep (s : Store) (cs ts : List V) (os : List Nat) (L : List (Nat × Obj)) : Prop where
  c : Cs s cs ts os
  l : ∀ q ∈ L, objAt s q.1 = some q.2 ∧ q.1 ∉ os
section
variable {s σ2 : Store} {cs ts : List V} {os os2 : List Nat} {L : List (Nat × Obj)}
theorem Ep.lt (E : Ep s cs ts os L) : ∀ q ∈ L, q.1 < s.length := fun q hq => objAt_lt (E.l q hq).1
theorem Ep.snoc (E : Ep s cs ts os L) {x : Option Obj} : Ep (s ++ [x]) cs ts os L := ⟨E.c.snoc, fun q hq => ⟨(objAt_snoc_lt (E.lt q hq)).trans (E.l q hq).1, (E.l q hq).2⟩⟩
theorem Ep.res (E : Ep s cs ts os L) (c : Nat) {v t : V} (hv : cs[c]? = some v) (ht : ts[c]? = some t) (hd : DepLe FD t) : resolve s FD v = some t := E.c.res c hv ht hd
theorem Ep.res1 (E : Ep s cs ts os L) (c : Nat) {v t : V} (hv : cs[c]? = some v) (ht : ts[c]? = some t) (hd : DepLe 11 t) : resolve s 11 v = some t := by
  obtain ⟨vc, oc, j1, j2, _⟩ := E.c.ow.focus c t E.c.nd ht
  rw [hv] at j1
  cases j1
  exact ow_res 11 j2 hd
theorem Ep.leaf (E : Ep s cs ts os L) (c : Nat) {v t : V} (hv : cs[c]? = some v) (ht : ts[c]? = some t) (hl : t.leaf = true := by rfl) : v.leaf = true := by
  obtain ⟨vc, oc, j1, j2, _⟩ := E.c.ow.focus c t E.c.nd ht
  rw [hv] at j1
  cases j1
  exact j2.leaf hl
theorem Ep.got {s1 : Store} {rs trs : List V} (E : Ep s cs ts os L) (h1 : ∀ o, o < s.length → objAt s1 o = objAt s o) (hl : s.length ≤ s1.length) (ho : OwL σ2 rs trs os2) (hn : os2.Nodup) (hf : ∀ o ∈ os2, s1.length ≤ o)
    (old : ∀ o, o < s1.length → objAt σ2 o = objAt s1 o) : Ep σ2 (cs ++ rs) (ts ++ trs) (os ++ os2) L := by
  have hlt := E.c.lt
  refine ⟨⟨owL_append (E.c.ow.frame fun q hq => ?_) ho, ?_⟩, fun q hq => ⟨?_, ?_⟩⟩
  · have := hlt q hq
    rw [old q (by omega), h1 q this]
  · rw [List.nodup_append]
    refine ⟨E.c.nd, hn, fun x hx y hy e => ?_⟩
    have := hlt x hx
    have := hf y hy
    omega
  · have := E.lt q hq
    rw [old _ (by omega), h1 _ this]; exact (E.l q hq).1
  · intro hm
    have := E.lt q hq
    rcases List.mem_append.1 hm with hm | hm
    · exact (E.l q hq).2 hm
    · have := hf _ hm; omega
theorem Ep.free {s1 : Store} (E : Ep s cs ts os L) {p : Nat} (hf : ∀ o ∈ os2, s1.length ≤ o) (h0 : s.length ≤ p) (h1 : p < s1.length) : p ∉ os ++ os2 := by
  intro hm
  rcases List.mem_append.1 hm with hm | hm
  · have := E.c.lt p hm; omega
  · have := hf p hm; omega
theorem Ep.call {T : Nat → Option Fn} {f : Nat} {t t' v : V} {k k' : Int} (E : Ep s cs ts os L) (c : Nat) (hm : Mk T f t k t' k') (hv : cs[c]? = some v) (ht : ts[c]? = some t) :
    ∃ s', Run T (.fn f [v, .int .i64 k] s) (.fn (.int .i64 k') s') ∧ Ep s' cs (ts.set c t') os L ∧ s.length ≤ s'.length := by
  obtain ⟨s', h1, h2, h3⟩ := E.c.call c hm hv ht
  exact ⟨s', h1, ⟨h2, fun q hq => ⟨(h3.old _ (E.lt q hq) (E.l q hq).2).trans (E.l q hq).1, (E.l q hq).2⟩⟩, h3.len⟩
theorem Ep.part {T : Nat → Option Fn} {f : Nat} {t2 t2' r2 : List V} {k k' : Int} (E : Ep s cs ts os L) (n m : Nat) (hm : Mk T f (.agg t2) k (.agg t2') k') (hr : (cs.drop n).take m = r2) (ht : (ts.drop n).take m = t2) (hn : n + m ≤ ts.length) :
    ∃ s', Run T (.fn f [.agg r2, .int .i64 k] s) (.fn (.int .i64 k') s') ∧ Ep s' cs (ts.take n ++ t2' ++ ts.drop (n + m)) os L ∧ s.length ≤ s'.length := by
  obtain ⟨s', h1, h2, h3⟩ := E.c.part n m hm ht hn
  rw [hr] at h1
  exact ⟨s', h1, ⟨h2, fun q hq => ⟨(h3.old _ (E.lt q hq) (E.l q hq).2).trans (E.l q hq).1, (E.l q hq).2⟩⟩, h3.len⟩
theorem Ep.at0 {p : Nat} {ob : Obj} (E : Ep s cs ts os L) (h : (p, ob) ∈ L) : objAt s p = some ob ∧ p < s.length := ⟨(E.l _ h).1, E.lt _ h⟩
end
section
variable {σ : Store} {os : List Nat}
theorem OwL.lk {cs : List V} {x : Lk} (h : OwL σ cs x.cells os) : ∃ c3 c4 c6 c7 c9 c10, cs = [iv x.a, iv x.b, .bool x.w.neg, c3, c4, .bool x.dx.neg, c6, c7, .bool x.dy.neg, c9, c10] := by
  obtain ⟨cs, rfl, h1⟩ := h.int_inv
  obtain ⟨cs, rfl, h2⟩ := h1.int_inv
  obtain ⟨cs, rfl, h3⟩ := h2.bool_inv
  obtain ⟨a, cs, _, _, rfl, rfl, _, h4⟩ := h3.inv
  obtain ⟨b, cs, _, _, rfl, rfl, _, h5⟩ := h4.inv
  obtain ⟨cs, rfl, h6⟩ := h5.bool_inv
  obtain ⟨c, cs, _, _, rfl, rfl, _, h7⟩ := h6.inv
  obtain ⟨d, cs, _, _, rfl, rfl, _, h8⟩ := h7.inv
  obtain ⟨cs, rfl, h9⟩ := h8.bool_inv
  match cs, h9.len with
  | [e, f], _ => exact ⟨a, b, c, d, e, f, rfl⟩
theorem OwL.cd {cs : List V} {x : Cd} (h : OwL σ cs x.cells os) : ∃ c2 c3 c4, cs = [iv x.node, .bool x.total.neg, c2, c3, c4] := by
  obtain ⟨cs, rfl, h1⟩ := h.int_inv
  obtain ⟨cs, rfl, h2⟩ := h1.bool_inv
  match cs, h2.len with
  | [a, b, c], _ => exact ⟨a, b, c, rfl⟩
theorem OwL.tr {cs : List V} {x : List Tn} (h : OwL σ cs [tnsV x] os) : ∃ c0, cs = [c0] := by
  match cs, h.len with
  | [a], _ => exact ⟨a, rfl⟩
theorem owL_1 {v t : V} (h : OwV σ v t os) : OwL σ [v] [t] os := by simpa using owL_v h owL_nil
end
end Go.Ml
namespace Go.Ml
theorem numK_any (l : List Nat) (k : List Nat → Prop) : numK l k = k l := nr rfl
theorem or_sc (p : Prop) : (p ∨ True) = True := by simp
theorem Ep.reloc {s : Store} {cs ts : List V} {os : List Nat} {L L' : List (Nat × Obj)} {p : Nat} {ob : Obj} (E : Ep s cs ts os L) (hp : p ∉ os) (hl : p < s.length) (h : ∀ q ∈ L', (q.1 ≠ p ∧ q ∈ L) ∨ q = (p, ob)) :
    Ep (s.set p (some ob)) cs ts os L' := by
  refine ⟨E.c.set hp, fun q hq => ?_⟩
  rcases h q hq with ⟨h1, h2⟩ | rfl
  · exact ⟨(objAt_setne h1).trans (E.l q h2).1, (E.l q h2).2⟩
  · exact ⟨objAt_seteq hl, hp⟩
end Go.Ml
end
section
set_option linter.unusedSimpArgs false
set_option linter.unusedVariables false
set_option maxRecDepth 100000
set_option maxHeartbeats 16000000
namespace Go.Ml
def F_laws_FnExactLinkOf : Fn := ⟨3, 106, [.tmp 6], (.seq (.reg false 0 [oN 6 (.mov (.c (.bool false)))]) (.seq (.reg false 0 [oN 7 (.mov (cI 1048576))]) (.seq (.reg false 0 [oN 18 (oV 0), oN 19 (oV 7), oN 20 (.call 19 [(.t 18), (.t 19)]), oN 7 (oV 20)]) (.seq (.seq (.reg false 0 [oN 21 (oV 7), oN 22 (.bin .lss (.t 21) (cI 0))]) (.cond (.t 22) (.seq (.reg false 0 [oN 6 (.mov (.c (.bool true)))]) .ret) .skip)) (.seq (.reg false 1 [oK 24 1 (oV 0), oK 25 1 (.call 21 [(.t 24)]), oK 26 1 (oV 1), oK 27 1 (oV 2), oK 28 1 (.call 225 [(.t 25), (.t 26), (.t 27)]), oK 23 1 (oV 28), oK 29 1 (.extr 0 (.t 23)), oK 30 1 (.extr 1 (.t 23)), oN 8 (.alloc [.int .i64 0, .int .i64 0, .bool false, .nils, .nils, .bool false, .nils, .nils, .bool false, .nils, .nils]), ⟨none, none, 1, .store 11 (.t 8) (.t 29), []⟩, oK 9 1 (oV 30)]) (.seq (.reg false 0 [oN 31 (oV 0), oN 32 (.call 21 [(.t 31)]), oN 10 (oV 32)]) (.seq (.reg false 1 [oK 34 1 (oV 10), oK 35 1 (oV 1), oK 36 1 (oV 2), oK 37 1 (.call 226 [(.t 34), (.t 35), (.t 36)]), oK 33 1 (oV 37), oK 38 1 (.extr 0 (.t 33)), oK 39 1 (.extr 1 (.t 33)), oN 11 (.alloc [.int .i64 0, .int .i64 0, .bool false, .nils, .nils, .bool false, .nils, .nils, .bool false, .nils, .nils]), ⟨none, none, 1, .store 11 (.t 11) (.t 38), []⟩, oK 12 1 (oV 39)]) (.seq (.seq (.reg false 0 [oN 40 (.load 11 true (.t 11)), oN 41 (.load 11 true (.t 8)), oN 42 (.call 16 [(.t 40), (.t 41)]), oN 43 (.un .not (.t 42)), oN 44 (oV 43), oG 44 false 45 (oV 12), oG 44 false 46 (oV 9), oG 44 false 47 (.beq true (.t 45) (.t 46)), oN 48 (.pick (.t 44) (.c (.bool true)) (.t 47))]) (.cond (.t 48) (.seq (.reg false 0 [oN 6 (.mov (.c (.bool false)))]) .ret) .skip)) (.seq (.seq (.reg false 0 [oN 49 (oV 10), oN 50 (oV 0), oN 51 (.call 21 [(.t 50)]), oN 52 (.call 23 [(.t 49), (.t 51)]), oN 53 (.un .not (.t 52))]) (.cond (.t 53) (.seq (.reg false 0 [oN 6 (.mov (.c (.bool false)))]) .ret) .skip)) (.seq (.reg false 0 [oN 13 (.mov (cI 1))]) (.seq (.reg false 0 [oN 54 (oV 10), oN 55 (oV 13), oN 56 (.call 118 [(.t 54), (.t 55)]), oN 13 (oV 56)]) (.seq (.seq (.reg false 0 [oN 57 (oV 13), oN 58 (.bin .lss (.t 57) (cI 0)), oN 59 (oV 58), oG 59 false 60 (.load 11 true (.t 11)), oG 59 false 61 (.load 11 true (.t 8)), oG 59 false 62 (.call 16 [(.t 60), (.t 61)]), oG 59 false 63 (.un .not (.t 62)), oN 64 (.pick (.t 59) (.c (.bool true)) (.t 63)), oN 65 (oV 64), oG 65 false 66 (oV 12), oG 65 false 67 (oV 9), oG 65 false 68 (.beq true (.t 66) (.t 67)), oN 69 (.pick (.t 65) (.c (.bool true)) (.t 68))]) (.cond (.t 69) (.seq (.reg false 0 [oN 6 (.mov (.c (.bool false)))]) .ret) .skip)) (.seq (.reg false 0 [oN 14 (.mov (cI 1))]) (.seq (.reg false 0 [oN 70 (.load 11 true (.t 11)), oN 71 (oV 14), oN 72 (.call 17 [(.t 70), (.t 71)]), oN 14 (oV 72)]) (.seq (.reg false 0 [oN 15 (.mov (cI 1))]) (.seq (.reg false 0 [oN 73 (.load 11 true (.t 11)), oN 74 (oV 15), oN 75 (.call 18 [(.t 73), (.t 74)]), oN 15 (oV 75)]) (.seq (.seq (.reg false 0 [oN 76 (oV 15), oN 77 (.bin .lss (.t 76) (cI 0))]) (.cond (.t 77) (.seq (.reg false 0 [oN 6 (.mov (.c (.bool false)))]) .ret) .skip)) (.seq (.seq (.reg false 0 [oN 78 (oV 15), oN 79 (oV 14), oN 80 (.bin .neq (.t 78) (.t 79))]) (.cond (.t 80) (.seq (.reg false 0 [oN 6 (.mov (.c (.bool false)))]) .ret) .skip)) (.seq (.reg false 1 [oK 82 1 (oV 0), oK 83 1 (.call 21 [(.t 82)]), oK 84 1 (oV 1), oK 85 1 (oV 2), oK 86 1 (.call 226 [(.t 83), (.t 84), (.t 85)]), oK 81 1 (oV 86), oK 87 1 (.extr 0 (.t 81)), oK 88 1 (.extr 1 (.t 81)), oN 16 (.alloc [.int .i64 0, .int .i64 0, .bool false, .nils, .nils, .bool false, .nils, .nils, .bool false, .nils, .nils]), ⟨none, none, 1, .store 11 (.t 16) (.t 87), []⟩, oK 17 1 (oV 88)]) (.seq (.seq (.reg false 0 [oN 89 (.load 11 true (.t 16)), oN 90 (.load 11 true (.t 8)), oN 91 (.call 16 [(.t 89), (.t 90)]), oN 92 (.un .not (.t 91)), oN 93 (oV 92), oG 93 false 94 (oV 17), oG 93 false 95 (oV 9), oG 93 false 96 (.beq true (.t 94) (.t 95)), oN 97 (.pick (.t 93) (.c (.bool true)) (.t 96))]) (.cond (.t 97) (.seq (.reg false 0 [oN 6 (.mov (.c (.bool false)))]) .ret) .skip)) (.seq (.reg false 0 [oN 15 (.mov (cI 1))]) (.seq (.reg false 0 [oN 98 (.load 11 true (.t 11)), oN 99 (oV 15), oN 100 (.call 18 [(.t 98), (.t 99)]), oN 15 (oV 100)]) (.seq (.seq (.reg false 0 [oN 101 (oV 15), oN 102 (.bin .lss (.t 101) (cI 0))]) (.cond (.t 102) (.seq (.reg false 0 [oN 6 (.mov (.c (.bool false)))]) .ret) .skip)) (.seq (.seq (.reg false 0 [oN 103 (oV 15), oN 104 (oV 14), oN 105 (.bin .neq (.t 103) (.t 104))]) (.cond (.t 105) (.seq (.reg false 0 [oN 6 (.mov (.c (.bool false)))]) .ret) .skip)) (.seq (.reg false 0 [oN 6 (.mov (.c (.bool true)))]) .ret)))))))))))))))))))))))))⟩
structure D_laws_FnExactLinkOf (T : Nat → Option Fn) : Prop where
  hT : T 215 = some F_laws_FnExactLinkOf
  d_laws_eqLink : D_laws_eqLink T
  d_laws_markLink : D_laws_markLink T
  d_laws_heldLink : D_laws_heldLink T
  d_laws_szLinkS : D_laws_szLinkS T
  d_laws_toLinkS : D_laws_toLinkS T
  d_laws_eqLinkS : D_laws_eqLinkS T
  d_laws_markLinkS : D_laws_markLinkS T
  d_spec_LinkOf : D_spec_LinkOf T
  d_impl_LinkOf : D_impl_LinkOf T
theorem c_lawFnExactLinkOf {T : Nat → Option Fn} (h : D_laws_FnExactLinkOf T) (a : List Lk) (wa : (wfL Lk.wf) a) (b : Int) (wb : -9223372036854775808 ≤ b ∧ b ≤ 9223372036854775807) (c : Int) (wc : -9223372036854775808 ≤ c ∧ c ≤ 9223372036854775807) : PF T 215 [lksV a, iv b, iv c] (.bool true) := by
  refine PO.frz ?_ (dep_bool 11 _)
  refine po_end2 (fun x d => (x == 21 && d == 32) || (x == 226 && d == 37) || (x == 118 && d == 56) || (x == 17 && d == 72)) h.hT rfl rfl ?_
  dsimp only [F_laws_FnExactLinkOf, oN, oS, oG, oK, oA, oH, oV, cI, St.enter, List.length_cons, List.length_nil, Nat.zero_add]
  (refine ew ?_; try with_reducible exact True.intro)
  refine PFK_of (c_szLinkS h.d_laws_szLinkS (l := a) wa ⟨by omega, by omega⟩) ?_
  (refine ew ?_; try with_reducible exact True.intro)
  have ka := @szr_le (1048576) (szL Lk.sz a)
  refine brK_dec (fun hba => ?_) fun hba => ?_
  · (refine ew ?_; try with_reducible exact True.intro)
    exact fin_bool
  have sa := szr_nlt hba
  (refine ew ?_; try with_reducible exact True.intro)
  have za : szL Lk.sz a ≤ 1048576 := by omega
  have zr := lkOf_sz (a := b) (b := c) za
  have wr := lkOf_wf (a := b) (b := c) wa
  have zl := szL_eq Lk.sz a
  have := cb_LinkS a
  have := cb_Link (lkOf a b c)
  have PI := po_iLinkOf h.d_impl_LinkOf (a := b) (b := c) wa za
  refine PFK_of (c_toLinkS h.d_laws_toLinkS (l := a) za) ?_
  (refine ew ?_; try with_reducible exact True.intro)
  refine PFK_of (c_sLinkOf h.d_spec_LinkOf (a := b) (b := c) wa za) ?_
  (refine ew ?_; try with_reducible exact True.intro)
  refine RefK_got (po_toLinkS h.d_laws_toLinkS (l := a) za) (by (refine ew ?_; try with_reducible exact True.intro)) ?_
  intro x0 q1 o1 G
  have hO := G.ow
  have gn := G.nd
  have gf := G.fresh
  have go := G.old
  have gl := G.len
  clear G
  have E : Ep ([some ⟨11, [[iv (lkOf a b c).a, iv (lkOf a b c).b, .bool (lkOf a b c).w.neg, ints (lkOf a b c).w.mag, ints (lkOf a b c).w.den, .bool (lkOf a b c).dx.neg, ints (lkOf a b c).dx.mag, ints (lkOf a b c).dx.den, .bool (lkOf a b c).dy.neg, ints (lkOf a b c).dy.mag, ints (lkOf a b c).dy.den]]⟩] : Store) [] [] [] [(0, ⟨11, [[iv (lkOf a b c).a, iv (lkOf a b c).b, .bool (lkOf a b c).w.neg, ints (lkOf a b c).w.mag, ints (lkOf a b c).w.den, .bool (lkOf a b c).dx.neg, ints (lkOf a b c).dx.mag, ints (lkOf a b c).dx.den, .bool (lkOf a b c).dy.neg, ints (lkOf a b c).dy.mag, ints (lkOf a b c).dy.den]]⟩)] := ⟨cs_nil, by simp [objAt]⟩
  have E2 := E.got (s1 := ([some ⟨11, [[iv (lkOf a b c).a, iv (lkOf a b c).b, .bool (lkOf a b c).w.neg, ints (lkOf a b c).w.mag, ints (lkOf a b c).w.den, .bool (lkOf a b c).dx.neg, ints (lkOf a b c).dx.mag, ints (lkOf a b c).dx.den, .bool (lkOf a b c).dy.neg, ints (lkOf a b c).dy.mag, ints (lkOf a b c).dy.den]]⟩] : Store)) (fun _ _ => rfl) (by simp) (owL_1 hO) (by simpa using gn) (by simpa using gf) (by simpa using go)
  have hq : ([some ⟨11, [[iv (lkOf a b c).a, iv (lkOf a b c).b, .bool (lkOf a b c).w.neg, ints (lkOf a b c).w.mag, ints (lkOf a b c).w.den, .bool (lkOf a b c).dx.neg, ints (lkOf a b c).dx.mag, ints (lkOf a b c).dx.den, .bool (lkOf a b c).dy.neg, ints (lkOf a b c).dy.mag, ints (lkOf a b c).dy.den]]⟩] : Store).length + 0 ≤ q1.length := by simpa using gl
  clear E gn gf go gl
  have E : Ep q1 [x0] [lksV a] _ [(0, ⟨11, [[iv (lkOf a b c).a, iv (lkOf a b c).b, .bool (lkOf a b c).w.neg, ints (lkOf a b c).w.mag, ints (lkOf a b c).w.den, .bool (lkOf a b c).dx.neg, ints (lkOf a b c).dx.mag, ints (lkOf a b c).dx.den, .bool (lkOf a b c).dy.neg, ints (lkOf a b c).dy.mag, ints (lkOf a b c).dy.den]]⟩)] := E2
  clear E2
  have R := And.intro (E.res 0 rfl rfl (dep_lks _ _)) (fun x => (E.snoc (x := x)).res 0 rfl rfl (dep_lks _ _))
  have LF := E.leaf 0 rfl rfl
  have LO := E.at0 (p := 0) (ob := ⟨11, [[iv (lkOf a b c).a, iv (lkOf a b c).b, .bool (lkOf a b c).w.neg, ints (lkOf a b c).w.mag, ints (lkOf a b c).w.den, .bool (lkOf a b c).dx.neg, ints (lkOf a b c).dx.mag, ints (lkOf a b c).dx.den, .bool (lkOf a b c).dy.neg, ints (lkOf a b c).dy.mag, ints (lkOf a b c).dy.den]]⟩) (by simp)
  (refine ew5 @R @LF @LO @numK_any @or_sc ?_; try with_reducible exact True.intro)
  refine RefK_got (PI) (by (refine ew5 @R @LF @LO @numK_any @or_sc ?_; try with_reducible exact True.intro)) ?_
  intro r q2 o2 G
  have hO := G.ow
  have gn := G.nd
  have gf := G.fresh
  have go := G.old
  have gl := G.len
  clear G
  obtain ⟨_, rfl, hO0⟩ := hO.tup_inv
  obtain ⟨_, _, u2_1, v2_1, rfl, rfl, hP2_1, hO2_1⟩ := hO0.inv
  obtain ⟨_, rfl, hQ2_1⟩ := hP2_1.agg_inv
  obtain ⟨g0_3, g0_4, g0_6, g0_7, g0_9, g0_10, rfl⟩ := hQ2_1.lk
  obtain ⟨_, rfl, hO2_2⟩ := hO2_1.bool_inv
  obtain ⟨rfl, rfl⟩ := hO2_2.nil_inv
  simp only [List.append_nil, List.nil_append] at gn gf
  have E2 := E.got (s1 := q1 ++ [none]) ((fun q hq => by first | exact objAt_app_lt hq | (simp only [List.append_assoc]; exact objAt_app_lt hq))) (by simp) (hQ2_1) (by simpa using gn) (by simpa using gf) (by simpa using go)
  have F0 := E.free (s1 := q1 ++ [none]) (p := q1.length) (by simpa using gf) (by simp) (by simp)
  have hq : q1.length + 1 ≤ q2.length := by simpa using gl
  try simp only [List.length_cons, List.length_nil, Nat.zero_add, Nat.reduceAdd] at hq
  have hl0 : q1.length < q2.length := by omega
  have : 0 ≠ q1.length := by have := E.lt (0, ⟨11, [[iv (lkOf a b c).a, iv (lkOf a b c).b, .bool (lkOf a b c).w.neg, ints (lkOf a b c).w.mag, ints (lkOf a b c).w.den, .bool (lkOf a b c).dx.neg, ints (lkOf a b c).dx.mag, ints (lkOf a b c).dx.den, .bool (lkOf a b c).dy.neg, ints (lkOf a b c).dy.mag, ints (lkOf a b c).dy.den]]⟩) (by simp); omega
  clear E gn gf go gl
  have E : Ep q2 [x0, iv (lkOf a b c).a, iv (lkOf a b c).b, .bool (lkOf a b c).w.neg, g0_3, g0_4, .bool (lkOf a b c).dx.neg, g0_6, g0_7, .bool (lkOf a b c).dy.neg, g0_9, g0_10] [lksV a, iv (lkOf a b c).a, iv (lkOf a b c).b, .bool (lkOf a b c).w.neg, ints (lkOf a b c).w.mag, ints (lkOf a b c).w.den, .bool (lkOf a b c).dx.neg, ints (lkOf a b c).dx.mag, ints (lkOf a b c).dx.den, .bool (lkOf a b c).dy.neg, ints (lkOf a b c).dy.mag, ints (lkOf a b c).dy.den] _ [(0, ⟨11, [[iv (lkOf a b c).a, iv (lkOf a b c).b, .bool (lkOf a b c).w.neg, ints (lkOf a b c).w.mag, ints (lkOf a b c).w.den, .bool (lkOf a b c).dx.neg, ints (lkOf a b c).dx.mag, ints (lkOf a b c).dx.den, .bool (lkOf a b c).dy.neg, ints (lkOf a b c).dy.mag, ints (lkOf a b c).dy.den]]⟩)] := E2
  clear E2
  replace E := E.reloc (p := q1.length) (ob := ⟨11, [[iv (lkOf a b c).a, iv (lkOf a b c).b, .bool (lkOf a b c).w.neg, g0_3, g0_4, .bool (lkOf a b c).dx.neg, g0_6, g0_7, .bool (lkOf a b c).dy.neg, g0_9, g0_10]]⟩) (L' := [(0, ⟨11, [[iv (lkOf a b c).a, iv (lkOf a b c).b, .bool (lkOf a b c).w.neg, ints (lkOf a b c).w.mag, ints (lkOf a b c).w.den, .bool (lkOf a b c).dx.neg, ints (lkOf a b c).dx.mag, ints (lkOf a b c).dx.den, .bool (lkOf a b c).dy.neg, ints (lkOf a b c).dy.mag, ints (lkOf a b c).dy.den]]⟩), (q1.length, ⟨11, [[iv (lkOf a b c).a, iv (lkOf a b c).b, .bool (lkOf a b c).w.neg, g0_3, g0_4, .bool (lkOf a b c).dx.neg, g0_6, g0_7, .bool (lkOf a b c).dy.neg, g0_9, g0_10]]⟩)]) F0 (by first | omega | (simp; omega)) (by simp; (try omega))
  replace R := And.intro (E.res 0 rfl rfl (dep_lks _ _)) (And.intro (fun x => (E.snoc (x := x)).res 0 rfl rfl (dep_lks _ _)) (And.intro (E.res1 4 rfl rfl (dep_ints _ _)) (And.intro (fun x => (E.snoc (x := x)).res1 4 rfl rfl (dep_ints _ _)) (And.intro (E.res1 5 rfl rfl (dep_ints _ _)) (And.intro (fun x => (E.snoc (x := x)).res1 5 rfl rfl (dep_ints _ _)) (And.intro (E.res1 7 rfl rfl (dep_ints _ _)) (And.intro (fun x => (E.snoc (x := x)).res1 7 rfl rfl (dep_ints _ _)) (And.intro (E.res1 8 rfl rfl (dep_ints _ _)) (And.intro (fun x => (E.snoc (x := x)).res1 8 rfl rfl (dep_ints _ _)) (And.intro (E.res1 10 rfl rfl (dep_ints _ _)) (And.intro (fun x => (E.snoc (x := x)).res1 10 rfl rfl (dep_ints _ _)) (And.intro (E.res1 11 rfl rfl (dep_ints _ _)) (fun x => (E.snoc (x := x)).res1 11 rfl rfl (dep_ints _ _))))))))))))))
  replace LF := And.intro (E.leaf 0 rfl rfl) (And.intro (E.leaf 4 rfl rfl) (And.intro (E.leaf 5 rfl rfl) (And.intro (E.leaf 7 rfl rfl) (And.intro (E.leaf 8 rfl rfl) (And.intro (E.leaf 10 rfl rfl) (E.leaf 11 rfl rfl))))))
  replace LO := And.intro (E.at0 (p := 0) (ob := ⟨11, [[iv (lkOf a b c).a, iv (lkOf a b c).b, .bool (lkOf a b c).w.neg, ints (lkOf a b c).w.mag, ints (lkOf a b c).w.den, .bool (lkOf a b c).dx.neg, ints (lkOf a b c).dx.mag, ints (lkOf a b c).dx.den, .bool (lkOf a b c).dy.neg, ints (lkOf a b c).dy.mag, ints (lkOf a b c).dy.den]]⟩) (by simp)) (E.at0 (p := q1.length) (ob := ⟨11, [[iv (lkOf a b c).a, iv (lkOf a b c).b, .bool (lkOf a b c).w.neg, g0_3, g0_4, .bool (lkOf a b c).dx.neg, g0_6, g0_7, .bool (lkOf a b c).dy.neg, g0_9, g0_10]]⟩) (by simp))
  (refine ew6 @R @LF @LO @numK_any @or_sc @List.set_set.{0} ?_; try with_reducible exact True.intro)
  obtain ⟨s2, hs⟩ : ∃ s, (q2.set (q1.length) (some ⟨11, [[iv (lkOf a b c).a, iv (lkOf a b c).b, .bool (lkOf a b c).w.neg, g0_3, g0_4, .bool (lkOf a b c).dx.neg, g0_6, g0_7, .bool (lkOf a b c).dy.neg, g0_9, g0_10]]⟩)) = s := ⟨_, rfl⟩
  simp only [hs] at *
  clear hs
  obtain ⟨p2_0, hpn⟩ : ∃ p, q1.length = p := ⟨_, rfl⟩
  simp only [hpn] at *
  clear hpn
  clear R LF LO
  have R := And.intro (E.res 0 rfl rfl (dep_lks _ _)) (And.intro (fun x => (E.snoc (x := x)).res 0 rfl rfl (dep_lks _ _)) (And.intro (E.res1 4 rfl rfl (dep_ints _ _)) (And.intro (fun x => (E.snoc (x := x)).res1 4 rfl rfl (dep_ints _ _)) (And.intro (E.res1 5 rfl rfl (dep_ints _ _)) (And.intro (fun x => (E.snoc (x := x)).res1 5 rfl rfl (dep_ints _ _)) (And.intro (E.res1 7 rfl rfl (dep_ints _ _)) (And.intro (fun x => (E.snoc (x := x)).res1 7 rfl rfl (dep_ints _ _)) (And.intro (E.res1 8 rfl rfl (dep_ints _ _)) (And.intro (fun x => (E.snoc (x := x)).res1 8 rfl rfl (dep_ints _ _)) (And.intro (E.res1 10 rfl rfl (dep_ints _ _)) (And.intro (fun x => (E.snoc (x := x)).res1 10 rfl rfl (dep_ints _ _)) (And.intro (E.res1 11 rfl rfl (dep_ints _ _)) (fun x => (E.snoc (x := x)).res1 11 rfl rfl (dep_ints _ _))))))))))))))
  have LF := And.intro (E.leaf 0 rfl rfl) (And.intro (E.leaf 4 rfl rfl) (And.intro (E.leaf 5 rfl rfl) (And.intro (E.leaf 7 rfl rfl) (And.intro (E.leaf 8 rfl rfl) (And.intro (E.leaf 10 rfl rfl) (E.leaf 11 rfl rfl))))))
  have LO := And.intro (E.at0 (p := 0) (ob := ⟨11, [[iv (lkOf a b c).a, iv (lkOf a b c).b, .bool (lkOf a b c).w.neg, ints (lkOf a b c).w.mag, ints (lkOf a b c).w.den, .bool (lkOf a b c).dx.neg, ints (lkOf a b c).dx.mag, ints (lkOf a b c).dx.den, .bool (lkOf a b c).dy.neg, ints (lkOf a b c).dy.mag, ints (lkOf a b c).dy.den]]⟩) (by simp)) (E.at0 (p := p2_0) (ob := ⟨11, [[iv (lkOf a b c).a, iv (lkOf a b c).b, .bool (lkOf a b c).w.neg, g0_3, g0_4, .bool (lkOf a b c).dx.neg, g0_6, g0_7, .bool (lkOf a b c).dy.neg, g0_9, g0_10]]⟩) (by simp))
  refine PFK_of (c_eqLink h.d_laws_eqLink (x := (lkOf a b c)) (y := (lkOf a b c)) wr wr) ?_
  (refine ew5 @R @LF @LO @numK_any @or_sc ?_; try with_reducible exact True.intro)
  refine PFK_of (c_toLinkS h.d_laws_toLinkS (l := a) za) ?_
  (refine ew5 @R @LF @LO @numK_any @or_sc ?_; try with_reducible exact True.intro)
  refine PFK_of (c_eqLinkS h.d_laws_eqLinkS (a := a) (b := a) wa wa) ?_
  (refine ew5 @R @LF @LO @numK_any @or_sc ?_; try with_reducible exact True.intro)
  have hk0 : ¬ ((1 + cnL Lk.ct a a.length : Int) < 0) := by omega
  obtain ⟨s3, hr, E2, hl⟩ := E.call 0 (mk_markLinkS h.d_laws_markLinkS (l := a) (k := 1) (by first | omega | (constructor <;> omega)) (by first | omega | (constructor <;> omega))) rfl rfl
  refine RefK_mk hr rfl hl (by simp) ?_
  clear hr hl E R LF LO
  have E : Ep s3 [x0, iv (lkOf a b c).a, iv (lkOf a b c).b, .bool (lkOf a b c).w.neg, g0_3, g0_4, .bool (lkOf a b c).dx.neg, g0_6, g0_7, .bool (lkOf a b c).dy.neg, g0_9, g0_10] [lksV (mkL Lk.mk3 Lk.ct 1 a), iv (lkOf a b c).a, iv (lkOf a b c).b, .bool (lkOf a b c).w.neg, ints (lkOf a b c).w.mag, ints (lkOf a b c).w.den, .bool (lkOf a b c).dx.neg, ints (lkOf a b c).dx.mag, ints (lkOf a b c).dx.den, .bool (lkOf a b c).dy.neg, ints (lkOf a b c).dy.mag, ints (lkOf a b c).dy.den] _ [(0, ⟨11, [[iv (lkOf a b c).a, iv (lkOf a b c).b, .bool (lkOf a b c).w.neg, ints (lkOf a b c).w.mag, ints (lkOf a b c).w.den, .bool (lkOf a b c).dx.neg, ints (lkOf a b c).dx.mag, ints (lkOf a b c).dx.den, .bool (lkOf a b c).dy.neg, ints (lkOf a b c).dy.mag, ints (lkOf a b c).dy.den]]⟩), (p2_0, ⟨11, [[iv (lkOf a b c).a, iv (lkOf a b c).b, .bool (lkOf a b c).w.neg, g0_3, g0_4, .bool (lkOf a b c).dx.neg, g0_6, g0_7, .bool (lkOf a b c).dy.neg, g0_9, g0_10]]⟩)] := E2
  clear E2
  have R := And.intro (E.res 0 rfl rfl (dep_lks _ _)) (And.intro (fun x => (E.snoc (x := x)).res 0 rfl rfl (dep_lks _ _)) (And.intro (E.res1 4 rfl rfl (dep_ints _ _)) (And.intro (fun x => (E.snoc (x := x)).res1 4 rfl rfl (dep_ints _ _)) (And.intro (E.res1 5 rfl rfl (dep_ints _ _)) (And.intro (fun x => (E.snoc (x := x)).res1 5 rfl rfl (dep_ints _ _)) (And.intro (E.res1 7 rfl rfl (dep_ints _ _)) (And.intro (fun x => (E.snoc (x := x)).res1 7 rfl rfl (dep_ints _ _)) (And.intro (E.res1 8 rfl rfl (dep_ints _ _)) (And.intro (fun x => (E.snoc (x := x)).res1 8 rfl rfl (dep_ints _ _)) (And.intro (E.res1 10 rfl rfl (dep_ints _ _)) (And.intro (fun x => (E.snoc (x := x)).res1 10 rfl rfl (dep_ints _ _)) (And.intro (E.res1 11 rfl rfl (dep_ints _ _)) (fun x => (E.snoc (x := x)).res1 11 rfl rfl (dep_ints _ _))))))))))))))
  have LF := And.intro (E.leaf 0 rfl rfl) (And.intro (E.leaf 4 rfl rfl) (And.intro (E.leaf 5 rfl rfl) (And.intro (E.leaf 7 rfl rfl) (And.intro (E.leaf 8 rfl rfl) (And.intro (E.leaf 10 rfl rfl) (E.leaf 11 rfl rfl))))))
  have LO := And.intro (E.at0 (p := 0) (ob := ⟨11, [[iv (lkOf a b c).a, iv (lkOf a b c).b, .bool (lkOf a b c).w.neg, ints (lkOf a b c).w.mag, ints (lkOf a b c).w.den, .bool (lkOf a b c).dx.neg, ints (lkOf a b c).dx.mag, ints (lkOf a b c).dx.den, .bool (lkOf a b c).dy.neg, ints (lkOf a b c).dy.mag, ints (lkOf a b c).dy.den]]⟩) (by simp)) (E.at0 (p := p2_0) (ob := ⟨11, [[iv (lkOf a b c).a, iv (lkOf a b c).b, .bool (lkOf a b c).w.neg, g0_3, g0_4, .bool (lkOf a b c).dx.neg, g0_6, g0_7, .bool (lkOf a b c).dy.neg, g0_9, g0_10]]⟩) (by simp))
  (refine ew6 @R @LF @LO @numK_any @or_sc @hk0 ?_; try with_reducible exact True.intro)
  refine PFK_of (c_eqLink h.d_laws_eqLink (x := (lkOf a b c)) (y := (lkOf a b c)) wr wr) ?_
  (refine ew6 @R @LF @LO @numK_any @or_sc @hk0 ?_; try with_reducible exact True.intro)
  obtain ⟨s4, hr, E2, hl⟩ := E.part 1 11 (mk_markLink h.d_laws_markLink (x := (lkOf a b c)) (k := 1) (by first | omega | (constructor <;> omega)) (by first | omega | (constructor <;> omega))) rfl rfl (by simp)
  refine RefK_mk hr rfl hl (by simp) ?_
  clear hr hl E R LF LO
  have E : Ep s4 [x0, iv (lkOf a b c).a, iv (lkOf a b c).b, .bool (lkOf a b c).w.neg, g0_3, g0_4, .bool (lkOf a b c).dx.neg, g0_6, g0_7, .bool (lkOf a b c).dy.neg, g0_9, g0_10] [lksV (mkL Lk.mk3 Lk.ct 1 a), iv (lkOf a b c).a, iv (lkOf a b c).b, .bool (lkOf a b c).w.neg, ints (Lk.mk2 1 (lkOf a b c)).w.mag, ints (Lk.mk2 1 (lkOf a b c)).w.den, .bool (lkOf a b c).dx.neg, ints (Lk.mk2 1 (lkOf a b c)).dx.mag, ints (Lk.mk2 1 (lkOf a b c)).dx.den, .bool (lkOf a b c).dy.neg, ints (Lk.mk2 1 (lkOf a b c)).dy.mag, ints (Lk.mk2 1 (lkOf a b c)).dy.den] _ [(0, ⟨11, [[iv (lkOf a b c).a, iv (lkOf a b c).b, .bool (lkOf a b c).w.neg, ints (lkOf a b c).w.mag, ints (lkOf a b c).w.den, .bool (lkOf a b c).dx.neg, ints (lkOf a b c).dx.mag, ints (lkOf a b c).dx.den, .bool (lkOf a b c).dy.neg, ints (lkOf a b c).dy.mag, ints (lkOf a b c).dy.den]]⟩), (p2_0, ⟨11, [[iv (lkOf a b c).a, iv (lkOf a b c).b, .bool (lkOf a b c).w.neg, g0_3, g0_4, .bool (lkOf a b c).dx.neg, g0_6, g0_7, .bool (lkOf a b c).dy.neg, g0_9, g0_10]]⟩)] := E2
  clear E2
  have R := And.intro (E.res 0 rfl rfl (dep_lks _ _)) (And.intro (fun x => (E.snoc (x := x)).res 0 rfl rfl (dep_lks _ _)) (And.intro (E.res1 4 rfl rfl (dep_ints _ _)) (And.intro (fun x => (E.snoc (x := x)).res1 4 rfl rfl (dep_ints _ _)) (And.intro (E.res1 5 rfl rfl (dep_ints _ _)) (And.intro (fun x => (E.snoc (x := x)).res1 5 rfl rfl (dep_ints _ _)) (And.intro (E.res1 7 rfl rfl (dep_ints _ _)) (And.intro (fun x => (E.snoc (x := x)).res1 7 rfl rfl (dep_ints _ _)) (And.intro (E.res1 8 rfl rfl (dep_ints _ _)) (And.intro (fun x => (E.snoc (x := x)).res1 8 rfl rfl (dep_ints _ _)) (And.intro (E.res1 10 rfl rfl (dep_ints _ _)) (And.intro (fun x => (E.snoc (x := x)).res1 10 rfl rfl (dep_ints _ _)) (And.intro (E.res1 11 rfl rfl (dep_ints _ _)) (fun x => (E.snoc (x := x)).res1 11 rfl rfl (dep_ints _ _))))))))))))))
  have LF := And.intro (E.leaf 0 rfl rfl) (And.intro (E.leaf 4 rfl rfl) (And.intro (E.leaf 5 rfl rfl) (And.intro (E.leaf 7 rfl rfl) (And.intro (E.leaf 8 rfl rfl) (And.intro (E.leaf 10 rfl rfl) (E.leaf 11 rfl rfl))))))
  have LO := And.intro (E.at0 (p := 0) (ob := ⟨11, [[iv (lkOf a b c).a, iv (lkOf a b c).b, .bool (lkOf a b c).w.neg, ints (lkOf a b c).w.mag, ints (lkOf a b c).w.den, .bool (lkOf a b c).dx.neg, ints (lkOf a b c).dx.mag, ints (lkOf a b c).dx.den, .bool (lkOf a b c).dy.neg, ints (lkOf a b c).dy.mag, ints (lkOf a b c).dy.den]]⟩) (by simp)) (E.at0 (p := p2_0) (ob := ⟨11, [[iv (lkOf a b c).a, iv (lkOf a b c).b, .bool (lkOf a b c).w.neg, g0_3, g0_4, .bool (lkOf a b c).dx.neg, g0_6, g0_7, .bool (lkOf a b c).dy.neg, g0_9, g0_10]]⟩) (by simp))
  (refine ew5 @R @LF @LO @numK_any @or_sc ?_; try with_reducible exact True.intro)
  refine PFK_of (c_heldLink h.d_laws_heldLink (x := (lkOf a b c)) (k := 1) (by first | omega | (constructor <;> omega)) (by first | omega | (constructor <;> omega))) ?_
  (refine ew5 @R @LF @LO @numK_any @or_sc ?_; try with_reducible exact True.intro)
  refine brK_dec (fun hc => absurd hc (by first | omega | (constructor <;> omega))) fun _ => ?_
  (refine ew5 @R @LF @LO @numK_any @or_sc ?_; try with_reducible exact True.intro)
  refine PFK_of (c_toLinkS h.d_laws_toLinkS (l := a) za) ?_
  (refine ew5 @R @LF @LO @numK_any @or_sc ?_; try with_reducible exact True.intro)
  refine PFK_of (PI.frz (by exact dep_tup2 (dep_lk _ _) (dep_bool _ _))) ?_
  (refine ew5 @R @LF @LO @numK_any @or_sc ?_; try with_reducible exact True.intro)
  refine PFK_of (c_eqLink h.d_laws_eqLink (x := (lkOf a b c)) (y := (lkOf a b c)) wr wr) ?_
  (refine ew5 @R @LF @LO @numK_any @or_sc ?_; try with_reducible exact True.intro)
  refine PFK_of (c_heldLink h.d_laws_heldLink (x := (lkOf a b c)) (k := 1) (by first | omega | (constructor <;> omega)) (by first | omega | (constructor <;> omega))) ?_
  (refine ew5 @R @LF @LO @numK_any @or_sc ?_; try with_reducible exact True.intro)
  refine brK_dec (fun hc => absurd hc (by first | omega | (constructor <;> omega))) fun _ => ?_
  (refine ew5 @R @LF @LO @numK_any @or_sc ?_; try with_reducible exact True.intro)
  exact fin_bool
end Go.Ml
end
section
set_option linter.unusedSimpArgs false
namespace Go.Ml
def Fits (P : Program) (ν : Nat → Option Nat) (T : Nat → Option Fn) : Prop :=
  ∀ fid f F, ν fid = some f → T f = some F → ∃ fn, P.funcs[fid]? = some fn ∧ trFn P ν fn = some F
section
variable {P : Program} {ν : Nat → Option Nat} {T : Nat → Option Fn}
theorem okK_cons {m : Nat} {x : OpI} {l : List OpI} (h : okK m (x :: l) = true) : okK m l = true ∧ ∀ y ∈ l, y.i.makes = true → y.k ≠ x.k ∧ y.k < m := by
  have hm : ∀ (l : List OpI), okK m l = true → ∀ y ∈ l, y.i.makes = true → y.k < m := by
    intro l
    induction l with
    | nil => intro _ y hy; cases hy
    | cons z l ih =>
      intro h y hy hmk
      simp only [okK, Bool.and_eq_true] at h
      rcases List.mem_cons.1 hy with rfl | hy
      · have := h.1
        rw [if_pos hmk] at this
        simp only [Bool.and_eq_true, decide_eq_true_eq] at this
        exact this.1
      · exact ih h.2 y hy hmk
  simp only [okK, Bool.and_eq_true] at h
  refine ⟨h.2, fun y hy hmk => ⟨?_, hm l h.2 y hy hmk⟩⟩
  by_cases hx : x.i.makes = true
  · have := h.1
    rw [if_pos hx] at this
    simp only [Bool.and_eq_true, decide_eq_true_eq, List.all_eq_true] at this
    have := this.2 y hy
    simpa [hmk] using this
  · have := h.1
    rw [if_neg hx] at this
    simp only [beq_iff_eq] at this
    have := hm l h.2 y hy hmk
    omega
theorem okK_lt {m : Nat} : ∀ (l : List OpI), okK m l = true → ∀ x ∈ l, x.i.makes = true → x.k < m
  | [], _, y, hy, _ => by cases hy
  | z :: l, h, y, hy, hmk => by
    simp only [okK, Bool.and_eq_true] at h
    rcases List.mem_cons.1 hy with rfl | hy
    · have := h.1
      rw [if_pos hmk] at this
      simp only [Bool.and_eq_true, decide_eq_true_eq] at this
      exact this.1
    · exact okK_lt l h.2 y hy hmk
theorem okK_ne {m : Nat} : ∀ (l : List OpI), okK m l = true → ∀ (i j : Nat) (x y : OpI), l[i]? = some x → l[j]? = some y → i ≠ j → x.i.makes = true → x.k ≠ y.k
  | [], _, i, j, x, y, hx, _, _, _ => by simp at hx
  | z :: l, h, i, j, x, y, hx, hy, hij, hmk => by
    obtain ⟨k1, k2⟩ := okK_cons h
    cases i with
    | zero =>
      simp at hx; subst hx
      cases j with
      | zero => exact absurd rfl hij
      | succ j =>
        have hy' : y ∈ l := List.mem_of_getElem? (by simpa using hy)
        by_cases hmy : y.i.makes = true
        · exact fun e => (k2 y hy' hmy).1 e.symm
        · -- one that makes none has the number m
          have hm : ∀ (l : List OpI), okK m l = true → ∀ y ∈ l, y.i.makes ≠ true → y.k = m := by
            intro l
            induction l with
            | nil => intro _ y hy; cases hy
            | cons z l ih =>
              intro h y hy hn
              simp only [okK, Bool.and_eq_true] at h
              rcases List.mem_cons.1 hy with rfl | hy
              · have := h.1
                rw [if_neg hn] at this
                simpa using this
              · exact ih h.2 y hy hn
          have := hm l k1 y hy' hmy
          have h3 := okK_lt _ h z (by simp) hmk
          omega
    | succ i =>
      have hx' : x ∈ l := List.mem_of_getElem? (by simpa using hx)
      cases j with
      | zero =>
        simp at hy; subst hy
        exact (k2 x hx' hmk).1
      | succ j => exact okK_ne l k1 i j x y (by simpa using hx) (by simpa using hy) (by omega) hmk
theorem opsOk_cons {o : OpI} {l : List OpI} {st st1 st2 : St} (h1 : OpOk P ν o st st1) (h2 : OpsOk P ν l st1 st2) : OpsOk P ν (o :: l) st st2 := by
  obtain ⟨a1, a2, a3, a4⟩ := h1
  obtain ⟨b1, b2, b3, b4⟩ := h2
  refine ⟨b1.trans a1, b2.trans a2, Nat.le_trans a3 b3, ?_⟩
  intro ops dr nt m k rest htr hk M w0 D0 D a w hs hid Q hQ
  cases rest with
  | nil => simp [trOps] at htr
  | cons r rest =>
    simp only [trOps] at htr
    split at htr <;> first | (cases htr; done) | skip
    rename_i x hx
    split at htr <;> first | (cases htr; done) | skip
    rename_i l' hl'
    simp only [Option.some.injEq, List.cons.injEq] at htr
    obtain ⟨rfl, rfl⟩ := htr
    obtain ⟨k1, k2⟩ := okK_cons hk
    have key := a4 ops dr nt m k r hx M w0 D0 D a w hs (hid x (by simp)) (wpList P ops Q rest) Q (fun D' a' w' hs' hun => by
      refine b4 ops dr nt m _ rest hl' k1 M w0 D0 D' a' w' hs' (fun y hy hmk => ?_) Q hQ
      rw [a1]
      obtain ⟨e1, e2⟩ := hid y (by simp [hy]) hmk
      exact ⟨Nat.lt_of_lt_of_le e1 a3, hun _ (Nat.le_add_right _ _) e1 e2 (fun h => (k2 y hy hmk).1 (by omega))⟩)
    unfold wpList
    split
    · rename_i hw; rw [if_pos hw] at key; exact .inl key
    · rename_i hw; rw [if_neg hw] at key; exact key
theorem trC_inv {nt : Nat} {cc : Code} {c : C} (h : trC P ν nt cc = some c) : match c with
    | .skip => cc = .skip
    | .reg d m l => ∃ id ops, cc = .region id ops d ∧ trOps P ν ops d nt m 0 ops.toList = some l
    | .seq x y => ∃ a b, cc = .seq a b ∧ trC P ν nt a = some x ∧ trC P ν nt b = some y
    | .cond s x y => ∃ o a b, cc = .cond o a b ∧ trS o = some s ∧ trC P ν nt a = some x ∧ trC P ν nt b = some y
    | .block id x => ∃ a, cc = .block id a ∧ trC P ν nt a = some x
    | .loop x => ∃ a, cc = .loop a ∧ trC P ν nt a = some x
    | .exit id => cc = .exit id
    | .ret => cc = .ret := by
  cases cc with
  | skip => simp only [trC, Option.some.injEq] at h; subst h; rfl
  | region id ops d =>
    simp only [trC, Option.map_eq_some_iff] at h
    obtain ⟨l, h1, rfl⟩ := h
    exact ⟨id, ops, rfl, h1⟩
  | seq a b =>
    simp only [trC] at h
    split at h <;> first | (cases h; done) | skip
    rename_i x y h1 h2
    simp only [Option.some.injEq] at h; subst h
    exact ⟨a, b, rfl, h1, h2⟩
  | cond o a b =>
    simp only [trC] at h
    split at h <;> first | (cases h; done) | skip
    rename_i s x y h1 h2 h3
    simp only [Option.some.injEq] at h; subst h
    exact ⟨o, a, b, rfl, h1, h2, h3⟩
  | block id a =>
    simp only [trC, Option.map_eq_some_iff] at h
    obtain ⟨x, h1, rfl⟩ := h
    exact ⟨a, rfl, h1⟩
  | loop a =>
    simp only [trC, Option.map_eq_some_iff] at h
    obtain ⟨x, h1, rfl⟩ := h
    exact ⟨a, rfl, h1⟩
  | exit id => simp only [trC, Option.some.injEq] at h; subst h; rfl
  | ret => simp only [trC, Option.some.injEq] at h; subst h; rfl
  | _ => simp [trC] at h
theorem loop_of {c : C} {e : Ex} {st st' : St} (hk : st'.keep = st.keep) (h : LoopOk P ν c e st st') : CodeOk P ν (.loop c) e st st' := by
  refine ⟨hk, ?_⟩
  intro nt cc htr M w0 D0 D a w hs Q hQ
  obtain ⟨cb, rfl, hb⟩ := trC_inv htr
  intro b k cs
  obtain ⟨x, a', w', q, harr⟩ := h nt cb hb M w0 D0 D a w hs Q hQ b k cs
  exact ⟨x, a', w', q, .of_steps (.one step_loop) harr⟩
theorem exOf_ne {e : Ex} (h : e ≠ .normal) : exOf e ≠ .normal := by cases e <;> simp [exOf] at h ⊢
theorem then_of {next : Act → World → Prop} {Q : Exit → Act → World → Prop} {e : Ex} (h : e ≠ .normal) {a : Act} {w : World} (hq : Q (exOf e) a w) : Exit.then next Q (exOf e) a w := by
  cases e <;> first | (simp at h; done) | exact hq
def getRes (tmps : Array Value) : ResultVar → Sem Value
  | .tmp t => pure (tmps.getD t undef)
  | .cell q t => do loadVar t (← asAddr (tmps.getD q undef))
theorem results_eq (fn : Func) (tmps : Array Value) : results fn tmps = (do let vs ← fn.results.mapM (getRes tmps); pure (if h : vs.size = 1 then vs[0] else .tuple vs)) := rfl
theorem fnOk_fn (hT : Fits P ν T) {f : Nat} {args : List V} {σ : Store} {F : Fn} {e : Ex} {st' : St} {rs : List V} (hf : T f = some F) (hl : args.length = F.nargs)
    (ih : CodeOk P ν F.body e (St.enter args σ) st') (he : e = .normal ∨ e = .ret) (hr : F.res.mapM (Res.get st') = some rs) : FnOk P ν f args σ (packRes rs) st'.objs := by
  intro fid hfid w M D vals hv hS
  obtain ⟨fn, hfn, htr⟩ := hT fid f F hfid hf
  unfold trFn at htr
  split at htr <;> first | (cases htr; done) | skip
  rename_i body hbody
  split at htr <;> first | (cases htr; done) | skip
  rename_i b rs' hb hrs'
  split at htr <;> first | (cases htr; done) | skip
  rename_i hle
  simp only [Option.some.injEq] at htr; subst htr
  have hvl : vals.size = args.length := by simpa using (rdL_length _ _ hv).symm
  refine calls_of_wp hfn hbody ?_
  have hs0 : SR fn.ntmps M w D (St.enter args σ) D { tmps := vals ++ Array.replicate (fn.ntmps - vals.size) undef, defers := [] } w := by
    refine ⟨?_, ?_, rfl, hS, Gr.refl _ _, fun o d h => .inl ⟨o, d, h, rfl⟩, fun o _ => DSle.refl _⟩
    · intro t
      simp only [St.enter]
      by_cases ht : t < args.length
      · obtain ⟨y, h1, h2⟩ := rdL_get _ _ hv t args[t] (by simp [ht])
        have e1 : argE args t = args[t] := by simp [argE, ht]
        rw [e1]
        have e2 : (vals ++ Array.replicate (fn.ntmps - vals.size) undef).getD t undef = y := by
          rw [Array.getD_eq_getD_getElem?, Array.getElem?_append_left (by omega)]
          rw [← Array.getElem?_toList, h1]; rfl
        rw [e2]; exact h2
      · have e1 : argE args t = .any := by simp [argE, List.getD, List.getElem?_eq_none (Nat.le_of_not_lt ht)]
        rw [e1]; simp only [rd]
    · simp only [Array.size_append, Array.size_replicate]; simp only [] at hl; omega
  refine ih.2 fn.ntmps body hb M w D D _ w hs0 _ ?_
  intro D' a' w' hs'
  have hres : ∃ v, (results fn a'.tmps).run P w' = .ok v w' ∧ rd w' D' (XS M D') (packRes rs) v := by
    have hlist : ∀ (vars : List ResultVar) (rl : List Res) (vl : List V), vars.mapM (trRes P) = some rl → rl.mapM (Res.get st') = some vl →
        ∃ ys : List Value, (vars.mapM (getRes a'.tmps)).run P w' = .ok ys w' ∧ rdL w' D' (XS M D') vl ys := by
      intro vars
      induction vars with
      | nil => intro rl vl h1 h2; simp at h1; subst h1; simp at h2; subst h2; exact ⟨[], by simp, by simp [rdL]⟩
      | cons x vars ihv =>
        intro rl vl h1 h2
        simp only [List.mapM_cons, Option.pure_def, Option.bind_eq_bind, Option.bind_eq_some_iff, Option.some.injEq] at h1
        obtain ⟨r, hr1, rl', hr2, rfl⟩ := h1
        simp only [List.mapM_cons, Option.pure_def, Option.bind_eq_bind, Option.bind_eq_some_iff, Option.some.injEq] at h2
        obtain ⟨z, hz1, vl', hz2, rfl⟩ := h2
        obtain ⟨ys, k1, k2⟩ := ihv rl' vl' hr2 hz2
        cases x with
        | tmp t =>
          simp only [trRes, Option.some.injEq] at hr1; subst hr1
          simp only [Res.get, Option.some.injEq] at hz1; subst hz1
          refine ⟨a'.tmps.getD t undef :: ys, ?_, by simp only [rdL]; exact ⟨_, _, rfl, hs'.env t, k2⟩⟩
          have hg : (getRes a'.tmps (.tmp t)).run P w' = .ok (a'.tmps.getD t undef) w' := rfl
          simp only [List.mapM_cons, Sem.run_bind, Sem.run_pure, Result.andThen_ok, k1, hg]
        | cell q t =>
          simp only [trRes, Option.map_eq_some_iff] at hr1
          obtain ⟨⟨n, g⟩, hg, rfl⟩ := hr1
          simp only [Res.get] at hz1
          split at hz1 <;> first | (cases hz1; done) | skip
          rename_i row off hrow
          obtain ⟨u, j1, j2⟩ := run_load_agg hs'.store hg hrow (hs'.env q) hz1
          obtain ⟨bl, oo, hptr, _⟩ := rowAt_rd hs'.store hrow (hs'.env q)
          refine ⟨u :: ys, ?_, by simp only [rdL]; exact ⟨_, _, rfl, j2, k2⟩⟩
          have j1' : (loadVar t ⟨bl, oo + off, none⟩).run P w' = .ok u w' := by
            rw [hptr] at j1
            simpa [Instr.loadAt, Instr.sureAddr] using j1
          have hg : (getRes a'.tmps (.cell q t)).run P w' = .ok u w' := by
            simp only [getRes, hptr, asAddr, Sem.run_bind, Sem.run_pure, Result.andThen_ok, j1']
          simp only [List.mapM_cons, Sem.run_bind, Sem.run_pure, Result.andThen_ok, k1, hg]
    obtain ⟨ys, k1, k2⟩ := hlist fn.results.toList rs' rs hrs' hr
    refine ⟨if h : ys.toArray.size = 1 then ys.toArray[0] else .tuple ys.toArray, ?_, ?_⟩
    · have : (fn.results.mapM (getRes a'.tmps)).run P w' = .ok ys.toArray w' := by
        rw [← Array.toArray_toList (xs := fn.results), List.mapM_toArray, Sem.run_map, k1]; rfl
      rw [results_eq]
      simp only [Sem.run_bind, this, Result.andThen_ok, Sem.run_pure]
    · have hlen := rdL_length _ _ k2
      have gen : ∀ (rs : List V) (ys : List Value), rdL w' D' (XS M D') rs ys → rs.length = ys.length → rd w' D' (XS M D') (packRes rs) (if h : ys.toArray.size = 1 then ys.toArray[0] else .tuple ys.toArray) := by
        intro rs ys h hl
        cases rs with
        | nil =>
          cases ys with
          | nil => simp only [packRes]; rw [dif_neg (by simp)]; simp only [rd]; exact ⟨_, rfl, h⟩
          | cons y ys => simp at hl
        | cons x xs =>
          cases ys with
          | nil => simp at hl
          | cons y ys =>
            cases xs with
            | nil =>
              cases ys with
              | nil =>
                simp only [rdL] at h
                obtain ⟨y', ys', h0, h1, h2⟩ := h
                cases h0
                simpa [packRes] using h1
              | cons y' ys => simp at hl
            | cons x' xs =>
              cases ys with
              | nil => simp at hl
              | cons y' ys =>
                simp only [packRes]
                rw [dif_neg (by simp)]
                simp only [rd]
                exact ⟨_, rfl, h⟩
      exact gen rs ys k2 hlen
  obtain ⟨v, hv1, hv2⟩ := hres
  have hfin : bodyPost P fn (Post M D w σ.length (packRes rs) st'.objs) .ret a' w' :=
    ⟨hs'.df, v, hv1, v, D', rfl, hv2, hs'.store, hs'.gr, hs'.fr, fun o ho => hs'.kp o (by rw [ih.1]; exact ho)⟩
  rcases he with rfl | rfl <;> exact hfin
theorem trOps_get {ops : Array Oper} {dr : Bool} {nt m : Nat} : ∀ {k : Nat} {rest : List Oper} {l : List OpI}, trOps P ν ops dr nt m k rest = some l →
    l.length = rest.length ∧ ∀ (i : Nat) (x : OpI), l[i]? = some x → ∃ o k', rest[i]? = some o ∧ trOp P ν ops dr nt m k' o = some x
  | k, [], l, h => by simp only [trOps, Option.some.injEq] at h; subst h; simp
  | k, o :: rest, l, h => by
    simp only [trOps] at h
    split at h <;> first | (cases h; done) | skip
    rename_i x hx
    split at h <;> first | (cases h; done) | skip
    rename_i l' hl'
    simp only [Option.some.injEq] at h; subst h
    obtain ⟨e1, e2⟩ := trOps_get hl'
    refine ⟨by simp [e1], fun i y hi => ?_⟩
    cases i with
    | zero => simp at hi; subst hi; exact ⟨o, k, rfl, hx⟩
    | succ i => simpa using e2 i y (by simpa using hi)
theorem trOp_aft {ops : Array Oper} {nt m k : Nat} {o : Oper} {x : OpI} (h : trOp P ν ops true nt m k o = some x) : x.aft = trAft o := by
  unfold trOp at h
  split at h <;> first | (cases h; done) | skip
  split at h <;> first | (cases h; done) | skip
  simp only [Option.some.injEq] at h; subst h
  rfl
theorem ready_iff {ops : Array Oper} {nt m : Nat} {l : List OpI} (h : trOps P ν ops true nt m 0 ops.toList = some l) {done : List Nat} {listed : Array Bool} (hs : listed.size = ops.size)
    (hl : ∀ i, listed.getD i false = true ↔ i ∈ done) {i : Nat} : i ∈ Region.ready .any ops listed ↔ readyB l done i = true := by
  obtain ⟨e1, e2⟩ := trOps_get h
  rw [mem_ready]
  have hlt : ∀ {i : Nat}, i < ops.size → (listed.getD i true = false ↔ i ∉ done) := by
    intro i hi
    have : listed.getD i true = listed.getD i false := by
      rw [Array.getD_eq_getD_getElem?, Array.getD_eq_getD_getElem?, Array.getElem?_eq_getElem (by omega)]; rfl
    rw [this]
    constructor
    · intro h1 h2; rw [(hl i).2 h2] at h1; cases h1
    · intro h1
      cases hb : listed.getD i false with
      | false => rfl
      | true => exact absurd ((hl i).1 hb) h1
  constructor
  · rintro ⟨h1, o, ho, h2⟩
    have hi := (Array.getElem?_eq_some_iff.1 ho).1
    have hil : i < l.length := by rw [e1]; simpa using hi
    obtain ⟨o', k', ho', hx⟩ := e2 i l[i] (by simp [hil])
    have : o' = o := by rw [Array.getElem?_toList] at ho'; rw [ho] at ho'; exact (Option.some.inj ho').symm
    subst this
    unfold readyB
    rw [List.getElem?_eq_getElem hil]
    simp only [Bool.and_eq_true, Bool.not_eq_true', List.all_eq_true]
    refine ⟨?_, ?_⟩
    · have := (hlt hi).1 h1
      simpa using this
    · intro e he
      rw [trOp_aft hx] at he
      simp only [trAft, List.mem_map, List.mem_filter] at he
      obtain ⟨ed, ⟨h3, h4⟩, rfl⟩ := he
      have := h2 ed (by simpa using h3) h4
      simpa using (hl _).1 this
  · intro hr
    unfold readyB at hr
    split at hr <;> first | (cases hr; done) | skip
    rename_i x hx
    simp only [Bool.and_eq_true, Bool.not_eq_true', List.all_eq_true] at hr
    obtain ⟨o, k', ho, htr⟩ := e2 i x hx
    have ho' : ops[i]? = some o := by rwa [Array.getElem?_toList] at ho
    have hi := (Array.getElem?_eq_some_iff.1 ho').1
    refine ⟨(hlt hi).2 (by simpa using hr.1), o, ho', ?_⟩
    intro e he hb
    refine (hl _).2 ?_
    have := hr.2 e.on (by rw [trOp_aft htr]; simp only [trAft, List.mem_map, List.mem_filter]; exact ⟨e, ⟨by simpa using he, hb⟩, rfl⟩)
    simpa using this
theorem sound (hm : P.follows .mixedOrders = true) (hT : Fits P ν T) {j : Job} {o : Out} (h : Run T j o) : Sound P ν j o := by
  induction h with
  | skip st =>
    refine ⟨⟨rfl, ?_⟩, fun x h => by cases h⟩
    intro nt cc htr M w0 D0 D a w hs Q hQ
    have hc : cc = .skip := trC_inv htr
    subst hc
    exact Go.wp_skip (hQ D a w hs)
  | @reg m l st st' hk h ih =>
    obtain ⟨_, i1, i2, i3, i4⟩ := ih
    refine ⟨⟨i2, ?_⟩, fun x h => by cases h⟩
    intro nt cc htr M w0 D0 D a w hs Q hQ
    obtain ⟨id, ops, rfl, hops⟩ := trC_inv htr
    refine wp_region_list ?_
    refine i4 ops false nt m 0 ops.toList hops hk M w0 D0 D a w ⟨hs.env, hs.tm, hs.df, hs.mem m, hs.gr, hs.fr, hs.kp⟩ (fun x hx hmk => ?_) Q (fun D' a' w' h => hQ D' a' w' h)
    have hkm : x.k < m := by
      have : ∀ (l : List OpI), okK m l = true → ∀ x ∈ l, x.i.makes = true → x.k < m := by
        intro l
        induction l with
        | nil => intro _ y hy; cases hy
        | cons z l ih =>
          intro h y hy hmk
          simp only [okK, Bool.and_eq_true] at h
          rcases List.mem_cons.1 hy with rfl | hy
          · have := h.1
            rw [if_pos hmk] at this
            simp only [Bool.and_eq_true, decide_eq_true_eq] at this
            exact this.1
          · exact ih h.2 y hy hmk
      exact this l hk x hx hmk
    simp only [List.length_append, List.length_replicate]
    exact ⟨by omega, hs.store.far _ (by omega)⟩
  | @regD m l st st' hk h ih =>
    obtain ⟨_, i1, i2, i3, i4⟩ := ih
    refine ⟨⟨i2, ?_⟩, fun x h => by cases h⟩
    intro nt cc htr M w0 D0 D a w hs Q hQ
    obtain ⟨id, ops, rfl, hops⟩ := trC_inv htr
    refine wp_region_any hm ?_
    have hsd : SR nt M w0 D0 st D a { w with drawn := w.drawn + 1 } := by
      have hE : Ext w D (XS M D) { w with drawn := w.drawn + 1 } D (XS M D) := ⟨Nat.le_refl _, fun _ _ _ => rfl, fun _ _ h => h, fun _ => DSle.refl _⟩
      refine ⟨fun t => rd_mono _ _ hE (hs.env t), hs.tm, hs.df, ?_, ⟨hs.gr.size, hs.gr.os, hs.gr.tape, hs.gr.output, hs.gr.block⟩, hs.fr, hs.kp⟩
      refine ⟨fun o d ho => ?_, hs.store.alive, hs.store.inj, hs.store.far, hs.store.mlt⟩
      obtain ⟨ob, c, e, g1, g2, g3, g4, g5, g6, g7, g8, g9, g10, g11⟩ := hs.store.live o d ho
      refine ⟨ob, c, e, g1, g2, g3, g4, g5, g6, g7, g8, g9, g10, fun i x hi => ?_⟩
      obtain ⟨k0, y, k1, k2⟩ := g11 i x hi
      exact ⟨k0, y, k1, rd_mono _ _ hE k2⟩
    refine i4 ops nt m hops hk M w0 D0 D a _ ⟨hsd.env, hsd.tm, hsd.df, hsd.mem m, hsd.gr, hsd.fr, hsd.kp⟩ (fun i x hx _ hmk => ?_) Q (fun D' a' w' h => hQ D' a' w' h) _ _ (by simp) (fun i => ?_) ?_
    · have hkm : x.k < m := okK_lt l hk x (List.mem_of_getElem? hx) hmk
      simp only [List.length_append, List.length_replicate]
      exact ⟨by omega, hsd.store.far _ (by omega)⟩
    · simp only [Array.getD_eq_getD_getElem?, Array.getElem?_replicate]
      split <;> simp
    · simp
  | @anyN l done st h =>
    refine ⟨rfl, rfl, rfl, Nat.le_refl _, ?_⟩
    intro ops nt m htr hk M w0 D0 D a w hs hid Q hQ fuel listed h1 h2 h3
    refine wpAny_done ?_ (hQ D a w hs) fuel
    apply List.eq_nil_iff_forall_not_mem.2
    intro i hi
    rw [ready_iff htr h1 h2, h i] at hi
    cases hi
  | @anyC l done st st' i0 h0 f h h' ih ih' =>
    obtain ⟨_, b1, b2, b3, _⟩ := ih' i0 h0
    obtain ⟨x0, hx0⟩ : ∃ x0, l[i0]? = some x0 := by
      unfold readyB at h0
      split at h0 <;> first | (cases h0; done) | skip
      exact ⟨_, by assumption⟩
    obtain ⟨_, a1, a2, a3, _⟩ := ih i0 x0 hx0 h0
    refine ⟨rfl, b1.trans a1, b2.trans a2, Nat.le_trans a3 b3, ?_⟩
    intro ops nt m htr hk M w0 D0 D a w hs hid Q hQ fuel listed h1 h2 h3
    have hready : ∀ i, i ∈ Region.ready .any ops listed ↔ readyB l done i = true := fun i => ready_iff htr h1 h2
    have hpos : fuel ≠ 0 := by
      rintro rfl
      have hi := (hready i0).2 h0
      have := (mem_ready.1 hi).1
      obtain ⟨_, o, ho, _⟩ := mem_ready.1 hi
      have hlt := (Array.getElem?_eq_some_iff.1 ho).1
      have hmem : false ∈ listed.toList := by
        have : listed[i0]'(by omega) = false := by
          rw [Array.getD_eq_getD_getElem?, Array.getElem?_eq_getElem (by omega)] at this
          simpa using this
        rw [← this]; simp
      have := List.count_pos_iff.2 hmem
      omega
    obtain ⟨fuel, rfl⟩ := Nat.exists_eq_succ_of_ne_zero hpos
    refine ⟨fun hnil => ?_, fun i hi => ?_⟩
    · have := (hready i0).2 h0
      rw [hnil] at this; cases this
    · have hr := (hready i).1 hi
      obtain ⟨e1, e2⟩ := trOps_get htr
      obtain ⟨_, o, ho, _⟩ := mem_ready.1 hi
      have hlt := (Array.getElem?_eq_some_iff.1 ho).1
      have hil : i < l.length := by rw [e1]; simpa using hlt
      obtain ⟨o', k', ho', hx⟩ := e2 i l[i] (by simp [hil])
      have : o' = o := by rw [Array.getElem?_toList] at ho'; rw [ho] at ho'; exact (Option.some.inj ho').symm
      subst this
      have hli : l[i]? = some l[i] := by simp [hil]
      have hnd : i ∉ done := by
        unfold readyB at hr
        rw [hli] at hr
        simp only [Bool.and_eq_true, Bool.not_eq_true'] at hr
        simpa using hr.1
      obtain ⟨_, c1, c2, c3, c4⟩ := ih i l[i] hli hr
      obtain ⟨_, d1, d2, d3, d4⟩ := ih' i hr
      have key := c4 ops true nt m k' o' hx M w0 D0 D a w hs (fun hmk => hid i l[i] hli hnd hmk) (wpAny P .any ops Q fuel (listed.setIfInBounds i true)) Q (fun D' a' w' hs' hun => by
        refine d4 ops nt m htr hk M w0 D0 D' a' w' hs' (fun j y hy hj hmk => ?_) Q hQ fuel _ (by simpa using h1) (fun j => ?_) ?_
        · simp only [List.mem_cons, not_or] at hj
          rw [c1]
          obtain ⟨g1, g2⟩ := hid j y hy hj.2 hmk
          refine ⟨Nat.lt_of_lt_of_le g1 c3, hun _ (Nat.le_add_right _ _) g1 g2 ?_⟩
          intro he
          have hne := okK_ne l hk j i y l[i] hy hli hj.1 hmk
          omega
        · rw [Array.getD_eq_getD_getElem?, Array.getElem?_setIfInBounds]
          by_cases hij : i = j
          · subst hij
            simp [h1, hlt]
          · rw [if_neg hij, ← Array.getD_eq_getD_getElem?, h2 j]
            simp only [List.mem_cons]
            constructor
            · exact .inr
            · rintro (h | h)
              · exact absurd h.symm hij
              · exact h
        · have hfi : listed[i]'(by omega) = false := by
            have := (mem_ready.1 hi).1
            rw [Array.getD_eq_getD_getElem?, Array.getElem?_eq_getElem (by omega)] at this
            simpa using this
          rw [Array.toList_setIfInBounds, List.count_set (by simpa using (by omega : i < listed.size))]
          have h4 : listed.toList[i]'(by simpa using (by omega : i < listed.size)) = false := by simpa using hfi
          have h5 : 0 < listed.toList.count false := List.count_pos_iff.2 (by rw [← h4]; exact List.getElem_mem _)
          simp only [h4, beq_self_eq_true, if_true]
          have : (true == false) = false := rfl
          simp only [this, Bool.false_eq_true, if_false]
          omega)
      unfold wpOp
      simp only [ho]
      split
      · rename_i hw; rw [if_pos hw] at key; exact .inl key
      · rename_i hw; rw [if_neg hw] at key; exact key
  | @seqN a b st st1 o h h' ih ih' =>
    cases o with
    | fn r σ => trivial
    | code e st2 =>
    obtain ⟨⟨i1, i2⟩, _⟩ := ih
    obtain ⟨⟨j1, j2⟩, _⟩ := ih'
    refine ⟨⟨j1.trans i1, ?_⟩, fun x h => by cases h⟩
    intro nt cc htr M w0 D0 D a w hs Q hQ
    obtain ⟨ca, cb, rfl, ha, hb⟩ := trC_inv htr
    refine Go.wp_seq (i2 nt ca ha M w0 D0 D a w hs _ fun D' a' w' hs' => ?_)
    exact j2 nt cb hb M w0 D0 D' a' w' hs' Q hQ
  | @seqE a b st e st1 he h ih =>
    obtain ⟨⟨i1, i2⟩, _⟩ := ih
    refine ⟨⟨i1, ?_⟩, fun x h => by cases h⟩
    intro nt cc htr M w0 D0 D a w hs Q hQ
    obtain ⟨ca, cb, rfl, ha, hb⟩ := trC_inv htr
    exact Go.wp_seq (i2 nt ca ha M w0 D0 D a w hs _ fun D' a' w' hs' => then_of he (hQ D' a' w' hs'))
  | @cond x a b st t o hx h ih =>
    cases o with
    | fn r σ => trivial
    | code e st2 =>
    obtain ⟨⟨i1, i2⟩, _⟩ := ih
    refine ⟨⟨i1, ?_⟩, fun x h => by cases h⟩
    intro nt cc htr M w0 D0 D a w hs Q hQ
    obtain ⟨oc, ca, cb, rfl, h1, ha, hb⟩ := trC_inv htr
    have hv := rd_src hs.env h1
    rw [hx] at hv
    simp only [rd] at hv
    refine Go.wp_cond hv (i2 nt _ ?_ M w0 D0 D _ w hs Q hQ)
    cases t
    · exact hb
    · exact ha
  | @block id c st e st1 h ih =>
    obtain ⟨⟨i1, i2⟩, _⟩ := ih
    refine ⟨⟨i1, ?_⟩, fun x h => by cases h⟩
    intro nt cc htr M w0 D0 D a w hs Q hQ
    obtain ⟨ca, rfl, ha⟩ := trC_inv htr
    refine Go.wp_block (i2 nt ca ha M w0 D0 D a w hs _ fun D' a' w' hs' => ?_)
    have := hQ D' a' w' hs'
    cases e with
    | normal => exact this
    | ret => exact this
    | exit id' =>
      simp only [exOf, exIn, Exit.inBlock] at this ⊢
      by_cases hid : id' = id
      · simp only [hid, if_true] at this ⊢; exact this
      · simp only [hid, if_false] at this ⊢; exact this
  | @loopN c st st1 o h h' ih ih' =>
    cases o with
    | fn r σ => trivial
    | code e st2 =>
    obtain ⟨⟨i1, i2⟩, _⟩ := ih
    obtain ⟨⟨j1, _⟩, j2⟩ := ih'
    have key : LoopOk P ν c e st st2 := by
      intro nt cc htr M w0 D0 D a w hs Q hQ b k cs
      obtain ⟨x, a1, w1, ⟨D1, hx, hs1⟩, harr⟩ := i2 nt cc htr M w0 D0 D a w hs (fun x a' w' => ∃ D', x = .normal ∧ SR nt M w0 D0 st1 D' a' w') (fun D' a' w' h => ⟨D', rfl, h⟩) b (.inLoop cc :: k) cs
      subst hx
      obtain ⟨x2, a2, w2, q2, harr2⟩ := j2 c rfl nt cc htr M w0 D0 D1 a1 w1 hs1 Q hQ b k cs
      exact ⟨x2, a2, w2, q2, .of_steps (Steps.trans harr (.one step_inLoop)) harr2⟩
    exact ⟨loop_of (j1.trans i1) key, fun x hx => by cases hx; exact key⟩
  | @loopE c st e st1 he h ih =>
    obtain ⟨⟨i1, i2⟩, _⟩ := ih
    have key : LoopOk P ν c e st st1 := by
      intro nt cc htr M w0 D0 D a w hs Q hQ b k cs
      obtain ⟨x, a1, w1, ⟨D1, hx, hs1⟩, harr⟩ := i2 nt cc htr M w0 D0 D a w hs (fun x a' w' => ∃ D', x = exOf e ∧ SR nt M w0 D0 st1 D' a' w') (fun D' a' w' h => ⟨D', rfl, h⟩) b (.inLoop cc :: k) cs
      subst hx
      exact ⟨_, a1, w1, hQ D1 a1 w1 hs1, .pass (x := .inLoop cc) rfl (fun _ _ => .inl (exOf_ne he)) harr⟩
    exact ⟨loop_of i1 key, fun x hx => by cases hx; exact key⟩
  | exit id st =>
    refine ⟨⟨rfl, ?_⟩, fun x h => by cases h⟩
    intro nt cc htr M w0 D0 D a w hs Q hQ
    have hc : cc = .exit id := trC_inv htr
    subst hc
    exact Go.wp_exit (hQ D a w hs)
  | ret st =>
    refine ⟨⟨rfl, ?_⟩, fun x h => by cases h⟩
    intro nt cc htr M w0 D0 D a w hs Q hQ
    have hc : cc = .ret := trC_inv htr
    subst hc
    exact Go.wp_ret (hQ D a w hs)
  | @gc c st o ρ hn hρ h ih =>
    cases o with
    | fn r σ => trivial
    | code e st2 =>
    obtain ⟨⟨i1, i2⟩, i3⟩ := ih
    refine ⟨⟨i1, ?_⟩, ?_⟩
    · intro nt cc htr M w0 D0 D a w hs Q hQ
      exact i2 nt cc htr M w0 D0 _ a w (hs.gc hn hρ) Q hQ
    · intro x hx nt cc htr M w0 D0 D a w hs Q hQ
      exact i3 x hx nt cc htr M w0 D0 _ a w (hs.gc hn hρ) Q hQ
  | nil st =>
    refine ⟨rfl, rfl, rfl, Nat.le_refl _, ?_⟩
    intro ops dr nt m k rest htr hk M w0 D0 D a w hs hid Q hQ
    cases rest with
    | nil => exact hQ D a w hs
    | cons r rest =>
      simp only [trOps] at htr
      split at htr <;> first | (cases htr; done) | skip
      split at htr <;> first | (cases htr; done) | skip
  | @cons o l st st1 out h h' ih ih' =>
    cases out with
    | fn r σ => trivial
    | code e st2 => exact ⟨ih'.1, opsOk_cons ih.2 ih'.2⟩
  | off hg he => exact ⟨rfl, opOk_off hg he⟩
  | op hg h => exact ⟨rfl, opOk_op hg h⟩
  | callP hg hi ha h hR ih => exact ⟨rfl, opOk_callP hg hi ha ih hR⟩
  | callR ρ hn hρ hg hi h ih => exact ⟨rfl, opOk_callR hn hρ hg hi ih⟩
  | callG hg hi ha h hR ih => exact ⟨rfl, opOk_callG hg hi ha ih hR⟩
  | callI hg hi h hl hb ih => exact ⟨rfl, opOk_callI hg hi ih hl hb⟩
  | fn hf hl h he hr ih => exact fnOk_fn hT hf hl ih.1 he hr
  | frz h hr ih => exact fnOk_frz hr ih
  | gcF ρ hn hρ h ih => exact fnOk_gcF hn hρ ih
  | @forget c st st2 o he ho hk h' ih =>
    cases o with
    | fn r σ => trivial
    | code e st3 =>
    obtain ⟨⟨i1, i2⟩, i3⟩ := ih
    refine ⟨⟨i1.trans hk, ?_⟩, ?_⟩
    · intro nt cc htr M w0 D0 D a w hs Q hQ
      exact i2 nt cc htr M w0 D0 _ a w (hs.forget he ho hk) Q hQ
    · intro x hx nt cc htr M w0 D0 D a w hs Q hQ
      exact i3 x hx nt cc htr M w0 D0 _ a w (hs.forget he ho hk) Q hQ
  | @re c st st2 o W h h' ih =>
    cases o with
    | fn r σ => trivial
    | code e st3 =>
    obtain ⟨⟨i1, i2⟩, i3⟩ := ih
    refine ⟨⟨i1.trans h.keep, ?_⟩, ?_⟩
    · intro nt cc htr M w0 D0 D a w hs Q hQ
      exact i2 nt cc htr M w0 D0 _ a w (hs.re h) Q hQ
    · intro x hx nt cc htr M w0 D0 D a w hs Q hQ
      exact i3 x hx nt cc htr M w0 D0 _ a w (hs.re h) Q hQ
  | reF W ha h hs hr ih => exact fnOk_reF ha hs hr ih
  | laxF ha h hr ih => exact fnOk_laxF ha hr ih
end
end Go.Ml
end
section
set_option linter.unusedSimpArgs false
set_option linter.unusedVariables false
namespace Go.Ml
open Go.ChangeShapes Go.WideShapes Go.ChangeAt Go.RowKit
def nuOf : List (Nat × Nat × Fn) → Nat → Option Nat
  | [], _ => none
  | x :: l, i => if x.1 = i then some x.2.1 else nuOf l i
def tbOf : List (Nat × Nat × Fn) → Nat → Option Fn
  | [], _ => none
  | x :: l, k => if x.2.1 = k then some x.2.2 else tbOf l k
theorem nuOf_mem : ∀ {l : List (Nat × Nat × Fn)} {i k : Nat}, nuOf l i = some k → ∃ x ∈ l, x.1 = i ∧ x.2.1 = k
  | [], _, _, h => by simp [nuOf] at h
  | x :: l, i, k, h => by
    simp only [nuOf] at h
    split at h
    · rename_i e; exact ⟨x, by simp, e, by simpa using h⟩
    · obtain ⟨y, hy, e⟩ := nuOf_mem h; exact ⟨y, by simp [hy], e⟩
theorem tbOf_mem : ∀ {l : List (Nat × Nat × Fn)} {k : Nat} {F : Fn}, tbOf l k = some F → ∃ x ∈ l, x.2.1 = k ∧ x.2.2 = F
  | [], _, _, h => by simp [tbOf] at h
  | x :: l, i, k, h => by
    simp only [tbOf] at h
    split at h
    · rename_i e; exact ⟨x, by simp, e, by simpa using h⟩
    · obtain ⟨y, hy, e⟩ := tbOf_mem h; exact ⟨y, by simp [hy], e⟩
theorem eq_of_nodup_map {α β : Type} {f : α → β} : ∀ {l : List α}, (l.map f).Nodup → ∀ {x y}, x ∈ l → y ∈ l → f x = f y → x = y
  | [], _, _, _, h, _, _ => by cases h
  | a :: l, hn, x, y, hx, hy, e => by
    simp only [List.map_cons, List.nodup_cons] at hn
    rcases List.mem_cons.1 hx with rfl | hx' <;> rcases List.mem_cons.1 hy with rfl | hy'
    · rfl
    · exact absurd (e ▸ List.mem_map_of_mem hy') hn.1
    · exact absurd (e ▸ List.mem_map_of_mem hx') hn.1
    · exact eq_of_nodup_map hn.2 hx' hy' e
theorem fits_of {P : Program} {l : List (Nat × Nat × Fn)} (hnd : (l.map (·.2.1)).Nodup) (h : ∀ x ∈ l, ∃ fn, P.funcs[x.1]? = some fn ∧ trFn P (nuOf l) fn = some x.2.2) : Fits P (nuOf l) (tbOf l) := by
  intro fid f F h1 h2
  obtain ⟨x, hx, e1, e2⟩ := nuOf_mem h1
  obtain ⟨y, hy, e3, e4⟩ := tbOf_mem h2
  have : x = y := eq_of_nodup_map hnd hx hy (e2.trans e3.symm)
  subst this
  rw [← e1, ← e4]
  exact h x hx
theorem calls_of {P : Program} {l : List (Nat × Nat × Fn)} (hm : P.follows .mixedOrders = true) (hT : Fits P (nuOf l) (tbOf l)) {f fid : Nat} {args : List V} {r : V} (h : PF (tbOf l) f args r) (hf : nuOf l fid = some f)
    {w : World} {vals : Array Value} (hr : rdL w DM.none (fun _ => False) args vals.toList) :
    Calls P fid vals w fun e w' => (∃ v D X, e = .returned v ∧ rd w' D X r v) ∧ Below w.heap.size w w' := by
  have hs := sound hm hT h
  have hX : XS (fun _ => False) DM.none = fun _ => False := by
    funext b; simp [XS, DM.none]
  refine (hs fid hf w (fun _ => False) DM.none vals (by rw [hX]; exact hr) ⟨?_, ?_, ?_, ?_, ?_⟩).mono fun e w' hp => ?_
  · intro o d h; cases h
  · intro o ob h; simp [objAt] at h
  · intro o o' d d' h; cases h
  · intro o _; rfl
  · intro b h; exact h.elim
  · obtain ⟨v, D', e1, e2, e3, e4, _⟩ := hp
    refine ⟨⟨v, D', _, e1, e2⟩, ⟨e4.os, e4.tape, e4.output, e4.size, fun k hk => e4.block k hk ?_⟩⟩
    rintro ⟨o, d, h, _⟩; cases h
theorem calls_true {P : Program} {l : List (Nat × Nat × Fn)} (hm : P.follows .mixedOrders = true) (hT : Fits P (nuOf l) (tbOf l)) {f fid : Nat} {args : List V} (h : PF (tbOf l) f args (.bool true)) (hf : nuOf l fid = some f)
    {w : World} {vals : Array Value} (hr : rdL w DM.none (fun _ => False) args vals.toList) :
    Calls P fid vals w fun e w' => e = .returned (.bool true) ∧ Below w.heap.size w w' :=
  (calls_of hm hT h hf hr).mono fun e w' hp => by
    obtain ⟨⟨v, D, X, rfl, e2⟩, hb⟩ := hp
    have : v = .bool true := by simpa [rd] using e2
    exact ⟨by rw [this], hb⟩
end Go.Ml
end
