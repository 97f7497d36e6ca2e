/- Contracts of functions. -/
import Derived.Test.YtkejhjeikhagaaaDoorPart1
section
set_option linter.unusedSimpArgs false
set_option linter.unusedVariables false
namespace Go.Ml
theorem mapL_eq (g : Nat → Option Nat) : ∀ l : List V, mapV.mapL g l = l.map (mapV g)
  | [] => rfl
  | x :: l => by simp only [mapV.mapL, List.map_cons, mapL_eq g l]
section
variable {σ σ2 : Store} {m : Nat}
theorem mapM_shift {n : Nat} (ih : ∀ v t : V, resolve σ n v = some t → resolve σ2 n (mapV (shiftN m) v) = some t) : ∀ (l l' : List V), l.mapM (resolve σ n) = some l' → (l.map (mapV (shiftN m))).mapM (resolve σ2 n) = some l'
  | [], l', h => by simpa using h
  | x :: l, l', h => by
    simp only [List.mapM_cons, Option.pure_def, Option.bind_eq_bind, Option.bind_eq_some_iff, List.map_cons] at h ⊢
    obtain ⟨a, ha, b, hb, e⟩ := h
    exact ⟨a, ih x a ha, b, mapM_shift ih l b hb, e⟩
theorem mapM_shiftR {n : Nat} (ih : ∀ v t : V, resolve σ n v = some t → resolve σ2 n (mapV (shiftN m) v) = some t) : ∀ (l : List (List V)) (l' : List (List V)), (l.mapM fun (r : List V) => r.mapM (resolve σ n)) = some l' →
    ((l.map fun r => r.map (mapV (shiftN m))).mapM fun (r : List V) => r.mapM (resolve σ2 n)) = some l'
  | [], l', h => by simpa using h
  | x :: l, l', h => by
    simp only [List.mapM_cons, Option.pure_def, Option.bind_eq_bind, Option.bind_eq_some_iff, List.map_cons] at h ⊢
    obtain ⟨a, ha, b, hb, e⟩ := h
    exact ⟨a, mapM_shift ih x a ha, b, mapM_shiftR ih l b hb, e⟩
theorem res_shift (hs : ∀ o, objAt σ2 (m + o) = (objAt σ o).map (mapO (shiftN m))) : ∀ (n : Nat) (v t : V), resolve σ n v = some t → resolve σ2 n (mapV (shiftN m) v) = some t
  | 0, _, _, h => by simp [resolve] at h
  | n + 1, v, t, h => by
    have ih := res_shift hs n
    cases v with
    | msl o s l =>
      simp only [mapV, shiftN, resolve, hs] at h ⊢
      cases ho : objAt σ o with
      | none => rw [ho] at h; cases h
      | some ob =>
        rw [ho] at h
        simp only [Option.map_some, mapO, List.length_map] at h ⊢
        split at h
        · rename_i hl
          rw [if_pos hl]
          obtain ⟨rows, h1, rfl⟩ := Option.map_eq_some_iff.1 h
          rw [Option.map_eq_some_iff]
          refine ⟨rows, ?_, rfl⟩
          rw [← List.map_drop, ← List.map_take]
          exact mapM_shiftR ih _ _ h1
        · cases h
    | ptr o r off =>
      simp only [mapV, shiftN, resolve, hs] at h ⊢
      cases ho : objAt σ o with
      | none => rw [ho] at h; cases h
      | some ob =>
        rw [ho] at h
        simp only [Option.map_some, mapO, List.getElem?_map] at h ⊢
        cases hr : ob.rows[r]? with
        | none => rw [hr] at h; cases h
        | some row =>
          rw [hr] at h
          simp only [Option.map_some] at h ⊢
          obtain ⟨row', h1, rfl⟩ := Option.map_eq_some_iff.1 h
          rw [Option.map_eq_some_iff]
          exact ⟨row', mapM_shift ih _ _ h1, rfl⟩
    | agg cs =>
      simp only [mapV, resolve] at h ⊢
      obtain ⟨cs', h1, rfl⟩ := Option.map_eq_some_iff.1 h
      rw [Option.map_eq_some_iff, mapL_eq]
      exact ⟨cs', mapM_shift ih _ _ h1, rfl⟩
    | tup cs =>
      simp only [mapV, resolve] at h ⊢
      obtain ⟨cs', h1, rfl⟩ := Option.map_eq_some_iff.1 h
      rw [Option.map_eq_some_iff, mapL_eq]
      exact ⟨cs', mapM_shift ih _ _ h1, rfl⟩
    | any => simp [resolve] at h
    | one => simpa only [mapV, resolve] using h
    | int k n => simpa only [mapV, resolve] using h
    | bool b => simpa only [mapV, resolve] using h
    | str b => simpa only [mapV, resolve] using h
    | nils => simpa only [mapV, resolve] using h
    | sl a b => simpa only [mapV, resolve] using h
    | fptr a b => simpa only [mapV, resolve] using h
end
def OwX (σ : Store) : List V → List (Bool × V) → List Nat → Prop
  | vs, [], os => vs = [] ∧ os = []
  | vs, (b, t) :: ts, os => ∃ v vs' o1 o2, vs = v :: vs' ∧ os = o1 ++ o2 ∧ (if b = true then OwV σ v t o1 else resolve σ FD v = some t ∧ o1 = []) ∧ OwX σ vs' ts o2
theorem OwX.shift {σ σ2 : Store} {n : Nat} (hs : ∀ o, objAt σ2 (n + o) = (objAt σ o).map (mapO (shiftN n))) : ∀ {ts : List (Bool × V)} {vs : List V} {os : List Nat}, OwX σ vs ts os → OwX σ2 (vs.map (mapV (shiftN n))) ts (os.map (n + ·))
  | [], vs, os, h => by simp only [OwX] at h ⊢; obtain ⟨rfl, rfl⟩ := h; exact ⟨rfl, rfl⟩
  | (b, t) :: ts, vs, os, h => by
    simp only [OwX] at h ⊢
    obtain ⟨v, vs', o1, o2, rfl, rfl, h1, h2⟩ := h
    refine ⟨_, _, o1.map (n + ·), o2.map (n + ·), rfl, by rw [List.map_append], ?_, OwX.shift hs h2⟩
    cases b with
    | true => simp only [if_true] at h1 ⊢; exact OwV.shift hs h1
    | false =>
      simp only [Bool.false_eq_true, if_false] at h1 ⊢
      exact ⟨res_shift hs _ _ _ h1.1, by rw [h1.2]; rfl⟩
structure GotX (σ σ2 : Store) (vs : List V) (ts : List (Bool × V)) (os : List Nat) : Prop where
  ow : OwX σ2 vs ts os
  nd : os.Nodup
  fresh : ∀ o ∈ os, σ.length ≤ o
  old : ∀ o, o < σ.length → objAt σ2 o = objAt σ o
  len : σ.length ≤ σ2.length
end Go.Ml
end
section
set_option linter.unusedSimpArgs false
set_option linter.unusedVariables false
namespace Go.Ml
structure Grow (s : Store) (v : V) (sz : Nat) (A ts : List (List V)) : Prop where
  ex : ∃ os, OwR s A ts os ∧ os.Nodup ∧ ((A = [] ∧ v = .nils) ∨ ∃ o, v = .msl o 0 A.length ∧ objAt s o = some ⟨sz, A⟩ ∧ o ∉ os)
section
variable {s s1 σ2 S : Store} {v : V} {sz : Nat} {A ts : List (List V)}
theorem Grow.len (h : Grow s v sz A ts) : A.length = ts.length := by obtain ⟨os, a, _⟩ := h.ex; exact a.len
theorem Grow.cases (h : Grow s v sz A ts) : (A = [] ∧ ts = [] ∧ v = .nils) ∨ ∃ o, v = .msl o 0 A.length ∧ objAt s o = some ⟨sz, A⟩ ∧ o < s.length := by
  have hl := h.len
  obtain ⟨os, a, b, c⟩ := h.ex
  rcases c with ⟨rfl, rfl⟩ | ⟨o, rfl, h1, h2⟩
  · exact .inl ⟨rfl, List.eq_nil_of_length_eq_zero (by simpa using hl.symm), rfl⟩
  · exact .inr ⟨o, rfl, h1, objAt_lt h1⟩
theorem Grow.frame (h : Grow s v sz A ts) (f : ∀ o, o < s.length → objAt S o = objAt s o) : Grow S v sz A ts := by
  obtain ⟨os, a, b, c⟩ := h.ex
  refine ⟨os, a.frame fun q hq => f q (a.lt q hq), b, ?_⟩
  rcases c with c | ⟨o, rfl, h1, h2⟩
  · exact .inl c
  · exact .inr ⟨o, rfl, (f o (objAt_lt h1)).trans h1, h2⟩
theorem Grow.app {cs tcs : List V} {os2 : List Nat} {id2 : Nat} (h : Grow s v sz A ts) (hs : ∀ o, o < s.length → objAt s1 o = objAt s o) (hl : s.length ≤ s1.length) (g : Got s1 σ2 (.agg cs) (.agg tcs) os2)
    (h0 : s.length ≤ id2) (hid : id2 < s1.length) (h2 : objAt S id2 = some ⟨sz, A ++ [cs]⟩)
    (hf : ∀ q, q ≠ id2 → (q < s.length ∨ s1.length ≤ q) → (∀ n, v ≠ .msl q 0 n) → objAt S q = objAt σ2 q) : Grow S (.msl id2 0 (A.length + 1)) sz (A ++ [cs]) (ts ++ [tcs]) := by
  obtain ⟨os, a, b, c⟩ := h.ex
  have a' := a.frame (σ' := σ2) fun q hq => by
    have := a.lt q hq
    rw [g.old q (by omega), hs q this]
  obtain ⟨cs', e, hc⟩ := g.ow.agg_inv
  cases e
  have hlt := a.lt
  have hv : ∀ q ∈ os ++ os2, ∀ n, v ≠ .msl q 0 n := by
    intro q hq n
    rcases c with ⟨_, rfl⟩ | ⟨o, rfl, h1, h2⟩
    · simp
    · intro e
      have e2 : o = q := by injection e
      rw [e2] at h1 h2
      rcases List.mem_append.1 hq with hq | hq
      · exact h2 hq
      · have := g.fresh q hq
        have := objAt_lt h1
        omega
  have hne : ∀ q ∈ os ++ os2, q ≠ id2 ∧ (q < s.length ∨ s1.length ≤ q) := by
    intro q hq
    rcases List.mem_append.1 hq with hq | hq
    · have := hlt q hq; exact ⟨by omega, by omega⟩
    · have := g.fresh q hq; exact ⟨by omega, by omega⟩
  have fr : ∀ q ∈ os ++ os2, objAt S q = objAt σ2 q := fun q hq => hf q (hne q hq).1 (hne q hq).2 (hv q hq)
  refine ⟨os ++ os2, owR_append (a'.frame fun q hq => fr q (List.mem_append_left _ hq)) (owR_1 (hc.frame fun q hq => fr q (List.mem_append_right _ hq))), ?_, .inr ⟨id2, by simp, h2, fun hm => (hne id2 hm).1 rfl⟩⟩
  rw [List.nodup_append]
  refine ⟨b, g.nd, fun x hx y hy e => ?_⟩
  have := hlt x hx
  have := g.fresh y hy
  omega
end
end Go.Ml
end
section
set_option linter.unusedSimpArgs false
set_option linter.unusedVariables false
namespace Go.Ml
structure Ep (s : Store) (cs ts : List V) (os : List Nat) (L : List (Nat × Obj)) : Prop where
  c : Cs s cs ts os
  l : ∀ q ∈ L, objAt s q.1 = some q.2 ∧ q.1 ∉ os
section
variable {s σ2 : Store} {cs ts : List V} {os os2 : List Nat} {L : List (Nat × Obj)}
theorem Ep.lt (E : Ep s cs ts os L) : ∀ q ∈ L, q.1 < s.length := fun q hq => objAt_lt (E.l q hq).1
theorem Ep.snoc (E : Ep s cs ts os L) {x : Option Obj} : Ep (s ++ [x]) cs ts os L := ⟨E.c.snoc, fun q hq => ⟨(objAt_snoc_lt (E.lt q hq)).trans (E.l q hq).1, (E.l q hq).2⟩⟩
theorem Ep.res (E : Ep s cs ts os L) (c : Nat) {v t : V} (hv : cs[c]? = some v) (ht : ts[c]? = some t) (hd : DepLe FD t) : resolve s FD v = some t := E.c.res c hv ht hd
theorem Ep.leaf (E : Ep s cs ts os L) (c : Nat) {v t : V} (hv : cs[c]? = some v) (ht : ts[c]? = some t) (hl : t.leaf = true := by rfl) : v.leaf = true := by
  obtain ⟨vc, oc, j1, j2, _⟩ := E.c.ow.focus c t E.c.nd ht
  rw [hv] at j1
  cases j1
  exact j2.leaf hl
theorem Ep.call {T : Nat → Option Fn} {f : Nat} {t t' v : V} {k k' : Int} (E : Ep s cs ts os L) (c : Nat) (hm : Mk T f t k t' k') (hv : cs[c]? = some v) (ht : ts[c]? = some t) :
    ∃ s', Run T (.fn f [v, .int .i64 k] s) (.fn (.int .i64 k') s') ∧ Ep s' cs (ts.set c t') os L ∧ s.length ≤ s'.length := by
  obtain ⟨s', h1, h2, h3⟩ := E.c.call c hm hv ht
  exact ⟨s', h1, ⟨h2, fun q hq => ⟨(h3.old _ (E.lt q hq) (E.l q hq).2).trans (E.l q hq).1, (E.l q hq).2⟩⟩, h3.len⟩
theorem Ep.part {T : Nat → Option Fn} {f : Nat} {t2 t2' r2 : List V} {k k' : Int} (E : Ep s cs ts os L) (n m : Nat) (hm : Mk T f (.agg t2) k (.agg t2') k') (hr : (cs.drop n).take m = r2) (ht : (ts.drop n).take m = t2) (hn : n + m ≤ ts.length) :
    ∃ s', Run T (.fn f [.agg r2, .int .i64 k] s) (.fn (.int .i64 k') s') ∧ Ep s' cs (ts.take n ++ t2' ++ ts.drop (n + m)) os L ∧ s.length ≤ s'.length := by
  obtain ⟨s', h1, h2, h3⟩ := E.c.part n m hm ht hn
  rw [hr] at h1
  exact ⟨s', h1, ⟨h2, fun q hq => ⟨(h3.old _ (E.lt q hq) (E.l q hq).2).trans (E.l q hq).1, (E.l q hq).2⟩⟩, h3.len⟩
end
section
variable {σ : Store} {os : List Nat}
theorem OwL.cd {cs : List V} {x : Cd} (h : OwL σ cs x.cells os) : ∃ c2 c3 c4, cs = [iv x.node, .bool x.total.neg, c2, c3, c4] := by
  obtain ⟨cs, rfl, h1⟩ := h.int_inv
  obtain ⟨cs, rfl, h2⟩ := h1.bool_inv
  match cs, h2.len with
  | [a, b, c], _ => exact ⟨a, b, c, rfl⟩
end
end Go.Ml
namespace Go.Ml
end Go.Ml
namespace Go.Ml
def sh (n0 n x : Nat) : Nat := if x < n0 then x else x + (n - n0)
end Go.Ml
namespace Go.Ml
end Go.Ml
end
section
set_option linter.unusedSimpArgs false
set_option linter.unusedVariables false
namespace Go.Ml
end Go.Ml
namespace Go.Ml
theorem reach_ints {σ : Store} {v : V} {l : List Int} {os : List Nat} (h : OwV σ v (ints l) os) : ∀ n, ∀ o ∈ reach σ n v, o ∈ os := by
  intro n o ho
  rcases h.ints_inv with ⟨_, rfl, _⟩ | ⟨q, rfl, h1, rfl⟩
  · cases n <;> simp [reach] at ho
  · cases n with
    | zero => simp [reach] at ho
    | succ n =>
      simp only [reach, h1, List.mem_cons, List.mem_flatMap] at ho
      rcases ho with rfl | ⟨r, hr, c, hc, ho⟩
      · simp
      · have hs := ir_still l r hr c hc
        cases n with
        | zero => simp [reach] at ho
        | succ n => rw [reach_still hs] at ho; cases ho
end Go.Ml
namespace Go.Ml
theorem Ep.push {s : Store} {cs ts : List V} {os : List Nat} {L : List (Nat × Obj)} {ob : Obj} (E : Ep s cs ts os L) : Ep (s ++ [some ob]) cs ts os (L ++ [(s.length, ob)]) := by
  refine ⟨E.c.snoc, fun q hq => ?_⟩
  rcases List.mem_append.1 hq with hq | hq
  · exact E.snoc.l q hq
  · simp only [List.mem_cons, List.not_mem_nil, or_false] at hq
    subst hq
    exact ⟨objAt_snoc _ _, fun hm => absurd (E.c.lt _ hm) (Nat.lt_irrefl _)⟩
theorem Ep.reach {s : Store} {cs ts : List V} {os : List Nat} {L : List (Nat × Obj)} (E : Ep s cs ts os L) (c : Nat) {v : V} {l : List Int} (hv : cs[c]? = some v) (ht : ts[c]? = some (ints l)) (n : Nat) : ∀ o ∈ reach s n v, o ∈ os := by
  intro o ho
  obtain ⟨vc, oc, j1, j2, _, j4, _⟩ := E.c.ow.focus c _ E.c.nd ht
  rw [hv] at j1
  cases j1
  exact j4 o (reach_ints j2 n o ho)
end Go.Ml
end
section
set_option linter.unusedSimpArgs false
set_option linter.unusedVariables false
set_option maxRecDepth 100000
set_option maxHeartbeats 4000000
namespace Go.Ml
def cnt (n : Nat) (k : Int) : List Int := (List.range n).map fun i => k + ((i : Nat) : Int)
end Go.Ml
end
section
set_option linter.unusedSimpArgs false
set_option linter.unusedVariables false
set_option maxRecDepth 100000
set_option maxHeartbeats 8000000
namespace Go.Ml
def F_impl_inRange : Fn := ⟨1, 9, [.tmp 2], (.seq (.reg false 0 [oN 2 (.mov (.c (.bool false)))]) (.seq (.reg false 0 [oN 3 (oV 0), oN 4 (.bin .geq (.t 3) (cI (-1000000))), oN 5 (oV 4), oG 5 true 6 (oV 0), oG 5 true 7 (.bin .leq (.t 6) (cI 1000000)), oN 8 (.pick (.t 5) (.t 7) (.c (.bool false))), oN 2 (oV 8)]) .ret))⟩
structure D_impl_inRange (T : Nat → Option Fn) : Prop where
  hT : T 38 = some F_impl_inRange
end Go.Ml
end
section
set_option linter.unusedSimpArgs false
set_option linter.unusedVariables false
set_option maxRecDepth 100000
set_option maxHeartbeats 4000000
namespace Go.Ml
def lkLess (k l : Lk) : Bool := decide (k.a < l.a) || (decide (k.a = l.a) && decide (k.b < l.b))
def allB (n : Nat) (p : Nat → Bool) : Bool := decide (∀ i, i < n → p i = true)
def lksAt (l : List Lk) (i : Nat) : Bool := lkOk (l.getD i default) && (decide (i = 0) || lkLess (l.getD (i - 1) default) (l.getD i default))
def lksOk (l : List Lk) : Bool := allB l.length (lksAt l)
end Go.Ml
end
section
set_option linter.unusedSimpArgs false
set_option linter.unusedVariables false
set_option maxRecDepth 100000
set_option maxHeartbeats 4000000
namespace Go.Ml
def ends (l : List Lk) (v : Int) : Bool := l.any fun x => decide (x.a = v) || decide (x.b = v)
def nodesI (l : List Lk) (v : Nat) : List Int := ((List.range v).filter fun (u : Nat) => decide (1 ≤ u) && ends l u).map fun u => ((u : Nat) : Int)
end Go.Ml
end
section
set_option linter.unusedSimpArgs false
namespace Go.Ml
def inB (a lo hi : Int) : Bool := decide (lo ≤ a) && decide (a ≤ hi)
def paAt (c : Cd) (i : Nat) : Bool :=
  inB (c.ps.getD i default).node 0 9 && !decide ((c.ps.getD i default).node = c.node) && (decide (i = 0) || decide ((c.ps.getD (i - 1) default).node < (c.ps.getD i default).node)) &&
    decide (0 < sgnR (c.ps.getD i default).share) && (c.ps.getD i default).dx.ok && (c.ps.getD i default).dy.ok
def sumS (l : List Pa) (n : Nat) : R := (l.take n).foldl (fun s p => addR s p.share) (intR 0)
def paOk (c : Cd) : Prop := ∀ i, i < c.ps.length → paAt c i = true
instance (c : Cd) : Decidable (paOk c) := inferInstanceAs (Decidable (∀ i, i < c.ps.length → paAt c i = true))
def cdOk (c : Cd) : Bool := decide (paOk c) && inB c.node 1 9 && decide (0 < sgnR c.total) && !c.ps.isEmpty && decide (sumS c.ps c.ps.length = intR 1)
end Go.Ml
end
section
set_option linter.unusedSimpArgs false
namespace Go.Ml
def netAt (l : List Cd) (i : Nat) : Prop :=
  cdOk (l.getD i default) = true ∧ (∀ k, k < (l.getD i default).ps.length → ((l.getD i default).ps.getD k default).node = 0 ∨ ∃ j, i < j ∧ j < l.length ∧ (l.getD j default).node = ((l.getD i default).ps.getD k default).node) ∧
    ∀ j, i < j → j < l.length → (l.getD j default).node ≠ (l.getD i default).node
noncomputable instance (l : List Cd) : Decidable (∀ i, i < l.length → netAt l i) := Classical.propDecidable _
end Go.Ml
end
section
set_option linter.unusedSimpArgs false
set_option linter.unusedVariables false
set_option maxRecDepth 100000
set_option maxHeartbeats 4000000
namespace Go.Ml
def nodesM (l : List Lk) : List Int := if lksOk l = true then nodesI l 10 else []
def ordP (l : List Lk) (o : List Int) : Prop := lksOk l = true ∧ o.length = (nodesM l).length ∧ ∀ x ∈ nodesM l, x ∈ o
instance (l : List Lk) (o : List Int) : Decidable (ordP l o) := inferInstanceAs (Decidable (_ ∧ _ ∧ _))
end Go.Ml
end
section
set_option linter.unusedSimpArgs false
set_option linter.unusedVariables false
set_option maxRecDepth 100000
set_option maxHeartbeats 8000000
namespace Go.Ml
def inC (n : Int) : Bool := decide (-1000000 ≤ n) && decide (n ≤ 1000000)
theorem c_inRange {T : Nat → Option Fn} (h : D_impl_inRange T) {n : Int} : PF T 38 [iv n] (.bool (inC n)) := by
  unfold inC
  refine pf_end (fun _ _ => false) h.hT rfl rfl ?_
  dsimp only [F_impl_inRange, oN, oS, oG, oK, oA, oH, oV, cI]
  (refine ev ?_; try with_reducible exact True.intro)
  by_cases h1 : -1000000 ≤ n
  · (refine ev1 @h1 ?_; try with_reducible exact True.intro)
  · (refine ev1 @h1 ?_; try with_reducible exact True.intro)
end Go.Ml
end
section
set_option linter.unusedSimpArgs false
set_option linter.unusedVariables false
set_option maxRecDepth 100000
set_option maxHeartbeats 4000000
namespace Go.Ml
open Lib
theorem srows_snoc (l : List (List UInt8)) (d : List UInt8) : srows l ++ [[V.str d]] = srows (l ++ [d]) := by simp [srows]
theorem slT_nil : slS 1 (srows []) = [] := rfl
theorem slT_cons (x : List UInt8) (l : List (List UInt8)) : slS 1 (srows (x :: l)) = [some ⟨1, srows (x :: l)⟩] := rfl
theorem still_ssnoc (l : List (List UInt8)) (d : List UInt8) : stillR (srows l ++ [[V.str d]]) := by rw [srows_snoc]; exact sr_still _
end Go.Ml
end
section
set_option linter.unusedSimpArgs false
set_option linter.unusedVariables false
set_option maxRecDepth 100000
set_option maxHeartbeats 4000000
namespace Go.Ml
open Lib
def F_impl_hasByte : Fn := ⟨2, 17, [.tmp 4], (.seq (.reg false 0 [oN 4 (.mov (.c (.bool false)))]) (.seq (.seq (.reg false 0 [oN 5 (.mov (cI 0))]) (.block 0 (.loop (.seq (.seq (.reg false 0 [oN 6 (oV 5), oN 7 (oV 0), oN 8 (.lenS (.t 7)), oN 9 (.bin .lss (.t 6) (.t 8))]) (.cond (.t 9) .skip (.exit 0))) (.seq (.block 1 (.seq (.reg false 0 [oN 12 (oV 0), oN 13 (oV 5), oN 14 (.idxS (.t 12) (.t 13)), oN 15 (oV 1), oN 16 (.bin .eql (.t 14) (.t 15))]) (.cond (.t 16) (.seq (.reg false 0 [oN 4 (.mov (.c (.bool true)))]) .ret) .skip))) (.reg false 0 [oN 10 (oV 5), oN 11 (.bin .add (.t 10) (cI 1)), oN 5 (oV 11)])))))) (.seq (.reg false 0 [oN 4 (.mov (.c (.bool false)))]) .ret)))⟩
structure D_impl_hasByte (T : Nat → Option Fn) : Prop where
  hT : T 264 = some F_impl_hasByte
def F_impl_SplitAny : Fn := ⟨2, 35, [.tmp 4], (.seq (.reg false 0 [oN 4 (.mov (.c (.nils)))]) (.seq (.reg false 1 [oN 8 (.mkSl 1 [.str []] 0 []), oK 5 1 (oV 8)]) (.seq (.reg false 0 [oN 6 (.mov (cI 0))]) (.seq (.seq (.reg false 0 [oN 7 (.mov (cI 0))]) (.block 0 (.loop (.seq (.seq (.reg false 0 [oN 9 (oV 7), oN 10 (oV 0), oN 11 (.lenS (.t 10)), oN 12 (.bin .lss (.t 9) (.t 11))]) (.cond (.t 12) .skip (.exit 0))) (.seq (.block 1 (.seq (.reg false 0 [oN 15 (oV 1), oN 16 (oV 0), oN 17 (oV 7), oN 18 (.idxS (.t 16) (.t 17)), oN 19 (.call 264 [(.t 15), (.t 18)])]) (.cond (.t 19) (.seq (.reg false 2 [oK 20 2 (oV 5), oK 21 2 (oV 0), oK 22 2 (oV 6), oK 23 2 (oV 7), oK 24 2 (.sliceS (.t 21) (some (.t 22)) (some (.t 23))), oN 25 (.mkSl 1 [.str []] 1 [(0, (.t 24))]), oK 26 1 (.app 1 16 (.t 20) (.t 25)), oK 5 2 (oV 26)]) (.reg false 0 [oN 27 (oV 7), oN 28 (.bin .add (.t 27) (cI 1)), oN 6 (oV 28)])) .skip))) (.reg false 0 [oN 13 (oV 7), oN 14 (.bin .add (.t 13) (cI 1)), oN 7 (oV 14)])))))) (.seq (.reg false 2 [oK 29 2 (oV 5), oK 30 2 (oV 0), oK 31 2 (oV 6), oK 32 2 (.sliceS (.t 30) (some (.t 31)) none), oN 33 (.mkSl 1 [.str []] 1 [(0, (.t 32))]), oK 34 1 (.app 1 16 (.t 29) (.t 33)), oK 4 2 (oV 34)]) .ret)))))⟩
structure D_impl_SplitAny (T : Nat → Option Fn) : Prop where
  hT : T 257 = some F_impl_SplitAny
  d_impl_hasByte : D_impl_hasByte T
def F_spec_SplitAny : Fn := ⟨2, 44, [.tmp 4], (.seq (.reg false 0 [oN 4 (.mov (.c (.nils)))]) (.seq (.reg false 1 [oN 9 (.mkSl 1 [.str []] 0 []), oK 5 1 (oV 9)]) (.seq (.reg false 0 [oN 6 (.mov (cI 0))]) (.seq (.seq (.reg false 0 [oN 7 (.mov (cI 0))]) (.block 0 (.loop (.seq (.seq (.reg false 0 [oN 10 (oV 7), oN 11 (oV 0), oN 12 (.lenS (.t 11)), oN 13 (.bin .lss (.t 10) (.t 12))]) (.cond (.t 13) .skip (.exit 0))) (.seq (.block 1 (.seq (.reg false 0 [oN 8 (.mov (cI 0))]) (.block 2 (.loop (.seq (.seq (.reg false 0 [oN 16 (oV 8), oN 17 (oV 1), oN 18 (.lenS (.t 17)), oN 19 (.bin .lss (.t 16) (.t 18))]) (.cond (.t 19) .skip (.exit 2))) (.seq (.block 3 (.seq (.reg true 0 [oN 22 (oV 0), oN 23 (oV 7), oA 24 0 (.idxS (.t 22) (.t 23)) [0, 1], oN 25 (oV 1), oN 26 (oV 8), oA 27 0 (.idxS (.t 25) (.t 26)) [3, 4], oA 28 0 (.bin .eql (.t 24) (.t 27)) [2, 5]]) (.cond (.t 28) (.seq (.reg false 2 [oK 29 2 (oV 5), oK 30 2 (oV 0), oK 31 2 (oV 6), oK 32 2 (oV 7), oK 33 2 (.sliceS (.t 30) (some (.t 31)) (some (.t 32))), oN 34 (.mkSl 1 [.str []] 1 [(0, (.t 33))]), oK 35 1 (.app 1 16 (.t 29) (.t 34)), oK 5 2 (oV 35)]) (.seq (.reg false 0 [oN 36 (oV 7), oN 37 (.bin .add (.t 36) (cI 1)), oN 6 (oV 37)]) (.exit 2))) .skip))) (.reg false 0 [oN 20 (oV 8), oN 21 (.bin .add (.t 20) (cI 1)), oN 8 (oV 21)]))))))) (.reg false 0 [oN 14 (oV 7), oN 15 (.bin .add (.t 14) (cI 1)), oN 7 (oV 15)])))))) (.seq (.reg false 2 [oK 38 2 (oV 5), oK 39 2 (oV 0), oK 40 2 (oV 6), oK 41 2 (.sliceS (.t 39) (some (.t 40)) none), oN 42 (.mkSl 1 [.str []] 1 [(0, (.t 41))]), oK 43 1 (.app 1 16 (.t 38) (.t 42)), oK 4 2 (oV 43)]) .ret)))))⟩
structure D_spec_SplitAny (T : Nat → Option Fn) : Prop where
  hT : T 262 = some F_spec_SplitAny
def spS (s : List UInt8) : Nat → List (List UInt8) × Nat
  | 0 => ([], 0)
  | k + 1 => if s.getD k 0 = 44 then ((spS s k).1 ++ [(s.take k).drop (spS s k).2], k + 1) else spS s k
def spC (s : List UInt8) : List (List UInt8) := (spS s s.length).1 ++ [s.drop (spS s s.length).2]
theorem spS_s (s : List UInt8) (k : Nat) : spS s (k + 1) = if s.getD k 0 = 44 then ((spS s k).1 ++ [(s.take k).drop (spS s k).2], k + 1) else spS s k := rfl
theorem spS_le (s : List UInt8) : ∀ k, (spS s k).2 ≤ k ∧ (spS s k).1.length ≤ k
  | 0 => ⟨Nat.le_refl _, Nat.le_refl _⟩
  | k + 1 => by
    obtain ⟨h1, h2⟩ := spS_le s k
    rw [spS_s]
    split
    · simp; omega
    · omega
theorem byte44 (b : UInt8) : ((b.toNat : Nat) : Int) = 44 ↔ b = 44 := by
  constructor
  · intro h
    have : b.toNat = 44 := by omega
    exact UInt8.toNat_inj.1 this
  · rintro rfl; rfl
theorem fin_s {σ : Store} {l : List (List UInt8)} {n : Nat} (hn : n = l.length) : optK (resO σ 0 n (some ⟨1, srows l⟩)) (LaxV (strs l)) := by
  subst hn
  rw [resO_s (by simp), List.drop_zero, List.take_of_length_le (Nat.le_refl _)]
  exact laxV_refl _
theorem c_hasByte {T : Nat → Option Fn} (h : D_impl_hasByte T) {b : Int} : PF T 264 [.str [44], .int .u8 b] (.bool (decide (b = 44))) := by
  refine pf_end (fun _ _ => false) h.hT rfl rfl ?_
  dsimp only [F_impl_hasByte, oN, oS, oG, oK, oA, oH, oV, cI]
  (refine ev ?_; try with_reducible exact True.intro)
  refine loop_at (fun _ _ => false) (α := Nat) (fun i => ⟨argE [.str [44], .int .u8 b, .any, .any, .bool false, iv (i : Nat)], [], 0, 0, [], []⟩) (fun i => i ≤ 1 ∧ (i = 1 → b ≠ 44)) (fun i => 1 - i) rfl 0 ?_ ?_ ?_
  · exact ⟨by omega, by omega⟩
  · first | ((refine Fg_env ?_) <;> (try (refine ev ?_; try with_reducible exact True.intro)) <;> (repeat' (first | refine ⟨?_, ?_⟩ | exact EvV_int (by omega) | exact EvV_of (by simp) | exact EvV_nil _)); done) | ((refine Fg_re [] (by simp) (by intro p hp; cases hp) rfl ?_) <;> (try (refine ev ?_; try with_reducible exact True.intro)) <;> (repeat' (first | exact True.intro | omega | exact CanE_ptr rfl (by simp) | refine ⟨?_, ?_⟩ | exact of_eq_true (CanE_nil _ _ _) | exact CanE_of rfl (by simp; done) | exact CanE_of rfl rfl | (refine CanE_msl rfl ?_ rfl; simp [irows]; done) | (refine CanE_msl rfl ?_ rfl; simp [irows]; omega) | (refine CanE_frz ?_ ?_; (focus ((refine ev ?_; try with_reducible exact True.intro); done)); (intro q hq k s0 l0; simp; done)))); done)
  · rintro i ⟨hi, hj⟩
    have c1 : ((0 : Nat) : Int) < ((1 : Nat) : Int) := by omega
    have c2 : ¬ (((1 : Nat) : Int) < ((1 : Nat) : Int)) := by omega
    have g : ((([44] : List UInt8).getD 0 0).toNat : Int) = 44 := rfl
    by_cases h0 : i = 0
    · subst h0
      by_cases hb : b = 44
      · subst hb
        (refine ev2 @c1 @g ?_; try with_reducible exact True.intro)
      · have hb' : ¬ ((44 : Int) = b) := fun e => hb e.symm
        (refine ev3 @c1 @g @hb' ?_; try with_reducible exact True.intro)
        exact ⟨1, by omega, ⟨by omega, fun _ => hb⟩, by (refine Fg_env ?_) <;> (try (refine ev ?_; try with_reducible exact True.intro)) <;> (repeat' (first | refine ⟨?_, ?_⟩ | exact EvV_int (by omega) | exact EvV_of (by simp) | exact EvV_nil _))⟩
    · have h1 : i = 1 := by omega
      subst h1
      rw [decide_eq_false (hj rfl)]
      (refine ev1 @c2 ?_; try with_reducible exact True.intro)
theorem c_iSplitAny {T : Nat → Option Fn} (h : D_impl_SplitAny T) {s : List UInt8} (hs : s.length ≤ 1048576) : PF T 257 [.str s, .str [44]] (strs (spC s)) := by
  refine pf_endL (fun _ _ => false) h.hT rfl rfl ?_
  dsimp only [F_impl_SplitAny, oN, oS, oG, oK, oA, oH, oV, cI]
  (refine ev ?_; try with_reducible exact True.intro)
  refine loop_at (fun _ _ => false) (α := Nat × List (List UInt8) × Nat) (fun q => ⟨argE [.str s, .str [44], .any, .any, .nils, slV q.2.1.length, iv (q.2.2 : Nat), iv (q.1 : Nat)], slS 1 (srows q.2.1), 0, 0, [], []⟩) (fun q => q.1 ≤ s.length ∧ spS s q.1 = (q.2.1, q.2.2)) (fun q => s.length - q.1) rfl (0, [], 0) ?_ ?_ ?_
  · exact ⟨by omega, rfl⟩
  · first | ((refine Fg_env ?_) <;> (try (refine ev ?_; try with_reducible exact True.intro)) <;> (repeat' (first | refine ⟨?_, ?_⟩ | exact EvV_int (by omega) | exact EvV_of (by simp) | exact EvV_nil _)); done) | ((refine Fg_re [] (by simp) (by intro p hp; cases hp) rfl ?_) <;> (try (refine ev ?_; try with_reducible exact True.intro)) <;> (repeat' (first | exact True.intro | omega | exact CanE_ptr rfl (by simp) | refine ⟨?_, ?_⟩ | exact of_eq_true (CanE_nil _ _ _) | exact CanE_of rfl (by simp; done) | exact CanE_of rfl rfl | (refine CanE_msl rfl ?_ rfl; simp [irows]; done) | (refine CanE_msl rfl ?_ rfl; simp [irows]; omega) | (refine CanE_frz ?_ ?_; (focus ((refine ev ?_; try with_reducible exact True.intro); done)); (intro q hq k s0 l0; simp; done)))); done)
  · rintro ⟨k, xs, st⟩ ⟨hk, hx⟩
    dsimp only at hk hx ⊢
    have es := spS_s s k
    have bd := spS_le s k
    have hfin : k = s.length → spC s = xs ++ [s.drop st] := fun e => by unfold spC; rw [← e, hx]
    rw [hx] at es bd
    dsimp only at es bd
    have hst := bd.1
    have hxl := bd.2
    have cb := c_hasByte h.d_impl_hasByte (b := ((s.getD k 0).toNat : Int))
    have e44 := byte44 (s.getD k 0)
    clear hx bd
    rcases xs with _ | ⟨x, xs⟩
    · simp only [List.length_nil, slV_0, slT_nil]
      (refine ev ?_; try with_reducible exact True.intro)
      refine brK_dec (fun hc => ?_) fun hc => ?_ <;> (refine ev1 @hc ?_; try with_reducible exact True.intro)
      · refine PFK_of cb ?_
        by_cases hb : s.getD k 0 = 44
        · rw [decide_eq_true (e44.2 hb)]
          rw [if_pos hb] at es
          (refine ev ?_; try with_reducible exact True.intro)
          exact ⟨by omega, (k + 1, [] ++ [(s.take k).drop st], k + 1), by dsimp only; omega, ⟨by dsimp only; omega, es⟩, by (simp only [← srows_snoc]; refine Fg_push (k := 1) (still_ssnoc _ _) rfl ?_; (try (refine ev ?_; try with_reducible exact True.intro)); (repeat' (first | exact True.intro | omega | exact CanE_push (by simp) (by simp) (by simp) | refine ⟨?_, ?_⟩ | exact CanE_of rfl (by simp))))⟩
        · rw [decide_eq_false (fun e => hb (e44.1 e))]
          rw [if_neg hb] at es
          (refine ev ?_; try with_reducible exact True.intro)
          refine ⟨(k + 1, [], st), by dsimp only; omega, ⟨by dsimp only; omega, es⟩, ?_⟩
          dsimp only
          (refine Fg_re [] (by simp) (by intro p hp; cases hp) rfl ?_) <;> (try (refine ev ?_; try with_reducible exact True.intro)) <;> (repeat' (first | exact True.intro | omega | exact CanE_ptr rfl (by simp) | refine ⟨?_, ?_⟩ | exact of_eq_true (CanE_nil _ _ _) | exact CanE_of rfl (by simp; done) | exact CanE_of rfl rfl | (refine CanE_msl rfl ?_ rfl; simp [irows]; done) | (refine CanE_msl rfl ?_ rfl; simp [irows]; omega) | (refine CanE_frz ?_ ?_; (focus ((refine ev ?_; try with_reducible exact True.intro); done)); (intro q hq k s0 l0; simp; done))))
      · rw [hfin (by omega)]
        exact ⟨by omega, fin_s (l := [] ++ [s.drop st]) rfl⟩
    · simp only [List.length_cons, slV_s, slT_cons]
      have etk : List.take (xs.length + 1) (srows (x :: xs)) = srows (x :: xs) := List.take_of_length_le (by rw [sr_len]; simp)
      simp only [List.length_cons] at hxl
      (refine ev ?_; try with_reducible exact True.intro)
      refine brK_dec (fun hc => ?_) fun hc => ?_ <;> (refine ev1 @hc ?_; try with_reducible exact True.intro)
      · refine PFK_of cb ?_
        by_cases hb : s.getD k 0 = 44
        · rw [decide_eq_true (e44.2 hb)]
          rw [if_pos hb] at es
          (refine ev1 @etk ?_; try with_reducible exact True.intro)
          exact ⟨by omega, (k + 1, (x :: xs) ++ [(s.take k).drop st], k + 1), by dsimp only; omega, ⟨by dsimp only; omega, es⟩, by (simp only [← srows_snoc]; refine Fg_push (k := 2) (still_ssnoc _ _) rfl ?_; (try (refine ev ?_; try with_reducible exact True.intro)); (repeat' (first | exact True.intro | omega | exact CanE_push (by simp) (by simp) (by simp) | refine ⟨?_, ?_⟩ | exact CanE_of rfl (by simp))))⟩
        · rw [decide_eq_false (fun e => hb (e44.1 e))]
          rw [if_neg hb] at es
          (refine ev ?_; try with_reducible exact True.intro)
          refine ⟨(k + 1, x :: xs, st), by dsimp only; omega, ⟨by dsimp only; omega, es⟩, ?_⟩
          dsimp only [List.length_cons]
          rw [slV_s, slT_cons]
          (refine Fg_re [(0, _)] (by simp) (by intro p hp; simp only [List.mem_cons, List.not_mem_nil, or_false] at hp; rcases hp with rfl <;> refine ⟨rfl, ?_⟩ <;> first | exact sr_still _ | exact ir_still _ | simp [stillR, V.still]) rfl ?_) <;> (try (refine ev ?_; try with_reducible exact True.intro)) <;> (repeat' (first | exact True.intro | omega | exact CanE_ptr rfl (by simp) | refine ⟨?_, ?_⟩ | exact of_eq_true (CanE_nil _ _ _) | exact CanE_of rfl (by simp; done) | exact CanE_of rfl rfl | (refine CanE_msl rfl ?_ rfl; simp [srows]; done) | (refine CanE_msl rfl ?_ rfl; simp [srows]; omega) | (refine CanE_frz ?_ ?_; (focus ((refine ev ?_; try with_reducible exact True.intro); done)); (intro q hq k s0 l0; simp; done))))
      · rw [hfin (by omega)]
        simp only [etk, sr_len, List.length_cons, srows_snoc]
        exact ⟨by omega, fin_s (by simp)⟩
theorem c_sSplitAny {T : Nat → Option Fn} (h : D_spec_SplitAny T) {s : List UInt8} (hs : s.length ≤ 1048576) : PF T 262 [.str s, .str [44]] (strs (spC s)) := by
  have g : ((([44] : List UInt8).getD 0 0).toNat : Int) = 44 := rfl
  have c1 : ((0 : Nat) : Int) < ((1 : Nat) : Int) := by omega
  have c2 : ¬ (((1 : Nat) : Int) < ((1 : Nat) : Int)) := by omega
  refine pf_endL (fun _ _ => false) h.hT rfl rfl ?_
  dsimp only [F_spec_SplitAny, oN, oS, oG, oK, oA, oH, oV, cI]
  (refine ev ?_; try with_reducible exact True.intro)
  refine loop_at (fun _ _ => false) (α := Nat × List (List UInt8) × Nat) (fun q => ⟨argE [.str s, .str [44], .any, .any, .nils, slV q.2.1.length, iv (q.2.2 : Nat), iv (q.1 : Nat)], slS 1 (srows q.2.1), 0, 0, [], []⟩) (fun q => q.1 ≤ s.length ∧ spS s q.1 = (q.2.1, q.2.2)) (fun q => s.length - q.1) rfl (0, [], 0) ?_ ?_ ?_
  · exact ⟨by omega, rfl⟩
  · first | ((refine Fg_env ?_) <;> (try (refine ev ?_; try with_reducible exact True.intro)) <;> (repeat' (first | refine ⟨?_, ?_⟩ | exact EvV_int (by omega) | exact EvV_of (by simp) | exact EvV_nil _)); done) | ((refine Fg_re [] (by simp) (by intro p hp; cases hp) rfl ?_) <;> (try (refine ev ?_; try with_reducible exact True.intro)) <;> (repeat' (first | exact True.intro | omega | exact CanE_ptr rfl (by simp) | refine ⟨?_, ?_⟩ | exact of_eq_true (CanE_nil _ _ _) | exact CanE_of rfl (by simp; done) | exact CanE_of rfl rfl | (refine CanE_msl rfl ?_ rfl; simp [irows]; done) | (refine CanE_msl rfl ?_ rfl; simp [irows]; omega) | (refine CanE_frz ?_ ?_; (focus ((refine ev ?_; try with_reducible exact True.intro); done)); (intro q hq k s0 l0; simp; done)))); done)
  · rintro ⟨k, xs, st⟩ ⟨hk, hx⟩
    dsimp only at hk hx ⊢
    have es := spS_s s k
    have bd := spS_le s k
    have hfin : k = s.length → spC s = xs ++ [s.drop st] := fun e => by unfold spC; rw [← e, hx]
    rw [hx] at es bd
    dsimp only at es bd
    have hst := bd.1
    have hxl := bd.2
    have e44 := byte44 (s.getD k 0)
    clear hx bd
    rcases xs with _ | ⟨x, xs⟩
    · simp only [List.length_nil, slV_0, slT_nil]
      (refine ev ?_; try with_reducible exact True.intro)
      refine brK_dec (fun hc => ?_) fun hc => ?_ <;> (refine ev1 @hc ?_; try with_reducible exact True.intro)
      · refine loop_at (fun _ _ => false) (α := Nat) (fun j => ⟨argE [.str s, .str [44], .any, .any, .nils, .nils, iv (st : Nat), iv (k : Nat), iv (j : Nat)], [], 0, 0, [], []⟩) (fun j => j ≤ 1 ∧ (j = 1 → s.getD k 0 ≠ 44)) (fun j => 1 - j) rfl 0 ?_ ?_ ?_
        · exact ⟨by omega, by omega⟩
        · first | ((refine Fg_env ?_) <;> (try (refine ev ?_; try with_reducible exact True.intro)) <;> (repeat' (first | refine ⟨?_, ?_⟩ | exact EvV_int (by omega) | exact EvV_of (by simp) | exact EvV_nil _)); done) | ((refine Fg_re [] (by simp) (by intro p hp; cases hp) rfl ?_) <;> (try (refine ev ?_; try with_reducible exact True.intro)) <;> (repeat' (first | exact True.intro | omega | exact CanE_ptr rfl (by simp) | refine ⟨?_, ?_⟩ | exact of_eq_true (CanE_nil _ _ _) | exact CanE_of rfl (by simp; done) | exact CanE_of rfl rfl | (refine CanE_msl rfl ?_ rfl; simp [irows]; done) | (refine CanE_msl rfl ?_ rfl; simp [irows]; omega) | (refine CanE_frz ?_ ?_; (focus ((refine ev ?_; try with_reducible exact True.intro); done)); (intro q hq k s0 l0; simp; done)))); done)
        · rintro j ⟨hj, hjn⟩
          by_cases h0 : j = 0
          · subst h0
            (refine ev2 @c1 @g ?_; try with_reducible exact True.intro)
            by_cases hb : s.getD k 0 = 44
            · have hb' := e44.2 hb
              rw [if_pos hb] at es
              (refine ev1 @hb' ?_; try with_reducible exact True.intro)
              exact ⟨by omega, (k + 1, [] ++ [(s.take k).drop st], k + 1), by dsimp only; omega, ⟨by dsimp only; omega, es⟩, by (simp only [← srows_snoc]; refine Fg_push (k := 1) (still_ssnoc _ _) rfl ?_; (try (refine ev ?_; try with_reducible exact True.intro)); (repeat' (first | exact True.intro | omega | exact CanE_push (by simp) (by simp) (by simp) | refine ⟨?_, ?_⟩ | exact CanE_of rfl (by simp))))⟩
            · have hb' : ¬ (((s.getD k 0).toNat : Int) = 44) := fun e => hb (e44.1 e)
              (refine ev1 @hb' ?_; try with_reducible exact True.intro)
              exact ⟨1, by omega, ⟨by omega, fun _ => hb⟩, by (refine Fg_env ?_) <;> (try (refine ev ?_; try with_reducible exact True.intro)) <;> (repeat' (first | refine ⟨?_, ?_⟩ | exact EvV_int (by omega) | exact EvV_of (by simp) | exact EvV_nil _))⟩
          · have h1 : j = 1 := by omega
            subst h1
            rw [if_neg (hjn rfl)] at es
            (refine ev1 @c2 ?_; try with_reducible exact True.intro)
            refine ⟨(k + 1, [], st), by dsimp only; omega, ⟨by dsimp only; omega, es⟩, ?_⟩
            dsimp only
            (refine Fg_re [] (by simp) (by intro p hp; cases hp) rfl ?_) <;> (try (refine ev ?_; try with_reducible exact True.intro)) <;> (repeat' (first | exact True.intro | omega | exact CanE_ptr rfl (by simp) | refine ⟨?_, ?_⟩ | exact of_eq_true (CanE_nil _ _ _) | exact CanE_of rfl (by simp; done) | exact CanE_of rfl rfl | (refine CanE_msl rfl ?_ rfl; simp [irows]; done) | (refine CanE_msl rfl ?_ rfl; simp [irows]; omega) | (refine CanE_frz ?_ ?_; (focus ((refine ev ?_; try with_reducible exact True.intro); done)); (intro q hq k s0 l0; simp; done))))
      · rw [hfin (by omega)]
        exact ⟨by omega, fin_s (l := [] ++ [s.drop st]) rfl⟩
    · simp only [List.length_cons, slV_s, slT_cons]
      have etk : List.take (xs.length + 1) (srows (x :: xs)) = srows (x :: xs) := List.take_of_length_le (by rw [sr_len]; simp)
      simp only [List.length_cons] at hxl
      (refine ev ?_; try with_reducible exact True.intro)
      refine brK_dec (fun hc => ?_) fun hc => ?_ <;> (refine ev1 @hc ?_; try with_reducible exact True.intro)
      · refine loop_at (fun _ _ => false) (α := Nat) (fun j => ⟨argE [.str s, .str [44], .any, .any, .nils, .msl 0 0 (xs.length + 1), iv (st : Nat), iv (k : Nat), iv (j : Nat)], [some ⟨1, srows (x :: xs)⟩], 0, 0, [], []⟩) (fun j => j ≤ 1 ∧ (j = 1 → s.getD k 0 ≠ 44)) (fun j => 1 - j) rfl 0 ?_ ?_ ?_
        · exact ⟨by omega, by omega⟩
        · (refine Fg_env ?_) <;> (try (refine ev ?_; try with_reducible exact True.intro)) <;> (repeat' (first | refine ⟨?_, ?_⟩ | exact EvV_int (by omega) | exact EvV_of (by simp) | exact EvV_nil _))
        · rintro j ⟨hj, hjn⟩
          by_cases h0 : j = 0
          · subst h0
            (refine ev2 @c1 @g ?_; try with_reducible exact True.intro)
            by_cases hb : s.getD k 0 = 44
            · have hb' := e44.2 hb
              rw [if_pos hb] at es
              (refine ev2 @hb' @etk ?_; try with_reducible exact True.intro)
              exact ⟨by omega, (k + 1, (x :: xs) ++ [(s.take k).drop st], k + 1), by dsimp only; omega, ⟨by dsimp only; omega, es⟩, by (simp only [← srows_snoc]; refine Fg_push (k := 2) (still_ssnoc _ _) rfl ?_; (try (refine ev ?_; try with_reducible exact True.intro)); (repeat' (first | exact True.intro | omega | exact CanE_push (by simp) (by simp) (by simp) | refine ⟨?_, ?_⟩ | exact CanE_of rfl (by simp))))⟩
            · have hb' : ¬ (((s.getD k 0).toNat : Int) = 44) := fun e => hb (e44.1 e)
              (refine ev1 @hb' ?_; try with_reducible exact True.intro)
              exact ⟨1, by omega, ⟨by omega, fun _ => hb⟩, by (refine Fg_env ?_) <;> (try (refine ev ?_; try with_reducible exact True.intro)) <;> (repeat' (first | refine ⟨?_, ?_⟩ | exact EvV_int (by omega) | exact EvV_of (by simp) | exact EvV_nil _))⟩
          · have h1 : j = 1 := by omega
            subst h1
            rw [if_neg (hjn rfl)] at es
            (refine ev1 @c2 ?_; try with_reducible exact True.intro)
            refine ⟨(k + 1, x :: xs, st), by dsimp only; omega, ⟨by dsimp only; omega, es⟩, ?_⟩
            dsimp only [List.length_cons]
            rw [slV_s, slT_cons]
            (refine Fg_re [(0, _)] (by simp) (by intro p hp; simp only [List.mem_cons, List.not_mem_nil, or_false] at hp; rcases hp with rfl <;> refine ⟨rfl, ?_⟩ <;> first | exact sr_still _ | exact ir_still _ | simp [stillR, V.still]) rfl ?_) <;> (try (refine ev ?_; try with_reducible exact True.intro)) <;> (repeat' (first | exact True.intro | omega | exact CanE_ptr rfl (by simp) | refine ⟨?_, ?_⟩ | exact of_eq_true (CanE_nil _ _ _) | exact CanE_of rfl (by simp; done) | exact CanE_of rfl rfl | (refine CanE_msl rfl ?_ rfl; simp [srows]; done) | (refine CanE_msl rfl ?_ rfl; simp [srows]; omega) | (refine CanE_frz ?_ ?_; (focus ((refine ev ?_; try with_reducible exact True.intro); done)); (intro q hq k s0 l0; simp; done))))
      · rw [hfin (by omega)]
        simp only [etk, sr_len, List.length_cons, srows_snoc]
        exact ⟨by omega, fin_s (by simp)⟩
end Go.Ml
end
section
set_option linter.unusedSimpArgs false
set_option linter.unusedVariables false
set_option maxRecDepth 100000
set_option maxHeartbeats 4000000
namespace Go.Ml
open Lib
def F_impl_ParseInt : Fn := ⟨1, 1, [], .lib .parseI⟩
structure D_impl_ParseInt (T : Nat → Option Fn) : Prop where
  hT : T 258 = some F_impl_ParseInt
def F_spec_IsDigits : Fn := ⟨1, 23, [.tmp 2], (.seq (.reg false 0 [oN 2 (.mov (.c (.bool false)))]) (.seq (.seq (.reg false 0 [oN 3 (.mov (cI 0))]) (.block 0 (.loop (.seq (.seq (.reg false 0 [oN 4 (oV 3), oN 5 (oV 0), oN 6 (.lenS (.t 5)), oN 7 (.bin .lss (.t 4) (.t 6))]) (.cond (.t 7) .skip (.exit 0))) (.seq (.block 1 (.seq (.reg false 0 [oN 10 (oV 0), oN 11 (oV 3), oN 12 (.idxS (.t 10) (.t 11)), oN 13 (.bin .lss (.t 12) (.c (.int .u8 48))), oN 14 (oV 13), oG 14 false 15 (oV 0), oG 14 false 16 (oV 3), oG 14 false 17 (.idxS (.t 15) (.t 16)), oG 14 false 18 (.bin .gtr (.t 17) (.c (.int .u8 57))), oN 19 (.pick (.t 14) (.c (.bool true)) (.t 18))]) (.cond (.t 19) (.seq (.reg false 0 [oN 2 (.mov (.c (.bool false)))]) .ret) .skip))) (.reg false 0 [oN 8 (oV 3), oN 9 (.bin .add (.t 8) (cI 1)), oN 3 (oV 9)])))))) (.seq (.reg false 0 [oN 20 (oV 0), oN 21 (.lenS (.t 20)), oN 22 (.bin .gtr (.t 21) (cI 0)), oN 2 (oV 22)]) .ret)))⟩
structure D_spec_IsDigits (T : Nat → Option Fn) : Prop where
  hT : T 265 = some F_spec_IsDigits
def F_spec_ParseInt : Fn := ⟨1, 60, [.tmp 2, .tmp 3], (.seq (.reg false 0 [oN 2 (.mov (cI 0)), oN 3 (.mov (.c (.bool false)))]) (.seq (.reg false 0 [oN 9 (oV 0), oN 10 (.lenS (.t 9)), oN 11 (.bin .gtr (.t 10) (cI 0)), oN 12 (oV 11), oG 12 true 13 (oV 0), oG 12 true 14 (.idxS (.t 13) (cI 0)), oG 12 true 15 (.bin .eql (.t 14) (.c (.int .u8 45))), oN 16 (.pick (.t 12) (.t 15) (.c (.bool false))), oN 4 (oV 16)]) (.seq (.reg false 0 [oN 17 (oV 0), oN 5 (oV 17)]) (.seq (.seq (.reg false 0 [oN 18 (oV 4)]) (.cond (.t 18) (.reg false 0 [oN 19 (oV 0), oN 20 (.sliceS (.t 19) (some (cI 1)) none), oN 5 (oV 20)]) .skip)) (.seq (.seq (.reg false 0 [oN 21 (oV 5), oN 22 (.call 265 [(.t 21)]), oN 23 (.un .not (.t 22)), oN 24 (oV 23), oG 24 false 25 (oV 5), oG 24 false 26 (.lenS (.t 25)), oG 24 false 27 (.bin .gtr (.t 26) (cI 19)), oN 28 (.pick (.t 24) (.c (.bool true)) (.t 27))]) (.cond (.t 28) (.seq (.reg false 0 [oN 2 (.mov (cI 0)), oN 3 (.mov (.c (.bool false)))]) .ret) .skip)) (.seq (.reg false 0 [oN 6 (.mov (cI 0))]) (.seq (.seq (.reg false 0 [oN 7 (.mov (cI 0))]) (.block 0 (.loop (.seq (.seq (.reg false 0 [oN 29 (oV 7), oN 30 (oV 5), oN 31 (.lenS (.t 30)), oN 32 (.bin .lss (.t 29) (.t 31))]) (.cond (.t 32) .skip (.exit 0))) (.seq (.block 1 (.seq (.reg false 0 [oN 35 (oV 5), oN 36 (oV 7), oN 37 (.idxS (.t 35) (.t 36)), oN 38 (.conv .i64 (.t 37)), oN 39 (.bin .sub (.t 38) (cI 48)), oN 8 (oV 39)]) (.seq (.seq (.reg false 0 [oN 40 (oV 6), oN 41 (oV 8), oN 42 (.bin .add (cI (-9223372036854775808)) (.t 41)), oN 43 (.bin .quo (.t 42) (cI 10)), oN 44 (.bin .lss (.t 40) (.t 43))]) (.cond (.t 44) (.seq (.reg false 0 [oN 2 (.mov (cI 0)), oN 3 (.mov (.c (.bool false)))]) .ret) .skip)) (.reg false 0 [oN 45 (oV 6), oN 46 (.bin .mul (.t 45) (cI 10)), oN 47 (oV 8), oN 48 (.bin .sub (.t 46) (.t 47)), oN 6 (oV 48)])))) (.reg false 0 [oN 33 (oV 7), oN 34 (.bin .add (.t 33) (cI 1)), oN 7 (oV 34)])))))) (.seq (.seq (.reg false 0 [oN 49 (oV 4), oN 50 (.un .not (.t 49))]) (.cond (.t 50) (.seq (.seq (.reg false 0 [oN 51 (oV 6), oN 52 (.bin .eql (.t 51) (cI (-9223372036854775808)))]) (.cond (.t 52) (.seq (.reg false 0 [oN 2 (.mov (cI 0)), oN 3 (.mov (.c (.bool false)))]) .ret) .skip)) (.reg false 0 [oN 53 (oV 6), oN 54 (.un .neg (.t 53)), oN 6 (oV 54)])) .skip)) (.seq (.seq (.reg false 0 [oN 55 (oV 6), oN 56 (.call 167 [(.t 55)]), oN 57 (oV 0), oN 58 (.bin .neq (.t 56) (.t 57))]) (.cond (.t 58) (.seq (.reg false 0 [oN 2 (.mov (cI 0)), oN 3 (.mov (.c (.bool false)))]) .ret) .skip)) (.seq (.reg false 0 [oN 59 (oV 6), oN 2 (oV 59), oN 3 (.mov (.c (.bool true)))]) .ret))))))))))⟩
structure D_spec_ParseInt (T : Nat → Option Fn) : Prop where
  hT : T 263 = some F_spec_ParseInt
  d_spec_FormatInt : D_spec_FormatInt T
  d_spec_IsDigits : D_spec_IsDigits T
def ParseI (s : List UInt8) (r : V) : Prop := (∃ n : Int, -9223372036854775808 ≤ n ∧ n ≤ 9223372036854775807 ∧ s = itoa n ∧ r = .tup [iv n, .bool true]) ∨
  ((∀ n : Int, -9223372036854775808 ≤ n → n ≤ 9223372036854775807 → s ≠ itoa n) ∧ r = .tup [iv 0, .bool false])
theorem c_iParseInt {T : Nat → Option Fn} (h : D_impl_ParseInt T) {s : List UInt8} {r : V} (hl : s.length ≤ 140737488355328) (hp : ParseI s r) : PF T 258 [.str s] r :=
  Run.lib h.hT rfl ⟨s, rfl, hl, rfl, hp⟩
def digs (s : List UInt8) : Prop := (∀ j, j < s.length → 48 ≤ (s.getD j 0).toNat ∧ (s.getD j 0).toNat ≤ 57) ∧ 0 < s.length
theorem c_sIsDigits {T : Nat → Option Fn} (h : D_spec_IsDigits T) {s : List UInt8} (hs : s.length ≤ 1048576) {b : Bool} (hb : b = true ↔ digs s) : PF T 265 [.str s] (.bool b) := by
  refine pf_end (fun _ _ => false) h.hT rfl rfl ?_
  dsimp only [F_spec_IsDigits, oN, oS, oG, oK, oA, oH, oV, cI]
  (refine ev ?_; try with_reducible exact True.intro)
  refine loop_at (fun _ _ => false) (α := Nat) (fun i => ⟨argE [.str s, .any, .bool false, iv (i : Nat)], [], 0, 0, [], []⟩) (fun i => i ≤ s.length ∧ ∀ j, j < i → 48 ≤ (s.getD j 0).toNat ∧ (s.getD j 0).toNat ≤ 57) (fun i => s.length - i) rfl 0 ?_ ?_ ?_
  · exact ⟨by omega, by intro j hj; omega⟩
  · first | ((refine Fg_env ?_) <;> (try (refine ev ?_; try with_reducible exact True.intro)) <;> (repeat' (first | refine ⟨?_, ?_⟩ | exact EvV_int (by omega) | exact EvV_of (by simp) | exact EvV_nil _)); done) | ((refine Fg_re [] (by simp) (by intro p hp; cases hp) rfl ?_) <;> (try (refine ev ?_; try with_reducible exact True.intro)) <;> (repeat' (first | exact True.intro | omega | exact CanE_ptr rfl (by simp) | refine ⟨?_, ?_⟩ | exact of_eq_true (CanE_nil _ _ _) | exact CanE_of rfl (by simp; done) | exact CanE_of rfl rfl | (refine CanE_msl rfl ?_ rfl; simp [irows]; done) | (refine CanE_msl rfl ?_ rfl; simp [irows]; omega) | (refine CanE_frz ?_ ?_; (focus ((refine ev ?_; try with_reducible exact True.intro); done)); (intro q hq k s0 l0; simp; done)))); done)
  · rintro i ⟨hi, hj⟩
    (refine ev ?_; try with_reducible exact True.intro)
    refine brK_dec (fun hc => ?_) fun hc => ?_ <;> (refine ev1 @hc ?_; try with_reducible exact True.intro)
    · have hil : i < s.length := by omega
      by_cases h1 : ((s.getD i 0).toNat : Int) < 48
      · have : b = false := by
          cases b with
          | false => rfl
          | true => have := (hb.1 rfl).1 i hil; omega
        rw [this]
        (refine ev1 @h1 ?_; try with_reducible exact True.intro)
      · by_cases h2 : (57 : Int) < ((s.getD i 0).toNat : Int)
        · have : b = false := by
            cases b with
            | false => rfl
            | true => have := (hb.1 rfl).1 i hil; omega
          rw [this]
          (refine ev2 @h1 @h2 ?_; try with_reducible exact True.intro)
        · (refine ev2 @h1 @h2 ?_; try with_reducible exact True.intro)
          refine ⟨i + 1, by omega, ⟨by omega, fun j hj' => ?_⟩, by (refine Fg_env ?_) <;> (try (refine ev ?_; try with_reducible exact True.intro)) <;> (repeat' (first | refine ⟨?_, ?_⟩ | exact EvV_int (by omega) | exact EvV_of (by simp) | exact EvV_nil _))⟩
          by_cases e : j = i
          · subst e; omega
          · exact hj j (by omega)
    · have : b = decide ((0 : Int) < (s.length : Nat)) := by
        rw [Bool.eq_iff_iff, hb]
        simp only [decide_eq_true_eq]
        exact ⟨fun k => by have := k.2; omega, fun k => ⟨fun j hj' => hj j (by omega), by omega⟩⟩
      rw [this]
theorem dD_nd (u : Nat) : (decDigits u).length = nDigits u := decDigits_length u
theorem dD_get (u i : Nat) (hi : i < (decDigits u).length) : ((decDigits u).getD i 0).toNat = 48 + u / 10 ^ ((decDigits u).length - 1 - i) % 10 := by
  have hl := dD_nd u
  rw [hl] at hi ⊢
  have e := decDigits_eq u
  rw [List.getD_eq_getElem?_getD, e, List.getElem?_map, List.getElem?_range hi]
  simp only [Option.map_some, Option.getD_some]
  unfold dg
  rw [UInt8.toNat_ofNat']
  omega
theorem dD_lt10 (u : Nat) : u < 10 ^ (decDigits u).length := by rw [dD_nd]; exact lt_pow_nDigits u
theorem dD_digs (u : Nat) : digs (decDigits u) := by
  refine ⟨fun j hj => ?_, dD_pos u⟩
  rw [dD_get u j hj]
  omega
theorem tdm {D : Nat} (h : D ≤ 9) : (-9223372036854775808 + (D : Int)).tdiv 10 = -(((9223372036854775808 - D) / 10 : Nat) : Int) := by
  rw [show (-9223372036854775808 + (D : Int)) = -((9223372036854775808 - D : Nat) : Int) by omega, tdn10]
theorem byte45 (b : UInt8) : ((b.toNat : Nat) : Int) = 45 ↔ b = 45 := by
  constructor
  · intro h
    have : b.toNat = 45 := by omega
    exact UInt8.toNat_inj.1 this
  · rintro rfl; rfl
theorem parse_no_n {T : Nat → Option Fn} (h : D_spec_ParseInt T) {s : List UInt8} (hs : s.length ≤ 1048576) (hno : ∀ n : Int, -9223372036854775808 ≤ n → n ≤ 9223372036854775807 → s ≠ itoa n)
    (hneg : 0 < s.length ∧ s.getD 0 0 = 45) : PF T 263 [.str s] (.tup [iv 0, .bool false]) := by
  obtain ⟨t, ht⟩ : ∃ t : List UInt8, t = s.drop 1 := ⟨_, rfl⟩
  have tl : t.length ≤ 1048576 := by rw [ht]; simp; omega
  obtain ⟨b, hb⟩ : ∃ b : Bool, b = true ↔ digs t := ⟨@decide (digs t) (Classical.propDecidable _), @decide_eq_true_iff _ (Classical.propDecidable _)⟩
  have cd := c_sIsDigits h.d_spec_IsDigits (s := t) (by omega) hb
  have h1 : (0 : Int) < (s.length : Nat) := by omega
  have h2 : (((s.getD 0 0).toNat : Nat) : Int) = 45 := (byte45 _).2 hneg.2
  have h3 : (1 : Int).toNat = 1 := rfl
  refine pf_end (fun _ _ => false) h.hT rfl rfl ?_
  dsimp only [F_spec_ParseInt, oN, oS, oG, oK, oA, oH, oV, cI]
  (refine ev ?_; try with_reducible exact True.intro)
  (refine ev3 @h1 @h2 @h3 ?_; try with_reducible exact True.intro)
  rw [← ht]
  refine PFK_of cd ?_
  cases b
  · (refine ev ?_; try with_reducible exact True.intro)
  · have hdg := hb.1 rfl
    clear hb cd
    (refine ev ?_; try with_reducible exact True.intro)
    refine brK_dec (fun hl19 => ?_) fun hl19 => ?_ <;> (refine ev1 @hl19 ?_; try with_reducible exact True.intro)
    refine loop_at (fun _ _ => false) (α := Nat × Int) (fun q => ⟨argE [.str s, .any, iv 0, .bool false, .bool true, .str t, iv q.2, iv (q.1 : Nat)], [], 0, 0, [], []⟩) (fun q => q.1 ≤ t.length ∧ -9223372036854775808 ≤ q.2 ∧ q.2 ≤ 0) (fun q => t.length - q.1) rfl (0, 0) ?_ ?_ ?_
    · exact ⟨by omega, by omega, by omega⟩
    · first | ((refine Fg_env ?_) <;> (try (refine ev ?_; try with_reducible exact True.intro)) <;> (repeat' (first | refine ⟨?_, ?_⟩ | exact EvV_int (by omega) | exact EvV_of (by simp) | exact EvV_nil _)); done) | ((refine Fg_re [] (by simp) (by intro p hp; cases hp) rfl ?_) <;> (try (refine ev ?_; try with_reducible exact True.intro)) <;> (repeat' (first | exact True.intro | omega | exact CanE_ptr rfl (by simp) | refine ⟨?_, ?_⟩ | exact of_eq_true (CanE_nil _ _ _) | exact CanE_of rfl (by simp; done) | exact CanE_of rfl rfl | (refine CanE_msl rfl ?_ rfl; simp [irows]; done) | (refine CanE_msl rfl ?_ rfl; simp [irows]; omega) | (refine CanE_frz ?_ ?_; (focus ((refine ev ?_; try with_reducible exact True.intro); done)); (intro q hq k s0 l0; simp; done)))); done)
    · rintro ⟨i, n⟩ ⟨hi, hn1, hn2⟩
      dsimp only at hi hn1 hn2 ⊢
      (refine ev ?_; try with_reducible exact True.intro)
      refine brK_dec (fun hc => ?_) fun hc => ?_ <;> (refine ev1 @hc ?_; try with_reducible exact True.intro)
      · have hil : i < t.length := by omega
        have hdi := hdg.1 i hil
        obtain ⟨D, hD⟩ : ∃ D : Nat, (t.getD i 0).toNat = 48 + D := ⟨(t.getD i 0).toNat - 48, by omega⟩
        have hD9 : D ≤ 9 := by omega
        have e1 : ((((t.getD i 0).toNat : Nat) : Int) - 48) = (D : Int) := by omega
        have e2 := tdm hD9
        by_cases hlt : n < -(((9223372036854775808 - D) / 10 : Nat) : Int)
        · (refine ev3 @e1 @e2 @hlt ?_; try with_reducible exact True.intro)
        · have hn3 : -922337203685477580 ≤ n := by omega
          (refine ev3 @e1 @e2 @hlt ?_; try with_reducible exact True.intro)
          refine ⟨(i + 1, n * 10 - (D : Int)), by dsimp only; omega, ⟨by dsimp only; omega, by dsimp only; omega, by dsimp only; omega⟩, ?_⟩
          dsimp only
          (refine Fg_env ?_) <;> (try (refine ev ?_; try with_reducible exact True.intro)) <;> (repeat' (first | refine ⟨?_, ?_⟩ | exact EvV_int (by omega) | exact EvV_of (by simp) | exact EvV_nil _))
      · refine PFK_of (c_sFormatInt h.d_spec_FormatInt (n := n) (by omega)) ?_
        have hne : ¬ (itoa n = s) := fun e => hno n (by omega) (by omega) e.symm
        (refine ev1 @hne ?_; try with_reducible exact True.intro)
theorem parse_no_p {T : Nat → Option Fn} (h : D_spec_ParseInt T) {s : List UInt8} (hs : s.length ≤ 1048576) (hno : ∀ n : Int, -9223372036854775808 ≤ n → n ≤ 9223372036854775807 → s ≠ itoa n)
    (hneg : ¬ (0 < s.length ∧ s.getD 0 0 = 45)) : PF T 263 [.str s] (.tup [iv 0, .bool false]) := by
  obtain ⟨b, hb⟩ : ∃ b : Bool, b = true ↔ digs s := ⟨@decide (digs s) (Classical.propDecidable _), @decide_eq_true_iff _ (Classical.propDecidable _)⟩
  have cd := c_sIsDigits h.d_spec_IsDigits (s := s) (by omega) hb
  by_cases h1 : ¬ ((0 : Int) < (s.length : Nat))
  · have : b = false := by
      cases b with
      | false => rfl
      | true => have := (hb.1 rfl).2; omega
    subst this
    refine pf_end (fun _ _ => false) h.hT rfl rfl ?_
    dsimp only [F_spec_ParseInt, oN, oS, oG, oK, oA, oH, oV, cI]
    (refine ev ?_; try with_reducible exact True.intro)
    (refine ev1 @h1 ?_; try with_reducible exact True.intro)
    refine PFK_of cd ?_
    (refine ev ?_; try with_reducible exact True.intro)
  have h1 := Classical.not_not.1 h1
  have h2 : ¬ ((((s.getD 0 0).toNat : Nat) : Int) = 45) := fun e => hneg ⟨by omega, (byte45 _).1 e⟩
  refine pf_end (fun _ _ => false) h.hT rfl rfl ?_
  dsimp only [F_spec_ParseInt, oN, oS, oG, oK, oA, oH, oV, cI]
  (refine ev ?_; try with_reducible exact True.intro)
  (refine ev2 @h1 @h2 ?_; try with_reducible exact True.intro)
  refine PFK_of cd ?_
  cases b
  · (refine ev ?_; try with_reducible exact True.intro)
  · have hdg := hb.1 rfl
    clear hb cd
    (refine ev ?_; try with_reducible exact True.intro)
    refine brK_dec (fun hl19 => ?_) fun hl19 => ?_ <;> (refine ev1 @hl19 ?_; try with_reducible exact True.intro)
    refine loop_at (fun _ _ => false) (α := Nat × Int) (fun q => ⟨argE [.str s, .any, iv 0, .bool false, .bool false, .str s, iv q.2, iv (q.1 : Nat)], [], 0, 0, [], []⟩) (fun q => q.1 ≤ s.length ∧ -9223372036854775808 ≤ q.2 ∧ q.2 ≤ 0) (fun q => s.length - q.1) rfl (0, 0) ?_ ?_ ?_
    · exact ⟨by omega, by omega, by omega⟩
    · first | ((refine Fg_env ?_) <;> (try (refine ev ?_; try with_reducible exact True.intro)) <;> (repeat' (first | refine ⟨?_, ?_⟩ | exact EvV_int (by omega) | exact EvV_of (by simp) | exact EvV_nil _)); done) | ((refine Fg_re [] (by simp) (by intro p hp; cases hp) rfl ?_) <;> (try (refine ev ?_; try with_reducible exact True.intro)) <;> (repeat' (first | exact True.intro | omega | exact CanE_ptr rfl (by simp) | refine ⟨?_, ?_⟩ | exact of_eq_true (CanE_nil _ _ _) | exact CanE_of rfl (by simp; done) | exact CanE_of rfl rfl | (refine CanE_msl rfl ?_ rfl; simp [irows]; done) | (refine CanE_msl rfl ?_ rfl; simp [irows]; omega) | (refine CanE_frz ?_ ?_; (focus ((refine ev ?_; try with_reducible exact True.intro); done)); (intro q hq k s0 l0; simp; done)))); done)
    · rintro ⟨i, n⟩ ⟨hi, hn1, hn2⟩
      dsimp only at hi hn1 hn2 ⊢
      (refine ev ?_; try with_reducible exact True.intro)
      refine brK_dec (fun hc => ?_) fun hc => ?_ <;> (refine ev1 @hc ?_; try with_reducible exact True.intro)
      · have hil : i < s.length := by omega
        have hdi := hdg.1 i hil
        obtain ⟨D, hD⟩ : ∃ D : Nat, (s.getD i 0).toNat = 48 + D := ⟨(s.getD i 0).toNat - 48, by omega⟩
        have hD9 : D ≤ 9 := by omega
        have e1 : ((((s.getD i 0).toNat : Nat) : Int) - 48) = (D : Int) := by omega
        have e2 := tdm hD9
        by_cases hlt : n < -(((9223372036854775808 - D) / 10 : Nat) : Int)
        · (refine ev3 @e1 @e2 @hlt ?_; try with_reducible exact True.intro)
        · have hn3 : -922337203685477580 ≤ n := by omega
          (refine ev3 @e1 @e2 @hlt ?_; try with_reducible exact True.intro)
          refine ⟨(i + 1, n * 10 - (D : Int)), by dsimp only; omega, ⟨by dsimp only; omega, by dsimp only; omega, by dsimp only; omega⟩, ?_⟩
          dsimp only
          (refine Fg_env ?_) <;> (try (refine ev ?_; try with_reducible exact True.intro)) <;> (repeat' (first | refine ⟨?_, ?_⟩ | exact EvV_int (by omega) | exact EvV_of (by simp) | exact EvV_nil _))
      · by_cases hmin : n = -9223372036854775808
        · subst hmin
          (refine ev ?_; try with_reducible exact True.intro)
        · (refine ev1 @hmin ?_; try with_reducible exact True.intro)
          refine PFK_of (c_sFormatInt h.d_spec_FormatInt (n := 0 - n) (by omega)) ?_
          have hne : ¬ (itoa (0 - n) = s) := fun e => hno (0 - n) (by omega) (by omega) e.symm
          (refine ev1 @hne ?_; try with_reducible exact True.intro)
theorem parse_yes_n {T : Nat → Option Fn} (h : D_spec_ParseInt T) {s : List UInt8} {u : Nat} (hu1 : 1 ≤ u) (hu : u ≤ 9223372036854775808) (hs : s = 45 :: decDigits u) : PF T 263 [.str s] (.tup [iv (-(u : Int)), .bool true]) := by
  obtain ⟨t, ht⟩ : ∃ t : List UInt8, t = s.drop 1 := ⟨_, rfl⟩
  have hd : t = decDigits u := by rw [ht, hs]; rfl
  have hneg : 0 < s.length ∧ s.getD 0 0 = 45 := by rw [hs]; exact ⟨by simp, rfl⟩
  have tl : t.length ≤ 19 := by rw [hd]; exact dD_len 18 u (by omega)
  have sl : s.length ≤ 20 := by rw [hs, List.length_cons, ← hd]; omega
  have hdg : digs t := by rw [hd]; exact dD_digs u
  have cd := c_sIsDigits h.d_spec_IsDigits (s := t) (by omega) (b := true) ⟨fun _ => hdg, fun _ => rfl⟩
  have h1 : (0 : Int) < (s.length : Nat) := by omega
  have h2 : (((s.getD 0 0).toNat : Nat) : Int) = 45 := (byte45 _).2 hneg.2
  have h3 : (1 : Int).toNat = 1 := rfl
  refine pf_end (fun _ _ => false) h.hT rfl rfl ?_
  dsimp only [F_spec_ParseInt, oN, oS, oG, oK, oA, oH, oV, cI]
  (refine ev ?_; try with_reducible exact True.intro)
  (refine ev3 @h1 @h2 @h3 ?_; try with_reducible exact True.intro)
  rw [← ht]
  refine PFK_of cd ?_
  have hl19 : ¬ ((19 : Int) < (t.length : Nat)) := by omega
  (refine ev1 @hl19 ?_; try with_reducible exact True.intro)
  refine loop_at (fun _ _ => false) (α := Nat × Int) (fun q => ⟨argE [.str s, .any, iv 0, .bool false, .bool true, .str t, iv q.2, iv (q.1 : Nat)], [], 0, 0, [], []⟩) (fun q => q.1 ≤ t.length ∧ q.2 = -((u / 10 ^ (t.length - q.1) : Nat) : Int)) (fun q => t.length - q.1) rfl (0, 0) ?_ ?_ ?_
  · exact ⟨by omega, by have := dD_lt10 u; rw [← hd] at this; rw [Nat.sub_zero, Nat.div_eq_of_lt this]; rfl⟩
  · first | ((refine Fg_env ?_) <;> (try (refine ev ?_; try with_reducible exact True.intro)) <;> (repeat' (first | refine ⟨?_, ?_⟩ | exact EvV_int (by omega) | exact EvV_of (by simp) | exact EvV_nil _)); done) | ((refine Fg_re [] (by simp) (by intro p hp; cases hp) rfl ?_) <;> (try (refine ev ?_; try with_reducible exact True.intro)) <;> (repeat' (first | exact True.intro | omega | exact CanE_ptr rfl (by simp) | refine ⟨?_, ?_⟩ | exact of_eq_true (CanE_nil _ _ _) | exact CanE_of rfl (by simp; done) | exact CanE_of rfl rfl | (refine CanE_msl rfl ?_ rfl; simp [irows]; done) | (refine CanE_msl rfl ?_ rfl; simp [irows]; omega) | (refine CanE_frz ?_ ?_; (focus ((refine ev ?_; try with_reducible exact True.intro); done)); (intro q hq k s0 l0; simp; done)))); done)
  · rintro ⟨i, n⟩ ⟨hi, hn⟩
    dsimp only at hi hn ⊢
    (refine ev ?_; try with_reducible exact True.intro)
    refine brK_dec (fun hc => ?_) fun hc => ?_ <;> (refine ev1 @hc ?_; try with_reducible exact True.intro)
    · have hil : i < t.length := by omega
      have hdi := hdg.1 i hil
      obtain ⟨D, hD⟩ : ∃ D : Nat, (t.getD i 0).toNat = 48 + D := ⟨(t.getD i 0).toNat - 48, by omega⟩
      have hD9 : D ≤ 9 := by omega
      have e1 : ((((t.getD i 0).toNat : Nat) : Int) - 48) = (D : Int) := by omega
      have e2 := tdm hD9
      have em : u / 10 ^ (t.length - i) = u / 10 ^ (t.length - (i + 1)) / 10 := by
        rw [show t.length - i = (t.length - (i + 1)) + 1 by omega, Nat.pow_succ, Nat.div_div_eq_div_mul]
      have ed : D = u / 10 ^ (t.length - (i + 1)) % 10 := by
        have := dD_get u i (by rw [← hd]; exact hil)
        rw [← hd, hD] at this
        rw [show t.length - (i + 1) = t.length - 1 - i by omega]
        omega
      have hle : u / 10 ^ (t.length - (i + 1)) ≤ u := Nat.div_le_self _ _
      obtain ⟨m, hm⟩ : ∃ m, u / 10 ^ (t.length - (i + 1)) = m := ⟨_, rfl⟩
      rw [em, hm] at hn
      rw [hm] at ed hle
      have hlt : ¬ (n < -(((9223372036854775808 - D) / 10 : Nat) : Int)) := by omega
      have e3 : n * 10 - (D : Int) = -(m : Int) := by omega
      have hn0 : n ≤ 0 := by omega
      have hn1 : -922337203685477580 ≤ n := by omega
      clear em hd hdg
      (refine ev3 @e1 @e2 @hlt ?_; try with_reducible exact True.intro)
      rw [e3]
      refine ⟨(i + 1, -(m : Int)), by dsimp only; omega, ⟨by dsimp only; omega, by dsimp only; rw [hm]⟩, ?_⟩
      dsimp only
      (refine Fg_env ?_) <;> (try (refine ev ?_; try with_reducible exact True.intro)) <;> (repeat' (first | refine ⟨?_, ?_⟩ | exact EvV_int (by omega) | exact EvV_of (by simp) | exact EvV_nil _))
    · have hnu : n = -(u : Int) := by rw [hn, show t.length - i = 0 by omega, Nat.pow_zero, Nat.div_one]
      subst hnu
      refine PFK_of (c_sFormatInt h.d_spec_FormatInt (n := -(u : Int)) (by omega)) ?_
      rw [it_neg hu1, ← hs]
      (refine ev ?_; try with_reducible exact True.intro)
theorem parse_yes_p {T : Nat → Option Fn} (h : D_spec_ParseInt T) {s : List UInt8} {u : Nat} (hu : u ≤ 9223372036854775807) (hd : s = decDigits u) : PF T 263 [.str s] (.tup [iv (u : Int), .bool true]) := by
  have tl : s.length ≤ 19 := by rw [hd]; exact dD_len 18 u (by omega)
  have hp : 0 < s.length := by rw [hd]; exact dD_pos u
  have hdg : digs s := by rw [hd]; exact dD_digs u
  have cd := c_sIsDigits h.d_spec_IsDigits (s := s) (by omega) (b := true) ⟨fun _ => hdg, fun _ => rfl⟩
  have h1 : (0 : Int) < (s.length : Nat) := by omega
  have h2 : ¬ ((((s.getD 0 0).toNat : Nat) : Int) = 45) := by have := hdg.1 0 hp; omega
  refine pf_end (fun _ _ => false) h.hT rfl rfl ?_
  dsimp only [F_spec_ParseInt, oN, oS, oG, oK, oA, oH, oV, cI]
  (refine ev ?_; try with_reducible exact True.intro)
  (refine ev2 @h1 @h2 ?_; try with_reducible exact True.intro)
  refine PFK_of cd ?_
  have hl19 : ¬ ((19 : Int) < (s.length : Nat)) := by omega
  (refine ev1 @hl19 ?_; try with_reducible exact True.intro)
  refine loop_at (fun _ _ => false) (α := Nat × Int) (fun q => ⟨argE [.str s, .any, iv 0, .bool false, .bool false, .str s, iv q.2, iv (q.1 : Nat)], [], 0, 0, [], []⟩) (fun q => q.1 ≤ s.length ∧ q.2 = -((u / 10 ^ (s.length - q.1) : Nat) : Int)) (fun q => s.length - q.1) rfl (0, 0) ?_ ?_ ?_
  · exact ⟨by omega, by have := dD_lt10 u; rw [← hd] at this; rw [Nat.sub_zero, Nat.div_eq_of_lt this]; rfl⟩
  · first | ((refine Fg_env ?_) <;> (try (refine ev ?_; try with_reducible exact True.intro)) <;> (repeat' (first | refine ⟨?_, ?_⟩ | exact EvV_int (by omega) | exact EvV_of (by simp) | exact EvV_nil _)); done) | ((refine Fg_re [] (by simp) (by intro p hp; cases hp) rfl ?_) <;> (try (refine ev ?_; try with_reducible exact True.intro)) <;> (repeat' (first | exact True.intro | omega | exact CanE_ptr rfl (by simp) | refine ⟨?_, ?_⟩ | exact of_eq_true (CanE_nil _ _ _) | exact CanE_of rfl (by simp; done) | exact CanE_of rfl rfl | (refine CanE_msl rfl ?_ rfl; simp [irows]; done) | (refine CanE_msl rfl ?_ rfl; simp [irows]; omega) | (refine CanE_frz ?_ ?_; (focus ((refine ev ?_; try with_reducible exact True.intro); done)); (intro q hq k s0 l0; simp; done)))); done)
  · rintro ⟨i, n⟩ ⟨hi, hn⟩
    dsimp only at hi hn ⊢
    (refine ev ?_; try with_reducible exact True.intro)
    refine brK_dec (fun hc => ?_) fun hc => ?_ <;> (refine ev1 @hc ?_; try with_reducible exact True.intro)
    · have hil : i < s.length := by omega
      have hdi := hdg.1 i hil
      obtain ⟨D, hD⟩ : ∃ D : Nat, (s.getD i 0).toNat = 48 + D := ⟨(s.getD i 0).toNat - 48, by omega⟩
      have hD9 : D ≤ 9 := by omega
      have e1 : ((((s.getD i 0).toNat : Nat) : Int) - 48) = (D : Int) := by omega
      have e2 := tdm hD9
      have em : u / 10 ^ (s.length - i) = u / 10 ^ (s.length - (i + 1)) / 10 := by
        rw [show s.length - i = (s.length - (i + 1)) + 1 by omega, Nat.pow_succ, Nat.div_div_eq_div_mul]
      have ed : D = u / 10 ^ (s.length - (i + 1)) % 10 := by
        have := dD_get u i (by rw [← hd]; exact hil)
        rw [← hd, hD] at this
        rw [show s.length - (i + 1) = s.length - 1 - i by omega]
        omega
      have hle : u / 10 ^ (s.length - (i + 1)) ≤ u := Nat.div_le_self _ _
      obtain ⟨m, hm⟩ : ∃ m, u / 10 ^ (s.length - (i + 1)) = m := ⟨_, rfl⟩
      rw [em, hm] at hn
      rw [hm] at ed hle
      have hlt : ¬ (n < -(((9223372036854775808 - D) / 10 : Nat) : Int)) := by omega
      have e3 : n * 10 - (D : Int) = -(m : Int) := by omega
      have hn0 : n ≤ 0 := by omega
      have hn1 : -922337203685477580 ≤ n := by omega
      clear em hd hdg
      (refine ev3 @e1 @e2 @hlt ?_; try with_reducible exact True.intro)
      rw [e3]
      refine ⟨(i + 1, -(m : Int)), by dsimp only; omega, ⟨by dsimp only; omega, by dsimp only; rw [hm]⟩, ?_⟩
      dsimp only
      (refine Fg_env ?_) <;> (try (refine ev ?_; try with_reducible exact True.intro)) <;> (repeat' (first | refine ⟨?_, ?_⟩ | exact EvV_int (by omega) | exact EvV_of (by simp) | exact EvV_nil _))
    · have hnu : n = -(u : Int) := by rw [hn, show s.length - i = 0 by omega, Nat.pow_zero, Nat.div_one]
      subst hnu
      have hmin : ¬ (-(u : Int) = -9223372036854775808) := by omega
      (refine ev1 @hmin ?_; try with_reducible exact True.intro)
      rw [show (0 : Int) - -(u : Int) = (u : Int) by omega]
      refine PFK_of (c_sFormatInt h.d_spec_FormatInt (n := (u : Int)) (by omega)) ?_
      rw [it_nat, ← hd]
      (refine ev ?_; try with_reducible exact True.intro)
theorem c_sParseInt {T : Nat → Option Fn} (h : D_spec_ParseInt T) {s : List UInt8} {r : V} (hs : s.length ≤ 1048576) (hp : ParseI s r) : PF T 263 [.str s] r := by
  rcases hp with ⟨n, h0, h1, e, rfl⟩ | ⟨hno, rfl⟩
  · by_cases hn : n < 0
    · obtain ⟨u, rfl⟩ : ∃ u : Nat, n = -(u : Int) := ⟨n.natAbs, by omega⟩
      exact parse_yes_n h (by omega) (by omega) (by rw [e, it_neg (by omega)])
    · obtain ⟨u, rfl⟩ : ∃ u : Nat, n = (u : Int) := ⟨n.natAbs, by omega⟩
      exact parse_yes_p h (by omega) (by rw [e, it_nat])
  · by_cases hneg : 0 < s.length ∧ s.getD 0 0 = 45
    · exact parse_no_n h hs hno hneg
    · exact parse_no_p h hs hno hneg
end Go.Ml
end
section
set_option linter.unusedSimpArgs false
set_option linter.unusedVariables false
set_option maxRecDepth 100000
set_option maxHeartbeats 4000000
namespace Go.Ml
open Lib
def F_impl_IsValidPose : Fn := ⟨1, 21, [.tmp 2], (.seq (.reg false 1 [oN 1 (.box (.t 0)), oK 2 1 (.mov (.c (.bool false)))]) (.seq (.reg false 0 [oN 3 (.fld 0 (.t 1)), oN 4 (.load 1 false (.t 3)), oN 5 (.bin .geq (.t 4) (cI 0)), oN 6 (oV 5), oG 6 true 7 (.fld 0 (.t 1)), oG 6 true 8 (.load 1 false (.t 7)), oG 6 true 9 (.bin .leq (.t 8) (cI 3)), oN 10 (.pick (.t 6) (.t 9) (.c (.bool false))), oN 11 (oV 10), oG 11 true 12 (.fld 1 (.t 1)), oG 11 true 13 (.load 1 false (.t 12)), oG 11 true 14 (.call 38 [(.t 13)]), oN 15 (.pick (.t 11) (.t 14) (.c (.bool false))), oN 16 (oV 15), oG 16 true 17 (.fld 2 (.t 1)), oG 16 true 18 (.load 1 false (.t 17)), oG 16 true 19 (.call 38 [(.t 18)]), oN 20 (.pick (.t 16) (.t 19) (.c (.bool false))), oN 2 (oV 20)]) .ret))⟩
structure D_impl_IsValidPose (T : Nat → Option Fn) : Prop where
  hT : T 168 = some F_impl_IsValidPose
  d_impl_inRange : D_impl_inRange T
def F_spec_IsValidPose : Fn := ⟨1, 16, [.tmp 2], (.seq (.reg false 1 [oN 1 (.box (.t 0)), oK 2 1 (.mov (.c (.bool false)))]) (.seq (.reg false 0 [oN 3 (.fld 0 (.t 1)), oN 4 (.load 1 false (.t 3)), oN 5 (.call 35 [(.t 4), (cI 0), (cI 3)]), oN 6 (oV 5), oG 6 true 7 (.fld 1 (.t 1)), oG 6 true 8 (.load 1 false (.t 7)), oG 6 true 9 (.call 35 [(.t 8), (cI (-1000000)), (cI 1000000)]), oN 10 (.pick (.t 6) (.t 9) (.c (.bool false))), oN 11 (oV 10), oG 11 true 12 (.fld 2 (.t 1)), oG 11 true 13 (.load 1 false (.t 12)), oG 11 true 14 (.call 35 [(.t 13), (cI (-1000000)), (cI 1000000)]), oN 15 (.pick (.t 11) (.t 14) (.c (.bool false))), oN 2 (oV 15)]) .ret))⟩
structure D_spec_IsValidPose (T : Nat → Option Fn) : Prop where
  hT : T 166 = some F_spec_IsValidPose
  d_spec_l01In : D_spec_l01In T
def F_impl_FormatPose : Fn := ⟨1, 22, [.tmp 2], (.seq (.reg false 1 [oN 1 (.box (.t 0)), oK 2 1 (.mov (.c (.str [])))]) (.seq (.seq (.reg false 0 [oN 3 (.load 3 true (.t 1)), oN 4 (.call 168 [(.t 3)]), oN 5 (.un .not (.t 4))]) (.cond (.t 5) (.seq (.reg false 0 [oN 2 (.mov (.c (.str [])))]) .ret) .skip)) (.seq (.reg true 0 [oN 6 (.fld 1 (.t 1)), oA 7 0 (.load 1 false (.t 6)) [0], oA 8 0 (.call 169 [(.t 7)]) [1], oA 9 0 (.bin .add (.t 8) (.c (.str [44]))) [2], oN 10 (.fld 2 (.t 1)), oA 11 0 (.load 1 false (.t 10)) [4], oA 12 0 (.call 169 [(.t 11)]) [5, 2], oA 13 0 (.bin .add (.t 9) (.t 12)) [3, 6], oA 14 0 (.bin .add (.t 13) (.c (.str [44]))) [7], oN 15 (.fld 0 (.t 1)), oA 16 0 (.load 1 false (.t 15)) [9], oN 17 (.fld 0 (.t 1)), oA 18 0 (.load 1 false (.t 17)) [11], oA 19 0 (.bin .add (.t 18) (cI 1)) [12], oA 20 0 (.sliceS (.c (.str [101, 110, 119, 115])) (some (.t 16)) (some (.t 19))) [10, 13], oA 21 0 (.bin .add (.t 14) (.t 20)) [8, 14], oA 2 0 (oV 21) [15, 6, 0, 1, 2, 3, 4, 5, 6, 7, 8, 9, 10, 11, 12, 13, 14, 15]]) .ret)))⟩
structure D_impl_FormatPose (T : Nat → Option Fn) : Prop where
  hT : T 165 = some F_impl_FormatPose
  d_impl_IsValidPose : D_impl_IsValidPose T
  d_impl_FormatInt : D_impl_FormatInt T
def F_spec_FormatPose : Fn := ⟨1, 21, [.tmp 2], (.seq (.reg false 1 [oN 1 (.box (.t 0)), oK 2 1 (.mov (.c (.str [])))]) (.seq (.seq (.reg false 0 [oN 3 (.load 3 true (.t 1)), oN 4 (.call 166 [(.t 3)]), oN 5 (.un .not (.t 4))]) (.cond (.t 5) (.seq (.reg false 0 [oN 2 (.mov (.c (.str [])))]) .ret) .skip)) (.seq (.reg true 1 [oK 6 1 (.fld 1 (.t 1)), oA 7 1 (.load 1 false (.t 6)) [0], oA 8 1 (.call 167 [(.t 7)]) [1], oA 9 1 (.bin .add (.t 8) (.c (.str [44]))) [2], oK 10 1 (.fld 2 (.t 1)), oA 11 1 (.load 1 false (.t 10)) [4], oA 12 1 (.call 167 [(.t 11)]) [5, 2], oA 13 1 (.bin .add (.t 9) (.t 12)) [3, 6], oA 14 1 (.bin .add (.t 13) (.c (.str [44]))) [7], oN 15 (.mkSl 1 [.str []] 4 [(0, (.c (.str [101]))), (1, (.c (.str [110]))), (2, (.c (.str [119]))), (3, (.c (.str [115])))]), oK 16 1 (.fld 0 (.t 1)), oA 17 1 (.load 1 false (.t 16)) [10], oA 18 1 (.idx 1 (.t 15) (.t 17)) [9, 11], oA 19 1 (.load 1 false (.t 18)) [12], oA 20 1 (.bin .add (.t 14) (.t 19)) [8, 13], oA 2 1 (oV 20) [14, 6, 0, 1, 2, 3, 4, 5, 6, 7, 8, 9, 10, 11, 12, 13, 14]]) .ret)))⟩
structure D_spec_FormatPose (T : Nat → Option Fn) : Prop where
  hT : T 163 = some F_spec_FormatPose
  d_spec_IsValidPose : D_spec_IsValidPose T
  d_spec_FormatInt : D_spec_FormatInt T
def inR (n : Int) : Bool := inC n
theorem c_inRangeR {T : Nat → Option Fn} (h : D_impl_inRange T) {n : Int} : PF T 38 [iv n] (.bool (inR n)) := c_inRange h
def poOk (p : Po) : Bool := decide (0 ≤ p.turn) && decide (p.turn ≤ 3) && inR p.x && inR p.y
theorem c_iIsValidPose {T : Nat → Option Fn} (h : D_impl_IsValidPose T) {p : Po} : PF T 168 [poV p] (.bool (poOk p)) := by
  have c1 := c_inRangeR h.d_impl_inRange (n := p.x)
  have c2 := c_inRangeR h.d_impl_inRange (n := p.y)
  unfold poOk
  refine pf_end (fun _ _ => false) h.hT rfl rfl ?_
  dsimp only [F_impl_IsValidPose, oN, oS, oG, oK, oA, oH, oV, cI]
  (refine ev ?_; try with_reducible exact True.intro)
  by_cases h1 : 0 ≤ p.turn
  · by_cases h2 : p.turn ≤ 3
    · have d1 := decide_eq_true h1
      have d2 := decide_eq_true h2
      rw [d1, d2]
      (refine ev2 @h1 @h2 ?_; try with_reducible exact True.intro)
      refine PFK_of c1 ?_
      cases inR p.x
      · (refine ev ?_; try with_reducible exact True.intro)
      · (refine ev ?_; try with_reducible exact True.intro)
        refine PFK_of c2 ?_
        (refine ev ?_; try with_reducible exact True.intro)
    · (refine ev2 @h1 @h2 ?_; try with_reducible exact True.intro)
  · (refine ev1 @h1 ?_; try with_reducible exact True.intro)
theorem c_sIsValidPose {T : Nat → Option Fn} (h : D_spec_IsValidPose T) {p : Po} : PF T 166 [poV p] (.bool (poOk p)) := by
  have c0 := c_l01In h.d_spec_l01In (a := p.turn) (b := 0) (c := 3)
  have c1 := c_l01In h.d_spec_l01In (a := p.x) (b := -1000000) (c := 1000000)
  have c2 := c_l01In h.d_spec_l01In (a := p.y) (b := -1000000) (c := 1000000)
  unfold poOk inR inC
  refine pf_end (fun _ _ => false) h.hT rfl rfl ?_
  dsimp only [F_spec_IsValidPose, oN, oS, oG, oK, oA, oH, oV, cI]
  (refine ev ?_; try with_reducible exact True.intro)
  refine PFK_of c0 ?_
  cases decide (0 ≤ p.turn) && decide (p.turn ≤ 3)
  · (refine ev ?_; try with_reducible exact True.intro)
  · (refine ev ?_; try with_reducible exact True.intro)
    refine PFK_of c1 ?_
    cases decide (-1000000 ≤ p.x) && decide (p.x ≤ 1000000)
    · (refine ev ?_; try with_reducible exact True.intro)
    · (refine ev ?_; try with_reducible exact True.intro)
      refine PFK_of c2 ?_
      (refine ev ?_; try with_reducible exact True.intro)
def dirs : List UInt8 := [101, 110, 119, 115]
def fmtPo (p : Po) : List UInt8 := if poOk p = true then itoa p.x ++ [44] ++ itoa p.y ++ [44] ++ [dirs.getD p.turn.toNat 0] else []
theorem poOk_iff {p : Po} : poOk p = true ↔ (0 ≤ p.turn ∧ p.turn ≤ 3) ∧ (-1000000 ≤ p.x ∧ p.x ≤ 1000000) ∧ (-1000000 ≤ p.y ∧ p.y ≤ 1000000) := by
  simp [poOk, inR, inC, Bool.and_eq_true, and_assoc]
theorem tn23 : Int.toNat 2 = 2 ∧ Int.toNat 3 = 3 := ⟨rfl, rfl⟩
theorem turn4 {n : Int} (h : 0 ≤ n ∧ n ≤ 3) : n = 0 ∨ n = 1 ∨ n = 2 ∨ n = 3 := by omega
theorem c_iFormatPose {T : Nat → Option Fn} (h : D_impl_FormatPose T) {p : Po} : PF T 165 [poV p] (.str (fmtPo p)) := by
  unfold fmtPo
  have c1 := c_iIsValidPose h.d_impl_IsValidPose (p := p)
  cases hb : poOk p
  · rw [hb] at c1
    refine pf_end (fun _ _ => false) h.hT rfl rfl ?_
    dsimp only [F_impl_FormatPose, oN, oS, oG, oK, oA, oH, oV, cI]
    (refine ev ?_; try with_reducible exact True.intro)
    refine PFK_of c1 ?_
    (refine ev ?_; try with_reducible exact True.intro)
  · rw [hb] at c1
    obtain ⟨ht, hx, hy⟩ := poOk_iff.1 hb
    have cx := c_iFormatInt h.d_impl_FormatInt (n := p.x) (by omega)
    have cy := c_iFormatInt h.d_impl_FormatInt (n := p.y) (by omega)
    have lx := it_len (n := p.x) (by omega) (by omega)
    have ly := it_len (n := p.y) (by omega) (by omega)
    obtain ⟨t, x, y⟩ := p
    dsimp only at *
    generalize itoa x = sx at *
    generalize itoa y = sy at *
    rcases turn4 ht with rfl | rfl | rfl | rfl
    all_goals
      refine pf_end (fun _ _ => false) h.hT rfl rfl ?_
      dsimp only [F_impl_FormatPose, oN, oS, oG, oK, oA, oH, oV, cI]
      (refine ev ?_; try with_reducible exact True.intro)
      refine PFK_of c1 ?_
      (refine ev ?_; try with_reducible exact True.intro)
      refine PFK_of cx ?_
      (refine ev ?_; try with_reducible exact True.intro)
      refine PFK_of cy ?_
      (refine ev ?_; try with_reducible exact True.intro)
    all_goals rfl
theorem c_sFormatPose {T : Nat → Option Fn} (h : D_spec_FormatPose T) {p : Po} : PF T 163 [poV p] (.str (fmtPo p)) := by
  unfold fmtPo
  have c1 := c_sIsValidPose h.d_spec_IsValidPose (p := p)
  cases hb : poOk p
  · rw [hb] at c1
    refine pf_end (fun _ _ => false) h.hT rfl rfl ?_
    dsimp only [F_spec_FormatPose, oN, oS, oG, oK, oA, oH, oV, cI]
    (refine ev ?_; try with_reducible exact True.intro)
    refine PFK_of c1 ?_
    (refine ev ?_; try with_reducible exact True.intro)
  · rw [hb] at c1
    obtain ⟨ht, hx, hy⟩ := poOk_iff.1 hb
    have cx := c_sFormatInt h.d_spec_FormatInt (n := p.x) (by omega)
    have cy := c_sFormatInt h.d_spec_FormatInt (n := p.y) (by omega)
    have lx := it_len (n := p.x) (by omega) (by omega)
    have ly := it_len (n := p.y) (by omega) (by omega)
    obtain ⟨t, x, y⟩ := p
    dsimp only at *
    generalize itoa x = sx at *
    generalize itoa y = sy at *
    rcases turn4 ht with rfl | rfl | rfl | rfl
    all_goals
      refine pf_end (fun _ _ => false) h.hT rfl rfl ?_
      dsimp only [F_spec_FormatPose, oN, oS, oG, oK, oA, oH, oV, cI]
      (refine ev ?_; try with_reducible exact True.intro)
      refine PFK_of c1 ?_
      (refine ev ?_; try with_reducible exact True.intro)
      refine PFK_of cx ?_
      (refine ev ?_; try with_reducible exact True.intro)
      refine PFK_of cy ?_
      (refine ev1 @tn23 ?_; try with_reducible exact True.intro)
      refine ⟨by unfold OkA; decide +kernel, ?_⟩
      rfl
end Go.Ml
end
section
set_option linter.unusedSimpArgs false
set_option linter.unusedVariables false
set_option maxRecDepth 100000
set_option maxHeartbeats 4000000
namespace Go.Ml
open Lib
def F_impl_ParsePose : Fn := ⟨1, 56, [.cell 2 3 true, .tmp 3], (.seq (.reg false 1 [oN 2 (.alloc [.int .i64 0, .int .i64 0, .int .i64 0]), oK 3 1 (.mov (.c (.bool false)))]) (.seq (.reg false 0 [oN 11 (oV 0), oN 12 (.call 257 [(.t 11), (.c (.str [44]))]), oN 4 (oV 12)]) (.seq (.seq (.reg false 0 [oN 13 (oV 4), oN 14 (.len (.t 13)), oN 15 (.bin .neq (.t 14) (cI 3))]) (.cond (.t 15) (.seq (.reg false 0 [oN 16 (.build [.int .i64 0, .int .i64 0, .int .i64 0] []), oS (.store 3 (.t 2) (.t 16)), oN 3 (.mov (.c (.bool false)))]) .ret) .skip)) (.seq (.reg false 0 [oN 18 (oV 4), oN 19 (.idx 1 (.t 18) (cI 0)), oN 20 (.load 1 false (.t 19)), oN 21 (.call 258 [(.t 20)]), oN 17 (oV 21), oN 22 (.extr 0 (.t 17)), oN 23 (.extr 1 (.t 17)), oN 5 (oV 22), oN 6 (oV 23)]) (.seq (.reg false 0 [oN 25 (oV 4), oN 26 (.idx 1 (.t 25) (cI 1)), oN 27 (.load 1 false (.t 26)), oN 28 (.call 258 [(.t 27)]), oN 24 (oV 28), oN 29 (.extr 0 (.t 24)), oN 30 (.extr 1 (.t 24)), oN 7 (oV 29), oN 8 (oV 30)]) (.seq (.seq (.reg false 0 [oN 31 (oV 6), oN 32 (.un .not (.t 31)), oN 33 (oV 32), oG 33 false 34 (oV 8), oG 33 false 35 (.un .not (.t 34)), oN 36 (.pick (.t 33) (.c (.bool true)) (.t 35))]) (.cond (.t 36) (.seq (.reg false 0 [oN 37 (.build [.int .i64 0, .int .i64 0, .int .i64 0] []), oS (.store 3 (.t 2) (.t 37)), oN 3 (.mov (.c (.bool false)))]) .ret) .skip)) (.seq (.seq (.reg false 0 [oN 9 (.mov (cI 0))]) (.block 0 (.loop (.seq (.seq (.reg false 0 [oN 38 (oV 9), oN 39 (.bin .lss (.t 38) (cI 4))]) (.cond (.t 39) .skip (.exit 0))) (.seq (.block 1 (.seq (.reg false 1 [oK 42 1 (oV 9), oK 43 1 (oV 5), oK 44 1 (oV 7), oK 45 1 (.build [.int .i64 0, .int .i64 0, .int .i64 0] [(0, 1, (.t 42)), (1, 1, (.t 43)), (2, 1, (.t 44))]), oN 10 (.alloc [.int .i64 0, .int .i64 0, .int .i64 0]), ⟨none, none, 1, .store 3 (.t 10) (.t 45), []⟩]) (.seq (.reg false 0 [oN 46 (.load 3 true (.t 10)), oN 47 (.call 168 [(.t 46)]), oN 48 (oV 47), oG 48 true 49 (.load 3 true (.t 10)), oG 48 true 50 (.call 165 [(.t 49)]), oG 48 true 51 (oV 0), oG 48 true 52 (.bin .eql (.t 50) (.t 51)), oN 53 (.pick (.t 48) (.t 52) (.c (.bool false)))]) (.cond (.t 53) (.seq (.reg false 0 [oN 54 (.load 3 true (.t 10)), oS (.store 3 (.t 2) (.t 54)), oN 3 (.mov (.c (.bool true)))]) .ret) .skip)))) (.reg false 0 [oN 40 (oV 9), oN 41 (.bin .add (.t 40) (cI 1)), oN 9 (oV 41)])))))) (.seq (.reg false 0 [oN 55 (.build [.int .i64 0, .int .i64 0, .int .i64 0] []), oS (.store 3 (.t 2) (.t 55)), oN 3 (.mov (.c (.bool false)))]) .ret))))))))⟩
structure D_impl_ParsePose (T : Nat → Option Fn) : Prop where
  hT : T 249 = some F_impl_ParsePose
  d_impl_FormatPose : D_impl_FormatPose T
  d_impl_IsValidPose : D_impl_IsValidPose T
  d_impl_SplitAny : D_impl_SplitAny T
  d_impl_ParseInt : D_impl_ParseInt T
def F_spec_ParsePose : Fn := ⟨1, 48, [.cell 2 3 true, .tmp 3], (.seq (.reg false 1 [oN 2 (.alloc [.int .i64 0, .int .i64 0, .int .i64 0]), oK 3 1 (.mov (.c (.bool false)))]) (.seq (.reg false 0 [oN 6 (oV 0), oN 7 (.call 262 [(.t 6), (.c (.str [44]))]), oN 4 (oV 7)]) (.seq (.seq (.reg false 0 [oN 8 (oV 4), oN 9 (.len (.t 8)), oN 10 (.bin .neq (.t 9) (cI 3))]) (.cond (.t 10) (.seq (.reg false 0 [oN 11 (.build [.int .i64 0, .int .i64 0, .int .i64 0] []), oS (.store 3 (.t 2) (.t 11)), oN 3 (.mov (.c (.bool false)))]) .ret) .skip)) (.seq (.reg false 1 [oK 12 1 (.build [.int .i64 0, .int .i64 0, .int .i64 0] []), oN 5 (.alloc [.int .i64 0, .int .i64 0, .int .i64 0]), ⟨none, none, 1, .store 3 (.t 5) (.t 12), []⟩]) (.seq (.reg false 0 [oN 14 (oV 4), oN 15 (.idx 1 (.t 14) (cI 0)), oN 16 (.load 1 false (.t 15)), oN 17 (.call 263 [(.t 16)]), oN 13 (oV 17), oN 18 (.extr 0 (.t 13)), oN 19 (.extr 1 (.t 13)), oN 20 (.fld 1 (.t 5)), oS (.store 1 (.t 20) (.t 18))]) (.seq (.reg false 0 [oN 22 (oV 4), oN 23 (.idx 1 (.t 22) (cI 1)), oN 24 (.load 1 false (.t 23)), oN 25 (.call 263 [(.t 24)]), oN 21 (oV 25), oN 26 (.extr 0 (.t 21)), oN 27 (.extr 1 (.t 21)), oN 28 (.fld 2 (.t 5)), oS (.store 1 (.t 28) (.t 26))]) (.seq (.seq (.reg false 0 [oN 29 (.fld 0 (.t 5)), oS (.store 1 (.t 29) (cI 0))]) (.block 0 (.loop (.seq (.seq (.reg false 0 [oN 30 (.fld 0 (.t 5)), oN 31 (.load 1 false (.t 30)), oN 32 (.bin .lss (.t 31) (cI 4))]) (.cond (.t 32) .skip (.exit 0))) (.seq (.block 1 (.seq (.reg false 0 [oN 37 (.load 3 true (.t 5)), oN 38 (.call 163 [(.t 37)]), oN 39 (.bin .neq (.t 38) (.c (.str []))), oN 40 (oV 39), oG 40 true 41 (.load 3 true (.t 5)), oG 40 true 42 (.call 163 [(.t 41)]), oG 40 true 43 (oV 0), oG 40 true 44 (.bin .eql (.t 42) (.t 43)), oN 45 (.pick (.t 40) (.t 44) (.c (.bool false)))]) (.cond (.t 45) (.seq (.reg false 0 [oN 46 (.load 3 true (.t 5)), oS (.store 3 (.t 2) (.t 46)), oN 3 (.mov (.c (.bool true)))]) .ret) .skip))) (.reg false 0 [oN 33 (.fld 0 (.t 5)), oN 34 (.load 1 false (.t 33)), oN 35 (.bin .add (.t 34) (cI 1)), oN 36 (.fld 0 (.t 5)), oS (.store 1 (.t 36) (.t 35))])))))) (.seq (.reg false 0 [oN 47 (.build [.int .i64 0, .int .i64 0, .int .i64 0] []), oS (.store 3 (.t 2) (.t 47)), oN 3 (.mov (.c (.bool false)))]) .ret))))))))⟩
structure D_spec_ParsePose (T : Nat → Option Fn) : Prop where
  hT : T 254 = some F_spec_ParsePose
  d_spec_FormatPose : D_spec_FormatPose T
  d_spec_SplitAny : D_spec_SplitAny T
  d_spec_ParseInt : D_spec_ParseInt T
theorem spS_run (s : List UInt8) (st : Nat) : ∀ k, st ≤ k → (∀ j, st ≤ j → j < k → s.getD j 0 ≠ 44) → spS s k = spS s st
  | 0, h, _ => by rw [show st = 0 by omega]
  | k + 1, h, hn => by
    by_cases e : st = k + 1
    · rw [e]
    · rw [spS_s, if_neg (hn k (by omega) (by omega))]
      exact spS_run s st k (by omega) fun j h1 h2 => hn j h1 (by omega)
theorem spC_fmt {a b : List UInt8} {c : UInt8} (ha : ∀ x ∈ a, x ≠ 44) (hb : ∀ x ∈ b, x ≠ 44) (hc : c ≠ 44) : spC (a ++ [44] ++ b ++ [44] ++ [c]) = [a, b, [c]] := by
  obtain ⟨s, hs⟩ : ∃ s, a ++ [44] ++ b ++ [44] ++ [c] = s := ⟨_, rfl⟩
  have hs' : s = a ++ 44 :: (b ++ 44 :: [c]) := by rw [← hs]; simp
  have hl : s.length = a.length + b.length + 3 := by rw [hs']; simp; omega
  have g1 : ∀ j, j < a.length → s.getD j 0 ≠ 44 := fun j hj => by
    rw [hs', List.getD_eq_getElem?_getD, List.getElem?_append_left hj, List.getElem?_eq_getElem hj]
    exact ha _ (List.getElem_mem hj)
  have g2 : s.getD a.length 0 = 44 := by
    rw [hs', List.getD_eq_getElem?_getD, List.getElem?_append_right (Nat.le_refl _)]; simp
  have g3 : ∀ j, a.length + 1 ≤ j → j < a.length + 1 + b.length → s.getD j 0 ≠ 44 := fun j h1 h2 => by
    rw [hs', List.getD_eq_getElem?_getD, List.getElem?_append_right (by omega), show j - a.length = (j - a.length - 1) + 1 by omega, List.getElem?_cons_succ,
      List.getElem?_append_left (by omega), List.getElem?_eq_getElem (by omega)]
    exact hb _ (List.getElem_mem _)
  have g4 : s.getD (a.length + 1 + b.length) 0 = 44 := by
    rw [hs', List.getD_eq_getElem?_getD, List.getElem?_append_right (by omega), show a.length + 1 + b.length - a.length = b.length + 1 by omega, List.getElem?_cons_succ,
      List.getElem?_append_right (Nat.le_refl _)]; simp
  have g5 : s.getD (a.length + 1 + b.length + 1) 0 = c := by
    rw [hs', List.getD_eq_getElem?_getD, List.getElem?_append_right (by omega), show a.length + 1 + b.length + 1 - a.length = b.length + 1 + 1 by omega, List.getElem?_cons_succ,
      List.getElem?_append_right (by omega), show b.length + 1 - b.length = 0 + 1 by omega, List.getElem?_cons_succ]; rfl
  have t1 : s.take a.length = a := by rw [hs']; simp
  have t2 : (s.take (a.length + 1 + b.length)).drop (a.length + 1) = b := by
    rw [hs', show a.length + 1 + b.length = a.length + (1 + b.length) by omega, List.take_length_add_append, List.drop_append, List.drop_eq_nil_of_le (by omega), show a.length + 1 - a.length = 1 by omega,
      show 1 + b.length = b.length + 1 by omega, List.take_succ_cons]
    simp
  have t3 : s.drop (a.length + 1 + b.length + 1) = [c] := by
    rw [hs', List.drop_append, List.drop_eq_nil_of_le (by omega), show a.length + 1 + b.length + 1 - a.length = (b.length + 1) + 1 by omega, List.drop_succ_cons,
      List.drop_append, List.drop_eq_nil_of_le (by omega), show b.length + 1 - b.length = 0 + 1 by omega, List.drop_succ_cons]
    rfl
  have s0 : spS s a.length = ([], 0) := spS_run s 0 _ (by omega) fun j _ h => g1 j h
  have s1 : spS s (a.length + 1) = ([a], a.length + 1) := by rw [spS_s, if_pos g2, s0, t1]; rfl
  have s2 : spS s (a.length + 1 + b.length) = ([a], a.length + 1) := by rw [spS_run s (a.length + 1) _ (by omega) g3, s1]
  have s3 : spS s (a.length + 1 + b.length + 1) = ([a, b], a.length + 1 + b.length + 1) := by rw [spS_s, if_pos g4, s2, t2]; rfl
  have s4 : spS s s.length = ([a, b], a.length + 1 + b.length + 1) := by
    rw [hl, show a.length + b.length + 3 = (a.length + 1 + b.length + 1) + 1 by omega, spS_s, if_neg (by rw [g5]; exact hc), s3]
  rw [hs]
  unfold spC
  rw [s4, t3]
  rfl
theorem it_ne44 {n : Int} (h0 : -9223372036854775808 ≤ n) (h1 : n ≤ 9223372036854775807) : ∀ x ∈ itoa n, x ≠ 44 := by
  intro x hx e
  subst e
  unfold itoa at hx
  split at hx
  · rcases List.mem_cons.1 hx with e | hx
    · exact absurd e (by decide)
    · have := dD_dig 19 n.natAbs (by omega) _ hx
      exact absurd this.1 (by decide)
  · have := dD_dig 19 n.toNat (by omega) _ hx
    exact absurd this.1 (by decide)
theorem dirs_ne {t : Int} (h : 0 ≤ t ∧ t ≤ 3) : dirs.getD t.toNat 0 ≠ 44 := by
  rcases turn4 h with rfl | rfl | rfl | rfl <;> decide
theorem dirs_inj {t u : Int} (h : 0 ≤ t ∧ t ≤ 3) (k : 0 ≤ u ∧ u ≤ 3) (e : dirs.getD t.toNat 0 = dirs.getD u.toNat 0) : t = u := by
  rcases turn4 h with rfl | rfl | rfl | rfl <;> rcases turn4 k with rfl | rfl | rfl | rfl <;> first | rfl | exact absurd e (by decide)
theorem spC_le {s : List UInt8} : ∀ x ∈ spC s, x.length ≤ s.length := by
  have key : ∀ k, ∀ x ∈ (spS s k).1, x.length ≤ s.length := by
    intro k
    induction k with
    | zero => intro x hx; cases hx
    | succ k ih =>
      rw [spS_s]
      split
      · intro x hx
        rcases List.mem_append.1 hx with hx | hx
        · exact ih x hx
        · simp only [List.mem_singleton] at hx
          subst hx
          simp; omega
      · exact ih
  intro x hx
  unfold spC at hx
  rcases List.mem_append.1 hx with hx | hx
  · exact key _ x hx
  · simp only [List.mem_singleton] at hx
    subst hx
    simp
theorem spC_get {s : List UInt8} (i : Nat) : ((spC s).getD i []).length ≤ s.length := by
  rw [List.getD_eq_getElem?_getD]
  cases h : (spC s)[i]? with
  | none => simp
  | some x => exact spC_le x (List.mem_of_getElem? h)
theorem parseI_ex (s : List UInt8) : ∃ r, ParseI s r := by
  by_cases h : ∃ n : Int, -9223372036854775808 ≤ n ∧ n ≤ 9223372036854775807 ∧ s = itoa n
  · obtain ⟨n, h0, h1, e⟩ := h
    exact ⟨_, .inl ⟨n, h0, h1, e, rfl⟩⟩
  · exact ⟨_, .inr ⟨fun n h0 h1 e => h ⟨n, h0, h1, e⟩, rfl⟩⟩
def PP (s : List UInt8) (r : V) : Prop := (∃ p : Po, poOk p = true ∧ s = fmtPo p ∧ r = .tup [poV p, .bool true]) ∨ ((∀ p : Po, poOk p = true → s ≠ fmtPo p) ∧ r = .tup [poV ⟨0, 0, 0⟩, .bool false])
theorem pp_ex (s : List UInt8) : ∃ r, PP s r := by
  by_cases h : ∃ p : Po, poOk p = true ∧ s = fmtPo p
  · obtain ⟨p, h1, h2⟩ := h
    exact ⟨_, .inl ⟨p, h1, h2, rfl⟩⟩
  · exact ⟨_, .inr ⟨fun p h1 h2 => h ⟨p, h1, h2⟩, rfl⟩⟩
theorem fmt_split {p : Po} (h : poOk p = true) : spC (fmtPo p) = [itoa p.x, itoa p.y, [dirs.getD p.turn.toNat 0]] := by
  obtain ⟨h1, h2, h3⟩ := poOk_iff.1 h
  unfold fmtPo
  rw [if_pos h]
  exact spC_fmt (it_ne44 (by omega) (by omega)) (it_ne44 (by omega) (by omega)) (dirs_ne h1)
theorem fmt_turn {t u x y : Int} (h : poOk ⟨t, x, y⟩ = true) (k : poOk ⟨u, x, y⟩ = true) (e : fmtPo ⟨t, x, y⟩ = fmtPo ⟨u, x, y⟩) : t = u := by
  unfold fmtPo at e
  rw [if_pos h, if_pos k] at e
  have := List.append_cancel_left e
  exact dirs_inj (poOk_iff.1 h).1 (poOk_iff.1 k).1 (by simpa using this)
end Go.Ml
end
section
set_option linter.unusedSimpArgs false
set_option linter.unusedVariables false
set_option maxRecDepth 100000
set_option maxHeartbeats 4000000
namespace Go.Ml
open Lib
theorem c_iParsePose_yes {T : Nat → Option Fn} (h : D_impl_ParsePose T) {p : Po} {s : List UInt8} (hs : s.length ≤ 1048576) (hp : poOk p = true) (e : s = fmtPo p) : PF T 249 [.str s] (.tup [poV p, .bool true]) := by
  obtain ⟨b1, b2, b3⟩ := poOk_iff.1 hp
  have hl := fmt_split hp
  rw [← e] at hl
  have h3 : ((spC s).length : Int) = 3 := by rw [hl]; rfl
  have g0 : (spC s).getD 0 [] = itoa p.x := by rw [hl]; rfl
  have g1 : (spC s).getD 1 [] = itoa p.y := by rw [hl]; rfl
  have cs := c_iSplitAny h.d_impl_SplitAny hs
  have cx := c_iParseInt h.d_impl_ParseInt (s := itoa p.x) (r := .tup [iv p.x, .bool true]) (Nat.le_trans (it_len (by omega) (by omega)) (by omega)) (.inl ⟨p.x, by omega, by omega, rfl, rfl⟩)
  have cy := c_iParseInt h.d_impl_ParseInt (s := itoa p.y) (r := .tup [iv p.y, .bool true]) (Nat.le_trans (it_len (by omega) (by omega)) (by omega)) (.inl ⟨p.y, by omega, by omega, rfl, rfl⟩)
  refine pf_end (fun _ _ => false) h.hT rfl rfl ?_
  dsimp only [F_impl_ParsePose, oN, oS, oG, oK, oA, oH, oV, cI]
  (refine ev ?_; try with_reducible exact True.intro)
  refine PFK_of cs ?_
  (refine ev2 @h3 @g0 ?_; try with_reducible exact True.intro)
  refine PFK_of cx ?_
  (refine ev1 @g1 ?_; try with_reducible exact True.intro)
  refine PFK_of cy ?_
  (refine ev ?_; try with_reducible exact True.intro)
  refine loop_at (fun _ _ => false) (α := Nat) (fun k => ⟨argE [.str s, .any, .ptr 0 0 0, .bool false, .any, iv p.x, .any, iv p.y, .any, iv (k : Nat)], [some ⟨3, [[iv 0, iv 0, iv 0]]⟩], 0, 0, [], []⟩) (fun k => (k : Int) ≤ p.turn) (fun k => 4 - k) rfl 0 ?_ ?_ ?_
  · exact b1.1
  · (refine Fg_re [(0, _)] (by simp) (by intro p hp; simp only [List.mem_cons, List.not_mem_nil, or_false] at hp; rcases hp with rfl <;> refine ⟨rfl, ?_⟩ <;> first | exact ir_still _ | simp [stillR, V.still]) rfl ?_) <;> (try (refine ev ?_; try with_reducible exact True.intro)) <;> (repeat' (first | exact True.intro | omega | exact CanE_ptr rfl (by simp) | refine ⟨?_, ?_⟩ | exact of_eq_true (CanE_nil _ _ _) | exact CanE_of rfl (by simp; done) | exact CanE_of rfl rfl | (refine CanE_msl rfl ?_ rfl; simp [irows]; done) | (refine CanE_msl rfl ?_ rfl; simp [irows]; omega) | (refine CanE_frz ?_ ?_; (focus ((refine ev ?_; try with_reducible exact True.intro); done)); (intro q hq k s0 l0; simp; done))))
  · intro k hk
    have hk4 : (k : Int) < 4 := by omega
    have hv : poOk ⟨(k : Int), p.x, p.y⟩ = true := poOk_iff.2 ⟨⟨by dsimp only; omega, by dsimp only; omega⟩, b2, b3⟩
    have cv := c_iIsValidPose h.d_impl_IsValidPose (p := ⟨(k : Int), p.x, p.y⟩)
    rw [hv] at cv
    have cf := c_iFormatPose h.d_impl_FormatPose (p := ⟨(k : Int), p.x, p.y⟩)
    (refine ev1 @hk4 ?_; try with_reducible exact True.intro)
    refine PFK_of cv ?_
    (refine ev ?_; try with_reducible exact True.intro)
    refine PFK_of cf ?_
    by_cases ek : (k : Int) = p.turn
    · have ef : fmtPo ⟨(k : Int), p.x, p.y⟩ = s := by rw [ek, e]
      (refine ev1 @ef ?_; try with_reducible exact True.intro)
      show V.tup [.agg [iv (k : Int), iv p.x, iv p.y], .bool true] = V.tup [poV p, .bool true]
      rw [ek]
    · have ef : ¬ (fmtPo ⟨(k : Int), p.x, p.y⟩ = s) := fun e' => ek (fmt_turn hv hp (by rw [e', e]))
      (refine ev1 @ef ?_; try with_reducible exact True.intro)
      refine ⟨k + 1, by omega, by omega, ?_⟩
      (refine Fg_re [(0, _)] (by simp) (by intro p hp; simp only [List.mem_cons, List.not_mem_nil, or_false] at hp; rcases hp with rfl <;> refine ⟨rfl, ?_⟩ <;> first | exact ir_still _ | simp [stillR, V.still]) rfl ?_) <;> (try (refine ev ?_; try with_reducible exact True.intro)) <;> (repeat' (first | exact True.intro | omega | exact CanE_ptr rfl (by simp) | refine ⟨?_, ?_⟩ | exact of_eq_true (CanE_nil _ _ _) | exact CanE_of rfl (by simp; done) | exact CanE_of rfl rfl | (refine CanE_msl rfl ?_ rfl; simp [irows]; done) | (refine CanE_msl rfl ?_ rfl; simp [irows]; omega) | (refine CanE_frz ?_ ?_; (focus ((refine ev ?_; try with_reducible exact True.intro); done)); (intro q hq k s0 l0; simp; done))))
theorem c_iParsePose_no {T : Nat → Option Fn} (h : D_impl_ParsePose T) {s : List UInt8} (hs : s.length ≤ 1048576) (hno : ∀ p : Po, poOk p = true → s ≠ fmtPo p) : PF T 249 [.str s] (.tup [poV ⟨0, 0, 0⟩, .bool false]) := by
  have cs := c_iSplitAny h.d_impl_SplitAny hs
  have l0 := spC_get (s := s) 0
  have l1 := spC_get (s := s) 1
  obtain ⟨r0, p0⟩ := parseI_ex ((spC s).getD 0 [])
  obtain ⟨r1, p1⟩ := parseI_ex ((spC s).getD 1 [])
  have c0 := c_iParseInt h.d_impl_ParseInt (by omega) p0
  have c1 := c_iParseInt h.d_impl_ParseInt (by omega) p1
  have q0 : ∃ x b, r0 = .tup [iv x, .bool b] := by
    rcases p0 with ⟨n, _, _, _, e⟩ | ⟨_, e⟩
    · exact ⟨n, true, e⟩
    · exact ⟨0, false, e⟩
  have q1 : ∃ x b, r1 = .tup [iv x, .bool b] := by
    rcases p1 with ⟨n, _, _, _, e⟩ | ⟨_, e⟩
    · exact ⟨n, true, e⟩
    · exact ⟨0, false, e⟩
  obtain ⟨x, bx, rfl⟩ := q0
  obtain ⟨y, bY, rfl⟩ := q1
  clear p0 p1
  refine pf_end (fun _ _ => false) h.hT rfl rfl ?_
  dsimp only [F_impl_ParsePose, oN, oS, oG, oK, oA, oH, oV, cI]
  (refine ev ?_; try with_reducible exact True.intro)
  refine PFK_of cs ?_
  by_cases h3 : ((spC s).length : Int) = 3
  · have hlen : (spC s).length = 3 := by omega
    clear cs
    (refine ev1 @h3 ?_; try with_reducible exact True.intro)
    refine PFK_of c0 ?_
    (refine ev ?_; try with_reducible exact True.intro)
    refine PFK_of c1 ?_
    cases bx
    · (refine ev ?_; try with_reducible exact True.intro)
      exact (show V.tup [poV ⟨0, 0, 0⟩, .bool false] = V.tup [poV ⟨0, 0, 0⟩, .bool false] from rfl)
    · cases bY
      · (refine ev ?_; try with_reducible exact True.intro)
        exact (show V.tup [poV ⟨0, 0, 0⟩, .bool false] = V.tup [poV ⟨0, 0, 0⟩, .bool false] from rfl)
      · (refine ev ?_; try with_reducible exact True.intro)
        refine loop_at (fun _ _ => false) (α := Nat) (fun k => ⟨argE [.str s, .any, .ptr 0 0 0, .bool false, .any, iv x, .any, iv y, .any, iv (k : Nat)], [some ⟨3, [[iv 0, iv 0, iv 0]]⟩], 0, 0, [], []⟩) (fun k => k ≤ 4) (fun k => 4 - k) rfl 0 ?_ ?_ ?_
        · omega
        · (refine Fg_re [(0, _)] (by simp) (by intro p hp; simp only [List.mem_cons, List.not_mem_nil, or_false] at hp; rcases hp with rfl <;> refine ⟨rfl, ?_⟩ <;> first | exact ir_still _ | simp [stillR, V.still]) rfl ?_) <;> (try (refine ev ?_; try with_reducible exact True.intro)) <;> (repeat' (first | exact True.intro | omega | exact CanE_ptr rfl (by simp) | refine ⟨?_, ?_⟩ | exact of_eq_true (CanE_nil _ _ _) | exact CanE_of rfl (by simp; done) | exact CanE_of rfl rfl | (refine CanE_msl rfl ?_ rfl; simp [irows]; done) | (refine CanE_msl rfl ?_ rfl; simp [irows]; omega) | (refine CanE_frz ?_ ?_; (focus ((refine ev ?_; try with_reducible exact True.intro); done)); (intro q hq k s0 l0; simp; done))))
        · intro k hk
          (refine ev ?_; try with_reducible exact True.intro)
          refine brK_dec (fun hk4 => ?_) fun hk4 => ?_ <;> (refine ev1 @hk4 ?_; try with_reducible exact True.intro)
          · have cv := c_iIsValidPose h.d_impl_IsValidPose (p := ⟨(k : Int), x, y⟩)
            have cf := c_iFormatPose h.d_impl_FormatPose (p := ⟨(k : Int), x, y⟩)
            refine PFK_of cv ?_
            cases hv : poOk ⟨(k : Int), x, y⟩
            · (refine ev ?_; try with_reducible exact True.intro)
              refine ⟨k + 1, by omega, by omega, ?_⟩
              (refine Fg_re [(0, _)] (by simp) (by intro p hp; simp only [List.mem_cons, List.not_mem_nil, or_false] at hp; rcases hp with rfl <;> refine ⟨rfl, ?_⟩ <;> first | exact ir_still _ | simp [stillR, V.still]) rfl ?_) <;> (try (refine ev ?_; try with_reducible exact True.intro)) <;> (repeat' (first | exact True.intro | omega | exact CanE_ptr rfl (by simp) | refine ⟨?_, ?_⟩ | exact of_eq_true (CanE_nil _ _ _) | exact CanE_of rfl (by simp; done) | exact CanE_of rfl rfl | (refine CanE_msl rfl ?_ rfl; simp [irows]; done) | (refine CanE_msl rfl ?_ rfl; simp [irows]; omega) | (refine CanE_frz ?_ ?_; (focus ((refine ev ?_; try with_reducible exact True.intro); done)); (intro q hq k s0 l0; simp; done))))
            · (refine ev ?_; try with_reducible exact True.intro)
              refine PFK_of cf ?_
              have ef : ¬ (fmtPo ⟨(k : Int), x, y⟩ = s) := fun e' => hno _ hv e'.symm
              (refine ev1 @ef ?_; try with_reducible exact True.intro)
              refine ⟨k + 1, by omega, by omega, ?_⟩
              (refine Fg_re [(0, _)] (by simp) (by intro p hp; simp only [List.mem_cons, List.not_mem_nil, or_false] at hp; rcases hp with rfl <;> refine ⟨rfl, ?_⟩ <;> first | exact ir_still _ | simp [stillR, V.still]) rfl ?_) <;> (try (refine ev ?_; try with_reducible exact True.intro)) <;> (repeat' (first | exact True.intro | omega | exact CanE_ptr rfl (by simp) | refine ⟨?_, ?_⟩ | exact of_eq_true (CanE_nil _ _ _) | exact CanE_of rfl (by simp; done) | exact CanE_of rfl rfl | (refine CanE_msl rfl ?_ rfl; simp [irows]; done) | (refine CanE_msl rfl ?_ rfl; simp [irows]; omega) | (refine CanE_frz ?_ ?_; (focus ((refine ev ?_; try with_reducible exact True.intro); done)); (intro q hq k s0 l0; simp; done))))
          · exact (show V.tup [poV ⟨0, 0, 0⟩, .bool false] = V.tup [poV ⟨0, 0, 0⟩, .bool false] from rfl)
  · (refine ev1 @h3 ?_; try with_reducible exact True.intro)
    exact (show V.tup [poV ⟨0, 0, 0⟩, .bool false] = V.tup [poV ⟨0, 0, 0⟩, .bool false] from rfl)
theorem c_sParsePose_yes {T : Nat → Option Fn} (h : D_spec_ParsePose T) {p : Po} {s : List UInt8} (hs : s.length ≤ 1048576) (hp : poOk p = true) (e : s = fmtPo p) : PF T 254 [.str s] (.tup [poV p, .bool true]) := by
  obtain ⟨b1, b2, b3⟩ := poOk_iff.1 hp
  have hl := fmt_split hp
  rw [← e] at hl
  have h3 : ((spC s).length : Int) = 3 := by rw [hl]; rfl
  have g0 : (spC s).getD 0 [] = itoa p.x := by rw [hl]; rfl
  have g1 : (spC s).getD 1 [] = itoa p.y := by rw [hl]; rfl
  have cs := c_sSplitAny h.d_spec_SplitAny hs
  have cx := c_sParseInt h.d_spec_ParseInt (s := itoa p.x) (r := .tup [iv p.x, .bool true]) (Nat.le_trans (it_len (by omega) (by omega)) (by omega)) (.inl ⟨p.x, by omega, by omega, rfl, rfl⟩)
  have cy := c_sParseInt h.d_spec_ParseInt (s := itoa p.y) (r := .tup [iv p.y, .bool true]) (Nat.le_trans (it_len (by omega) (by omega)) (by omega)) (.inl ⟨p.y, by omega, by omega, rfl, rfl⟩)
  have hne : ¬ (s = []) := by rw [e]; unfold fmtPo; rw [if_pos hp]; simp
  refine pf_end (fun _ _ => false) h.hT rfl rfl ?_
  dsimp only [F_spec_ParsePose, oN, oS, oG, oK, oA, oH, oV, cI]
  (refine ev ?_; try with_reducible exact True.intro)
  refine PFK_of cs ?_
  (refine ev2 @h3 @g0 ?_; try with_reducible exact True.intro)
  refine PFK_of cx ?_
  (refine ev1 @g1 ?_; try with_reducible exact True.intro)
  refine PFK_of cy ?_
  (refine ev ?_; try with_reducible exact True.intro)
  refine loop_at (fun _ _ => false) (α := Nat) (fun k => ⟨argE [.str s, .any, .ptr 0 0 0, .bool false, .any, .ptr 1 0 0], [some ⟨3, [[iv 0, iv 0, iv 0]]⟩, some ⟨3, [[iv (k : Nat), iv p.x, iv p.y]]⟩], 0, 0, [], []⟩) (fun k => (k : Int) ≤ p.turn) (fun k => 4 - k) rfl 0 ?_ ?_ ?_
  · exact b1.1
  · (refine Fg_env ?_) <;> (try (refine ev ?_; try with_reducible exact True.intro)) <;> (repeat' (first | refine ⟨?_, ?_⟩ | exact EvV_int (by omega) | exact EvV_of (by simp) | exact EvV_nil _))
  · intro k hk
    have hk4 : (k : Int) < 4 := by omega
    have hv : poOk ⟨(k : Int), p.x, p.y⟩ = true := poOk_iff.2 ⟨⟨by dsimp only; omega, by dsimp only; omega⟩, b2, b3⟩
    have cf := c_sFormatPose h.d_spec_FormatPose (p := ⟨(k : Int), p.x, p.y⟩)
    have hn : ¬ (fmtPo ⟨(k : Int), p.x, p.y⟩ = []) := by unfold fmtPo; rw [if_pos hv]; simp
    (refine ev1 @hk4 ?_; try with_reducible exact True.intro)
    refine PFK_of cf ?_
    (refine ev1 @hn ?_; try with_reducible exact True.intro)
    refine PFK_of cf ?_
    by_cases ek : (k : Int) = p.turn
    · have ef : fmtPo ⟨(k : Int), p.x, p.y⟩ = s := by rw [ek, e]
      (refine ev1 @ef ?_; try with_reducible exact True.intro)
      show V.tup [.agg [iv (k : Int), iv p.x, iv p.y], .bool true] = V.tup [poV p, .bool true]
      rw [ek]
    · have ef : ¬ (fmtPo ⟨(k : Int), p.x, p.y⟩ = s) := fun e' => ek (fmt_turn hv hp (by rw [e', e]))
      (refine ev1 @ef ?_; try with_reducible exact True.intro)
      refine ⟨k + 1, by omega, by omega, ?_⟩
      (refine Fg_env ?_) <;> (try (refine ev ?_; try with_reducible exact True.intro)) <;> (repeat' (first | refine ⟨?_, ?_⟩ | exact EvV_int (by omega) | exact EvV_of (by simp) | exact EvV_nil _))
theorem c_sParsePose_no {T : Nat → Option Fn} (h : D_spec_ParsePose T) {s : List UInt8} (hs : s.length ≤ 1048576) (hno : ∀ p : Po, poOk p = true → s ≠ fmtPo p) : PF T 254 [.str s] (.tup [poV ⟨0, 0, 0⟩, .bool false]) := by
  have cs := c_sSplitAny h.d_spec_SplitAny hs
  have l0 := spC_get (s := s) 0
  have l1 := spC_get (s := s) 1
  obtain ⟨r0, p0⟩ := parseI_ex ((spC s).getD 0 [])
  obtain ⟨r1, p1⟩ := parseI_ex ((spC s).getD 1 [])
  have c0 := c_sParseInt h.d_spec_ParseInt (by omega) p0
  have c1 := c_sParseInt h.d_spec_ParseInt (by omega) p1
  have q0 : ∃ x b, r0 = .tup [iv x, .bool b] := by
    rcases p0 with ⟨n, _, _, _, e⟩ | ⟨_, e⟩
    · exact ⟨n, true, e⟩
    · exact ⟨0, false, e⟩
  have q1 : ∃ x b, r1 = .tup [iv x, .bool b] := by
    rcases p1 with ⟨n, _, _, _, e⟩ | ⟨_, e⟩
    · exact ⟨n, true, e⟩
    · exact ⟨0, false, e⟩
  obtain ⟨x, bx, rfl⟩ := q0
  obtain ⟨y, bY, rfl⟩ := q1
  clear p0 p1
  refine pf_end (fun _ _ => false) h.hT rfl rfl ?_
  dsimp only [F_spec_ParsePose, oN, oS, oG, oK, oA, oH, oV, cI]
  (refine ev ?_; try with_reducible exact True.intro)
  refine PFK_of cs ?_
  by_cases h3 : ((spC s).length : Int) = 3
  · have hlen : (spC s).length = 3 := by omega
    clear cs
    (refine ev1 @h3 ?_; try with_reducible exact True.intro)
    refine PFK_of c0 ?_
    (refine ev ?_; try with_reducible exact True.intro)
    refine PFK_of c1 ?_
    (refine ev ?_; try with_reducible exact True.intro)
    refine loop_at (fun _ _ => false) (α := Nat) (fun k => ⟨argE [.str s, .any, .ptr 0 0 0, .bool false, .any, .ptr 1 0 0], [some ⟨3, [[iv 0, iv 0, iv 0]]⟩, some ⟨3, [[iv (k : Nat), iv x, iv y]]⟩], 0, 0, [], []⟩) (fun k => k ≤ 4) (fun k => 4 - k) rfl 0 ?_ ?_ ?_
    · omega
    · (refine Fg_env ?_) <;> (try (refine ev ?_; try with_reducible exact True.intro)) <;> (repeat' (first | refine ⟨?_, ?_⟩ | exact EvV_int (by omega) | exact EvV_of (by simp) | exact EvV_nil _))
    · intro k hk
      (refine ev ?_; try with_reducible exact True.intro)
      refine brK_dec (fun hk4 => ?_) fun hk4 => ?_ <;> (refine ev1 @hk4 ?_; try with_reducible exact True.intro)
      · have cf := c_sFormatPose h.d_spec_FormatPose (p := ⟨(k : Int), x, y⟩)
        refine PFK_of cf ?_
        cases hv : poOk ⟨(k : Int), x, y⟩
        · have hn : fmtPo ⟨(k : Int), x, y⟩ = [] := by unfold fmtPo; rw [hv]; rfl
          rw [hn]
          (refine ev ?_; try with_reducible exact True.intro)
          refine ⟨k + 1, by omega, by omega, ?_⟩
          (refine Fg_env ?_) <;> (try (refine ev ?_; try with_reducible exact True.intro)) <;> (repeat' (first | refine ⟨?_, ?_⟩ | exact EvV_int (by omega) | exact EvV_of (by simp) | exact EvV_nil _))
        · have hn : ¬ (fmtPo ⟨(k : Int), x, y⟩ = []) := by unfold fmtPo; rw [if_pos hv]; simp
          (refine ev1 @hn ?_; try with_reducible exact True.intro)
          refine PFK_of cf ?_
          have ef : ¬ (fmtPo ⟨(k : Int), x, y⟩ = s) := fun e' => hno _ hv e'.symm
          (refine ev1 @ef ?_; try with_reducible exact True.intro)
          refine ⟨k + 1, by omega, by omega, ?_⟩
          (refine Fg_env ?_) <;> (try (refine ev ?_; try with_reducible exact True.intro)) <;> (repeat' (first | refine ⟨?_, ?_⟩ | exact EvV_int (by omega) | exact EvV_of (by simp) | exact EvV_nil _))
      · exact (show V.tup [poV ⟨0, 0, 0⟩, .bool false] = V.tup [poV ⟨0, 0, 0⟩, .bool false] from rfl)
  · (refine ev1 @h3 ?_; try with_reducible exact True.intro)
    exact (show V.tup [poV ⟨0, 0, 0⟩, .bool false] = V.tup [poV ⟨0, 0, 0⟩, .bool false] from rfl)
theorem c_iParsePose {T : Nat → Option Fn} (h : D_impl_ParsePose T) {s : List UInt8} {r : V} (hs : s.length ≤ 1048576) (hp : PP s r) : PF T 249 [.str s] r := by
  rcases hp with ⟨p, h1, h2, rfl⟩ | ⟨h1, rfl⟩
  · exact c_iParsePose_yes h hs h1 h2
  · exact c_iParsePose_no h hs h1
theorem c_sParsePose {T : Nat → Option Fn} (h : D_spec_ParsePose T) {s : List UInt8} {r : V} (hs : s.length ≤ 1048576) (hp : PP s r) : PF T 254 [.str s] r := by
  rcases hp with ⟨p, h1, h2, rfl⟩ | ⟨h1, rfl⟩
  · exact c_sParsePose_yes h hs h1 h2
  · exact c_sParsePose_no h hs h1
theorem pp_cases {s : List UInt8} {r : V} (h : PP s r) : ∃ p b, r = .tup [poV p, .bool b] := by
  rcases h with ⟨p, _, _, e⟩ | ⟨_, e⟩
  · exact ⟨p, true, e⟩
  · exact ⟨⟨0, 0, 0⟩, false, e⟩
end Go.Ml
end
section
set_option linter.unusedSimpArgs false
set_option linter.unusedVariables false
set_option maxRecDepth 100000
set_option maxHeartbeats 4000000
namespace Go.Ml
def F_laws_eqPose : Fn := ⟨2, 20, [.tmp 4], (.seq (.reg false 2 [oN 2 (.box (.t 0)), oK 3 1 (.box (.t 1)), oK 4 2 (.mov (.c (.bool false)))]) (.seq (.seq (.reg false 0 [oN 5 (.fld 0 (.t 2)), oN 6 (.load 1 false (.t 5)), oN 7 (.fld 0 (.t 3)), oN 8 (.load 1 false (.t 7)), oN 9 (.bin .neq (.t 6) (.t 8))]) (.cond (.t 9) (.seq (.reg false 0 [oN 4 (.mov (.c (.bool false)))]) .ret) .skip)) (.seq (.seq (.reg false 0 [oN 10 (.fld 1 (.t 2)), oN 11 (.load 1 false (.t 10)), oN 12 (.fld 1 (.t 3)), oN 13 (.load 1 false (.t 12)), oN 14 (.bin .neq (.t 11) (.t 13))]) (.cond (.t 14) (.seq (.reg false 0 [oN 4 (.mov (.c (.bool false)))]) .ret) .skip)) (.seq (.seq (.reg false 0 [oN 15 (.fld 2 (.t 2)), oN 16 (.load 1 false (.t 15)), oN 17 (.fld 2 (.t 3)), oN 18 (.load 1 false (.t 17)), oN 19 (.bin .neq (.t 16) (.t 18))]) (.cond (.t 19) (.seq (.reg false 0 [oN 4 (.mov (.c (.bool false)))]) .ret) .skip)) (.seq (.reg false 0 [oN 4 (.mov (.c (.bool true)))]) .ret)))))⟩
structure D_laws_eqPose (T : Nat → Option Fn) : Prop where
  hT : T 255 = some F_laws_eqPose
def F_laws_FnExactParsePose : Fn := ⟨1, 29, [.tmp 2], (.seq (.reg false 0 [oN 2 (.mov (.c (.bool false)))]) (.seq (.seq (.reg false 0 [oN 7 (oV 0), oN 8 (.lenS (.t 7)), oN 9 (.bin .gtr (.t 8) (cI 1048576))]) (.cond (.t 9) (.seq (.reg false 0 [oN 2 (.mov (.c (.bool true)))]) .ret) .skip)) (.seq (.reg false 1 [oK 11 1 (oV 0), oK 12 1 (.call 254 [(.t 11)]), oK 10 1 (oV 12), oK 13 1 (.extr 0 (.t 10)), oK 14 1 (.extr 1 (.t 10)), oN 3 (.alloc [.int .i64 0, .int .i64 0, .int .i64 0]), ⟨none, none, 1, .store 3 (.t 3) (.t 13), []⟩, oK 4 1 (oV 14)]) (.seq (.reg false 1 [oK 16 1 (oV 0), oK 17 1 (.call 249 [(.t 16)]), oK 15 1 (oV 17), oK 18 1 (.extr 0 (.t 15)), oK 19 1 (.extr 1 (.t 15)), oN 5 (.alloc [.int .i64 0, .int .i64 0, .int .i64 0]), ⟨none, none, 1, .store 3 (.t 5) (.t 18), []⟩, oK 6 1 (oV 19)]) (.seq (.seq (.reg false 0 [oN 20 (.load 3 true (.t 5)), oN 21 (.load 3 true (.t 3)), oN 22 (.call 255 [(.t 20), (.t 21)]), oN 23 (.un .not (.t 22)), oN 24 (oV 23), oG 24 false 25 (oV 6), oG 24 false 26 (oV 4), oG 24 false 27 (.beq true (.t 25) (.t 26)), oN 28 (.pick (.t 24) (.c (.bool true)) (.t 27))]) (.cond (.t 28) (.seq (.reg false 0 [oN 2 (.mov (.c (.bool false)))]) .ret) .skip)) (.seq (.reg false 0 [oN 2 (.mov (.c (.bool true)))]) .ret))))))⟩
structure D_laws_FnExactParsePose (T : Nat → Option Fn) : Prop where
  hT : T 247 = some F_laws_FnExactParsePose
  d_impl_ParsePose : D_impl_ParsePose T
  d_spec_ParsePose : D_spec_ParsePose T
  d_laws_eqPose : D_laws_eqPose T
theorem c_eqPose {T : Nat → Option Fn} (h : D_laws_eqPose T) {p : Po} : PF T 255 [poV p, poV p] (.bool true) := by
  refine pf_end (fun _ _ => false) h.hT rfl rfl ?_
  dsimp only [F_laws_eqPose, oN, oS, oG, oK, oA, oH, oV, cI]
  (refine ev ?_; try with_reducible exact True.intro)
theorem c_lawFnExactParsePose {T : Nat → Option Fn} (h : D_laws_FnExactParsePose T) (s : List UInt8) (ws : s.length ≤ 9223372036854775807) : PF T 247 [.str s] (.bool true) := by
  obtain ⟨r, hr⟩ := pp_ex s
  refine pf_end (fun _ _ => false) h.hT rfl rfl ?_
  dsimp only [F_laws_FnExactParsePose, oN, oS, oG, oK, oA, oH, oV, cI]
  (refine ev ?_; try with_reducible exact True.intro)
  refine brK_dec (fun hb => ?_) fun hb => ?_ <;> (refine ev1 @hb ?_; try with_reducible exact True.intro)
  have hs : s.length ≤ 1048576 := by omega
  have cs := c_sParsePose h.d_spec_ParsePose hs hr
  have ci := c_iParsePose h.d_impl_ParsePose hs hr
  obtain ⟨p, b, rfl⟩ := pp_cases hr
  refine PFK_of cs ?_
  (refine ev ?_; try with_reducible exact True.intro)
  refine PFK_of ci ?_
  (refine ev ?_; try with_reducible exact True.intro)
  refine PFK_of (c_eqPose h.d_laws_eqPose) ?_
  cases b
  · (refine ev ?_; try with_reducible exact True.intro)
  · (refine ev ?_; try with_reducible exact True.intro)
end Go.Ml
end
section
set_option linter.unusedSimpArgs false
set_option linter.unusedVariables false
namespace Go.Ml
theorem dec_one {l : Lf} {r : List V} (h : MtL [l] r) : ∃ v, r = [v] ∧ Mt l v := by
  simp only [MtL] at h
  obtain ⟨v, vs, rfl, h1, rfl⟩ := h
  exact ⟨v, rfl, h1⟩
def AllP {α : Type} (P : α → Prop) : List α → Prop
  | [] => True
  | x :: l => P x ∧ AllP P l
theorem AllP.mem {α : Type} {P : α → Prop} : ∀ {l : List α}, AllP P l → ∀ x ∈ l, P x
  | [], _, x, hx => by cases hx
  | y :: l, h, x, hx => by
    rcases List.mem_cons.1 hx with rfl | hx
    · exact h.1
    · exact AllP.mem h.2 x hx
end Go.Ml
namespace Go.Ml
theorem trod_len {H : Type} {enc : TypeId × Value → H} {P : Program} {w : World} {b : Nat} {sp : Nat → Bool} {hd : Bool} : ∀ {ts : List TypeId} {vs : List Value} {ds : List (DataW H)} {ps : List MemPlace},
    DataW.TrodAll enc P w b sp hd ts vs ds ps → ds.length = ts.length
  | [], [], [], _, _ => rfl
  | [], [], _ :: _, _, h => h.elim
  | [], _ :: _, ds, _, h => by cases ds <;> exact h.elim
  | _ :: _, [], ds, _, h => by cases ds <;> exact h.elim
  | _ :: _, _ :: _, [], _, h => h.elim
  | t :: ts, v :: vs, d :: ds, ps, h => by
    obtain ⟨p, q, _, h2, _⟩ := h
    simp [trod_len h2]
end Go.Ml
end
