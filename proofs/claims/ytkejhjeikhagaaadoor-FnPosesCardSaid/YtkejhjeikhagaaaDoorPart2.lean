/- Contracts of functions. -/
import Derived.Test.YtkejhjeikhagaaaDoorPart1
section
set_option linter.unusedSimpArgs false
set_option linter.unusedVariables false
namespace Go.Ml
theorem mapL_eq (g : Nat → Option Nat) : ∀ l : List V, mapV.mapL g l = l.map (mapV g)
  | [] => rfl
  | x :: l => by simp only [mapV.mapL, List.map_cons, mapL_eq g l]
section
variable {σ σ2 : Store} {m : Nat}
theorem mapM_shift {n : Nat} (ih : ∀ v t : V, resolve σ n v = some t → resolve σ2 n (mapV (shiftN m) v) = some t) : ∀ (l l' : List V), l.mapM (resolve σ n) = some l' → (l.map (mapV (shiftN m))).mapM (resolve σ2 n) = some l'
  | [], l', h => by simpa using h
  | x :: l, l', h => by
    simp only [List.mapM_cons, Option.pure_def, Option.bind_eq_bind, Option.bind_eq_some_iff, List.map_cons] at h ⊢
    obtain ⟨a, ha, b, hb, e⟩ := h
    exact ⟨a, ih x a ha, b, mapM_shift ih l b hb, e⟩
theorem mapM_shiftR {n : Nat} (ih : ∀ v t : V, resolve σ n v = some t → resolve σ2 n (mapV (shiftN m) v) = some t) : ∀ (l : List (List V)) (l' : List (List V)), (l.mapM fun (r : List V) => r.mapM (resolve σ n)) = some l' →
    ((l.map fun r => r.map (mapV (shiftN m))).mapM fun (r : List V) => r.mapM (resolve σ2 n)) = some l'
  | [], l', h => by simpa using h
  | x :: l, l', h => by
    simp only [List.mapM_cons, Option.pure_def, Option.bind_eq_bind, Option.bind_eq_some_iff, List.map_cons] at h ⊢
    obtain ⟨a, ha, b, hb, e⟩ := h
    exact ⟨a, mapM_shift ih x a ha, b, mapM_shiftR ih l b hb, e⟩
theorem res_shift (hs : ∀ o, objAt σ2 (m + o) = (objAt σ o).map (mapO (shiftN m))) : ∀ (n : Nat) (v t : V), resolve σ n v = some t → resolve σ2 n (mapV (shiftN m) v) = some t
  | 0, _, _, h => by simp [resolve] at h
  | n + 1, v, t, h => by
    have ih := res_shift hs n
    cases v with
    | msl o s l =>
      simp only [mapV, shiftN, resolve, hs] at h ⊢
      cases ho : objAt σ o with
      | none => rw [ho] at h; cases h
      | some ob =>
        rw [ho] at h
        simp only [Option.map_some, mapO, List.length_map] at h ⊢
        split at h
        · rename_i hl
          rw [if_pos hl]
          obtain ⟨rows, h1, rfl⟩ := Option.map_eq_some_iff.1 h
          rw [Option.map_eq_some_iff]
          refine ⟨rows, ?_, rfl⟩
          rw [← List.map_drop, ← List.map_take]
          exact mapM_shiftR ih _ _ h1
        · cases h
    | ptr o r off =>
      simp only [mapV, shiftN, resolve, hs] at h ⊢
      cases ho : objAt σ o with
      | none => rw [ho] at h; cases h
      | some ob =>
        rw [ho] at h
        simp only [Option.map_some, mapO, List.getElem?_map] at h ⊢
        cases hr : ob.rows[r]? with
        | none => rw [hr] at h; cases h
        | some row =>
          rw [hr] at h
          simp only [Option.map_some] at h ⊢
          obtain ⟨row', h1, rfl⟩ := Option.map_eq_some_iff.1 h
          rw [Option.map_eq_some_iff]
          exact ⟨row', mapM_shift ih _ _ h1, rfl⟩
    | agg cs =>
      simp only [mapV, resolve] at h ⊢
      obtain ⟨cs', h1, rfl⟩ := Option.map_eq_some_iff.1 h
      rw [Option.map_eq_some_iff, mapL_eq]
      exact ⟨cs', mapM_shift ih _ _ h1, rfl⟩
    | tup cs =>
      simp only [mapV, resolve] at h ⊢
      obtain ⟨cs', h1, rfl⟩ := Option.map_eq_some_iff.1 h
      rw [Option.map_eq_some_iff, mapL_eq]
      exact ⟨cs', mapM_shift ih _ _ h1, rfl⟩
    | any => simp [resolve] at h
    | one => simpa only [mapV, resolve] using h
    | int k n => simpa only [mapV, resolve] using h
    | bool b => simpa only [mapV, resolve] using h
    | str b => simpa only [mapV, resolve] using h
    | nils => simpa only [mapV, resolve] using h
    | sl a b => simpa only [mapV, resolve] using h
    | fptr a b => simpa only [mapV, resolve] using h
end
def OwX (σ : Store) : List V → List (Bool × V) → List Nat → Prop
  | vs, [], os => vs = [] ∧ os = []
  | vs, (b, t) :: ts, os => ∃ v vs' o1 o2, vs = v :: vs' ∧ os = o1 ++ o2 ∧ (if b = true then OwV σ v t o1 else resolve σ FD v = some t ∧ o1 = []) ∧ OwX σ vs' ts o2
theorem OwX.shift {σ σ2 : Store} {n : Nat} (hs : ∀ o, objAt σ2 (n + o) = (objAt σ o).map (mapO (shiftN n))) : ∀ {ts : List (Bool × V)} {vs : List V} {os : List Nat}, OwX σ vs ts os → OwX σ2 (vs.map (mapV (shiftN n))) ts (os.map (n + ·))
  | [], vs, os, h => by simp only [OwX] at h ⊢; obtain ⟨rfl, rfl⟩ := h; exact ⟨rfl, rfl⟩
  | (b, t) :: ts, vs, os, h => by
    simp only [OwX] at h ⊢
    obtain ⟨v, vs', o1, o2, rfl, rfl, h1, h2⟩ := h
    refine ⟨_, _, o1.map (n + ·), o2.map (n + ·), rfl, by rw [List.map_append], ?_, OwX.shift hs h2⟩
    cases b with
    | true => simp only [if_true] at h1 ⊢; exact OwV.shift hs h1
    | false =>
      simp only [Bool.false_eq_true, if_false] at h1 ⊢
      exact ⟨res_shift hs _ _ _ h1.1, by rw [h1.2]; rfl⟩
structure GotX (σ σ2 : Store) (vs : List V) (ts : List (Bool × V)) (os : List Nat) : Prop where
  ow : OwX σ2 vs ts os
  nd : os.Nodup
  fresh : ∀ o ∈ os, σ.length ≤ o
  old : ∀ o, o < σ.length → objAt σ2 o = objAt σ o
  len : σ.length ≤ σ2.length
end Go.Ml
end
section
set_option linter.unusedSimpArgs false
set_option linter.unusedVariables false
namespace Go.Ml
structure Grow (s : Store) (v : V) (sz : Nat) (A ts : List (List V)) : Prop where
  ex : ∃ os, OwR s A ts os ∧ os.Nodup ∧ ((A = [] ∧ v = .nils) ∨ ∃ o, v = .msl o 0 A.length ∧ objAt s o = some ⟨sz, A⟩ ∧ o ∉ os)
section
variable {s s1 σ2 S : Store} {v : V} {sz : Nat} {A ts : List (List V)}
theorem Grow.len (h : Grow s v sz A ts) : A.length = ts.length := by obtain ⟨os, a, _⟩ := h.ex; exact a.len
theorem Grow.cases (h : Grow s v sz A ts) : (A = [] ∧ ts = [] ∧ v = .nils) ∨ ∃ o, v = .msl o 0 A.length ∧ objAt s o = some ⟨sz, A⟩ ∧ o < s.length := by
  have hl := h.len
  obtain ⟨os, a, b, c⟩ := h.ex
  rcases c with ⟨rfl, rfl⟩ | ⟨o, rfl, h1, h2⟩
  · exact .inl ⟨rfl, List.eq_nil_of_length_eq_zero (by simpa using hl.symm), rfl⟩
  · exact .inr ⟨o, rfl, h1, objAt_lt h1⟩
theorem Grow.frame (h : Grow s v sz A ts) (f : ∀ o, o < s.length → objAt S o = objAt s o) : Grow S v sz A ts := by
  obtain ⟨os, a, b, c⟩ := h.ex
  refine ⟨os, a.frame fun q hq => f q (a.lt q hq), b, ?_⟩
  rcases c with c | ⟨o, rfl, h1, h2⟩
  · exact .inl c
  · exact .inr ⟨o, rfl, (f o (objAt_lt h1)).trans h1, h2⟩
theorem Grow.app {cs tcs : List V} {os2 : List Nat} {id2 : Nat} (h : Grow s v sz A ts) (hs : ∀ o, o < s.length → objAt s1 o = objAt s o) (hl : s.length ≤ s1.length) (g : Got s1 σ2 (.agg cs) (.agg tcs) os2)
    (h0 : s.length ≤ id2) (hid : id2 < s1.length) (h2 : objAt S id2 = some ⟨sz, A ++ [cs]⟩)
    (hf : ∀ q, q ≠ id2 → (q < s.length ∨ s1.length ≤ q) → (∀ n, v ≠ .msl q 0 n) → objAt S q = objAt σ2 q) : Grow S (.msl id2 0 (A.length + 1)) sz (A ++ [cs]) (ts ++ [tcs]) := by
  obtain ⟨os, a, b, c⟩ := h.ex
  have a' := a.frame (σ' := σ2) fun q hq => by
    have := a.lt q hq
    rw [g.old q (by omega), hs q this]
  obtain ⟨cs', e, hc⟩ := g.ow.agg_inv
  cases e
  have hlt := a.lt
  have hv : ∀ q ∈ os ++ os2, ∀ n, v ≠ .msl q 0 n := by
    intro q hq n
    rcases c with ⟨_, rfl⟩ | ⟨o, rfl, h1, h2⟩
    · simp
    · intro e
      have e2 : o = q := by injection e
      rw [e2] at h1 h2
      rcases List.mem_append.1 hq with hq | hq
      · exact h2 hq
      · have := g.fresh q hq
        have := objAt_lt h1
        omega
  have hne : ∀ q ∈ os ++ os2, q ≠ id2 ∧ (q < s.length ∨ s1.length ≤ q) := by
    intro q hq
    rcases List.mem_append.1 hq with hq | hq
    · have := hlt q hq; exact ⟨by omega, by omega⟩
    · have := g.fresh q hq; exact ⟨by omega, by omega⟩
  have fr : ∀ q ∈ os ++ os2, objAt S q = objAt σ2 q := fun q hq => hf q (hne q hq).1 (hne q hq).2 (hv q hq)
  refine ⟨os ++ os2, owR_append (a'.frame fun q hq => fr q (List.mem_append_left _ hq)) (owR_1 (hc.frame fun q hq => fr q (List.mem_append_right _ hq))), ?_, .inr ⟨id2, by simp, h2, fun hm => (hne id2 hm).1 rfl⟩⟩
  rw [List.nodup_append]
  refine ⟨b, g.nd, fun x hx y hy e => ?_⟩
  have := hlt x hx
  have := g.fresh y hy
  omega
end
end Go.Ml
end
section
set_option linter.unusedSimpArgs false
set_option linter.unusedVariables false
namespace Go.Ml
structure Ep (s : Store) (cs ts : List V) (os : List Nat) (L : List (Nat × Obj)) : Prop where
  c : Cs s cs ts os
  l : ∀ q ∈ L, objAt s q.1 = some q.2 ∧ q.1 ∉ os
section
variable {s σ2 : Store} {cs ts : List V} {os os2 : List Nat} {L : List (Nat × Obj)}
theorem Ep.lt (E : Ep s cs ts os L) : ∀ q ∈ L, q.1 < s.length := fun q hq => objAt_lt (E.l q hq).1
theorem Ep.snoc (E : Ep s cs ts os L) {x : Option Obj} : Ep (s ++ [x]) cs ts os L := ⟨E.c.snoc, fun q hq => ⟨(objAt_snoc_lt (E.lt q hq)).trans (E.l q hq).1, (E.l q hq).2⟩⟩
theorem Ep.res (E : Ep s cs ts os L) (c : Nat) {v t : V} (hv : cs[c]? = some v) (ht : ts[c]? = some t) (hd : DepLe FD t) : resolve s FD v = some t := E.c.res c hv ht hd
theorem Ep.leaf (E : Ep s cs ts os L) (c : Nat) {v t : V} (hv : cs[c]? = some v) (ht : ts[c]? = some t) (hl : t.leaf = true := by rfl) : v.leaf = true := by
  obtain ⟨vc, oc, j1, j2, _⟩ := E.c.ow.focus c t E.c.nd ht
  rw [hv] at j1
  cases j1
  exact j2.leaf hl
theorem Ep.call {T : Nat → Option Fn} {f : Nat} {t t' v : V} {k k' : Int} (E : Ep s cs ts os L) (c : Nat) (hm : Mk T f t k t' k') (hv : cs[c]? = some v) (ht : ts[c]? = some t) :
    ∃ s', Run T (.fn f [v, .int .i64 k] s) (.fn (.int .i64 k') s') ∧ Ep s' cs (ts.set c t') os L ∧ s.length ≤ s'.length := by
  obtain ⟨s', h1, h2, h3⟩ := E.c.call c hm hv ht
  exact ⟨s', h1, ⟨h2, fun q hq => ⟨(h3.old _ (E.lt q hq) (E.l q hq).2).trans (E.l q hq).1, (E.l q hq).2⟩⟩, h3.len⟩
theorem Ep.part {T : Nat → Option Fn} {f : Nat} {t2 t2' r2 : List V} {k k' : Int} (E : Ep s cs ts os L) (n m : Nat) (hm : Mk T f (.agg t2) k (.agg t2') k') (hr : (cs.drop n).take m = r2) (ht : (ts.drop n).take m = t2) (hn : n + m ≤ ts.length) :
    ∃ s', Run T (.fn f [.agg r2, .int .i64 k] s) (.fn (.int .i64 k') s') ∧ Ep s' cs (ts.take n ++ t2' ++ ts.drop (n + m)) os L ∧ s.length ≤ s'.length := by
  obtain ⟨s', h1, h2, h3⟩ := E.c.part n m hm ht hn
  rw [hr] at h1
  exact ⟨s', h1, ⟨h2, fun q hq => ⟨(h3.old _ (E.lt q hq) (E.l q hq).2).trans (E.l q hq).1, (E.l q hq).2⟩⟩, h3.len⟩
end
section
variable {σ : Store} {os : List Nat}
end
end Go.Ml
namespace Go.Ml
end Go.Ml
namespace Go.Ml
def sh (n0 n x : Nat) : Nat := if x < n0 then x else x + (n - n0)
end Go.Ml
namespace Go.Ml
end Go.Ml
end
section
set_option linter.unusedSimpArgs false
set_option linter.unusedVariables false
namespace Go.Ml
end Go.Ml
namespace Go.Ml
theorem reach_ints {σ : Store} {v : V} {l : List Int} {os : List Nat} (h : OwV σ v (ints l) os) : ∀ n, ∀ o ∈ reach σ n v, o ∈ os := by
  intro n o ho
  rcases h.ints_inv with ⟨_, rfl, _⟩ | ⟨q, rfl, h1, rfl⟩
  · cases n <;> simp [reach] at ho
  · cases n with
    | zero => simp [reach] at ho
    | succ n =>
      simp only [reach, h1, List.mem_cons, List.mem_flatMap] at ho
      rcases ho with rfl | ⟨r, hr, c, hc, ho⟩
      · simp
      · have hs := ir_still l r hr c hc
        cases n with
        | zero => simp [reach] at ho
        | succ n => rw [reach_still hs] at ho; cases ho
end Go.Ml
namespace Go.Ml
theorem Ep.push {s : Store} {cs ts : List V} {os : List Nat} {L : List (Nat × Obj)} {ob : Obj} (E : Ep s cs ts os L) : Ep (s ++ [some ob]) cs ts os (L ++ [(s.length, ob)]) := by
  refine ⟨E.c.snoc, fun q hq => ?_⟩
  rcases List.mem_append.1 hq with hq | hq
  · exact E.snoc.l q hq
  · simp only [List.mem_cons, List.not_mem_nil, or_false] at hq
    subst hq
    exact ⟨objAt_snoc _ _, fun hm => absurd (E.c.lt _ hm) (Nat.lt_irrefl _)⟩
theorem Ep.reach {s : Store} {cs ts : List V} {os : List Nat} {L : List (Nat × Obj)} (E : Ep s cs ts os L) (c : Nat) {v : V} {l : List Int} (hv : cs[c]? = some v) (ht : ts[c]? = some (ints l)) (n : Nat) : ∀ o ∈ reach s n v, o ∈ os := by
  intro o ho
  obtain ⟨vc, oc, j1, j2, _, j4, _⟩ := E.c.ow.focus c _ E.c.nd ht
  rw [hv] at j1
  cases j1
  exact j4 o (reach_ints j2 n o ho)
end Go.Ml
end
section
set_option linter.unusedSimpArgs false
set_option linter.unusedVariables false
set_option maxRecDepth 100000
set_option maxHeartbeats 4000000
namespace Go.Ml
def cnt (n : Nat) (k : Int) : List Int := (List.range n).map fun i => k + ((i : Nat) : Int)
end Go.Ml
end
section
set_option linter.unusedSimpArgs false
set_option linter.unusedVariables false
set_option maxRecDepth 100000
set_option maxHeartbeats 8000000
namespace Go.Ml
def F_impl_inRange : Fn := ⟨1, 9, [.tmp 2], (.seq (.reg false 0 [oN 2 (.mov (.c (.bool false)))]) (.seq (.reg false 0 [oN 3 (oV 0), oN 4 (.bin .geq (.t 3) (cI (-1000000))), oN 5 (oV 4), oG 5 true 6 (oV 0), oG 5 true 7 (.bin .leq (.t 6) (cI 1000000)), oN 8 (.pick (.t 5) (.t 7) (.c (.bool false))), oN 2 (oV 8)]) .ret))⟩
structure D_impl_inRange (T : Nat → Option Fn) : Prop where
  hT : T 38 = some F_impl_inRange
end Go.Ml
end
section
set_option linter.unusedSimpArgs false
set_option linter.unusedVariables false
set_option maxRecDepth 100000
set_option maxHeartbeats 4000000
namespace Go.Ml
def lkLess (k l : Lk) : Bool := decide (k.a < l.a) || (decide (k.a = l.a) && decide (k.b < l.b))
def allB (n : Nat) (p : Nat → Bool) : Bool := decide (∀ i, i < n → p i = true)
def lksAt (l : List Lk) (i : Nat) : Bool := lkOk (l.getD i default) && (decide (i = 0) || lkLess (l.getD (i - 1) default) (l.getD i default))
def lksOk (l : List Lk) : Bool := allB l.length (lksAt l)
end Go.Ml
end
section
set_option linter.unusedSimpArgs false
set_option linter.unusedVariables false
set_option maxRecDepth 100000
set_option maxHeartbeats 4000000
namespace Go.Ml
def ends (l : List Lk) (v : Int) : Bool := l.any fun x => decide (x.a = v) || decide (x.b = v)
def nodesI (l : List Lk) (v : Nat) : List Int := ((List.range v).filter fun (u : Nat) => decide (1 ≤ u) && ends l u).map fun u => ((u : Nat) : Int)
end Go.Ml
end
section
set_option linter.unusedSimpArgs false
namespace Go.Ml
def inB (a lo hi : Int) : Bool := decide (lo ≤ a) && decide (a ≤ hi)
def paAt (c : Cd) (i : Nat) : Bool :=
  inB (c.ps.getD i default).node 0 9 && !decide ((c.ps.getD i default).node = c.node) && (decide (i = 0) || decide ((c.ps.getD (i - 1) default).node < (c.ps.getD i default).node)) &&
    decide (0 < sgnR (c.ps.getD i default).share) && (c.ps.getD i default).dx.ok && (c.ps.getD i default).dy.ok
def sumS (l : List Pa) (n : Nat) : R := (l.take n).foldl (fun s p => addR s p.share) (intR 0)
def paOk (c : Cd) : Prop := ∀ i, i < c.ps.length → paAt c i = true
instance (c : Cd) : Decidable (paOk c) := inferInstanceAs (Decidable (∀ i, i < c.ps.length → paAt c i = true))
def cdOk (c : Cd) : Bool := decide (paOk c) && inB c.node 1 9 && decide (0 < sgnR c.total) && !c.ps.isEmpty && decide (sumS c.ps c.ps.length = intR 1)
end Go.Ml
end
section
set_option linter.unusedSimpArgs false
namespace Go.Ml
def netAt (l : List Cd) (i : Nat) : Prop :=
  cdOk (l.getD i default) = true ∧ (∀ k, k < (l.getD i default).ps.length → ((l.getD i default).ps.getD k default).node = 0 ∨ ∃ j, i < j ∧ j < l.length ∧ (l.getD j default).node = ((l.getD i default).ps.getD k default).node) ∧
    ∀ j, i < j → j < l.length → (l.getD j default).node ≠ (l.getD i default).node
noncomputable instance (l : List Cd) : Decidable (∀ i, i < l.length → netAt l i) := Classical.propDecidable _
end Go.Ml
end
section
set_option linter.unusedSimpArgs false
set_option linter.unusedVariables false
set_option maxRecDepth 100000
set_option maxHeartbeats 4000000
namespace Go.Ml
def nodesM (l : List Lk) : List Int := if lksOk l = true then nodesI l 10 else []
def ordP (l : List Lk) (o : List Int) : Prop := lksOk l = true ∧ o.length = (nodesM l).length ∧ ∀ x ∈ nodesM l, x ∈ o
instance (l : List Lk) (o : List Int) : Decidable (ordP l o) := inferInstanceAs (Decidable (_ ∧ _ ∧ _))
end Go.Ml
end
section
set_option linter.unusedSimpArgs false
set_option linter.unusedVariables false
set_option maxRecDepth 100000
set_option maxHeartbeats 8000000
namespace Go.Ml
def inC (n : Int) : Bool := decide (-1000000 ≤ n) && decide (n ≤ 1000000)
theorem c_inRange {T : Nat → Option Fn} (h : D_impl_inRange T) {n : Int} : PF T 38 [iv n] (.bool (inC n)) := by
  unfold inC
  refine pf_end (fun _ _ => false) h.hT rfl rfl ?_
  dsimp only [F_impl_inRange, oN, oS, oG, oK, oA, oH, oV, cI]
  (refine ev ?_; try with_reducible exact True.intro)
  by_cases h1 : -1000000 ≤ n
  · (refine ev1 @h1 ?_; try with_reducible exact True.intro)
  · (refine ev1 @h1 ?_; try with_reducible exact True.intro)
end Go.Ml
end
section
set_option linter.unusedSimpArgs false
set_option linter.unusedVariables false
set_option maxRecDepth 100000
set_option maxHeartbeats 4000000
namespace Go.Ml
open Lib
theorem srows_snoc (l : List (List UInt8)) (d : List UInt8) : srows l ++ [[V.str d]] = srows (l ++ [d]) := by simp [srows]
theorem slT_nil : slS 1 (srows []) = [] := rfl
theorem slT_cons (x : List UInt8) (l : List (List UInt8)) : slS 1 (srows (x :: l)) = [some ⟨1, srows (x :: l)⟩] := rfl
theorem still_ssnoc (l : List (List UInt8)) (d : List UInt8) : stillR (srows l ++ [[V.str d]]) := by rw [srows_snoc]; exact sr_still _
end Go.Ml
end
section
set_option linter.unusedSimpArgs false
set_option linter.unusedVariables false
set_option maxRecDepth 100000
set_option maxHeartbeats 4000000
namespace Go.Ml
open Lib
def F_impl_hasByte : Fn := ⟨2, 17, [.tmp 4], (.seq (.reg false 0 [oN 4 (.mov (.c (.bool false)))]) (.seq (.seq (.reg false 0 [oN 5 (.mov (cI 0))]) (.block 0 (.loop (.seq (.seq (.reg false 0 [oN 6 (oV 5), oN 7 (oV 0), oN 8 (.lenS (.t 7)), oN 9 (.bin .lss (.t 6) (.t 8))]) (.cond (.t 9) .skip (.exit 0))) (.seq (.block 1 (.seq (.reg false 0 [oN 12 (oV 0), oN 13 (oV 5), oN 14 (.idxS (.t 12) (.t 13)), oN 15 (oV 1), oN 16 (.bin .eql (.t 14) (.t 15))]) (.cond (.t 16) (.seq (.reg false 0 [oN 4 (.mov (.c (.bool true)))]) .ret) .skip))) (.reg false 0 [oN 10 (oV 5), oN 11 (.bin .add (.t 10) (cI 1)), oN 5 (oV 11)])))))) (.seq (.reg false 0 [oN 4 (.mov (.c (.bool false)))]) .ret)))⟩
structure D_impl_hasByte (T : Nat → Option Fn) : Prop where
  hT : T 264 = some F_impl_hasByte
def F_impl_SplitAny : Fn := ⟨2, 35, [.tmp 4], (.seq (.reg false 0 [oN 4 (.mov (.c (.nils)))]) (.seq (.reg false 1 [oN 8 (.mkSl 1 [.str []] 0 []), oK 5 1 (oV 8)]) (.seq (.reg false 0 [oN 6 (.mov (cI 0))]) (.seq (.seq (.reg false 0 [oN 7 (.mov (cI 0))]) (.block 0 (.loop (.seq (.seq (.reg false 0 [oN 9 (oV 7), oN 10 (oV 0), oN 11 (.lenS (.t 10)), oN 12 (.bin .lss (.t 9) (.t 11))]) (.cond (.t 12) .skip (.exit 0))) (.seq (.block 1 (.seq (.reg false 0 [oN 15 (oV 1), oN 16 (oV 0), oN 17 (oV 7), oN 18 (.idxS (.t 16) (.t 17)), oN 19 (.call 264 [(.t 15), (.t 18)])]) (.cond (.t 19) (.seq (.reg false 2 [oK 20 2 (oV 5), oK 21 2 (oV 0), oK 22 2 (oV 6), oK 23 2 (oV 7), oK 24 2 (.sliceS (.t 21) (some (.t 22)) (some (.t 23))), oN 25 (.mkSl 1 [.str []] 1 [(0, (.t 24))]), oK 26 1 (.app 1 16 (.t 20) (.t 25)), oK 5 2 (oV 26)]) (.reg false 0 [oN 27 (oV 7), oN 28 (.bin .add (.t 27) (cI 1)), oN 6 (oV 28)])) .skip))) (.reg false 0 [oN 13 (oV 7), oN 14 (.bin .add (.t 13) (cI 1)), oN 7 (oV 14)])))))) (.seq (.reg false 2 [oK 29 2 (oV 5), oK 30 2 (oV 0), oK 31 2 (oV 6), oK 32 2 (.sliceS (.t 30) (some (.t 31)) none), oN 33 (.mkSl 1 [.str []] 1 [(0, (.t 32))]), oK 34 1 (.app 1 16 (.t 29) (.t 33)), oK 4 2 (oV 34)]) .ret)))))⟩
structure D_impl_SplitAny (T : Nat → Option Fn) : Prop where
  hT : T 257 = some F_impl_SplitAny
  d_impl_hasByte : D_impl_hasByte T
def spS (s : List UInt8) : Nat → List (List UInt8) × Nat
  | 0 => ([], 0)
  | k + 1 => if s.getD k 0 = 44 then ((spS s k).1 ++ [(s.take k).drop (spS s k).2], k + 1) else spS s k
def spC (s : List UInt8) : List (List UInt8) := (spS s s.length).1 ++ [s.drop (spS s s.length).2]
theorem spS_s (s : List UInt8) (k : Nat) : spS s (k + 1) = if s.getD k 0 = 44 then ((spS s k).1 ++ [(s.take k).drop (spS s k).2], k + 1) else spS s k := rfl
theorem spS_le (s : List UInt8) : ∀ k, (spS s k).2 ≤ k ∧ (spS s k).1.length ≤ k
  | 0 => ⟨Nat.le_refl _, Nat.le_refl _⟩
  | k + 1 => by
    obtain ⟨h1, h2⟩ := spS_le s k
    rw [spS_s]
    split
    · simp; omega
    · omega
theorem byte44 (b : UInt8) : ((b.toNat : Nat) : Int) = 44 ↔ b = 44 := by
  constructor
  · intro h
    have : b.toNat = 44 := by omega
    exact UInt8.toNat_inj.1 this
  · rintro rfl; rfl
theorem fin_s {σ : Store} {l : List (List UInt8)} {n : Nat} (hn : n = l.length) : optK (resO σ 0 n (some ⟨1, srows l⟩)) (LaxV (strs l)) := by
  subst hn
  rw [resO_s (by simp), List.drop_zero, List.take_of_length_le (Nat.le_refl _)]
  exact laxV_refl _
theorem c_hasByte {T : Nat → Option Fn} (h : D_impl_hasByte T) {b : Int} : PF T 264 [.str [44], .int .u8 b] (.bool (decide (b = 44))) := by
  refine pf_end (fun _ _ => false) h.hT rfl rfl ?_
  dsimp only [F_impl_hasByte, oN, oS, oG, oK, oA, oH, oV, cI]
  (refine ev ?_; try with_reducible exact True.intro)
  refine loop_at (fun _ _ => false) (α := Nat) (fun i => ⟨argE [.str [44], .int .u8 b, .any, .any, .bool false, iv (i : Nat)], [], 0, 0, [], []⟩) (fun i => i ≤ 1 ∧ (i = 1 → b ≠ 44)) (fun i => 1 - i) rfl 0 ?_ ?_ ?_
  · exact ⟨by omega, by omega⟩
  · first | ((refine Fg_env ?_) <;> (try (refine ev ?_; try with_reducible exact True.intro)) <;> (repeat' (first | refine ⟨?_, ?_⟩ | exact EvV_int (by omega) | exact EvV_of (by simp) | exact EvV_nil _)); done) | ((refine Fg_re [] (by simp) (by intro p hp; cases hp) rfl ?_) <;> (try (refine ev ?_; try with_reducible exact True.intro)) <;> (repeat' (first | exact True.intro | omega | exact CanE_ptr rfl (by simp) | refine ⟨?_, ?_⟩ | exact of_eq_true (CanE_nil _ _ _) | exact CanE_of rfl (by simp; done) | exact CanE_of rfl rfl | (refine CanE_msl rfl ?_ rfl; simp [irows]; done) | (refine CanE_msl rfl ?_ rfl; simp [irows]; omega) | (refine CanE_frz ?_ ?_; (focus ((refine ev ?_; try with_reducible exact True.intro); done)); (intro q hq k s0 l0; simp; done)))); done)
  · rintro i ⟨hi, hj⟩
    have c1 : ((0 : Nat) : Int) < ((1 : Nat) : Int) := by omega
    have c2 : ¬ (((1 : Nat) : Int) < ((1 : Nat) : Int)) := by omega
    have g : ((([44] : List UInt8).getD 0 0).toNat : Int) = 44 := rfl
    by_cases h0 : i = 0
    · subst h0
      by_cases hb : b = 44
      · subst hb
        (refine ev2 @c1 @g ?_; try with_reducible exact True.intro)
      · have hb' : ¬ ((44 : Int) = b) := fun e => hb e.symm
        (refine ev3 @c1 @g @hb' ?_; try with_reducible exact True.intro)
        exact ⟨1, by omega, ⟨by omega, fun _ => hb⟩, by (refine Fg_env ?_) <;> (try (refine ev ?_; try with_reducible exact True.intro)) <;> (repeat' (first | refine ⟨?_, ?_⟩ | exact EvV_int (by omega) | exact EvV_of (by simp) | exact EvV_nil _))⟩
    · have h1 : i = 1 := by omega
      subst h1
      rw [decide_eq_false (hj rfl)]
      (refine ev1 @c2 ?_; try with_reducible exact True.intro)
theorem c_iSplitAny {T : Nat → Option Fn} (h : D_impl_SplitAny T) {s : List UInt8} (hs : s.length ≤ 1048576) : PF T 257 [.str s, .str [44]] (strs (spC s)) := by
  refine pf_endL (fun _ _ => false) h.hT rfl rfl ?_
  dsimp only [F_impl_SplitAny, oN, oS, oG, oK, oA, oH, oV, cI]
  (refine ev ?_; try with_reducible exact True.intro)
  refine loop_at (fun _ _ => false) (α := Nat × List (List UInt8) × Nat) (fun q => ⟨argE [.str s, .str [44], .any, .any, .nils, slV q.2.1.length, iv (q.2.2 : Nat), iv (q.1 : Nat)], slS 1 (srows q.2.1), 0, 0, [], []⟩) (fun q => q.1 ≤ s.length ∧ spS s q.1 = (q.2.1, q.2.2)) (fun q => s.length - q.1) rfl (0, [], 0) ?_ ?_ ?_
  · exact ⟨by omega, rfl⟩
  · first | ((refine Fg_env ?_) <;> (try (refine ev ?_; try with_reducible exact True.intro)) <;> (repeat' (first | refine ⟨?_, ?_⟩ | exact EvV_int (by omega) | exact EvV_of (by simp) | exact EvV_nil _)); done) | ((refine Fg_re [] (by simp) (by intro p hp; cases hp) rfl ?_) <;> (try (refine ev ?_; try with_reducible exact True.intro)) <;> (repeat' (first | exact True.intro | omega | exact CanE_ptr rfl (by simp) | refine ⟨?_, ?_⟩ | exact of_eq_true (CanE_nil _ _ _) | exact CanE_of rfl (by simp; done) | exact CanE_of rfl rfl | (refine CanE_msl rfl ?_ rfl; simp [irows]; done) | (refine CanE_msl rfl ?_ rfl; simp [irows]; omega) | (refine CanE_frz ?_ ?_; (focus ((refine ev ?_; try with_reducible exact True.intro); done)); (intro q hq k s0 l0; simp; done)))); done)
  · rintro ⟨k, xs, st⟩ ⟨hk, hx⟩
    dsimp only at hk hx ⊢
    have es := spS_s s k
    have bd := spS_le s k
    have hfin : k = s.length → spC s = xs ++ [s.drop st] := fun e => by unfold spC; rw [← e, hx]
    rw [hx] at es bd
    dsimp only at es bd
    have hst := bd.1
    have hxl := bd.2
    have cb := c_hasByte h.d_impl_hasByte (b := ((s.getD k 0).toNat : Int))
    have e44 := byte44 (s.getD k 0)
    clear hx bd
    rcases xs with _ | ⟨x, xs⟩
    · simp only [List.length_nil, slV_0, slT_nil]
      (refine ev ?_; try with_reducible exact True.intro)
      refine brK_dec (fun hc => ?_) fun hc => ?_ <;> (refine ev1 @hc ?_; try with_reducible exact True.intro)
      · refine PFK_of cb ?_
        by_cases hb : s.getD k 0 = 44
        · rw [decide_eq_true (e44.2 hb)]
          rw [if_pos hb] at es
          (refine ev ?_; try with_reducible exact True.intro)
          exact ⟨by omega, (k + 1, [] ++ [(s.take k).drop st], k + 1), by dsimp only; omega, ⟨by dsimp only; omega, es⟩, by (simp only [← srows_snoc]; refine Fg_push (k := 1) (still_ssnoc _ _) rfl ?_; (try (refine ev ?_; try with_reducible exact True.intro)); (repeat' (first | exact True.intro | omega | exact CanE_push (by simp) (by simp) (by simp) | refine ⟨?_, ?_⟩ | exact CanE_of rfl (by simp))))⟩
        · rw [decide_eq_false (fun e => hb (e44.1 e))]
          rw [if_neg hb] at es
          (refine ev ?_; try with_reducible exact True.intro)
          refine ⟨(k + 1, [], st), by dsimp only; omega, ⟨by dsimp only; omega, es⟩, ?_⟩
          dsimp only
          (refine Fg_re [] (by simp) (by intro p hp; cases hp) rfl ?_) <;> (try (refine ev ?_; try with_reducible exact True.intro)) <;> (repeat' (first | exact True.intro | omega | exact CanE_ptr rfl (by simp) | refine ⟨?_, ?_⟩ | exact of_eq_true (CanE_nil _ _ _) | exact CanE_of rfl (by simp; done) | exact CanE_of rfl rfl | (refine CanE_msl rfl ?_ rfl; simp [irows]; done) | (refine CanE_msl rfl ?_ rfl; simp [irows]; omega) | (refine CanE_frz ?_ ?_; (focus ((refine ev ?_; try with_reducible exact True.intro); done)); (intro q hq k s0 l0; simp; done))))
      · rw [hfin (by omega)]
        exact ⟨by omega, fin_s (l := [] ++ [s.drop st]) rfl⟩
    · simp only [List.length_cons, slV_s, slT_cons]
      have etk : List.take (xs.length + 1) (srows (x :: xs)) = srows (x :: xs) := List.take_of_length_le (by rw [sr_len]; simp)
      simp only [List.length_cons] at hxl
      (refine ev ?_; try with_reducible exact True.intro)
      refine brK_dec (fun hc => ?_) fun hc => ?_ <;> (refine ev1 @hc ?_; try with_reducible exact True.intro)
      · refine PFK_of cb ?_
        by_cases hb : s.getD k 0 = 44
        · rw [decide_eq_true (e44.2 hb)]
          rw [if_pos hb] at es
          (refine ev1 @etk ?_; try with_reducible exact True.intro)
          exact ⟨by omega, (k + 1, (x :: xs) ++ [(s.take k).drop st], k + 1), by dsimp only; omega, ⟨by dsimp only; omega, es⟩, by (simp only [← srows_snoc]; refine Fg_push (k := 2) (still_ssnoc _ _) rfl ?_; (try (refine ev ?_; try with_reducible exact True.intro)); (repeat' (first | exact True.intro | omega | exact CanE_push (by simp) (by simp) (by simp) | refine ⟨?_, ?_⟩ | exact CanE_of rfl (by simp))))⟩
        · rw [decide_eq_false (fun e => hb (e44.1 e))]
          rw [if_neg hb] at es
          (refine ev ?_; try with_reducible exact True.intro)
          refine ⟨(k + 1, x :: xs, st), by dsimp only; omega, ⟨by dsimp only; omega, es⟩, ?_⟩
          dsimp only [List.length_cons]
          rw [slV_s, slT_cons]
          (refine Fg_re [(0, _)] (by simp) (by intro p hp; simp only [List.mem_cons, List.not_mem_nil, or_false] at hp; rcases hp with rfl <;> refine ⟨rfl, ?_⟩ <;> first | exact sr_still _ | exact ir_still _ | simp [stillR, V.still]) rfl ?_) <;> (try (refine ev ?_; try with_reducible exact True.intro)) <;> (repeat' (first | exact True.intro | omega | exact CanE_ptr rfl (by simp) | refine ⟨?_, ?_⟩ | exact of_eq_true (CanE_nil _ _ _) | exact CanE_of rfl (by simp; done) | exact CanE_of rfl rfl | (refine CanE_msl rfl ?_ rfl; simp [srows]; done) | (refine CanE_msl rfl ?_ rfl; simp [srows]; omega) | (refine CanE_frz ?_ ?_; (focus ((refine ev ?_; try with_reducible exact True.intro); done)); (intro q hq k s0 l0; simp; done))))
      · rw [hfin (by omega)]
        simp only [etk, sr_len, List.length_cons, srows_snoc]
        exact ⟨by omega, fin_s (by simp)⟩
end Go.Ml
end
section
set_option linter.unusedSimpArgs false
set_option linter.unusedVariables false
set_option maxRecDepth 100000
set_option maxHeartbeats 4000000
namespace Go.Ml
open Lib
def F_impl_ParseInt : Fn := ⟨1, 1, [], .lib .parseI⟩
structure D_impl_ParseInt (T : Nat → Option Fn) : Prop where
  hT : T 258 = some F_impl_ParseInt
def ParseI (s : List UInt8) (r : V) : Prop := (∃ n : Int, -9223372036854775808 ≤ n ∧ n ≤ 9223372036854775807 ∧ s = itoa n ∧ r = .tup [iv n, .bool true]) ∨
  ((∀ n : Int, -9223372036854775808 ≤ n → n ≤ 9223372036854775807 → s ≠ itoa n) ∧ r = .tup [iv 0, .bool false])
theorem c_iParseInt {T : Nat → Option Fn} (h : D_impl_ParseInt T) {s : List UInt8} {r : V} (hl : s.length ≤ 140737488355328) (hp : ParseI s r) : PF T 258 [.str s] r :=
  Run.lib h.hT rfl ⟨s, rfl, hl, rfl, hp⟩
end Go.Ml
end
section
set_option linter.unusedSimpArgs false
set_option linter.unusedVariables false
set_option maxRecDepth 100000
set_option maxHeartbeats 4000000
namespace Go.Ml
open Lib
def F_impl_IsValidPose : Fn := ⟨1, 21, [.tmp 2], (.seq (.reg false 1 [oN 1 (.box (.t 0)), oK 2 1 (.mov (.c (.bool false)))]) (.seq (.reg false 0 [oN 3 (.fld 0 (.t 1)), oN 4 (.load 1 false (.t 3)), oN 5 (.bin .geq (.t 4) (cI 0)), oN 6 (oV 5), oG 6 true 7 (.fld 0 (.t 1)), oG 6 true 8 (.load 1 false (.t 7)), oG 6 true 9 (.bin .leq (.t 8) (cI 3)), oN 10 (.pick (.t 6) (.t 9) (.c (.bool false))), oN 11 (oV 10), oG 11 true 12 (.fld 1 (.t 1)), oG 11 true 13 (.load 1 false (.t 12)), oG 11 true 14 (.call 38 [(.t 13)]), oN 15 (.pick (.t 11) (.t 14) (.c (.bool false))), oN 16 (oV 15), oG 16 true 17 (.fld 2 (.t 1)), oG 16 true 18 (.load 1 false (.t 17)), oG 16 true 19 (.call 38 [(.t 18)]), oN 20 (.pick (.t 16) (.t 19) (.c (.bool false))), oN 2 (oV 20)]) .ret))⟩
structure D_impl_IsValidPose (T : Nat → Option Fn) : Prop where
  hT : T 168 = some F_impl_IsValidPose
  d_impl_inRange : D_impl_inRange T
def F_impl_FormatPose : Fn := ⟨1, 22, [.tmp 2], (.seq (.reg false 1 [oN 1 (.box (.t 0)), oK 2 1 (.mov (.c (.str [])))]) (.seq (.seq (.reg false 0 [oN 3 (.load 3 true (.t 1)), oN 4 (.call 168 [(.t 3)]), oN 5 (.un .not (.t 4))]) (.cond (.t 5) (.seq (.reg false 0 [oN 2 (.mov (.c (.str [])))]) .ret) .skip)) (.seq (.reg true 0 [oN 6 (.fld 1 (.t 1)), oA 7 0 (.load 1 false (.t 6)) [0], oA 8 0 (.call 169 [(.t 7)]) [1], oA 9 0 (.bin .add (.t 8) (.c (.str [44]))) [2], oN 10 (.fld 2 (.t 1)), oA 11 0 (.load 1 false (.t 10)) [4], oA 12 0 (.call 169 [(.t 11)]) [5, 2], oA 13 0 (.bin .add (.t 9) (.t 12)) [3, 6], oA 14 0 (.bin .add (.t 13) (.c (.str [44]))) [7], oN 15 (.fld 0 (.t 1)), oA 16 0 (.load 1 false (.t 15)) [9], oN 17 (.fld 0 (.t 1)), oA 18 0 (.load 1 false (.t 17)) [11], oA 19 0 (.bin .add (.t 18) (cI 1)) [12], oA 20 0 (.sliceS (.c (.str [101, 110, 119, 115])) (some (.t 16)) (some (.t 19))) [10, 13], oA 21 0 (.bin .add (.t 14) (.t 20)) [8, 14], oA 2 0 (oV 21) [15, 6, 0, 1, 2, 3, 4, 5, 6, 7, 8, 9, 10, 11, 12, 13, 14, 15]]) .ret)))⟩
structure D_impl_FormatPose (T : Nat → Option Fn) : Prop where
  hT : T 165 = some F_impl_FormatPose
  d_impl_IsValidPose : D_impl_IsValidPose T
  d_impl_FormatInt : D_impl_FormatInt T
def inR (n : Int) : Bool := inC n
theorem c_inRangeR {T : Nat → Option Fn} (h : D_impl_inRange T) {n : Int} : PF T 38 [iv n] (.bool (inR n)) := c_inRange h
def poOk (p : Po) : Bool := decide (0 ≤ p.turn) && decide (p.turn ≤ 3) && inR p.x && inR p.y
theorem c_iIsValidPose {T : Nat → Option Fn} (h : D_impl_IsValidPose T) {p : Po} : PF T 168 [poV p] (.bool (poOk p)) := by
  have c1 := c_inRangeR h.d_impl_inRange (n := p.x)
  have c2 := c_inRangeR h.d_impl_inRange (n := p.y)
  unfold poOk
  refine pf_end (fun _ _ => false) h.hT rfl rfl ?_
  dsimp only [F_impl_IsValidPose, oN, oS, oG, oK, oA, oH, oV, cI]
  (refine ev ?_; try with_reducible exact True.intro)
  by_cases h1 : 0 ≤ p.turn
  · by_cases h2 : p.turn ≤ 3
    · have d1 := decide_eq_true h1
      have d2 := decide_eq_true h2
      rw [d1, d2]
      (refine ev2 @h1 @h2 ?_; try with_reducible exact True.intro)
      refine PFK_of c1 ?_
      cases inR p.x
      · (refine ev ?_; try with_reducible exact True.intro)
      · (refine ev ?_; try with_reducible exact True.intro)
        refine PFK_of c2 ?_
        (refine ev ?_; try with_reducible exact True.intro)
    · (refine ev2 @h1 @h2 ?_; try with_reducible exact True.intro)
  · (refine ev1 @h1 ?_; try with_reducible exact True.intro)
def dirs : List UInt8 := [101, 110, 119, 115]
def fmtPo (p : Po) : List UInt8 := if poOk p = true then itoa p.x ++ [44] ++ itoa p.y ++ [44] ++ [dirs.getD p.turn.toNat 0] else []
theorem poOk_iff {p : Po} : poOk p = true ↔ (0 ≤ p.turn ∧ p.turn ≤ 3) ∧ (-1000000 ≤ p.x ∧ p.x ≤ 1000000) ∧ (-1000000 ≤ p.y ∧ p.y ≤ 1000000) := by
  simp [poOk, inR, inC, Bool.and_eq_true, and_assoc]
theorem turn4 {n : Int} (h : 0 ≤ n ∧ n ≤ 3) : n = 0 ∨ n = 1 ∨ n = 2 ∨ n = 3 := by omega
theorem c_iFormatPose {T : Nat → Option Fn} (h : D_impl_FormatPose T) {p : Po} : PF T 165 [poV p] (.str (fmtPo p)) := by
  unfold fmtPo
  have c1 := c_iIsValidPose h.d_impl_IsValidPose (p := p)
  cases hb : poOk p
  · rw [hb] at c1
    refine pf_end (fun _ _ => false) h.hT rfl rfl ?_
    dsimp only [F_impl_FormatPose, oN, oS, oG, oK, oA, oH, oV, cI]
    (refine ev ?_; try with_reducible exact True.intro)
    refine PFK_of c1 ?_
    (refine ev ?_; try with_reducible exact True.intro)
  · rw [hb] at c1
    obtain ⟨ht, hx, hy⟩ := poOk_iff.1 hb
    have cx := c_iFormatInt h.d_impl_FormatInt (n := p.x) (by omega)
    have cy := c_iFormatInt h.d_impl_FormatInt (n := p.y) (by omega)
    have lx := it_len (n := p.x) (by omega) (by omega)
    have ly := it_len (n := p.y) (by omega) (by omega)
    obtain ⟨t, x, y⟩ := p
    dsimp only at *
    generalize itoa x = sx at *
    generalize itoa y = sy at *
    rcases turn4 ht with rfl | rfl | rfl | rfl
    all_goals
      refine pf_end (fun _ _ => false) h.hT rfl rfl ?_
      dsimp only [F_impl_FormatPose, oN, oS, oG, oK, oA, oH, oV, cI]
      (refine ev ?_; try with_reducible exact True.intro)
      refine PFK_of c1 ?_
      (refine ev ?_; try with_reducible exact True.intro)
      refine PFK_of cx ?_
      (refine ev ?_; try with_reducible exact True.intro)
      refine PFK_of cy ?_
      (refine ev ?_; try with_reducible exact True.intro)
    all_goals rfl
end Go.Ml
end
section
set_option linter.unusedSimpArgs false
set_option linter.unusedVariables false
set_option maxRecDepth 100000
set_option maxHeartbeats 4000000
namespace Go.Ml
open Lib
def F_impl_ParsePose : Fn := ⟨1, 56, [.cell 2 3 true, .tmp 3], (.seq (.reg false 1 [oN 2 (.alloc [.int .i64 0, .int .i64 0, .int .i64 0]), oK 3 1 (.mov (.c (.bool false)))]) (.seq (.reg false 0 [oN 11 (oV 0), oN 12 (.call 257 [(.t 11), (.c (.str [44]))]), oN 4 (oV 12)]) (.seq (.seq (.reg false 0 [oN 13 (oV 4), oN 14 (.len (.t 13)), oN 15 (.bin .neq (.t 14) (cI 3))]) (.cond (.t 15) (.seq (.reg false 0 [oN 16 (.build [.int .i64 0, .int .i64 0, .int .i64 0] []), oS (.store 3 (.t 2) (.t 16)), oN 3 (.mov (.c (.bool false)))]) .ret) .skip)) (.seq (.reg false 0 [oN 18 (oV 4), oN 19 (.idx 1 (.t 18) (cI 0)), oN 20 (.load 1 false (.t 19)), oN 21 (.call 258 [(.t 20)]), oN 17 (oV 21), oN 22 (.extr 0 (.t 17)), oN 23 (.extr 1 (.t 17)), oN 5 (oV 22), oN 6 (oV 23)]) (.seq (.reg false 0 [oN 25 (oV 4), oN 26 (.idx 1 (.t 25) (cI 1)), oN 27 (.load 1 false (.t 26)), oN 28 (.call 258 [(.t 27)]), oN 24 (oV 28), oN 29 (.extr 0 (.t 24)), oN 30 (.extr 1 (.t 24)), oN 7 (oV 29), oN 8 (oV 30)]) (.seq (.seq (.reg false 0 [oN 31 (oV 6), oN 32 (.un .not (.t 31)), oN 33 (oV 32), oG 33 false 34 (oV 8), oG 33 false 35 (.un .not (.t 34)), oN 36 (.pick (.t 33) (.c (.bool true)) (.t 35))]) (.cond (.t 36) (.seq (.reg false 0 [oN 37 (.build [.int .i64 0, .int .i64 0, .int .i64 0] []), oS (.store 3 (.t 2) (.t 37)), oN 3 (.mov (.c (.bool false)))]) .ret) .skip)) (.seq (.seq (.reg false 0 [oN 9 (.mov (cI 0))]) (.block 0 (.loop (.seq (.seq (.reg false 0 [oN 38 (oV 9), oN 39 (.bin .lss (.t 38) (cI 4))]) (.cond (.t 39) .skip (.exit 0))) (.seq (.block 1 (.seq (.reg false 1 [oK 42 1 (oV 9), oK 43 1 (oV 5), oK 44 1 (oV 7), oK 45 1 (.build [.int .i64 0, .int .i64 0, .int .i64 0] [(0, 1, (.t 42)), (1, 1, (.t 43)), (2, 1, (.t 44))]), oN 10 (.alloc [.int .i64 0, .int .i64 0, .int .i64 0]), ⟨none, none, 1, .store 3 (.t 10) (.t 45), []⟩]) (.seq (.reg false 0 [oN 46 (.load 3 true (.t 10)), oN 47 (.call 168 [(.t 46)]), oN 48 (oV 47), oG 48 true 49 (.load 3 true (.t 10)), oG 48 true 50 (.call 165 [(.t 49)]), oG 48 true 51 (oV 0), oG 48 true 52 (.bin .eql (.t 50) (.t 51)), oN 53 (.pick (.t 48) (.t 52) (.c (.bool false)))]) (.cond (.t 53) (.seq (.reg false 0 [oN 54 (.load 3 true (.t 10)), oS (.store 3 (.t 2) (.t 54)), oN 3 (.mov (.c (.bool true)))]) .ret) .skip)))) (.reg false 0 [oN 40 (oV 9), oN 41 (.bin .add (.t 40) (cI 1)), oN 9 (oV 41)])))))) (.seq (.reg false 0 [oN 55 (.build [.int .i64 0, .int .i64 0, .int .i64 0] []), oS (.store 3 (.t 2) (.t 55)), oN 3 (.mov (.c (.bool false)))]) .ret))))))))⟩
structure D_impl_ParsePose (T : Nat → Option Fn) : Prop where
  hT : T 249 = some F_impl_ParsePose
  d_impl_FormatPose : D_impl_FormatPose T
  d_impl_IsValidPose : D_impl_IsValidPose T
  d_impl_SplitAny : D_impl_SplitAny T
  d_impl_ParseInt : D_impl_ParseInt T
theorem spS_run (s : List UInt8) (st : Nat) : ∀ k, st ≤ k → (∀ j, st ≤ j → j < k → s.getD j 0 ≠ 44) → spS s k = spS s st
  | 0, h, _ => by rw [show st = 0 by omega]
  | k + 1, h, hn => by
    by_cases e : st = k + 1
    · rw [e]
    · rw [spS_s, if_neg (hn k (by omega) (by omega))]
      exact spS_run s st k (by omega) fun j h1 h2 => hn j h1 (by omega)
theorem spC_fmt {a b : List UInt8} {c : UInt8} (ha : ∀ x ∈ a, x ≠ 44) (hb : ∀ x ∈ b, x ≠ 44) (hc : c ≠ 44) : spC (a ++ [44] ++ b ++ [44] ++ [c]) = [a, b, [c]] := by
  obtain ⟨s, hs⟩ : ∃ s, a ++ [44] ++ b ++ [44] ++ [c] = s := ⟨_, rfl⟩
  have hs' : s = a ++ 44 :: (b ++ 44 :: [c]) := by rw [← hs]; simp
  have hl : s.length = a.length + b.length + 3 := by rw [hs']; simp; omega
  have g1 : ∀ j, j < a.length → s.getD j 0 ≠ 44 := fun j hj => by
    rw [hs', List.getD_eq_getElem?_getD, List.getElem?_append_left hj, List.getElem?_eq_getElem hj]
    exact ha _ (List.getElem_mem hj)
  have g2 : s.getD a.length 0 = 44 := by
    rw [hs', List.getD_eq_getElem?_getD, List.getElem?_append_right (Nat.le_refl _)]; simp
  have g3 : ∀ j, a.length + 1 ≤ j → j < a.length + 1 + b.length → s.getD j 0 ≠ 44 := fun j h1 h2 => by
    rw [hs', List.getD_eq_getElem?_getD, List.getElem?_append_right (by omega), show j - a.length = (j - a.length - 1) + 1 by omega, List.getElem?_cons_succ,
      List.getElem?_append_left (by omega), List.getElem?_eq_getElem (by omega)]
    exact hb _ (List.getElem_mem _)
  have g4 : s.getD (a.length + 1 + b.length) 0 = 44 := by
    rw [hs', List.getD_eq_getElem?_getD, List.getElem?_append_right (by omega), show a.length + 1 + b.length - a.length = b.length + 1 by omega, List.getElem?_cons_succ,
      List.getElem?_append_right (Nat.le_refl _)]; simp
  have g5 : s.getD (a.length + 1 + b.length + 1) 0 = c := by
    rw [hs', List.getD_eq_getElem?_getD, List.getElem?_append_right (by omega), show a.length + 1 + b.length + 1 - a.length = b.length + 1 + 1 by omega, List.getElem?_cons_succ,
      List.getElem?_append_right (by omega), show b.length + 1 - b.length = 0 + 1 by omega, List.getElem?_cons_succ]; rfl
  have t1 : s.take a.length = a := by rw [hs']; simp
  have t2 : (s.take (a.length + 1 + b.length)).drop (a.length + 1) = b := by
    rw [hs', show a.length + 1 + b.length = a.length + (1 + b.length) by omega, List.take_length_add_append, List.drop_append, List.drop_eq_nil_of_le (by omega), show a.length + 1 - a.length = 1 by omega,
      show 1 + b.length = b.length + 1 by omega, List.take_succ_cons]
    simp
  have t3 : s.drop (a.length + 1 + b.length + 1) = [c] := by
    rw [hs', List.drop_append, List.drop_eq_nil_of_le (by omega), show a.length + 1 + b.length + 1 - a.length = (b.length + 1) + 1 by omega, List.drop_succ_cons,
      List.drop_append, List.drop_eq_nil_of_le (by omega), show b.length + 1 - b.length = 0 + 1 by omega, List.drop_succ_cons]
    rfl
  have s0 : spS s a.length = ([], 0) := spS_run s 0 _ (by omega) fun j _ h => g1 j h
  have s1 : spS s (a.length + 1) = ([a], a.length + 1) := by rw [spS_s, if_pos g2, s0, t1]; rfl
  have s2 : spS s (a.length + 1 + b.length) = ([a], a.length + 1) := by rw [spS_run s (a.length + 1) _ (by omega) g3, s1]
  have s3 : spS s (a.length + 1 + b.length + 1) = ([a, b], a.length + 1 + b.length + 1) := by rw [spS_s, if_pos g4, s2, t2]; rfl
  have s4 : spS s s.length = ([a, b], a.length + 1 + b.length + 1) := by
    rw [hl, show a.length + b.length + 3 = (a.length + 1 + b.length + 1) + 1 by omega, spS_s, if_neg (by rw [g5]; exact hc), s3]
  rw [hs]
  unfold spC
  rw [s4, t3]
  rfl
theorem it_ne44 {n : Int} (h0 : -9223372036854775808 ≤ n) (h1 : n ≤ 9223372036854775807) : ∀ x ∈ itoa n, x ≠ 44 := by
  intro x hx e
  subst e
  unfold itoa at hx
  split at hx
  · rcases List.mem_cons.1 hx with e | hx
    · exact absurd e (by decide)
    · have := dD_dig 19 n.natAbs (by omega) _ hx
      exact absurd this.1 (by decide)
  · have := dD_dig 19 n.toNat (by omega) _ hx
    exact absurd this.1 (by decide)
theorem dirs_ne {t : Int} (h : 0 ≤ t ∧ t ≤ 3) : dirs.getD t.toNat 0 ≠ 44 := by
  rcases turn4 h with rfl | rfl | rfl | rfl <;> decide
theorem dirs_inj {t u : Int} (h : 0 ≤ t ∧ t ≤ 3) (k : 0 ≤ u ∧ u ≤ 3) (e : dirs.getD t.toNat 0 = dirs.getD u.toNat 0) : t = u := by
  rcases turn4 h with rfl | rfl | rfl | rfl <;> rcases turn4 k with rfl | rfl | rfl | rfl <;> first | rfl | exact absurd e (by decide)
theorem fmt_split {p : Po} (h : poOk p = true) : spC (fmtPo p) = [itoa p.x, itoa p.y, [dirs.getD p.turn.toNat 0]] := by
  obtain ⟨h1, h2, h3⟩ := poOk_iff.1 h
  unfold fmtPo
  rw [if_pos h]
  exact spC_fmt (it_ne44 (by omega) (by omega)) (it_ne44 (by omega) (by omega)) (dirs_ne h1)
theorem fmt_turn {t u x y : Int} (h : poOk ⟨t, x, y⟩ = true) (k : poOk ⟨u, x, y⟩ = true) (e : fmtPo ⟨t, x, y⟩ = fmtPo ⟨u, x, y⟩) : t = u := by
  unfold fmtPo at e
  rw [if_pos h, if_pos k] at e
  have := List.append_cancel_left e
  exact dirs_inj (poOk_iff.1 h).1 (poOk_iff.1 k).1 (by simpa using this)
end Go.Ml
end
section
set_option linter.unusedSimpArgs false
set_option linter.unusedVariables false
set_option maxRecDepth 100000
set_option maxHeartbeats 4000000
namespace Go.Ml
open Lib
theorem c_iParsePose_yes {T : Nat → Option Fn} (h : D_impl_ParsePose T) {p : Po} {s : List UInt8} (hs : s.length ≤ 1048576) (hp : poOk p = true) (e : s = fmtPo p) : PF T 249 [.str s] (.tup [poV p, .bool true]) := by
  obtain ⟨b1, b2, b3⟩ := poOk_iff.1 hp
  have hl := fmt_split hp
  rw [← e] at hl
  have h3 : ((spC s).length : Int) = 3 := by rw [hl]; rfl
  have g0 : (spC s).getD 0 [] = itoa p.x := by rw [hl]; rfl
  have g1 : (spC s).getD 1 [] = itoa p.y := by rw [hl]; rfl
  have cs := c_iSplitAny h.d_impl_SplitAny hs
  have cx := c_iParseInt h.d_impl_ParseInt (s := itoa p.x) (r := .tup [iv p.x, .bool true]) (Nat.le_trans (it_len (by omega) (by omega)) (by omega)) (.inl ⟨p.x, by omega, by omega, rfl, rfl⟩)
  have cy := c_iParseInt h.d_impl_ParseInt (s := itoa p.y) (r := .tup [iv p.y, .bool true]) (Nat.le_trans (it_len (by omega) (by omega)) (by omega)) (.inl ⟨p.y, by omega, by omega, rfl, rfl⟩)
  refine pf_end (fun _ _ => false) h.hT rfl rfl ?_
  dsimp only [F_impl_ParsePose, oN, oS, oG, oK, oA, oH, oV, cI]
  (refine ev ?_; try with_reducible exact True.intro)
  refine PFK_of cs ?_
  (refine ev2 @h3 @g0 ?_; try with_reducible exact True.intro)
  refine PFK_of cx ?_
  (refine ev1 @g1 ?_; try with_reducible exact True.intro)
  refine PFK_of cy ?_
  (refine ev ?_; try with_reducible exact True.intro)
  refine loop_at (fun _ _ => false) (α := Nat) (fun k => ⟨argE [.str s, .any, .ptr 0 0 0, .bool false, .any, iv p.x, .any, iv p.y, .any, iv (k : Nat)], [some ⟨3, [[iv 0, iv 0, iv 0]]⟩], 0, 0, [], []⟩) (fun k => (k : Int) ≤ p.turn) (fun k => 4 - k) rfl 0 ?_ ?_ ?_
  · exact b1.1
  · (refine Fg_re [(0, _)] (by simp) (by intro p hp; simp only [List.mem_cons, List.not_mem_nil, or_false] at hp; rcases hp with rfl <;> refine ⟨rfl, ?_⟩ <;> first | exact ir_still _ | simp [stillR, V.still]) rfl ?_) <;> (try (refine ev ?_; try with_reducible exact True.intro)) <;> (repeat' (first | exact True.intro | omega | exact CanE_ptr rfl (by simp) | refine ⟨?_, ?_⟩ | exact of_eq_true (CanE_nil _ _ _) | exact CanE_of rfl (by simp; done) | exact CanE_of rfl rfl | (refine CanE_msl rfl ?_ rfl; simp [irows]; done) | (refine CanE_msl rfl ?_ rfl; simp [irows]; omega) | (refine CanE_frz ?_ ?_; (focus ((refine ev ?_; try with_reducible exact True.intro); done)); (intro q hq k s0 l0; simp; done))))
  · intro k hk
    have hk4 : (k : Int) < 4 := by omega
    have hv : poOk ⟨(k : Int), p.x, p.y⟩ = true := poOk_iff.2 ⟨⟨by dsimp only; omega, by dsimp only; omega⟩, b2, b3⟩
    have cv := c_iIsValidPose h.d_impl_IsValidPose (p := ⟨(k : Int), p.x, p.y⟩)
    rw [hv] at cv
    have cf := c_iFormatPose h.d_impl_FormatPose (p := ⟨(k : Int), p.x, p.y⟩)
    (refine ev1 @hk4 ?_; try with_reducible exact True.intro)
    refine PFK_of cv ?_
    (refine ev ?_; try with_reducible exact True.intro)
    refine PFK_of cf ?_
    by_cases ek : (k : Int) = p.turn
    · have ef : fmtPo ⟨(k : Int), p.x, p.y⟩ = s := by rw [ek, e]
      (refine ev1 @ef ?_; try with_reducible exact True.intro)
      show V.tup [.agg [iv (k : Int), iv p.x, iv p.y], .bool true] = V.tup [poV p, .bool true]
      rw [ek]
    · have ef : ¬ (fmtPo ⟨(k : Int), p.x, p.y⟩ = s) := fun e' => ek (fmt_turn hv hp (by rw [e', e]))
      (refine ev1 @ef ?_; try with_reducible exact True.intro)
      refine ⟨k + 1, by omega, by omega, ?_⟩
      (refine Fg_re [(0, _)] (by simp) (by intro p hp; simp only [List.mem_cons, List.not_mem_nil, or_false] at hp; rcases hp with rfl <;> refine ⟨rfl, ?_⟩ <;> first | exact ir_still _ | simp [stillR, V.still]) rfl ?_) <;> (try (refine ev ?_; try with_reducible exact True.intro)) <;> (repeat' (first | exact True.intro | omega | exact CanE_ptr rfl (by simp) | refine ⟨?_, ?_⟩ | exact of_eq_true (CanE_nil _ _ _) | exact CanE_of rfl (by simp; done) | exact CanE_of rfl rfl | (refine CanE_msl rfl ?_ rfl; simp [irows]; done) | (refine CanE_msl rfl ?_ rfl; simp [irows]; omega) | (refine CanE_frz ?_ ?_; (focus ((refine ev ?_; try with_reducible exact True.intro); done)); (intro q hq k s0 l0; simp; done))))
end Go.Ml
end
section
set_option linter.unusedSimpArgs false
set_option linter.unusedVariables false
namespace Go.Ml
abbrev Gd := Nat → Nat → Bool
def gset (g : Gd) (i j : Nat) (b : Bool) : Gd := fun x y => if x = i ∧ y = j then b else g x y
def grow (g : Gd) (a : Nat) : List (List V) := (List.range 10).map fun j => [.bool (g a j)]
theorem grow_set {g : Gd} {a j : Nat} {b : Bool} : (grow g a).set j [.bool b] = grow (gset g a j b) a := by
  apply List.ext_getElem?
  intro n
  rw [List.getElem?_set]
  simp only [grow, List.getElem?_map, List.length_map, List.length_range]
  by_cases hn : n < 10
  · rw [List.getElem?_range hn]
    by_cases e : j = n
    · rw [if_pos e, if_pos (by omega)]
      simp only [Option.map_some, gset]
      rw [if_pos (by simp [e])]
    · rw [if_neg e]
      simp only [Option.map_some, gset]
      rw [if_neg (by omega)]
  · rw [List.getElem?_eq_none (by simp; omega)]
    split
    · split
      · omega
      · rfl
    · rfl
theorem grow_ne {g : Gd} {a c j : Nat} {b : Bool} (h : c ≠ a) : grow (gset g a j b) c = grow g c := by
  unfold grow gset
  apply List.map_congr_left
  intro k _
  rw [if_neg (by omega)]
end Go.Ml
end
section
set_option linter.unusedSimpArgs false
set_option linter.unusedVariables false
namespace Go.Ml
def onR (b : Nat) : List (List V) := (List.range 10).map fun i => [.msl (b + i) 0 10]
def gst (g : Gd) : Store := some ⟨1, [[.msl 1 0 10]]⟩ :: some ⟨1, onR 2⟩ :: (List.range 10).map fun a => some ⟨1, grow g a⟩
theorem gst_len (g : Gd) : (gst g).length = 12 := by simp [gst]
structure GridAt (s : Store) (b : Nat) (g : Gd) : Prop where
  p : objAt s b = some ⟨1, [[.msl (b + 1) 0 10]]⟩
  on : objAt s (b + 1) = some ⟨1, onR (b + 2)⟩
  row : ∀ a, a < 10 → objAt s (b + 2 + a) = some ⟨1, grow g a⟩
theorem gst_row {g : Gd} {a : Nat} (ha : a < 10) : objAt (gst g) (2 + a) = some ⟨1, grow g a⟩ := by
  rw [Nat.add_comm]
  show ((List.range 10).map fun a => some (⟨1, grow g a⟩ : Obj))[a]?.getD none = _
  rw [List.getElem?_map, List.getElem?_range ha]; rfl
theorem GridAt.lt {s : Store} {b : Nat} {g : Gd} (h : GridAt s b g) : b + 12 ≤ s.length := by
  have := objAt_lt (h.row 9 (by omega)); omega
theorem GridAt.frame {s s2 : Store} {b : Nat} {g : Gd} (h : GridAt s b g) (hs : ∀ q, b ≤ q → q < b + 12 → objAt s2 q = objAt s q) : GridAt s2 b g :=
  ⟨(hs _ (by omega) (by omega)).trans h.p, (hs _ (by omega) (by omega)).trans h.on, fun a ha => (hs _ (by omega) (by omega)).trans (h.row a ha)⟩
theorem GridAt.set {s : Store} {b : Nat} {g : Gd} (h : GridAt s b g) {i j : Nat} {x : Bool} (hi : i < 10) (hj : j < 10) : GridAt (s.set (b + 2 + i) (some ⟨1, (grow g i).set j [.bool x]⟩)) b (gset g i j x) := by
  have hl := h.lt
  refine ⟨(objAt_setne (by omega)).trans h.p, (objAt_setne (by omega)).trans h.on, fun a ha => ?_⟩
  by_cases e : a = i
  · subst e
    rw [objAt_seteq (by omega), grow_set]
  · rw [objAt_setne (by omega), h.row a ha, grow_ne e]
theorem mapO_on {ρ : Nat → Option Nat} {b b' : Nat} (h : ∀ i, i < 10 → ρ (b + i) = some (b' + i)) : mapO ρ ⟨1, onR b⟩ = ⟨1, onR b'⟩ := by
  unfold mapO onR
  congr 1
  rw [List.map_map]
  apply List.map_congr_left
  intro i hi
  simp [mapV, h i (List.mem_range.1 hi)]
theorem mapO_grow (f : Nat → Option Nat) (g : Gd) (a : Nat) : mapO f ⟨1, grow g a⟩ = ⟨1, grow g a⟩ := by
  unfold mapO
  congr 1
theorem RefK_run0 {T : Nat → Option Fn} {f : Nat} {as : List Src} {dst : Option Nat} {env : Nat → V} {σ : Store} {kp bs : Nat} {rs ms : List Nat} {k : St → Prop} {as' : List V} {r : V} {σ' : Store}
    (h : Run T (.fn f as' []) (.fn r σ')) (ha : resK env σ as (· = as')) (hr : reachAll env σ as = []) (hk : k ⟨updO env dst (mapV (shiftN σ.length) r), addS σ σ', kp, bs, rs, ms⟩) : RefK T f as dst ⟨env, σ, kp, bs, rs, ms⟩ k := by
  obtain ⟨as2, e, rfl⟩ := resK_spec ha
  exact ⟨_, .own e h (R := []) (by split; rfl; exact hr.symm), hk⟩
theorem place_range {b j : Nat} : ∀ n, j < n → place ((List.range n).map (b + ·)) (b + j) = some j := by
  intro n hj
  have h1 : ((List.range n).map (b + ·))[j]? = some (b + j) := by rw [List.getElem?_map, List.getElem?_range hj]; rfl
  have h2 : ((List.range n).map (b + ·)).Nodup := by
    refine List.pairwise_map.2 (List.nodup_range.imp fun hne e => hne (by omega))
  exact place_get h2 h1
def g12 (b : Nat) : List Nat := (List.range 12).map (b + ·)
theorem gst_range (g : Gd) : gst g = (List.range 12).map fun j => objAt (gst g) j := by
  apply List.ext_getElem?
  intro n
  rw [List.getElem?_map]
  by_cases h : n < 12
  · rw [List.getElem?_range h]
    simp only [Option.map_some, objAt]
    rw [List.getElem?_eq_getElem (by rw [gst_len]; exact h)]; rfl
  · rw [List.getElem?_eq_none (by rw [gst_len]; omega), List.getElem?_eq_none (by simp; omega)]; rfl
theorem mapO_row {ρ : Nat → Option Nat} {o o' : Nat} (h : ρ o = some o') {s l : Nat} : mapO ρ ⟨1, [[.msl o s l]]⟩ = ⟨1, [[.msl o' s l]]⟩ := by
  simp [mapO, mapV, h]
theorem GridAt.gc {s : Store} {b : Nat} {g : Gd} (h : GridAt s b g) : gcS (g12 b) s = gst g := by
  rw [gst_range g]
  unfold gcS
  rw [g12, List.map_map]
  apply List.map_congr_left
  intro j hj
  have hj := List.mem_range.1 hj
  show (objAt s (b + j)).map (mapO (place ((List.range 12).map (b + ·)))) = objAt (gst g) j
  by_cases h0 : j = 0
  · subst h0
    rw [Nat.add_zero, h.p]
    exact congrArg some (mapO_row (place_range 12 (by omega : 1 < 12)))
  by_cases h1 : j = 1
  · subst h1
    rw [h.on]
    refine congrArg some (mapO_on fun i hi => ?_)
    rw [show b + 2 + i = b + (2 + i) by omega]
    exact place_range 12 (by omega)
  obtain ⟨a, rfl⟩ : ∃ a, j = 2 + a := ⟨j - 2, by omega⟩
  rw [← Nat.add_assoc, h.row a (by omega), gst_row (by omega)]
  exact congrArg some (mapO_grow _ _ _)
end Go.Ml
namespace Go.Ml
end Go.Ml
end
section
set_option linter.unusedSimpArgs false
set_option linter.unusedVariables false
set_option maxRecDepth 100000
set_option maxHeartbeats 8000000
namespace Go.Ml
def F_spec_l01Byte : Fn := ⟨1, 58, [.tmp 2], (.seq (.reg false 0 [oN 2 (.mov (cI 0))]) (.seq (.reg false 0 [oN 4 (oV 0), oN 5 (oV 0), oN 6 (.chk (.t 5)), oN 7 (.fld 2 (.t 6)), oN 8 (.load 1 false (.t 7)), oN 9 (.bin .mul (.t 8) (cI 6364136223846793005)), oN 10 (.bin .add (.t 9) (cI 1442695040888963407)), oN 11 (.chk (.t 4)), oN 12 (.fld 2 (.t 11)), oS (.store 1 (.t 12) (.t 10))]) (.seq (.reg true 0 [oN 13 (oV 0), oA 14 0 (.chk (.t 13)) [0], oA 15 0 (.fld 2 (.t 14)) [1], oA 16 0 (.load 1 false (.t 15)) [2], oA 17 0 (.bin .shr (.t 16) (.c (.int .u64 33))) [3], oN 18 (oV 0), oA 19 0 (.chk (.t 18)) [5], oA 20 0 (.fld 2 (.t 19)) [6], oA 21 0 (.load 1 false (.t 20)) [7], oA 22 0 (.bin .shr (.t 21) (.c (.int .u64 45))) [8], oA 23 0 (.bin .xor (.t 17) (.t 22)) [4, 9], oA 24 0 (.bin .and (.t 23) (cI 255)) [10], oA 3 0 (oV 24) [11, 0, 1, 2, 3, 4, 5, 6, 7, 8, 9, 10, 11]]) (.seq (.seq (.reg true 0 [oN 25 (oV 0), oA 26 0 (.chk (.t 25)) [0], oA 27 0 (.fld 1 (.t 26)) [1], oA 28 0 (.load 1 false (.t 27)) [2], oN 29 (oV 0), oA 30 0 (.chk (.t 29)) [4], oA 31 0 (.fld 0 (.t 30)) [5], oA 32 0 (.load 1 false (.t 31)) [6], oA 33 0 (.len (.t 32)) [7], oA 34 0 (.bin .lss (.t 28) (.t 33)) [3, 8]]) (.cond (.t 34) (.seq (.reg true 0 [oN 35 (oV 3), oN 36 (oV 0), oA 37 0 (.chk (.t 36)) [1], oA 38 0 (.fld 0 (.t 37)) [2], oA 39 0 (.load 1 false (.t 38)) [3], oN 40 (oV 0), oA 41 0 (.chk (.t 40)) [5], oA 42 0 (.fld 1 (.t 41)) [6], oA 43 0 (.load 1 false (.t 42)) [7], oA 44 0 (.idx 1 (.t 39) (.t 43)) [4, 8], oA 45 0 (.load 1 false (.t 44)) [9], oA 46 0 (.conv .i64 (.t 45)) [10], oA 47 0 (.bin .add (.t 35) (.t 46)) [0, 11], oA 48 0 (.bin .and (.t 47) (cI 255)) [12], oA 3 0 (oV 48) [13, 0, 1, 2, 3, 4, 5, 6, 7, 8, 9, 10, 11, 12, 13]]) (.reg false 0 [oN 49 (oV 0), oN 50 (oV 0), oN 51 (.chk (.t 50)), oN 52 (.fld 1 (.t 51)), oN 53 (.load 1 false (.t 52)), oN 54 (.bin .add (.t 53) (cI 1)), oN 55 (.chk (.t 49)), oN 56 (.fld 1 (.t 55)), oS (.store 1 (.t 56) (.t 54))])) .skip)) (.seq (.reg false 0 [oN 57 (oV 3), oN 2 (oV 57)]) .ret)))))⟩
structure D_spec_l01Byte (T : Nat → Option Fn) : Prop where
  hT : T 129 = some F_spec_l01Byte
def F_spec_l01New : Fn := ⟨1, 32, [.tmp 2], (.seq (.reg false 0 [oN 2 (.mov (.c (.one)))]) (.seq (.reg false 0 [oN 5 (oV 0), oN 6 (.len (.t 5)), oN 7 (.bin .add (cI 1951) (.t 6)), oN 3 (oV 7)]) (.seq (.seq (.reg false 0 [oN 4 (.mov (cI 0))]) (.block 0 (.loop (.seq (.seq (.reg false 0 [oN 8 (oV 4), oN 9 (oV 0), oN 10 (.len (.t 9)), oN 11 (.bin .lss (.t 8) (.t 10)), oN 12 (oV 11), oG 12 true 13 (oV 4), oG 12 true 14 (.bin .lss (.t 13) (cI 4000)), oN 15 (.pick (.t 12) (.t 14) (.c (.bool false)))]) (.cond (.t 15) .skip (.exit 0))) (.seq (.block 1 (.reg false 0 [oN 18 (oV 3), oN 19 (.bin .mul (.t 18) (cI 59)), oN 20 (oV 0), oN 21 (oV 4), oN 22 (.idx 1 (.t 20) (.t 21)), oN 23 (.load 1 false (.t 22)), oN 24 (.conv .i64 (.t 23)), oN 25 (.bin .add (.t 19) (.t 24)), oN 26 (.bin .add (.t 25) (cI 7)), oN 27 (.bin .and (.t 26) (cI 1073741823)), oN 3 (oV 27)])) (.reg false 0 [oN 16 (oV 4), oN 17 (.bin .add (.t 16) (cI 1)), oN 4 (oV 17)])))))) (.seq (.reg false 1 [oK 28 1 (oV 0), oK 29 1 (oV 3), oK 30 1 (.build [.nils, .int .i64 0, .int .i64 0] [(0, 1, (.t 28)), (2, 1, (.t 29))]), oN 31 (.box (.t 30)), oK 2 1 (oV 31)]) .ret))))⟩
structure D_spec_l01New (T : Nat → Option Fn) : Prop where
  hT : T 105 = some F_spec_l01New
def F_spec_l32New : Fn := ⟨2, 17, [.tmp 4], (.seq (.reg false 0 [oN 4 (.mov (.c (.one)))]) (.seq (.reg false 0 [oN 7 (oV 0), oN 8 (.call 105 [(.t 7)]), oN 5 (oV 8)]) (.seq (.seq (.reg false 0 [oN 6 (.mov (cI 0))]) (.block 0 (.loop (.seq (.seq (.reg false 0 [oN 9 (oV 6), oN 10 (oV 1), oN 11 (.bin .lss (.t 9) (.t 10))]) (.cond (.t 11) .skip (.exit 0))) (.seq (.block 1 (.reg false 0 [oN 14 (oV 5), oN 15 (.call 129 [(.t 14)])])) (.reg false 0 [oN 12 (oV 6), oN 13 (.bin .add (.t 12) (cI 1)), oN 6 (oV 13)])))))) (.seq (.reg false 0 [oN 16 (oV 5), oN 4 (oV 16)]) .ret))))⟩
structure D_spec_l32New (T : Nat → Option Fn) : Prop where
  hT : T 181 = some F_spec_l32New
  d_spec_l01New : D_spec_l01New T
  d_spec_l01Byte : D_spec_l01Byte T
def F_spec_l01Below : Fn := ⟨2, 37, [.tmp 4], (.seq (.reg false 0 [oN 4 (.mov (cI 0))]) (.seq (.seq (.reg false 0 [oN 9 (oV 1), oN 10 (.bin .leq (.t 9) (cI 0))]) (.cond (.t 10) (.seq (.reg false 0 [oN 4 (.mov (cI 0))]) .ret) .skip)) (.seq (.seq (.reg false 0 [oN 11 (oV 1), oN 12 (.bin .leq (.t 11) (cI 256))]) (.cond (.t 12) (.seq (.reg false 0 [oN 13 (oV 0), oN 14 (.call 129 [(.t 13)]), oN 15 (oV 1), oN 16 (.bin .rem (.t 14) (.t 15)), oN 4 (oV 16)]) .ret) .skip)) (.seq (.reg false 0 [oN 17 (oV 0), oN 18 (.call 129 [(.t 17)]), oN 5 (oV 18)]) (.seq (.reg false 0 [oN 19 (oV 0), oN 20 (.call 129 [(.t 19)]), oN 6 (oV 20)]) (.seq (.reg false 0 [oN 21 (oV 0), oN 22 (.call 129 [(.t 21)]), oN 7 (oV 22)]) (.seq (.reg false 0 [oN 23 (oV 0), oN 24 (.call 129 [(.t 23)]), oN 8 (oV 24)]) (.seq (.reg false 0 [oN 25 (oV 5), oN 26 (.bin .mul (.t 25) (cI 16777216)), oN 27 (oV 6), oN 28 (.bin .mul (.t 27) (cI 65536)), oN 29 (.bin .add (.t 26) (.t 28)), oN 30 (oV 7), oN 31 (.bin .mul (.t 30) (cI 256)), oN 32 (.bin .add (.t 29) (.t 31)), oN 33 (oV 8), oN 34 (.bin .add (.t 32) (.t 33)), oN 35 (oV 1), oN 36 (.bin .rem (.t 34) (.t 35)), oN 4 (oV 36)]) .ret))))))))⟩
structure D_spec_l01Below (T : Nat → Option Fn) : Prop where
  hT : T 107 = some F_spec_l01Below
  d_spec_l01Byte : D_spec_l01Byte T
abbrev bytesV (x : List UInt8) : V := .sl 1 (x.map fun b => [.int .u8 b.toNat])
def cur (x : List UInt8) (i h : Int) : Store := [some ⟨3, [[bytesV x, iv i, iv h]]⟩]
theorem and255 (a : Int) : 0 ≤ bitsAnd .i64 a 255 ∧ bitsAnd .i64 a 255 ≤ 255 := by
  have h : (BitVec.ofInt 64 a &&& BitVec.ofInt 64 255).toNat ≤ 255 := by
    rw [BitVec.toNat_and]
    exact Nat.le_trans Nat.and_le_right (by decide)
  unfold bitsAnd
  rw [show IntKind.i64.bits = 64 from rfl, w64 ⟨by omega, by omega⟩]
  omega
theorem r_l01Byte {T : Nat → Option Fn} (h : D_spec_l01Byte T) {x : List UInt8} {i hh : Int} (hi : 0 ≤ i ∧ i ≤ x.length) (hx : x.length ≤ 1048576) :
    ∃ n i' h' : Int, (0 ≤ n ∧ n ≤ 255) ∧ (0 ≤ i' ∧ i' ≤ x.length) ∧ Run T (.fn 129 [.ptr 0 0 0] (cur x i hh)) (.fn (iv n) (cur x i' h')) := by
  have : ∃ r σ', Run T (.fn 129 [.ptr 0 0 0] (cur x i hh)) (.fn r σ') ∧ ∃ n i' h' : Int, (r = iv n ∧ σ' = cur x i' h') ∧ (0 ≤ n ∧ n ≤ 255) ∧ (0 ≤ i' ∧ i' ≤ x.length) := by
    unfold cur
    refine run_end (fun _ _ => false) h.hT rfl rfl ?_
    dsimp only [F_spec_l01Byte, oN, oS, oG, oK, oA, oH, oV, cI, St.enter, List.length_cons, List.length_nil, Nat.zero_add]
    (refine ew ?_; try with_reducible exact True.intro)
    refine brK_dec (fun hc => ?_) fun hc => ?_ <;> (refine ew1 @hc ?_; try with_reducible exact True.intro)
    · have g1 : (x.map fun b => [V.int .u8 b.toNat]).getD i.toNat [] = [.int .u8 (x.getD i.toNat default).toNat] := mg (f := fun b : UInt8 => [V.int .u8 b.toNat]) (by omega)
      have hb : (x.getD i.toNat default).toNat < 256 := (x.getD i.toNat default).toBitVec.isLt
      generalize (x.getD i.toNat default).toNat = b at g1 hb
      (refine ew1 @g1 ?_; try with_reducible exact True.intro)
      trace_state
      exact ⟨_, _, _, ⟨rfl, rfl⟩, and255 _, by omega⟩
    · (refine ew ?_; try with_reducible exact True.intro)
      exact ⟨_, _, _, ⟨rfl, rfl⟩, and255 _, hi⟩
  obtain ⟨r, σ', h1, n, i', h', ⟨rfl, rfl⟩, h2, h3⟩ := this
  exact ⟨n, i', h', h2, h3, h1⟩
end Go.Ml
end
section
set_option linter.unusedSimpArgs false
set_option linter.unusedVariables false
set_option maxRecDepth 100000
set_option maxHeartbeats 8000000
namespace Go.Ml
def cob (x : List UInt8) (i h : Int) : Obj := ⟨3, [[bytesV x, iv i, iv h]]⟩
def CurP (s : Store) (b : Nat) (x : List UInt8) : Prop := ∃ i h : Int, objAt s b = some (cob x i h) ∧ 0 ≤ i ∧ i ≤ x.length
def CurF (T : Nat → Option Fn) (f : Nat) (rest : List V) (x : List UInt8) (Q : V → Prop) : Prop :=
  ∀ i h : Int, 0 ≤ i ∧ i ≤ x.length → ∃ (r : V) (i' h' : Int), (Q r ∧ ∀ g, mapV g r = r) ∧ (0 ≤ i' ∧ i' ≤ x.length) ∧ Run T (.fn f (.ptr 0 0 0 :: rest) (cur x i h)) (.fn r (cur x i' h'))
theorem mapO_cob (g : Nat → Option Nat) (x : List UInt8) (i h : Int) : mapO g (cob x i h) = cob x i h := by
  simp [mapO, cob, mapV]
theorem curF_of {T : Nat → Option Fn} {f : Nat} {rest : List V} {x : List UInt8} {Q : V → Prop}
    (h : ∀ i h : Int, 0 ≤ i ∧ i ≤ x.length → ∃ r σ', Run T (.fn f (.ptr 0 0 0 :: rest) (cur x i h)) (.fn r σ') ∧ (Q r ∧ ∀ g, mapV g r = r) ∧ CurP σ' 0 x) : CurF T f rest x Q := by
  intro i hh hi
  obtain ⟨r, σ', h1, h2, i', h', h3, h4⟩ := h i hh hi
  refine ⟨r, i', h', h2, h4, ?_⟩
  have := Run.gcF [0] (by simp) (fun k hk => by
    have hk : k < 1 := hk
    have e : k = 0 := by omega
    rw [e]; rfl) h1
  rw [h2.2] at this
  have e : gcS [0] σ' = cur x i' h' := by
    simp only [gcS, List.map_cons, List.map_nil, h3, Option.map_some, mapO_cob]; rfl
  rwa [e] at this
theorem RefK_curF {T : Nat → Option Fn} {f : Nat} {as : List Src} {dst : Option Nat} {env : Nat → V} {σ : Store} {kp bs : Nat} {rs ms : List Nat} {k : St → Prop} {b : Nat} {x : List UInt8} {rest : List V} {Q : V → Prop}
    (hb : CurP σ b x) (hf : CurF T f rest x Q) (ha : (as.map fun s => s.ev env) = .ptr b 0 0 :: rest) (hr : ∀ g, rest.map (mapV g) = rest)
    (hk : ∀ (r : V) (i h : Int), Q r → 0 ≤ i ∧ i ≤ x.length → k ⟨updO env dst r, σ.set b (some (cob x i h)), kp, bs, rs, ms⟩) : RefK T f as dst ⟨env, σ, kp, bs, rs, ms⟩ k := by
  obtain ⟨i, h, hob, hi⟩ := hb
  obtain ⟨r, i', h', ⟨hq, hm⟩, hi', hrun⟩ := hf i h hi
  have e : (as.map fun s => mapV (place [b]) (s.ev env)) = .ptr 0 0 0 :: rest := by
    have : (as.map fun s => mapV (place [b]) (s.ev env)) = (as.map fun s => s.ev env).map (mapV (place [b])) := by rw [List.map_map]; rfl
    rw [this, ha, List.map_cons, hr]
    simp [mapV, place]
  have e2 : gcS [b] σ = cur x i h := by
    simp only [gcS, List.map_cons, List.map_nil, hob, Option.map_some, mapO_cob]; rfl
  have hlt := objAt_lt hob
  have e3 : putBack [b] σ (cur x i' h') = σ.set b (some (cob x i' h')) := by
    unfold putBack
    have : (cur x i' h').drop [b].length = [] := rfl
    rw [this, List.map_nil, List.append_nil]
    apply List.ext_getElem?
    intro q
    rw [List.getElem?_mapIdx, List.getElem?_set]
    by_cases hq : b = q
    · subst hq
      rw [if_pos rfl, if_pos hlt, List.getElem?_eq_getElem hlt]
      simp only [Option.map_some, place, if_true]
      show some ((objAt (cur x i' h') 0).map _) = _
      show some (some (mapO _ (cob x i' h'))) = _
      rw [mapO_cob]
    · rw [if_neg hq]
      cases hg : σ[q]? with
      | none => rfl
      | some ob => simp [place, hq]
  refine ⟨_, .ref [b] (by simp) (fun o ho => by rw [List.mem_singleton.1 ho, hob]; rfl) (r := r) (σ' := cur x i' h') (by rw [e, e2]; exact hrun), ?_⟩
  have := hk r i' h' hq hi'
  rw [← e3] at this
  have hm2 := hm (back [b] σ.length)
  show k ⟨updO env dst (mapV (back [b] σ.length) r), _, _, _, _, _⟩
  rw [hm2]
  exact this
theorem f_l01Byte {T : Nat → Option Fn} (h : D_spec_l01Byte T) {x : List UInt8} (hx : x.length ≤ 1048576) : CurF T 129 [] x fun r => ∃ n : Int, r = iv n ∧ 0 ≤ n ∧ n ≤ 255 := by
  intro i hh hi
  obtain ⟨n, i', h', h1, h2, h3⟩ := r_l01Byte h (hh := hh) hi hx
  exact ⟨iv n, i', h', ⟨⟨n, rfl, h1⟩, fun g => rfl⟩, h2, h3⟩
theorem f_l01Below {T : Nat → Option Fn} (h : D_spec_l01Below T) {x : List UInt8} {n : Int} (hn : 0 < n ∧ n ≤ 256) (hx : x.length ≤ 1048576) : CurF T 107 [iv n] x fun r => ∃ m : Int, r = iv m ∧ 0 ≤ m ∧ m < n := by
  refine curF_of fun i hh hi => ?_
  have hP : CurP (cur x i hh) 0 x := ⟨i, hh, rfl, hi⟩
  have h1 : ¬ n ≤ 0 := by omega
  have hl : (cur x i hh).length = 1 := rfl
  generalize cur x i hh = s0 at hP hl ⊢
  refine run_end (fun x d => x == 129) h.hT rfl rfl ?_
  dsimp only [F_spec_l01Below, oN, oS, oG, oK, oA, oH, oV, cI, St.enter, List.length_cons, List.length_nil, Nat.zero_add]
  (refine ew ?_; try with_reducible exact True.intro)
  refine brK_dec (fun hc => absurd hc h1) fun _ => ?_
  (refine ew ?_; try with_reducible exact True.intro)
  refine brK_dec (fun _ => ?_) fun hc => absurd hn.2 hc
  (refine ew ?_; try with_reducible exact True.intro)
  refine RefK_curF hP (f_l01Byte h.d_spec_l01Byte hx) rfl (fun _ => rfl) ?_
  rintro _ i2 h2 ⟨m, rfl, hm⟩ hi2
  (refine ew ?_; try with_reducible exact True.intro)
  exact ⟨⟨⟨_, rfl, Int.tmod_nonneg _ hm.1, Int.tmod_lt_of_pos _ hn.1⟩, fun g => rfl⟩, i2, h2, objAt_seteq (by omega), hi2⟩
end Go.Ml
end
section
set_option linter.unusedSimpArgs false
set_option linter.unusedVariables false
set_option maxRecDepth 100000
set_option maxHeartbeats 8000000
namespace Go.Ml
theorem r_l01New {T : Nat → Option Fn} (h : D_spec_l01New T) {x : List UInt8} (hx : x.length ≤ 1048576) : ∃ hh : Int, Run T (.fn 105 [bytesV x] []) (.fn (.ptr 0 0 0) (cur x 0 hh)) := by
  have : ∃ r σ', Run T (.fn 105 [bytesV x] []) (.fn r σ') ∧ ∃ hh : Int, r = .ptr 0 0 0 ∧ σ' = cur x 0 hh := by
    refine run_end (fun _ _ => false) h.hT rfl rfl ?_
    dsimp only [F_spec_l01New, oN, oS, oG, oK, oA, oH, oV, cI, St.enter, List.length_cons, List.length_nil, Nat.zero_add]
    (refine ew ?_; try with_reducible exact True.intro)
    refine loop_at (fun _ _ => false) (α := Nat × Int) (fun q => ⟨argE [bytesV x, .any, .any, iv q.2, iv (q.1 : Nat)], [], 0, 0, [], []⟩) (fun q => q.1 ≤ x.length) (fun q => x.length - q.1) rfl (0, 1951 + x.length) ?_ ?_ ?_
    · omega
    · (refine Fg_env ?_) <;> (try (refine ew ?_; try with_reducible exact True.intro)) <;> (repeat' (first | refine ⟨?_, ?_⟩ | exact EvV_int (by omega) | exact EvV_of (by simp) | exact EvV_nil _))
    · rintro ⟨k, hh⟩ hk
      dsimp only at hk
      by_cases hc : (k : Int) < (x.length : Nat)
      · have hkl : k < x.length := by omega
        by_cases hc2 : (k : Int) < 4000
        · have g1 : (x.map fun b => [V.int .u8 b.toNat]).getD k [] = [.int .u8 (x.getD k default).toNat] := mg (f := fun b : UInt8 => [V.int .u8 b.toNat]) hkl
          have hb : (x.getD k default).toNat < 256 := (x.getD k default).toBitVec.isLt
          generalize (x.getD k default).toNat = b at g1 hb
          (refine ew3 @hc @hc2 @g1 ?_; try with_reducible exact True.intro)
          exact ⟨(k + 1, bitsAnd IntKind.i64 (IntKind.i64.wrap (IntKind.i64.wrap (IntKind.i64.wrap (hh * 59) + b) + 7)) 1073741823), by dsimp only; omega, by dsimp only; omega, by (refine Fg_env ?_) <;> (try (refine ew ?_; try with_reducible exact True.intro)) <;> (repeat' (first | refine ⟨?_, ?_⟩ | exact EvV_int (by omega) | exact EvV_of (by simp) | exact EvV_nil _))⟩
        · (refine ew2 @hc @hc2 ?_; try with_reducible exact True.intro)
          exact ⟨_, rfl⟩
      · (refine ew1 @hc ?_; try with_reducible exact True.intro)
        exact ⟨_, rfl⟩
  obtain ⟨r, σ', h1, hh, rfl, rfl⟩ := this
  exact ⟨hh, h1⟩
theorem cur_shift {x : List UInt8} {i h : Int} {s : Store} (hi : 0 ≤ i ∧ i ≤ x.length) : CurP (addS s (cur x i h)) s.length x := by
  refine ⟨i, h, ?_, hi⟩
  rw [objAt_addS, if_neg (Nat.lt_irrefl _), Nat.sub_self]
  show (some (cob x i h)).map _ = _
  rw [Option.map_some, mapO_cob]
theorem r_l32New {T : Nat → Option Fn} (h : D_spec_l32New T) {x : List UInt8} {n : Int} (hn : n ≤ 1000) (hx : x.length ≤ 1048576) : ∃ i hh : Int, (0 ≤ i ∧ i ≤ x.length) ∧ Run T (.fn 181 [bytesV x, iv n] []) (.fn (.ptr 0 0 0) (cur x i hh)) := by
  obtain ⟨h0, rn⟩ := r_l01New h.d_spec_l01New hx
  have : ∃ r σ', Run T (.fn 181 [bytesV x, iv n] []) (.fn r σ') ∧ (r = .ptr 0 0 0 ∧ CurP σ' 0 x) := by
    refine run_end (fun x d => x == 105 || x == 129) h.hT rfl rfl ?_
    dsimp only [F_spec_l32New, oN, oS, oG, oK, oA, oH, oV, cI, St.enter, List.length_cons, List.length_nil, Nat.zero_add]
    (refine ew ?_; try with_reducible exact True.intro)
    refine RefK_run0 rn (by (refine ew ?_; try with_reducible exact True.intro)) (by (refine ew ?_; try with_reducible exact True.intro)) ?_
    have hP := cur_shift (x := x) (i := 0) (h := h0) (s := []) (by omega)
    rw [List.length_nil] at hP
    rw [show mapV (shiftN ([] : Store).length) (.ptr 0 0 0) = .ptr 0 0 0 from rfl]
    generalize addS [] (cur x 0 h0) = s0 at hP ⊢
    (refine ew ?_; try with_reducible exact True.intro)
    refine loop_at (fun x d => x == 105 || x == 129) (α := Nat × Store) (fun q => ⟨argE [.any, iv n, .any, .any, .any, .ptr 0 0 0, iv (q.1 : Nat)], q.2, 0, 0, [], []⟩) (fun q => q.1 ≤ 1000 ∧ CurP q.2 0 x) (fun q => 1000 - q.1) rfl (0, s0) ?_ ?_ ?_
    · exact ⟨by omega, hP⟩
    · (refine Fg_env ?_) <;> (try (refine ew ?_; try with_reducible exact True.intro)) <;> (repeat' (first | refine ⟨?_, ?_⟩ | exact EvV_int (by omega) | exact EvV_of (by simp) | exact EvV_nil _))
    · clear hP
      rintro ⟨k, s⟩ ⟨hk, hP⟩
      dsimp only at hk hP
      (refine ew ?_; try with_reducible exact True.intro)
      refine brK_dec (fun hc => ?_) fun hc => ?_ <;> (refine ew1 @hc ?_; try with_reducible exact True.intro)
      · refine RefK_curF hP (f_l01Byte h.d_spec_l01Byte hx) rfl (fun _ => rfl) ?_
        rintro _ i2 h2 ⟨m, rfl, hm⟩ hi2
        (refine ew ?_; try with_reducible exact True.intro)
        have hlt : 0 < s.length := by obtain ⟨_, _, ho, _⟩ := hP; exact objAt_lt ho
        exact ⟨(k + 1, s.set 0 (some (cob x i2 h2))), by dsimp only; omega, ⟨by dsimp only; omega, ⟨i2, h2, objAt_seteq hlt, hi2⟩⟩, by (refine Fg_env ?_) <;> (try (refine ew ?_; try with_reducible exact True.intro)) <;> (repeat' (first | refine ⟨?_, ?_⟩ | exact EvV_int (by omega) | exact EvV_of (by simp) | exact EvV_nil _))⟩
      · exact hP
  obtain ⟨r, σ', h1, rfl, i', h', h3, h4⟩ := this
  refine ⟨i', h', h4, ?_⟩
  have := Run.gcF [0] (by simp) (fun k hk => absurd hk (Nat.not_lt_zero _)) h1
  have e : gcS [0] σ' = cur x i' h' := by
    simp only [gcS, List.map_cons, List.map_nil, h3, Option.map_some, mapO_cob]; rfl
  rwa [e] at this
end Go.Ml
end
section
set_option linter.unusedSimpArgs false
set_option linter.unusedVariables false
set_option maxRecDepth 100000
set_option maxHeartbeats 4000000
namespace Go.Ml
open Lib
def F_impl_RotateXY : Fn := ⟨3, 35, [.tmp 6, .tmp 7], (.seq (.reg false 0 [oN 6 (.mov (cI 0)), oN 7 (.mov (cI 0))]) (.seq (.seq (.reg false 0 [oN 9 (oV 2), oN 10 (.bin .lss (.t 9) (cI 0)), oN 11 (oV 10), oG 11 false 12 (oV 2), oG 11 false 13 (.bin .gtr (.t 12) (cI 3)), oN 14 (.pick (.t 11) (.c (.bool true)) (.t 13)), oN 15 (oV 14), oG 15 false 16 (oV 0), oG 15 false 17 (.call 38 [(.t 16)]), oG 15 false 18 (.un .not (.t 17)), oN 19 (.pick (.t 15) (.c (.bool true)) (.t 18)), oN 20 (oV 19), oG 20 false 21 (oV 1), oG 20 false 22 (.call 38 [(.t 21)]), oG 20 false 23 (.un .not (.t 22)), oN 24 (.pick (.t 20) (.c (.bool true)) (.t 23))]) (.cond (.t 24) (.seq (.reg false 0 [oN 6 (.mov (cI 0)), oN 7 (.mov (cI 0))]) .ret) .skip)) (.seq (.seq (.reg false 0 [oN 8 (.mov (cI 0))]) (.block 0 (.loop (.seq (.seq (.reg false 0 [oN 25 (oV 8), oN 26 (oV 2), oN 27 (.bin .lss (.t 25) (.t 26))]) (.cond (.t 27) .skip (.exit 0))) (.seq (.block 1 (.reg false 0 [oN 30 (oV 1), oN 31 (.un .neg (.t 30)), oN 32 (oV 0), oN 0 (oV 31), oN 1 (oV 32)])) (.reg false 0 [oN 28 (oV 8), oN 29 (.bin .add (.t 28) (cI 1)), oN 8 (oV 29)])))))) (.seq (.reg false 0 [oN 33 (oV 0), oN 34 (oV 1), oN 6 (oV 33), oN 7 (oV 34)]) .ret))))⟩
structure D_impl_RotateXY (T : Nat → Option Fn) : Prop where
  hT : T 260 = some F_impl_RotateXY
  d_impl_inRange : D_impl_inRange T
def F_impl_composeOk : Fn := ⟨2, 48, [.cell 4 3 true, .tmp 5], (.seq (.reg false 3 [oN 2 (.box (.t 0)), oK 3 1 (.box (.t 1)), oK 4 2 (.alloc [.int .i64 0, .int .i64 0, .int .i64 0]), oK 5 3 (.mov (.c (.bool false)))]) (.seq (.seq (.reg false 0 [oN 9 (.load 3 true (.t 2)), oN 10 (.call 168 [(.t 9)]), oN 11 (.un .not (.t 10)), oN 12 (oV 11), oG 12 false 13 (.load 3 true (.t 3)), oG 12 false 14 (.call 168 [(.t 13)]), oG 12 false 15 (.un .not (.t 14)), oN 16 (.pick (.t 12) (.c (.bool true)) (.t 15))]) (.cond (.t 16) (.seq (.reg false 0 [oN 17 (.build [.int .i64 0, .int .i64 0, .int .i64 0] []), oS (.store 3 (.t 4) (.t 17)), oN 5 (.mov (.c (.bool false)))]) .ret) .skip)) (.seq (.reg false 0 [oN 19 (.fld 1 (.t 3)), oN 20 (.load 1 false (.t 19)), oN 21 (.fld 2 (.t 3)), oN 22 (.load 1 false (.t 21)), oN 23 (.fld 0 (.t 2)), oN 24 (.load 1 false (.t 23)), oN 25 (.call 260 [(.t 20), (.t 22), (.t 24)]), oN 18 (oV 25), oN 26 (.extr 0 (.t 18)), oN 27 (.extr 1 (.t 18)), oN 6 (oV 26), oN 7 (oV 27)]) (.seq (.reg false 1 [oK 28 1 (.fld 0 (.t 2)), oK 29 1 (.load 1 false (.t 28)), oK 30 1 (.fld 0 (.t 3)), oK 31 1 (.load 1 false (.t 30)), oK 32 1 (.bin .add (.t 29) (.t 31)), oK 33 1 (.bin .rem (.t 32) (cI 4)), oK 34 1 (.fld 1 (.t 2)), oK 35 1 (.load 1 false (.t 34)), oK 36 1 (oV 6), oK 37 1 (.bin .add (.t 35) (.t 36)), oK 38 1 (.fld 2 (.t 2)), oK 39 1 (.load 1 false (.t 38)), oK 40 1 (oV 7), oK 41 1 (.bin .add (.t 39) (.t 40)), oK 42 1 (.build [.int .i64 0, .int .i64 0, .int .i64 0] [(0, 1, (.t 33)), (1, 1, (.t 37)), (2, 1, (.t 41))]), oN 8 (.alloc [.int .i64 0, .int .i64 0, .int .i64 0]), ⟨none, none, 1, .store 3 (.t 8) (.t 42), []⟩]) (.seq (.seq (.reg false 0 [oN 43 (.load 3 true (.t 8)), oN 44 (.call 168 [(.t 43)]), oN 45 (.un .not (.t 44))]) (.cond (.t 45) (.seq (.reg false 0 [oN 46 (.build [.int .i64 0, .int .i64 0, .int .i64 0] []), oS (.store 3 (.t 4) (.t 46)), oN 5 (.mov (.c (.bool false)))]) .ret) .skip)) (.seq (.reg false 0 [oN 47 (.load 3 true (.t 8)), oS (.store 3 (.t 4) (.t 47)), oN 5 (.mov (.c (.bool true)))]) .ret))))))⟩
structure D_impl_composeOk (T : Nat → Option Fn) : Prop where
  hT : T 259 = some F_impl_composeOk
  d_impl_IsValidPose : D_impl_IsValidPose T
  d_impl_RotateXY : D_impl_RotateXY T
def F_impl_Compose : Fn := ⟨2, 14, [.cell 4 3 true], (.seq (.reg false 3 [oN 2 (.box (.t 0)), oK 3 1 (.box (.t 1)), oK 4 2 (.alloc [.int .i64 0, .int .i64 0, .int .i64 0])]) (.seq (.reg false 1 [oK 8 1 (.load 3 true (.t 2)), oK 9 1 (.load 3 true (.t 3)), oK 10 1 (.call 259 [(.t 8), (.t 9)]), oK 7 1 (oV 10), oK 11 1 (.extr 0 (.t 7)), oK 12 1 (.extr 1 (.t 7)), oN 5 (.alloc [.int .i64 0, .int .i64 0, .int .i64 0]), ⟨none, none, 1, .store 3 (.t 5) (.t 11), []⟩, oK 6 1 (oV 12)]) (.seq (.reg false 0 [oN 13 (.load 3 true (.t 5)), oS (.store 3 (.t 4) (.t 13))]) .ret)))⟩
structure D_impl_Compose (T : Nat → Option Fn) : Prop where
  hT : T 250 = some F_impl_Compose
  d_impl_composeOk : D_impl_composeOk T
def F_impl_Inverse : Fn := ⟨1, 29, [.cell 2 3 true], (.seq (.reg false 2 [oN 1 (.box (.t 0)), oK 2 1 (.alloc [.int .i64 0, .int .i64 0, .int .i64 0])]) (.seq (.seq (.reg false 0 [oN 6 (.load 3 true (.t 1)), oN 7 (.call 168 [(.t 6)]), oN 8 (.un .not (.t 7))]) (.cond (.t 8) (.seq (.reg false 0 [oN 9 (.build [.int .i64 0, .int .i64 0, .int .i64 0] []), oS (.store 3 (.t 2) (.t 9))]) .ret) .skip)) (.seq (.reg false 0 [oN 10 (.fld 0 (.t 1)), oN 11 (.load 1 false (.t 10)), oN 12 (.bin .sub (cI 4) (.t 11)), oN 13 (.bin .rem (.t 12) (cI 4)), oN 3 (oV 13)]) (.seq (.reg false 0 [oN 15 (.fld 1 (.t 1)), oN 16 (.load 1 false (.t 15)), oN 17 (.un .neg (.t 16)), oN 18 (.fld 2 (.t 1)), oN 19 (.load 1 false (.t 18)), oN 20 (.un .neg (.t 19)), oN 21 (oV 3), oN 22 (.call 260 [(.t 17), (.t 20), (.t 21)]), oN 14 (oV 22), oN 23 (.extr 0 (.t 14)), oN 24 (.extr 1 (.t 14)), oN 4 (oV 23), oN 5 (oV 24)]) (.seq (.reg false 0 [oN 25 (oV 3), oN 26 (oV 4), oN 27 (oV 5), oN 28 (.build [.int .i64 0, .int .i64 0, .int .i64 0] [(0, 1, (.t 25)), (1, 1, (.t 26)), (2, 1, (.t 27))]), oS (.store 3 (.t 2) (.t 28))]) .ret)))))⟩
structure D_impl_Inverse (T : Nat → Option Fn) : Prop where
  hT : T 251 = some F_impl_Inverse
  d_impl_IsValidPose : D_impl_IsValidPose T
  d_impl_RotateXY : D_impl_RotateXY T
def F_impl_Between : Fn := ⟨2, 9, [.cell 4 3 true], (.seq (.reg false 3 [oN 2 (.box (.t 0)), oK 3 1 (.box (.t 1)), oK 4 2 (.alloc [.int .i64 0, .int .i64 0, .int .i64 0])]) (.seq (.reg true 0 [oN 5 (.load 3 true (.t 2)), oA 6 0 (.call 251 [(.t 5)]) [0], oN 7 (.load 3 true (.t 3)), oA 8 0 (.call 250 [(.t 6), (.t 7)]) [1, 2, 1], ⟨none, none, 0, .store 3 (.t 4) (.t 8), [3, 3, 0, 1, 2, 3]⟩]) .ret))⟩
structure D_impl_Between (T : Nat → Option Fn) : Prop where
  hT : T 252 = some F_impl_Between
  d_impl_Compose : D_impl_Compose T
  d_impl_Inverse : D_impl_Inverse T
def F_impl_composeAllOk : Fn := ⟨1, 26, [.cell 2 3 true, .tmp 3], (.seq (.reg false 1 [oN 2 (.alloc [.int .i64 0, .int .i64 0, .int .i64 0]), oK 3 1 (.mov (.c (.bool false)))]) (.seq (.reg false 1 [oK 8 1 (.build [.int .i64 0, .int .i64 0, .int .i64 0] []), oN 4 (.alloc [.int .i64 0, .int .i64 0, .int .i64 0]), ⟨none, none, 1, .store 3 (.t 4) (.t 8), []⟩]) (.seq (.reg false 0 [oN 5 (.mov (.c (.bool true)))]) (.seq (.seq (.reg false 0 [oN 9 (oV 0), oN 10 (.len (.t 9)), oN 11 (.mov (cI 0))]) (.block 0 (.loop (.seq (.reg false 0 [oN 12 (.bin .lss (.t 11) (.t 10))]) (.seq (.cond (.t 12) .skip (.exit 0)) (.seq (.block 1 (.seq (.reg false 1 [oK 13 1 (.idx 3 (.t 9) (.t 11)), oK 14 1 (.load 3 true (.t 13)), oN 7 (.alloc [.int .i64 0, .int .i64 0, .int .i64 0]), ⟨none, none, 1, .store 3 (.t 7) (.t 14), []⟩]) (.seq (.reg false 0 [oN 16 (.load 3 true (.t 4)), oN 17 (.load 3 true (.t 7)), oN 18 (.call 259 [(.t 16), (.t 17)]), oN 15 (oV 18), oN 19 (.extr 0 (.t 15)), oN 20 (.extr 1 (.t 15)), oS (.store 3 (.t 4) (.t 19)), oN 5 (oV 20)]) (.seq (.reg false 0 [oN 21 (oV 5), oN 22 (.un .not (.t 21))]) (.cond (.t 22) (.seq (.reg false 0 [oN 23 (.build [.int .i64 0, .int .i64 0, .int .i64 0] []), oS (.store 3 (.t 2) (.t 23)), oN 3 (.mov (.c (.bool false)))]) .ret) .skip))))) (.reg false 0 [oN 24 (.bin .add (.t 11) (cI 1)), oN 11 (oV 24)]))))))) (.seq (.reg false 0 [oN 25 (.load 3 true (.t 4)), oS (.store 3 (.t 2) (.t 25)), oN 3 (.mov (.c (.bool true)))]) .ret)))))⟩
structure D_impl_composeAllOk (T : Nat → Option Fn) : Prop where
  hT : T 261 = some F_impl_composeAllOk
  d_impl_composeOk : D_impl_composeOk T
def F_impl_ComposeAll : Fn := ⟨1, 11, [.cell 2 3 true], (.seq (.reg false 1 [oN 2 (.alloc [.int .i64 0, .int .i64 0, .int .i64 0])]) (.seq (.reg false 1 [oK 6 1 (oV 0), oK 7 1 (.call 261 [(.t 6)]), oK 5 1 (oV 7), oK 8 1 (.extr 0 (.t 5)), oK 9 1 (.extr 1 (.t 5)), oN 3 (.alloc [.int .i64 0, .int .i64 0, .int .i64 0]), ⟨none, none, 1, .store 3 (.t 3) (.t 8), []⟩, oK 4 1 (oV 9)]) (.seq (.reg false 0 [oN 10 (.load 3 true (.t 3)), oS (.store 3 (.t 2) (.t 10))]) .ret)))⟩
structure D_impl_ComposeAll (T : Nat → Option Fn) : Prop where
  hT : T 253 = some F_impl_ComposeAll
  d_impl_composeAllOk : D_impl_composeAllOk T
def F_spec_l05Draw : Fn := ⟨1, 12, [.cell 2 3 true], (.seq (.reg false 1 [oN 2 (.alloc [.int .i64 0, .int .i64 0, .int .i64 0])]) (.seq (.reg false 0 [oN 3 (oV 0), oN 4 (.call 107 [(.t 3), (cI 4)]), oN 5 (oV 0), oN 6 (.call 107 [(.t 5), (cI 41)]), oN 7 (.bin .sub (.t 6) (cI 20)), oN 8 (oV 0), oN 9 (.call 107 [(.t 8), (cI 41)]), oN 10 (.bin .sub (.t 9) (cI 20)), oN 11 (.build [.int .i64 0, .int .i64 0, .int .i64 0] [(0, 1, (.t 4)), (1, 1, (.t 7)), (2, 1, (.t 10))]), oS (.store 3 (.t 2) (.t 11))]) .ret))⟩
structure D_spec_l05Draw (T : Nat → Option Fn) : Prop where
  hT : T 256 = some F_spec_l05Draw
  d_spec_l01Below : D_spec_l01Below T
def F_spec_MakePose : Fn := ⟨2, 10, [.cell 4 3 true], (.seq (.reg false 1 [oN 4 (.alloc [.int .i64 0, .int .i64 0, .int .i64 0])]) (.seq (.reg false 0 [oN 5 (oV 0), oN 6 (oV 1), oN 7 (.bin .mul (cI 3) (.t 6)), oN 8 (.call 181 [(.t 5), (.t 7)]), oN 9 (.call 256 [(.t 8)]), oS (.store 3 (.t 4) (.t 9))]) .ret))⟩
structure D_spec_MakePose (T : Nat → Option Fn) : Prop where
  hT : T 248 = some F_spec_MakePose
  d_spec_l32New : D_spec_l32New T
  d_spec_l05Draw : D_spec_l05Draw T
def rot (x y : Int) : Nat → Int × Int
  | 0 => (x, y)
  | k + 1 => (0 - (rot x y k).2, (rot x y k).1)
theorem rot_s (x y : Int) (k : Nat) : rot x y (k + 1) = (0 - (rot x y k).2, (rot x y k).1) := rfl
theorem rot_bd {x y B : Int} (hx : -B ≤ x ∧ x ≤ B) (hy : -B ≤ y ∧ y ≤ B) : ∀ k, (-B ≤ (rot x y k).1 ∧ (rot x y k).1 ≤ B) ∧ (-B ≤ (rot x y k).2 ∧ (rot x y k).2 ≤ B)
  | 0 => ⟨hx, hy⟩
  | k + 1 => by
    obtain ⟨h1, h2⟩ := rot_bd hx hy k
    rw [rot_s]
    dsimp only
    omega
structure BdP (B : Int) (p : Po) : Prop where
  t : 0 ≤ p.turn ∧ p.turn ≤ 3
  x : -B ≤ p.x ∧ p.x ≤ B
  y : -B ≤ p.y ∧ p.y ≤ B
theorem BdP.ok {B : Int} {p : Po} (h : BdP B p) (hB : B ≤ 1000000) : poOk p = true := by
  have h1 := h.t
  have h2 := h.x
  have h3 := h.y
  exact poOk_iff.2 ⟨h1, by omega, by omega⟩
def cmpP (p q : Po) : Po := ⟨(p.turn + q.turn).tmod 4, p.x + (rot q.x q.y p.turn.toNat).1, p.y + (rot q.x q.y p.turn.toNat).2⟩
def invP (p : Po) : Po := ⟨(4 - p.turn).tmod 4, (rot (0 - p.x) (0 - p.y) ((4 - p.turn).tmod 4).toNat).1, (rot (0 - p.x) (0 - p.y) ((4 - p.turn).tmod 4).toNat).2⟩
theorem tmod4 {n : Int} (h : 0 ≤ n) : 0 ≤ n.tmod 4 ∧ n.tmod 4 ≤ 3 := ⟨Int.tmod_nonneg _ h, by have := Int.tmod_lt_of_pos n (show (0 : Int) < 4 by omega); omega⟩
theorem BdP.cmp {A B : Int} {p q : Po} (h : BdP A p) (k : BdP B q) : BdP (A + B) (cmpP p q) := by
  have h1 := h.t
  have h2 := h.x
  have h3 := h.y
  have k1 := k.t
  have hr := rot_bd k.x k.y p.turn.toNat
  exact ⟨tmod4 (by omega), by unfold cmpP; dsimp only; omega, by unfold cmpP; dsimp only; omega⟩
theorem BdP.inv {B : Int} {p : Po} (h : BdP B p) : BdP B (invP p) := by
  have h1 := h.t
  have h2 := h.x
  have h3 := h.y
  have hr := rot_bd (x := 0 - p.x) (y := 0 - p.y) (B := B) (by omega) (by omega) ((4 - p.turn).tmod 4).toNat
  exact ⟨tmod4 (by omega), hr.1, hr.2⟩
theorem cmp_assoc {A B C : Int} {p q r : Po} (hp : BdP A p) (hq : BdP B q) (hr : BdP C r) : cmpP (cmpP p q) r = cmpP p (cmpP q r) := by
  obtain ⟨t, x, y⟩ := p
  obtain ⟨u, a, b⟩ := q
  obtain ⟨v, c, d⟩ := r
  have h1 := hp.t
  have h2 := hq.t
  have h3 := hr.t
  dsimp only at h1 h2 h3
  clear hp hq hr
  rcases turn4 h1 with rfl | rfl | rfl | rfl <;> rcases turn4 h2 with rfl | rfl | rfl | rfl <;> rcases turn4 h3 with rfl | rfl | rfl | rfl <;>
    simp only [cmpP, Po.mk.injEq] <;> refine ⟨by decide, ?_, ?_⟩ <;> simp [rot] <;> omega
theorem cmp_inv {B : Int} {p : Po} (hp : BdP B p) : cmpP p (invP p) = ⟨0, 0, 0⟩ := by
  obtain ⟨t, x, y⟩ := p
  have h1 := hp.t
  dsimp only at h1
  clear hp
  rcases turn4 h1 with rfl | rfl | rfl | rfl <;> simp only [cmpP, invP, Po.mk.injEq] <;> refine ⟨by decide, ?_, ?_⟩ <;> simp [rot] <;> omega
theorem cmp_btw {A B : Int} {p q : Po} (hp : BdP A p) (hq : BdP B q) : cmpP p (cmpP (invP p) q) = q := by
  obtain ⟨t, x, y⟩ := p
  obtain ⟨u, a, b⟩ := q
  have h1 := hp.t
  have h2 := hq.t
  dsimp only at h1 h2
  clear hp hq
  rcases turn4 h1 with rfl | rfl | rfl | rfl <;> rcases turn4 h2 with rfl | rfl | rfl | rfl <;> simp only [cmpP, invP, Po.mk.injEq] <;> refine ⟨by decide, ?_, ?_⟩ <;> simp [rot] <;> omega
theorem cmp_zero {B : Int} {p : Po} (hp : BdP B p) : cmpP ⟨0, 0, 0⟩ p = p := by
  obtain ⟨t, x, y⟩ := p
  have h1 := hp.t
  dsimp only at h1
  clear hp
  rcases turn4 h1 with rfl | rfl | rfl | rfl <;> simp only [cmpP, Po.mk.injEq] <;> refine ⟨by decide, ?_, ?_⟩ <;> simp [rot]
end Go.Ml
end
section
set_option linter.unusedSimpArgs false
set_option linter.unusedVariables false
set_option maxRecDepth 100000
set_option maxHeartbeats 4000000
namespace Go.Ml
open Lib
theorem c_RotateXY {T : Nat → Option Fn} (h : D_impl_RotateXY T) {x y : Int} {t : Nat} (ht : t ≤ 3) (hx : -1000000 ≤ x ∧ x ≤ 1000000) (hy : -1000000 ≤ y ∧ y ≤ 1000000) :
    PF T 260 [iv x, iv y, iv (t : Nat)] (.tup [iv (rot x y t).1, iv (rot x y t).2]) := by
  have h1 : ¬ ((t : Int) < 0) := by omega
  have h2 : ¬ ((3 : Int) < (t : Nat)) := by omega
  have cx := c_inRange h.d_impl_inRange (n := x)
  have cy := c_inRange h.d_impl_inRange (n := y)
  have ex : inC x = true := by simp [inC]; omega
  have ey : inC y = true := by simp [inC]; omega
  rw [ex] at cx
  rw [ey] at cy
  refine pf_end (fun _ _ => false) h.hT rfl rfl ?_
  dsimp only [F_impl_RotateXY, oN, oS, oG, oK, oA, oH, oV, cI]
  (refine ev ?_; try with_reducible exact True.intro)
  (refine ev2 @h1 @h2 ?_; try with_reducible exact True.intro)
  refine PFK_of cx ?_
  (refine ev ?_; try with_reducible exact True.intro)
  refine PFK_of cy ?_
  (refine ev ?_; try with_reducible exact True.intro)
  refine loop_at (fun _ _ => false) (α := Nat × Int × Int) (fun q => ⟨argE [iv q.2.1, iv q.2.2, iv (t : Nat), .any, .any, .any, iv 0, iv 0, iv (q.1 : Nat)], [], 0, 0, [], []⟩) (fun q => q.1 ≤ t ∧ rot x y q.1 = (q.2.1, q.2.2)) (fun q => t - q.1) rfl (0, x, y) ?_ ?_ ?_
  · exact ⟨by omega, rfl⟩
  · first | ((refine Fg_env ?_) <;> (try (refine ev ?_; try with_reducible exact True.intro)) <;> (repeat' (first | refine ⟨?_, ?_⟩ | exact EvV_int (by omega) | exact EvV_of (by simp) | exact EvV_nil _)); done) | ((refine Fg_re [] (by simp) (by intro p hp; cases hp) rfl ?_) <;> (try (refine ev ?_; try with_reducible exact True.intro)) <;> (repeat' (first | exact True.intro | omega | exact CanE_ptr rfl (by simp) | refine ⟨?_, ?_⟩ | exact of_eq_true (CanE_nil _ _ _) | exact CanE_of rfl (by simp; done) | exact CanE_of rfl rfl | (refine CanE_msl rfl ?_ rfl; simp [irows]; done) | (refine CanE_msl rfl ?_ rfl; simp [irows]; omega) | (refine CanE_frz ?_ ?_; (focus ((refine ev ?_; try with_reducible exact True.intro); done)); (intro q hq k s0 l0; simp; done)))); done)
  · rintro ⟨k, a, b⟩ ⟨hk, hr⟩
    dsimp only at hk hr ⊢
    have bd := rot_bd hx hy k
    have es := rot_s x y k
    have ef : k = t → rot x y t = (a, b) := fun e => by rw [← e, hr]
    rw [hr] at bd es
    dsimp only at bd es
    (refine ev ?_; try with_reducible exact True.intro)
    refine brK_dec (fun hc => ?_) fun hc => ?_ <;> (refine ev1 @hc ?_; try with_reducible exact True.intro)
    · refine ⟨(k + 1, 0 - b, a), by dsimp only; omega, ⟨by dsimp only; omega, es⟩, ?_⟩
      dsimp only
      (refine Fg_env ?_) <;> (try (refine ev ?_; try with_reducible exact True.intro)) <;> (repeat' (first | refine ⟨?_, ?_⟩ | exact EvV_int (by omega) | exact EvV_of (by simp) | exact EvV_nil _))
    · rw [ef (by omega)]
theorem c_composeOk {T : Nat → Option Fn} (h : D_impl_composeOk T) {p q : Po} {A B : Int} (hp : BdP A p) (hq : BdP B q) (hA : A ≤ 1000 ∧ B ≤ 1000) : PF T 259 [poV p, poV q] (.tup [poV (cmpP p q), .bool true]) := by
  have op := hp.ok (by omega)
  have oq := hq.ok (by omega)
  have hr := hp.cmp hq
  have orr := hr.ok (by omega)
  have cp := c_iIsValidPose h.d_impl_IsValidPose (p := p)
  have cq := c_iIsValidPose h.d_impl_IsValidPose (p := q)
  have cr := c_iIsValidPose h.d_impl_IsValidPose (p := cmpP p q)
  rw [op] at cp
  rw [oq] at cq
  rw [orr] at cr
  have p1 := hp.t
  have p2 := hp.x
  have p3 := hp.y
  have q1 := hq.t
  have q2 := hq.x
  have q3 := hq.y
  have ro := c_RotateXY h.d_impl_RotateXY (x := q.x) (y := q.y) (t := p.turn.toNat) (by omega) (by omega) (by omega)
  have rb := rot_bd q2 q3 p.turn.toNat
  rw [show ((p.turn.toNat : Nat) : Int) = p.turn by omega] at ro
  unfold cmpP at cr ⊢
  generalize rot q.x q.y p.turn.toNat = rr at *
  obtain ⟨a, b⟩ := rr
  dsimp only at rb
  refine pf_end (fun _ _ => false) h.hT rfl rfl ?_
  dsimp only [F_impl_composeOk, oN, oS, oG, oK, oA, oH, oV, cI]
  (refine ev ?_; try with_reducible exact True.intro)
  refine PFK_of cp ?_
  (refine ev ?_; try with_reducible exact True.intro)
  refine PFK_of cq ?_
  (refine ev ?_; try with_reducible exact True.intro)
  refine PFK_of ro ?_
  (refine ev ?_; try with_reducible exact True.intro)
  refine PFK_of cr ?_
  (refine ev ?_; try with_reducible exact True.intro)
  exact (show V.tup [.agg [iv ((p.turn + q.turn).tmod 4), iv (p.x + a), iv (p.y + b)], .bool true] = V.tup [poV ⟨(p.turn + q.turn).tmod 4, p.x + a, p.y + b⟩, .bool true] from rfl)
theorem c_Compose {T : Nat → Option Fn} (h : D_impl_Compose T) {p q : Po} {A B : Int} (hp : BdP A p) (hq : BdP B q) (hA : A ≤ 1000 ∧ B ≤ 1000) : PF T 250 [poV p, poV q] (poV (cmpP p q)) := by
  have c := c_composeOk h.d_impl_composeOk hp hq hA
  generalize cmpP p q = r at *
  refine pf_end (fun _ _ => false) h.hT rfl rfl ?_
  dsimp only [F_impl_Compose, oN, oS, oG, oK, oA, oH, oV, cI]
  (refine ev ?_; try with_reducible exact True.intro)
  refine PFK_of c ?_
  (refine ev ?_; try with_reducible exact True.intro)
theorem c_Inverse {T : Nat → Option Fn} (h : D_impl_Inverse T) {p : Po} {A : Int} (hp : BdP A p) (hA : A ≤ 1000) : PF T 251 [poV p] (poV (invP p)) := by
  have op := hp.ok (by omega)
  have cp := c_iIsValidPose h.d_impl_IsValidPose (p := p)
  rw [op] at cp
  have p1 := hp.t
  have p2 := hp.x
  have p3 := hp.y
  have t4 := tmod4 (n := 4 - p.turn) (by omega)
  have ro := c_RotateXY h.d_impl_RotateXY (x := 0 - p.x) (y := 0 - p.y) (t := ((4 - p.turn).tmod 4).toNat) (by omega) (by omega) (by omega)
  rw [show ((((4 - p.turn).tmod 4).toNat : Nat) : Int) = (4 - p.turn).tmod 4 by omega] at ro
  unfold invP
  generalize rot (0 - p.x) (0 - p.y) ((4 - p.turn).tmod 4).toNat = rr at *
  obtain ⟨a, b⟩ := rr
  refine pf_end (fun _ _ => false) h.hT rfl rfl ?_
  dsimp only [F_impl_Inverse, oN, oS, oG, oK, oA, oH, oV, cI]
  (refine ev ?_; try with_reducible exact True.intro)
  refine PFK_of cp ?_
  (refine ev ?_; try with_reducible exact True.intro)
  refine PFK_of ro ?_
  (refine ev ?_; try with_reducible exact True.intro)
theorem c_Between {T : Nat → Option Fn} (h : D_impl_Between T) {p q : Po} {A B : Int} (hp : BdP A p) (hq : BdP B q) (hA : A ≤ 1000 ∧ B ≤ 1000) : PF T 252 [poV p, poV q] (poV (cmpP (invP p) q)) := by
  have ci := c_Inverse h.d_impl_Inverse hp hA.1
  have c := c_Compose h.d_impl_Compose hp.inv hq hA
  generalize cmpP (invP p) q = r at *
  generalize invP p = i at *
  refine pf_end (fun _ _ => false) h.hT rfl rfl ?_
  dsimp only [F_impl_Between, oN, oS, oG, oK, oA, oH, oV, cI]
  (refine ev ?_; try with_reducible exact True.intro)
  refine PFK_of ci ?_
  (refine ev ?_; try with_reducible exact True.intro)
  refine PFK_of c ?_
  (refine ev ?_; try with_reducible exact True.intro)
  unfold OkA
  decide +kernel
theorem c_composeAllOk {T : Nat → Option Fn} (h : D_impl_composeAllOk T) {l : List Po} {acc : Nat → Po} (h0 : acc 0 = ⟨0, 0, 0⟩) (hl : l.length ≤ 1000)
    (hs : ∀ k, k < l.length → PF T 259 [poV (acc k), poV (l.getD k default)] (.tup [poV (acc (k + 1)), .bool true])) : PF T 261 [.sl 3 (l.map Po.cells)] (.tup [poV (acc l.length), .bool true]) := by
  refine pf_end (fun _ _ => false) h.hT rfl rfl ?_
  dsimp only [F_impl_composeAllOk, oN, oS, oG, oK, oA, oH, oV, cI]
  (refine ev ?_; try with_reducible exact True.intro)
  refine loop_at (fun _ _ => false) (α := Nat) (fun k => ⟨argE [.any, .any, .ptr 0 0 0, .bool false, .ptr 1 0 0, .bool true, .any, .any, .any, .sl 3 (l.map Po.cells), iv (l.length : Nat), iv (k : Nat)], [some ⟨3, [[iv 0, iv 0, iv 0]]⟩, some ⟨3, [(acc k).cells]⟩], 0, 0, [], []⟩) (fun k => k ≤ l.length) (fun k => l.length - k) rfl 0 ?_ ?_ ?_
  · omega
  · rw [h0]
    (refine Fg_env ?_) <;> (try (refine ev ?_; try with_reducible exact True.intro)) <;> (repeat' (first | refine ⟨?_, ?_⟩ | exact EvV_int (by omega) | exact EvV_of (by simp) | exact EvV_nil _))
  · intro k hk
    have hsk := hs k
    have ef : k = l.length → acc k = acc l.length := fun e => by rw [e]
    (refine ev ?_; try with_reducible exact True.intro)
    refine brK_dec (fun hc => ?_) fun hc => ?_ <;> (refine ev2 @hc @mg ?_; try with_reducible exact True.intro)
    · have hs1 := hsk (by omega)
      generalize l.getD k default = q at *
      refine PFK_of hs1 ?_
      (refine ev ?_; try with_reducible exact True.intro)
      refine ⟨k + 1, by omega, by omega, ?_⟩
      (refine Fg_re [(0, _), (1, _)] (by simp) (by intro p hp; simp only [List.mem_cons, List.not_mem_nil, or_false] at hp; rcases hp with rfl | rfl <;> refine ⟨rfl, ?_⟩ <;> first | exact ir_still _ | simp [stillR, V.still]) rfl ?_) <;> (try (refine ev ?_; try with_reducible exact True.intro)) <;> (repeat' (first | exact True.intro | omega | exact CanE_ptr rfl (by simp) | refine ⟨?_, ?_⟩ | exact of_eq_true (CanE_nil _ _ _) | exact CanE_of rfl (by simp; done) | exact CanE_of rfl rfl | (refine CanE_msl rfl ?_ rfl; simp [irows]; done) | (refine CanE_msl rfl ?_ rfl; simp [irows]; omega) | (refine CanE_frz ?_ ?_; (focus ((refine ev ?_; try with_reducible exact True.intro); done)); (intro q hq k s0 l0; simp; done))))
    · rw [ef (by omega)]
      exact (show V.tup [poV (acc l.length), .bool true] = V.tup [poV (acc l.length), .bool true] from rfl)
theorem c_ComposeAll {T : Nat → Option Fn} (h : D_impl_ComposeAll T) {p q r : Po} {A : Int} (hp : BdP A p) (hq : BdP A q) (hr : BdP A r) (hA : 0 ≤ A ∧ A ≤ 100) : PF T 253 [.sl 3 [p.cells, q.cells, r.cells]] (poV (cmpP (cmpP p q) r)) := by
  have bz : BdP 0 (⟨0, 0, 0⟩ : Po) := ⟨⟨by decide, by decide⟩, ⟨by decide, by decide⟩, ⟨by decide, by decide⟩⟩
  have hz := cmp_zero hp
  have c := c_composeAllOk h.d_impl_composeAllOk (l := [p, q, r]) (acc := fun k => if k = 0 then ⟨0, 0, 0⟩ else if k = 1 then p else if k = 2 then cmpP p q else cmpP (cmpP p q) r) rfl (by simp) (fun k hk => by
    have hk : k < 3 := hk
    have : k = 0 ∨ k = 1 ∨ k = 2 := by omega
    rcases this with rfl | rfl | rfl
    · have := c_composeOk h.d_impl_composeAllOk.d_impl_composeOk bz hp ⟨by omega, by omega⟩
      rw [hz] at this
      exact this
    · exact c_composeOk h.d_impl_composeAllOk.d_impl_composeOk hp hq ⟨by omega, by omega⟩
    · exact c_composeOk h.d_impl_composeAllOk.d_impl_composeOk (hp.cmp hq) hr ⟨by omega, by omega⟩)
  have c' : PF T 261 [.sl 3 [p.cells, q.cells, r.cells]] (.tup [poV (cmpP (cmpP p q) r), .bool true]) := c
  generalize cmpP (cmpP p q) r = s at *
  refine pf_end (fun _ _ => false) h.hT rfl rfl ?_
  dsimp only [F_impl_ComposeAll, oN, oS, oG, oK, oA, oH, oV, cI]
  (refine ev ?_; try with_reducible exact True.intro)
  refine PFK_of c' ?_
  (refine ev ?_; try with_reducible exact True.intro)
theorem mapV_po (g : Nat → Option Nat) (p : Po) : mapV g (poV p) = poV p := by simp [mapV, mapV.mapL]
theorem f_l05Draw {T : Nat → Option Fn} (h : D_spec_l05Draw T) {x : List UInt8} (hx : x.length ≤ 1048576) : CurF T 256 [] x fun r => ∃ p : Po, r = poV p ∧ BdP 20 p := by
  refine curF_of fun i hh hi => ?_
  unfold cur
  refine run_end (fun x d => x == 107) h.hT rfl rfl ?_
  dsimp only [F_spec_l05Draw, oN, oS, oG, oK, oA, oH, oV, cI, St.enter, List.length_cons, List.length_nil, Nat.zero_add]
  (refine ew ?_; try with_reducible exact True.intro)
  refine RefK_curF (b := 0) (rest := [iv 4]) ⟨i, hh, rfl, hi⟩ (f_l01Below h.d_spec_l01Below (n := 4) (by omega) hx) rfl (fun _ => rfl) ?_
  rintro _ i2 h2 ⟨a, rfl, ha⟩ hi2
  (refine ew ?_; try with_reducible exact True.intro)
  refine RefK_curF (b := 0) (rest := [iv 41]) ⟨i2, h2, rfl, hi2⟩ (f_l01Below h.d_spec_l01Below (n := 41) (by omega) hx) rfl (fun _ => rfl) ?_
  rintro _ i3 h3 ⟨b, rfl, hb⟩ hi3
  (refine ew ?_; try with_reducible exact True.intro)
  refine RefK_curF (b := 0) (rest := [iv 41]) ⟨i3, h3, rfl, hi3⟩ (f_l01Below h.d_spec_l01Below (n := 41) (by omega) hx) rfl (fun _ => rfl) ?_
  rintro _ i4 h4 ⟨c, rfl, hc⟩ hi4
  (refine ew ?_; try with_reducible exact True.intro)
  exact ⟨⟨⟨⟨a, b - 20, c - 20⟩, rfl, ⟨by dsimp only; omega, by dsimp only; omega, by dsimp only; omega⟩⟩, fun g => mapV_po g ⟨a, b - 20, c - 20⟩⟩, i4, h4, rfl, hi4⟩
theorem c_MakePose {T : Nat → Option Fn} (h : D_spec_MakePose T) {x : List UInt8} {n : Int} (hn : 0 ≤ n ∧ n ≤ 2) (hx : x.length ≤ 1048576) : ∃ p : Po, BdP 20 p ∧ PF T 248 [bytesV x, iv n] (poV p) := by
  obtain ⟨i0, h0, hi0, rn⟩ := r_l32New h.d_spec_l32New (n := 3 * n) (by omega) hx
  have : ∃ r σ', Run T (.fn 248 [bytesV x, iv n] []) (.fn r σ') ∧ ∃ p : Po, BdP 20 p ∧ r = poV p := by
    refine run_end (fun x d => x == 181 || x == 256) h.hT rfl rfl ?_
    dsimp only [F_spec_MakePose, oN, oS, oG, oK, oA, oH, oV, cI, St.enter, List.length_cons, List.length_nil, Nat.zero_add]
    (refine ew ?_; try with_reducible exact True.intro)
    refine RefK_run0 rn (by (refine ew ?_; try with_reducible exact True.intro)) (by (refine ew ?_; try with_reducible exact True.intro)) ?_
    obtain ⟨z, hz⟩ : ∃ z : Obj, z = ⟨3, [[.int .i64 0, .int .i64 0, .int .i64 0]]⟩ := ⟨_, rfl⟩
    rw [← hz]
    obtain ⟨s, hs⟩ : ∃ s, addS [some z] (cur x i0 h0) = s := ⟨_, rfl⟩
    have hP := cur_shift (x := x) (i := i0) (h := h0) (s := [some z]) hi0
    have h00 : objAt s 0 = some z := by rw [← hs, objAt_addS, if_pos (by simp)]; rfl
    rw [hs] at hP ⊢
    rw [show mapV (shiftN ([some z] : Store).length) (.ptr 0 0 0) = .ptr 1 0 0 from rfl]
    rw [show ([some z] : Store).length = 1 from rfl] at hP
    have hlt : 1 < s.length := by obtain ⟨_, _, ho, _⟩ := hP; exact objAt_lt ho
    (refine ew ?_; try with_reducible exact True.intro)
    refine RefK_curF hP (f_l05Draw h.d_spec_l05Draw hx) rfl (fun _ => rfl) ?_
    rintro _ i2 h2 ⟨p, rfl, hp⟩ hi2
    rw [hz] at h00
    (refine ew1 @h00 ?_; try with_reducible exact True.intro)
    exact ⟨p, hp, rfl⟩
  obtain ⟨r, σ', h1, p, h2, rfl⟩ := this
  exact ⟨p, h2, .frz h1 rfl⟩
end Go.Ml
end
section
set_option linter.unusedSimpArgs false
set_option linter.unusedVariables false
set_option maxRecDepth 100000
set_option maxHeartbeats 8000000
namespace Go.Ml
open Lib
def F_laws_FnPoses : Fn := ⟨1, 72, [.tmp 2], (.seq (.reg false 0 [oN 2 (.mov (.c (.bool false)))]) (.seq (.seq (.reg false 0 [oN 8 (oV 0), oN 9 (.len (.t 8)), oN 10 (.bin .gtr (.t 9) (cI 1048576))]) (.cond (.t 10) (.seq (.reg false 0 [oN 2 (.mov (.c (.bool true)))]) .ret) .skip)) (.seq (.reg false 1 [oK 11 1 (oV 0), oK 12 1 (.call 248 [(.t 11), (cI 0)]), oN 3 (.alloc [.int .i64 0, .int .i64 0, .int .i64 0]), ⟨none, none, 1, .store 3 (.t 3) (.t 12), []⟩]) (.seq (.reg false 1 [oK 13 1 (oV 0), oK 14 1 (.call 248 [(.t 13), (cI 1)]), oN 4 (.alloc [.int .i64 0, .int .i64 0, .int .i64 0]), ⟨none, none, 1, .store 3 (.t 4) (.t 14), []⟩]) (.seq (.reg false 1 [oK 15 1 (oV 0), oK 16 1 (.call 248 [(.t 15), (cI 2)]), oN 5 (.alloc [.int .i64 0, .int .i64 0, .int .i64 0]), ⟨none, none, 1, .store 3 (.t 5) (.t 16), []⟩]) (.seq (.reg false 1 [oK 18 1 (.load 3 true (.t 3)), oK 19 1 (.call 165 [(.t 18)]), oK 20 1 (.call 249 [(.t 19)]), oK 17 1 (oV 20), oK 21 1 (.extr 0 (.t 17)), oK 22 1 (.extr 1 (.t 17)), oN 6 (.alloc [.int .i64 0, .int .i64 0, .int .i64 0]), ⟨none, none, 1, .store 3 (.t 6) (.t 21), []⟩, oK 7 1 (oV 22)]) (.seq (.reg true 1 [oK 23 1 (oV 7), oA 24 1 (oV 23) [0], oH 24 true 25 1 (.load 3 true (.t 6)) [1], oH 24 true 26 1 (.load 3 true (.t 3)) [1], oH 24 true 27 1 (.aeq false (.t 25) (.t 26)) [2, 3, 1], oA 28 1 (.pick (.t 24) (.t 27) (.c (.bool false))) [1, 4], oA 29 1 (oV 28) [5, 1], oH 29 true 30 1 (.load 3 true (.t 3)) [6], oH 29 true 31 1 (.load 3 true (.t 4)) [6], oH 29 true 32 1 (.call 250 [(.t 30), (.t 31)]) [7, 8, 6, 6], oH 29 true 33 1 (.load 3 true (.t 5)) [6], oH 29 true 34 1 (.call 250 [(.t 32), (.t 33)]) [9, 10, 9, 6], oH 29 true 35 1 (.load 3 true (.t 3)) [6], oH 29 true 36 1 (.load 3 true (.t 4)) [6], oH 29 true 37 1 (.load 3 true (.t 5)) [6], oH 29 true 38 1 (.call 250 [(.t 36), (.t 37)]) [13, 14, 11, 6], oH 29 true 39 1 (.call 250 [(.t 35), (.t 38)]) [12, 15, 15, 6], oH 29 true 40 1 (.aeq false (.t 34) (.t 39)) [11, 16, 6], oA 41 1 (.pick (.t 29) (.t 40) (.c (.bool false))) [6, 17], oA 42 1 (oV 41) [18, 16], oH 42 true 43 1 (.load 3 true (.t 3)) [19], oH 42 true 44 1 (.load 3 true (.t 3)) [19], oH 42 true 45 1 (.call 251 [(.t 44)]) [21, 19, 19], oH 42 true 46 1 (.call 250 [(.t 43), (.t 45)]) [20, 22, 22, 19], oH 42 true 47 1 (.build [.int .i64 0, .int .i64 0, .int .i64 0] []) [19], oH 42 true 48 1 (.aeq false (.t 46) (.t 47)) [23, 24, 19], oA 49 1 (.pick (.t 42) (.t 48) (.c (.bool false))) [19, 25], oA 50 1 (oV 49) [26, 23], oH 50 true 51 1 (.load 3 true (.t 3)) [27], oH 50 true 52 1 (.load 3 true (.t 3)) [27], oH 50 true 53 1 (.load 3 true (.t 4)) [27], oH 50 true 54 1 (.call 252 [(.t 52), (.t 53)]) [29, 30, 27, 27], oH 50 true 55 1 (.call 250 [(.t 51), (.t 54)]) [28, 31, 31, 27], oH 50 true 56 1 (.load 3 true (.t 4)) [27], oH 50 true 57 1 (.aeq false (.t 55) (.t 56)) [32, 33, 27], oA 58 1 (.pick (.t 50) (.t 57) (.c (.bool false))) [27, 34], oA 59 1 (oV 58) [35, 32], oH 59 true 60 1 (.load 3 true (.t 3)) [36], oH 59 true 61 1 (.load 3 true (.t 4)) [36], oH 59 true 62 1 (.load 3 true (.t 5)) [36], oH 59 true 63 0 (.mkSl 3 [.int .i64 0, .int .i64 0, .int .i64 0] 3 [(0, (.t 60)), (1, (.t 61)), (2, (.t 62))]) [37, 38, 39, 36], oH 59 true 64 1 (.call 253 [(.t 63)]) [40, 36, 36], oH 59 true 65 1 (.load 3 true (.t 3)) [36], oH 59 true 66 1 (.load 3 true (.t 4)) [36], oH 59 true 67 1 (.call 250 [(.t 65), (.t 66)]) [42, 43, 41, 36], oH 59 true 68 1 (.load 3 true (.t 5)) [36], oH 59 true 69 1 (.call 250 [(.t 67), (.t 68)]) [44, 45, 44, 36], oH 59 true 70 1 (.aeq false (.t 64) (.t 69)) [41, 46, 36], oA 71 1 (.pick (.t 59) (.t 70) (.c (.bool false))) [36, 47], oA 2 1 (oV 71) [48, 46, 0, 1, 2, 3, 4, 5, 6, 7, 8, 9, 10, 11, 12, 13, 14, 15, 16, 17, 18, 19, 20, 21, 22, 23, 24, 25, 26, 27, 28, 29, 30, 31, 32, 33, 34, 35, 36, 37, 38, 39, 40, 41, 42, 43, 44, 45, 46, 47, 48]]) .ret)))))))⟩
structure D_laws_FnPoses (T : Nat → Option Fn) : Prop where
  hT : T 246 = some F_laws_FnPoses
  d_impl_FormatPose : D_impl_FormatPose T
  d_spec_MakePose : D_spec_MakePose T
  d_impl_ParsePose : D_impl_ParsePose T
  d_impl_Compose : D_impl_Compose T
  d_impl_Inverse : D_impl_Inverse T
  d_impl_Between : D_impl_Between T
  d_impl_ComposeAll : D_impl_ComposeAll T
theorem fmtPo_len {p : Po} (h : poOk p = true) : (fmtPo p).length ≤ 100 := by
  obtain ⟨h1, h2, h3⟩ := poOk_iff.1 h
  have l1 := it_len (n := p.x) (by omega) (by omega)
  have l2 := it_len (n := p.y) (by omega) (by omega)
  unfold fmtPo
  rw [if_pos h]
  simp only [List.length_append, List.length_cons, List.length_nil]; omega
theorem eq3_self (p : Po) : (p.turn == p.turn && p.x == p.x && p.y == p.y) = true := by simp
theorem c_lawFnPoses {T : Nat → Option Fn} (h : D_laws_FnPoses T) (x : List UInt8) (wx : x.length ≤ 9223372036854775807) : PF T 246 [bytesV x] (.bool true) := by
  have hlen : (x.map fun b => [V.int .u8 b.toNat]).length = x.length := by simp
  refine pf_end (fun _ _ => false) h.hT rfl rfl ?_
  dsimp only [F_laws_FnPoses, oN, oS, oG, oK, oA, oH, oV, cI]
  (refine ev ?_; try with_reducible exact True.intro)
  (refine ev1 @hlen ?_; try with_reducible exact True.intro)
  refine brK_dec (fun hb => ?_) fun hb => ?_ <;> (refine ev1 @hb ?_; try with_reducible exact True.intro)
  have hx : x.length ≤ 1048576 := by omega
  obtain ⟨p, hp, cp⟩ := c_MakePose h.d_spec_MakePose (n := 0) (by omega) hx
  obtain ⟨q, hq, cq⟩ := c_MakePose h.d_spec_MakePose (n := 1) (by omega) hx
  obtain ⟨r, hr, cr⟩ := c_MakePose h.d_spec_MakePose (n := 2) (by omega) hx
  have op := hp.ok (by omega)
  have cf := c_iFormatPose h.d_impl_FormatPose (p := p)
  have cg := c_iParsePose_yes h.d_impl_ParsePose (p := p) (s := fmtPo p) (Nat.le_trans (fmtPo_len op) (by omega)) op rfl
  have c1 := c_Compose h.d_impl_Compose hp hq ⟨by omega, by omega⟩
  have c2 := c_Compose h.d_impl_Compose (hp.cmp hq) hr ⟨by omega, by omega⟩
  have c3 := c_Compose h.d_impl_Compose hq hr ⟨by omega, by omega⟩
  have c4 := c_Compose h.d_impl_Compose hp (hq.cmp hr) ⟨by omega, by omega⟩
  rw [← cmp_assoc hp hq hr] at c4
  have c5 := c_Inverse h.d_impl_Inverse hp (by omega)
  have c6 := c_Compose h.d_impl_Compose hp hp.inv ⟨by omega, by omega⟩
  rw [cmp_inv hp] at c6
  have c7 := c_Between h.d_impl_Between hp hq ⟨by omega, by omega⟩
  have c8 := c_Compose h.d_impl_Compose hp (hp.inv.cmp hq) ⟨by omega, by omega⟩
  rw [cmp_btw hp hq] at c8
  have c9 := c_ComposeAll h.d_impl_ComposeAll hp hq hr ⟨by omega, by omega⟩
  have ep := eq3_self p
  have eq := eq3_self q
  have es := eq3_self (cmpP (cmpP p q) r)
  clear op hx hb
  generalize cmpP (cmpP p q) r = s at *
  generalize cmpP p q = a at *
  generalize cmpP q r = b at *
  generalize cmpP (invP p) q = c at *
  generalize invP p = d at *
  generalize fmtPo p = f at *
  clear hp hq hr
  refine PFK_of cp ?_
  (refine ev ?_; try with_reducible exact True.intro)
  refine PFK_of cq ?_
  (refine ev ?_; try with_reducible exact True.intro)
  refine PFK_of cr ?_
  (refine ev ?_; try with_reducible exact True.intro)
  refine PFK_of cf ?_
  (refine ev ?_; try with_reducible exact True.intro)
  refine PFK_of cg ?_
  (refine ev1 @ep ?_; try with_reducible exact True.intro)
  refine PFK_of c1 ?_
  (refine ev ?_; try with_reducible exact True.intro)
  refine PFK_of c2 ?_
  (refine ev ?_; try with_reducible exact True.intro)
  refine PFK_of c3 ?_
  (refine ev ?_; try with_reducible exact True.intro)
  refine PFK_of c4 ?_
  (refine ev1 @es ?_; try with_reducible exact True.intro)
  refine PFK_of c5 ?_
  (refine ev ?_; try with_reducible exact True.intro)
  refine PFK_of c6 ?_
  (refine ev ?_; try with_reducible exact True.intro)
  refine PFK_of c7 ?_
  (refine ev ?_; try with_reducible exact True.intro)
  refine PFK_of c8 ?_
  (refine ev1 @eq ?_; try with_reducible exact True.intro)
  refine PFK_of c9 ?_
  (refine ev ?_; try with_reducible exact True.intro)
  refine PFK_of c1 ?_
  (refine ev ?_; try with_reducible exact True.intro)
  refine PFK_of c2 ?_
  (refine ev1 @es ?_; try with_reducible exact True.intro)
  unfold OkA
  rfl
end Go.Ml
end
section
set_option linter.unusedSimpArgs false
set_option linter.unusedVariables false
namespace Go.Ml
theorem dec_list {α : Type} {row : List Lf} {f : α → List V} {W : α → Prop} (h : ∀ r, MtL row r → ∃ x, r = f x ∧ W x) {v : V} (hv : Mt (.sl row) v) : ∃ l : List α, v = .sl row.length (l.map f) ∧ wfL W l := by
  simp only [Mt] at hv
  obtain ⟨rows, rfl, hl, hr⟩ := hv
  have key : ∀ rows : List (List V), (∀ r ∈ rows, MtL row r) → ∃ l : List α, rows = l.map f ∧ ∀ x ∈ l, W x := by
    intro rows
    induction rows with
    | nil => intro _; exact ⟨[], rfl, by simp⟩
    | cons r rows ih =>
      intro hr
      obtain ⟨x, rfl, hx⟩ := h r (hr r (by simp))
      obtain ⟨l, rfl, hl⟩ := ih fun r hr' => hr r (by simp [hr'])
      exact ⟨x :: l, rfl, by simpa using ⟨hx, hl⟩⟩
  obtain ⟨l, rfl, hw⟩ := key rows hr
  exact ⟨l, rfl, by simpa [maxLen] using hl, hw⟩
theorem dec_one {l : Lf} {r : List V} (h : MtL [l] r) : ∃ v, r = [v] ∧ Mt l v := by
  simp only [MtL] at h
  obtain ⟨v, vs, rfl, h1, rfl⟩ := h
  exact ⟨v, rfl, h1⟩
theorem dec_bytes {v : V} (h : Mt (.sl [.int .u8]) v) : ∃ l : List UInt8, v = .sl 1 (l.map fun b => [.int .u8 b.toNat]) ∧ l.length ≤ 9223372036854775807 := by
  obtain ⟨l, rfl, hl⟩ := dec_list (f := fun b : UInt8 => [V.int .u8 b.toNat]) (W := fun _ => True) (fun r hr => by
    obtain ⟨v, rfl, g⟩ := dec_one hr
    simp only [Mt] at g
    obtain ⟨n, rfl, hn⟩ := g
    simp only [Lit.wf, Bool.and_eq_true, decide_eq_true_eq] at hn
    have h1 : IntKind.u8.min = 0 := by decide
    have h2 : IntKind.u8.max = 255 := by decide
    rw [h1, h2] at hn
    refine ⟨UInt8.ofNat n.toNat, ?_, trivial⟩
    have e : (((UInt8.ofNat n.toNat).toNat : Nat) : Int) = n := by
      rw [UInt8.toNat_ofNat', Nat.mod_eq_of_lt (by omega)]; omega
    rw [e]) h
  exact ⟨l, rfl, hl.1⟩
def AllP {α : Type} (P : α → Prop) : List α → Prop
  | [] => True
  | x :: l => P x ∧ AllP P l
theorem AllP.mem {α : Type} {P : α → Prop} : ∀ {l : List α}, AllP P l → ∀ x ∈ l, P x
  | [], _, x, hx => by cases hx
  | y :: l, h, x, hx => by
    rcases List.mem_cons.1 hx with rfl | hx
    · exact h.1
    · exact AllP.mem h.2 x hx
end Go.Ml
namespace Go.Ml
theorem trod_len {H : Type} {enc : TypeId × Value → H} {P : Program} {w : World} {b : Nat} {sp : Nat → Bool} {hd : Bool} : ∀ {ts : List TypeId} {vs : List Value} {ds : List (DataW H)} {ps : List MemPlace},
    DataW.TrodAll enc P w b sp hd ts vs ds ps → ds.length = ts.length
  | [], [], [], _, _ => rfl
  | [], [], _ :: _, _, h => h.elim
  | [], _ :: _, ds, _, h => by cases ds <;> exact h.elim
  | _ :: _, [], ds, _, h => by cases ds <;> exact h.elim
  | _ :: _, _ :: _, [], _, h => h.elim
  | t :: ts, v :: vs, d :: ds, ps, h => by
    obtain ⟨p, q, _, h2, _⟩ := h
    simp [trod_len h2]
end Go.Ml
end
