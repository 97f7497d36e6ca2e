/- A small language for the functions of this claim, its soundness, contracts. -/
import Derived.Test.YtfehnjcefmdljaaPart2
section
set_option linter.unusedSimpArgs false
set_option linter.unusedVariables false
namespace Go.Ml
structure Grow (s : Store) (v : V) (sz : Nat) (A ts : List (List V)) : Prop where
  ex : ∃ os, OwR s A ts os ∧ os.Nodup ∧ ((A = [] ∧ v = .nils) ∨ ∃ o, v = .msl o 0 A.length ∧ objAt s o = some ⟨sz, A⟩ ∧ o ∉ os)
section
variable {s s1 σ2 S : Store} {v : V} {sz : Nat} {A ts : List (List V)}
theorem Grow.len (h : Grow s v sz A ts) : A.length = ts.length := by obtain ⟨os, a, _⟩ := h.ex; exact a.len
theorem Grow.cases (h : Grow s v sz A ts) : (A = [] ∧ ts = [] ∧ v = .nils) ∨ ∃ o, v = .msl o 0 A.length ∧ objAt s o = some ⟨sz, A⟩ ∧ o < s.length := by
  have hl := h.len
  obtain ⟨os, a, b, c⟩ := h.ex
  rcases c with ⟨rfl, rfl⟩ | ⟨o, rfl, h1, h2⟩
  · exact .inl ⟨rfl, List.eq_nil_of_length_eq_zero (by simpa using hl.symm), rfl⟩
  · exact .inr ⟨o, rfl, h1, objAt_lt h1⟩
theorem Grow.frame (h : Grow s v sz A ts) (f : ∀ o, o < s.length → objAt S o = objAt s o) : Grow S v sz A ts := by
  obtain ⟨os, a, b, c⟩ := h.ex
  refine ⟨os, a.frame fun q hq => f q (a.lt q hq), b, ?_⟩
  rcases c with c | ⟨o, rfl, h1, h2⟩
  · exact .inl c
  · exact .inr ⟨o, rfl, (f o (objAt_lt h1)).trans h1, h2⟩
theorem Grow.fin (h : Grow s v sz A ts) : Fin s v (.sl sz ts) := by
  have hl := h.len
  obtain ⟨os, a, b, c⟩ := h.ex
  rcases c with ⟨rfl, rfl⟩ | ⟨o, rfl, h1, h2⟩
  · have : ts = [] := List.eq_nil_of_length_eq_zero (by simpa using hl.symm)
    subst this; exact fin_nil
  · rw [hl]
    refine fin_of (os := o :: os) ?_ (List.nodup_cons.2 ⟨h2, b⟩)
    simp only [OwV]
    exact .inr ⟨o, A, os, rfl, h1, rfl, a⟩
theorem Grow.app {cs tcs : List V} {os2 : List Nat} {id2 : Nat} (h : Grow s v sz A ts) (hs : ∀ o, o < s.length → objAt s1 o = objAt s o) (hl : s.length ≤ s1.length) (g : Got s1 σ2 (.agg cs) (.agg tcs) os2)
    (h0 : s.length ≤ id2) (hid : id2 < s1.length) (h2 : objAt S id2 = some ⟨sz, A ++ [cs]⟩)
    (hf : ∀ q, q ≠ id2 → (q < s.length ∨ s1.length ≤ q) → (∀ n, v ≠ .msl q 0 n) → objAt S q = objAt σ2 q) : Grow S (.msl id2 0 (A.length + 1)) sz (A ++ [cs]) (ts ++ [tcs]) := by
  obtain ⟨os, a, b, c⟩ := h.ex
  have a' := a.frame (σ' := σ2) fun q hq => by
    have := a.lt q hq
    rw [g.old q (by omega), hs q this]
  obtain ⟨cs', e, hc⟩ := g.ow.agg_inv
  cases e
  have hlt := a.lt
  have hv : ∀ q ∈ os ++ os2, ∀ n, v ≠ .msl q 0 n := by
    intro q hq n
    rcases c with ⟨_, rfl⟩ | ⟨o, rfl, h1, h2⟩
    · simp
    · intro e
      have e2 : o = q := by injection e
      rw [e2] at h1 h2
      rcases List.mem_append.1 hq with hq | hq
      · exact h2 hq
      · have := g.fresh q hq
        have := objAt_lt h1
        omega
  have hne : ∀ q ∈ os ++ os2, q ≠ id2 ∧ (q < s.length ∨ s1.length ≤ q) := by
    intro q hq
    rcases List.mem_append.1 hq with hq | hq
    · have := hlt q hq; exact ⟨by omega, by omega⟩
    · have := g.fresh q hq; exact ⟨by omega, by omega⟩
  have fr : ∀ q ∈ os ++ os2, objAt S q = objAt σ2 q := fun q hq => hf q (hne q hq).1 (hne q hq).2 (hv q hq)
  refine ⟨os ++ os2, owR_append (a'.frame fun q hq => fr q (List.mem_append_left _ hq)) (owR_1 (hc.frame fun q hq => fr q (List.mem_append_right _ hq))), ?_, .inr ⟨id2, by simp, h2, fun hm => (hne id2 hm).1 rfl⟩⟩
  rw [List.nodup_append]
  refine ⟨b, g.nd, fun x hx y hy e => ?_⟩
  have := hlt x hx
  have := g.fresh y hy
  omega
end
theorem Got.finSet {s σ2 : Store} {r t : V} {os : List Nat} (g : Got s σ2 r t os) {o : Nat} {x : Option Obj} (h : o < s.length) : Fin (σ2.set o x) r t :=
  fin_of (g.ow.frame fun q hq => objAt_setne (by have := g.fresh q hq; omega)) g.nd
end Go.Ml
end
section
set_option linter.unusedSimpArgs false
set_option linter.unusedVariables false
namespace Go.Ml
structure Ep (s : Store) (cs ts : List V) (os : List Nat) (L : List (Nat × Obj)) : Prop where
  c : Cs s cs ts os
  l : ∀ q ∈ L, objAt s q.1 = some q.2 ∧ q.1 ∉ os
section
variable {s σ2 : Store} {cs ts : List V} {os os2 : List Nat} {L : List (Nat × Obj)}
theorem Ep.lt (E : Ep s cs ts os L) : ∀ q ∈ L, q.1 < s.length := fun q hq => objAt_lt (E.l q hq).1
theorem Ep.snoc (E : Ep s cs ts os L) {x : Option Obj} : Ep (s ++ [x]) cs ts os L := ⟨E.c.snoc, fun q hq => ⟨(objAt_snoc_lt (E.lt q hq)).trans (E.l q hq).1, (E.l q hq).2⟩⟩
theorem Ep.res (E : Ep s cs ts os L) (c : Nat) {v t : V} (hv : cs[c]? = some v) (ht : ts[c]? = some t) (hd : DepLe FD t) : resolve s FD v = some t := E.c.res c hv ht hd
theorem Ep.res1 (E : Ep s cs ts os L) (c : Nat) {v t : V} (hv : cs[c]? = some v) (ht : ts[c]? = some t) (hd : DepLe 11 t) : resolve s 11 v = some t := by
  obtain ⟨vc, oc, j1, j2, _⟩ := E.c.ow.focus c t E.c.nd ht
  rw [hv] at j1
  cases j1
  exact ow_res 11 j2 hd
theorem Ep.leaf (E : Ep s cs ts os L) (c : Nat) {v t : V} (hv : cs[c]? = some v) (ht : ts[c]? = some t) (hl : t.leaf = true := by rfl) : v.leaf = true := by
  obtain ⟨vc, oc, j1, j2, _⟩ := E.c.ow.focus c t E.c.nd ht
  rw [hv] at j1
  cases j1
  exact j2.leaf hl
theorem Ep.got {s1 : Store} {rs trs : List V} (E : Ep s cs ts os L) (h1 : ∀ o, o < s.length → objAt s1 o = objAt s o) (hl : s.length ≤ s1.length) (ho : OwL σ2 rs trs os2) (hn : os2.Nodup) (hf : ∀ o ∈ os2, s1.length ≤ o)
    (old : ∀ o, o < s1.length → objAt σ2 o = objAt s1 o) : Ep σ2 (cs ++ rs) (ts ++ trs) (os ++ os2) L := by
  have hlt := E.c.lt
  refine ⟨⟨owL_append (E.c.ow.frame fun q hq => ?_) ho, ?_⟩, fun q hq => ⟨?_, ?_⟩⟩
  · have := hlt q hq
    rw [old q (by omega), h1 q this]
  · rw [List.nodup_append]
    refine ⟨E.c.nd, hn, fun x hx y hy e => ?_⟩
    have := hlt x hx
    have := hf y hy
    omega
  · have := E.lt q hq
    rw [old _ (by omega), h1 _ this]; exact (E.l q hq).1
  · intro hm
    have := E.lt q hq
    rcases List.mem_append.1 hm with hm | hm
    · exact (E.l q hq).2 hm
    · have := hf _ hm; omega
theorem Ep.free {s1 : Store} (E : Ep s cs ts os L) {p : Nat} (hf : ∀ o ∈ os2, s1.length ≤ o) (h0 : s.length ≤ p) (h1 : p < s1.length) : p ∉ os ++ os2 := by
  intro hm
  rcases List.mem_append.1 hm with hm | hm
  · have := E.c.lt p hm; omega
  · have := hf p hm; omega
theorem Ep.loc {p : Nat} {ob : Obj} (E : Ep s cs ts os L) (hp : p ∉ os) (hl : p < s.length) (hL : ∀ q ∈ L, q.1 ≠ p) : Ep (s.set p (some ob)) cs ts os (L ++ [(p, ob)]) := by
  refine ⟨E.c.set hp, fun q hq => ?_⟩
  rcases List.mem_append.1 hq with hq | hq
  · exact ⟨(objAt_setne (hL q hq)).trans (E.l q hq).1, (E.l q hq).2⟩
  · simp only [List.mem_cons, List.not_mem_nil, or_false] at hq
    subst hq
    exact ⟨objAt_seteq hl, hp⟩
theorem Ep.call {T : Nat → Option Fn} {f : Nat} {t t' v : V} {k k' : Int} (E : Ep s cs ts os L) (c : Nat) (hm : Mk T f t k t' k') (hv : cs[c]? = some v) (ht : ts[c]? = some t) :
    ∃ s', Run T (.fn f [v, .int .i64 k] s) (.fn (.int .i64 k') s') ∧ Ep s' cs (ts.set c t') os L ∧ s.length ≤ s'.length := by
  obtain ⟨s', h1, h2, h3⟩ := E.c.call c hm hv ht
  exact ⟨s', h1, ⟨h2, fun q hq => ⟨(h3.old _ (E.lt q hq) (E.l q hq).2).trans (E.l q hq).1, (E.l q hq).2⟩⟩, h3.len⟩
theorem Ep.part {T : Nat → Option Fn} {f : Nat} {t2 t2' r2 : List V} {k k' : Int} (E : Ep s cs ts os L) (n m : Nat) (hm : Mk T f (.agg t2) k (.agg t2') k') (hr : (cs.drop n).take m = r2) (ht : (ts.drop n).take m = t2) (hn : n + m ≤ ts.length) :
    ∃ s', Run T (.fn f [.agg r2, .int .i64 k] s) (.fn (.int .i64 k') s') ∧ Ep s' cs (ts.take n ++ t2' ++ ts.drop (n + m)) os L ∧ s.length ≤ s'.length := by
  obtain ⟨s', h1, h2, h3⟩ := E.c.part n m hm ht hn
  rw [hr] at h1
  exact ⟨s', h1, ⟨h2, fun q hq => ⟨(h3.old _ (E.lt q hq) (E.l q hq).2).trans (E.l q hq).1, (E.l q hq).2⟩⟩, h3.len⟩
theorem Ep.at0 {p : Nat} {ob : Obj} (E : Ep s cs ts os L) (h : (p, ob) ∈ L) : objAt s p = some ob ∧ p < s.length := ⟨(E.l _ h).1, E.lt _ h⟩
end
section
variable {σ : Store} {os : List Nat}
theorem OwL.rat {cs : List V} {x : R} (h : OwL σ cs x.cells os) : ∃ c1 c2, cs = [.bool x.neg, c1, c2] := by
  obtain ⟨cs, rfl, h1⟩ := h.bool_inv
  match cs, h1.len with
  | [a, b], _ => exact ⟨a, b, rfl⟩
theorem OwL.cd {cs : List V} {x : Cd} (h : OwL σ cs x.cells os) : ∃ c2 c3 c4, cs = [iv x.node, .bool x.total.neg, c2, c3, c4] := by
  obtain ⟨cs, rfl, h1⟩ := h.int_inv
  obtain ⟨cs, rfl, h2⟩ := h1.bool_inv
  match cs, h2.len with
  | [a, b, c], _ => exact ⟨a, b, c, rfl⟩
theorem OwL.tr {cs : List V} {x : List Tn} (h : OwL σ cs [tnsV x] os) : ∃ c0, cs = [c0] := by
  match cs, h.len with
  | [a], _ => exact ⟨a, rfl⟩
theorem owL_1 {v t : V} (h : OwV σ v t os) : OwL σ [v] [t] os := by simpa using owL_v h owL_nil
end
end Go.Ml
namespace Go.Ml
theorem numK_any (l : List Nat) (k : List Nat → Prop) : numK l k = k l := nr rfl
theorem or_sc (p : Prop) : (p ∨ True) = True := by simp
theorem Ep.reloc {s : Store} {cs ts : List V} {os : List Nat} {L L' : List (Nat × Obj)} {p : Nat} {ob : Obj} (E : Ep s cs ts os L) (hp : p ∉ os) (hl : p < s.length) (h : ∀ q ∈ L', (q.1 ≠ p ∧ q ∈ L) ∨ q = (p, ob)) :
    Ep (s.set p (some ob)) cs ts os L' := by
  refine ⟨E.c.set hp, fun q hq => ?_⟩
  rcases h q hq with ⟨h1, h2⟩ | rfl
  · exact ⟨(objAt_setne h1).trans (E.l q h2).1, (E.l q h2).2⟩
  · exact ⟨objAt_seteq hl, hp⟩
end Go.Ml
namespace Go.Ml
def sh (n0 n x : Nat) : Nat := if x < n0 then x else x + (n - n0)
end Go.Ml
namespace Go.Ml
end Go.Ml
end
section
set_option linter.unusedSimpArgs false
set_option linter.unusedVariables false
namespace Go.Ml
def FinW (σ : Store) (r : V) (ts : List (Bool × V)) : Prop := ∃ W σ2 vs os, ReS W σ σ2 ∧ CanV W σ r (.tup vs) ∧ OwX σ2 vs ts os ∧ os.Nodup
theorem px_endW {T : Nat → Option Fn} {f : Nat} {F : Fn} {args : List V} {ts : List (Bool × V)} (rf : Nat → Nat → Bool) (hT : T f = some F) (hl : args.length = F.nargs) (hk : F.body.okC = true)
    (h : wp T rf F.body (fun e st => endW F.res e (fun r σ => FinX σ r ts ∨ FinW σ r ts) st) (St.enter args [])) : PX T f args ts := by
  obtain ⟨r, σ', h1, h2⟩ := run_end rf hT hl hk h
  rcases h2 with ⟨vs, os, h2, h3, h4⟩ | ⟨W, σ2, vs, os, h2, h3, h4, h5⟩
  · exact ⟨vs, σ', os, .laxF (laxL_refl _) h1 h2, h3, h4⟩
  · exact ⟨vs, σ2, os, .reF W (laxL_refl _) h1 h2 h3, h4, h5⟩
theorem finX_of {σ : Store} {v w t u : V} {os : List Nat} (h : OwV σ v t os) (hn : os.Nodup) (hr : resolve σ FD w = some u) : FinX σ (.tup [v, w]) [(true, t), (false, u)] := by
  refine ⟨[v, w], os, laxV_refl _, ?_, hn⟩
  simp only [OwX, if_true, Bool.false_eq_true, if_false]
  exact ⟨v, [w], os, [], rfl, by simp, h, w, [], [], [], rfl, rfl, ⟨hr, rfl⟩, rfl, rfl⟩
theorem trim_take (l : List Int) : trim l = l.take (trim l).length ∧ (trim l).length ≤ l.length := by
  have h := trimN_le l l.length
  have e2 : (trim l).length = trimN l l.length := by unfold trim; rw [List.length_take]; omega
  exact ⟨by rw [e2]; rfl, by omega⟩
theorem reS_cut {Q : List Int} {n : Nat} (h : n ≤ Q.length) : ReS [some (0, 0, n)] [some ⟨1, irows Q⟩] [some ⟨1, irows (Q.take n)⟩] := by
  refine ⟨rfl, fun i j o s l s' l' h1 h2 => ?_, fun k o s l hk => ?_, fun k hk => ?_⟩
  · cases i with
    | zero => cases j with
      | zero => rfl
      | succ j => simp at h2
    | succ i => simp at h1
  · cases k with
    | succ k => simp at hk
    | zero =>
      simp only [List.getElem?_cons_zero, Option.some.injEq, Prod.mk.injEq] at hk
      obtain ⟨rfl, rfl, rfl⟩ := hk
      refine ⟨⟨1, irows Q⟩, ⟨1, irows (Q.take n)⟩, rfl, by rw [ir_len]; omega, rfl, rfl, by rw [ir_len, List.length_take]; omega, fun i r r2 h1 h2 => ?_⟩
      have hi : i < n := by
        have := (List.getElem?_eq_some_iff.1 h2).1
        rw [ir_len, List.length_take] at this; omega
      have e : r2 = r := by
        rw [Nat.zero_add] at h1
        simp only [irows, List.getElem?_map] at h1 h2
        rw [List.getElem?_take_of_lt hi, h1] at h2
        exact (Option.some.inj h2).symm
      subst e
      refine canL_still fun v hv => ir_still Q r2 ?_ v hv
      exact List.mem_of_getElem? h1
  · cases k <;> simp at hk
theorem finW_cut {Q : List Int} {n : Nat} {t u : V} (h : n ≤ Q.length) (ht : t = ints (Q.take n)) (hu : u.still = true) : FinW [some ⟨1, irows Q⟩] (.tup [.msl 0 0 n, u]) [(true, t), (false, u)] := by
  subst ht
  refine ⟨[some (0, 0, n)], [some ⟨1, irows (Q.take n)⟩], [.msl 0 0 n, u], [0], reS_cut h, ?_, ?_, by simp⟩
  · simp only [CanV, CanL]
    exact ⟨_, rfl, _, _, rfl, .inl ⟨0, 0, n, rfl, Nat.le_refl _, by omega, rfl⟩, _, _, rfl, canV_still hu, rfl⟩
  · simp only [OwX, if_true, Bool.false_eq_true, if_false]
    refine ⟨_, [u], [0], [], rfl, rfl, ?_, u, [], [], [], rfl, rfl, ⟨res_still (n := 11) hu, rfl⟩, rfl, rfl⟩
    have := owV_ints (σ := [some ⟨1, irows (Q.take n)⟩]) (o := 0) (l := Q.take n) rfl
    rwa [List.length_take, Nat.min_eq_left h] at this
end Go.Ml
end
section
set_option linter.unusedSimpArgs false
set_option linter.unusedVariables false
namespace Go.Ml
theorem mapO_ints (g : Nat → Option Nat) (l : List Int) : mapO g ⟨1, irows l⟩ = ⟨1, irows l⟩ := by
  unfold mapO
  congr 1
  simp only [irows, List.map_map]
  rfl
theorem RefK_refI {T : Nat → Option Fn} {f : Nat} {as : List Src} {dst : Option Nat} {env : Nat → V} {σ : Store} {kp bs : Nat} {rs ms : List Nat} {k : St → Prop} {ρ : List Nat} {as' : List V} {r : V} {σ' : Store} (hn : ρ.Nodup)
    (hρ : ∀ o, o ∈ ρ → ∃ l, objAt σ o = some ⟨1, irows l⟩) (ha : (as.map fun s => mapV (place ρ) (s.ev env)) = as') (hr : Run T (.fn f as' (gcS ρ σ)) (.fn r σ'))
    (hold : ∀ q, q < ρ.length → objAt σ' q = objAt (gcS ρ σ) q) (hk : ∀ σ2 : Store, (∀ q, q < σ.length → objAt σ2 q = objAt σ q) → σ.length ≤ σ2.length → k ⟨updO env dst (mapV (back ρ σ.length) r), σ2, kp, bs, rs, ms⟩) :
    RefK T f as dst ⟨env, σ, kp, bs, rs, ms⟩ k := by
  subst ha
  refine ⟨_, .ref ρ hn (fun o ho => by obtain ⟨l, h⟩ := hρ o ho; rw [h]; rfl) hr, ?_⟩
  refine hk _ (fun q hq => ?_) (by simp [putBack])
  have e1 : objAt (putBack ρ σ σ') q = ((σ.mapIdx fun o ob => match place ρ o with
      | some j => (objAt σ' j).map (mapO (back ρ σ.length))
      | none => ob)[q]?).getD none := by
    show ((putBack ρ σ σ')[q]?).getD none = _
    unfold putBack
    rw [List.getElem?_append_left (by simpa using hq)]
    rfl
  show objAt (putBack ρ σ σ') q = _
  rw [e1, List.getElem?_mapIdx, List.getElem?_eq_getElem hq]
  simp only [Option.map_some, Option.getD_some]
  cases hp : place ρ q with
  | none => simp [objAt, List.getElem?_eq_getElem hq]
  | some j =>
    have hj := place_some hp
    have hlt := (List.getElem?_eq_some_iff.1 hj).1
    simp only []
    rw [hold j hlt, objAt_gcS, hj]
    obtain ⟨l, hl⟩ := hρ q (List.mem_of_getElem? hj)
    simp only [hl, Option.map_some, mapO_ints]
end Go.Ml
namespace Go.Ml
theorem reach_ints {σ : Store} {v : V} {l : List Int} {os : List Nat} (h : OwV σ v (ints l) os) : ∀ n, ∀ o ∈ reach σ n v, o ∈ os := by
  intro n o ho
  rcases h.ints_inv with ⟨_, rfl, _⟩ | ⟨q, rfl, h1, rfl⟩
  · cases n <;> simp [reach] at ho
  · cases n with
    | zero => simp [reach] at ho
    | succ n =>
      simp only [reach, h1, List.mem_cons, List.mem_flatMap] at ho
      rcases ho with rfl | ⟨r, hr, c, hc, ho⟩
      · simp
      · have hs := ir_still l r hr c hc
        cases n with
        | zero => simp [reach] at ho
        | succ n => rw [reach_still hs] at ho; cases ho
theorem reach_agg {σ : Store} {n : Nat} {cs : List V} {o : Nat} : o ∈ reach σ (n + 1) (.agg cs) ↔ ∃ c ∈ cs, o ∈ reach σ n c := by
  simp [reach, List.mem_flatMap]
theorem OwnK_gotP {T : Nat → Option Fn} {f : Nat} {as : List Src} {dst : Option Nat} {env : Nat → V} {σ : Store} {kp bs : Nat} {rs ms : List Nat} {k : List Nat → St → Prop} {as' : List V} {t : V} (P : Nat → Prop) (h : PO T f as' t)
    (ha : resK env σ as (· = as')) (hr : ∀ o ∈ reachAll env σ as, P o) (hk : ∀ R r σ2 os, (∀ o ∈ R, P o) → Got σ σ2 r t os → k R ⟨updO env dst r, σ2, kp, bs, rs, ms⟩) : OwnK T f as dst ⟨env, σ, kp, bs, rs, ms⟩ k :=
  OwnK_got h ha fun r σ2 os g => hk _ r σ2 os hr g
end Go.Ml
namespace Go.Ml
theorem Ep.push {s : Store} {cs ts : List V} {os : List Nat} {L : List (Nat × Obj)} {ob : Obj} (E : Ep s cs ts os L) : Ep (s ++ [some ob]) cs ts os (L ++ [(s.length, ob)]) := by
  refine ⟨E.c.snoc, fun q hq => ?_⟩
  rcases List.mem_append.1 hq with hq | hq
  · exact E.snoc.l q hq
  · simp only [List.mem_cons, List.not_mem_nil, or_false] at hq
    subst hq
    exact ⟨objAt_snoc _ _, fun hm => absurd (E.c.lt _ hm) (Nat.lt_irrefl _)⟩
theorem Ep.reach {s : Store} {cs ts : List V} {os : List Nat} {L : List (Nat × Obj)} (E : Ep s cs ts os L) (c : Nat) {v : V} {l : List Int} (hv : cs[c]? = some v) (ht : ts[c]? = some (ints l)) (n : Nat) : ∀ o ∈ reach s n v, o ∈ os := by
  intro o ho
  obtain ⟨vc, oc, j1, j2, _, j4, _⟩ := E.c.ow.focus c _ E.c.nd ht
  rw [hv] at j1
  cases j1
  exact j4 o (reach_ints j2 n o ho)
end Go.Ml
end
section
set_option linter.unusedSimpArgs false
set_option linter.unusedVariables false
set_option maxRecDepth 100000
namespace Go.Ml
def F_laws_toIntS : Fn := ⟨1, 22, [.tmp 2], (.seq (.reg false 0 [oN 2 (.mov (.c (.nils)))]) (.seq (.reg false 1 [oK 5 1 (oV 0), oK 6 1 (.len (.t 5)), oN 7 (.make [.int .i64 0] 8 (.t 6)), oK 3 1 (oV 7)]) (.seq (.seq (.reg false 0 [oN 4 (.mov (cI 0))]) (.block 0 (.loop (.seq (.seq (.reg false 0 [oN 8 (oV 4), oN 9 (oV 0), oN 10 (.len (.t 9)), oN 11 (.bin .lss (.t 8) (.t 10))]) (.cond (.t 11) .skip (.exit 0))) (.seq (.block 1 (.reg false 0 [oN 14 (oV 3), oN 15 (oV 4), oN 16 (oV 0), oN 17 (oV 4), oN 18 (.idx 1 (.t 16) (.t 17)), oN 19 (.load 1 false (.t 18)), oN 20 (.idx 1 (.t 14) (.t 15)), oS (.store 1 (.t 20) (.t 19))])) (.reg false 0 [oN 12 (oV 4), oN 13 (.bin .add (.t 12) (cI 1)), oN 4 (oV 13)])))))) (.seq (.reg false 0 [oN 21 (oV 3), oN 2 (oV 21)]) .ret))))⟩
structure D_laws_toIntS (T : Nat → Option Fn) : Prop where
  hT : T 6 = some F_laws_toIntS
def F_laws_eqIntS : Fn := ⟨2, 26, [.tmp 4], (.seq (.reg false 0 [oN 4 (.mov (.c (.bool false)))]) (.seq (.seq (.reg false 0 [oN 6 (oV 0), oN 7 (.len (.t 6)), oN 8 (oV 1), oN 9 (.len (.t 8)), oN 10 (.bin .neq (.t 7) (.t 9))]) (.cond (.t 10) (.seq (.reg false 0 [oN 4 (.mov (.c (.bool false)))]) .ret) .skip)) (.seq (.seq (.reg false 0 [oN 5 (.mov (cI 0))]) (.block 0 (.loop (.seq (.seq (.reg false 0 [oN 11 (oV 5), oN 12 (oV 0), oN 13 (.len (.t 12)), oN 14 (.bin .lss (.t 11) (.t 13))]) (.cond (.t 14) .skip (.exit 0))) (.seq (.block 1 (.seq (.reg true 0 [oN 17 (oV 0), oN 18 (oV 5), oA 19 0 (.idx 1 (.t 17) (.t 18)) [0, 1], oA 20 0 (.load 1 false (.t 19)) [2], oN 21 (oV 1), oN 22 (oV 5), oA 23 0 (.idx 1 (.t 21) (.t 22)) [4, 5], oA 24 0 (.load 1 false (.t 23)) [6], oA 25 0 (.bin .neq (.t 20) (.t 24)) [3, 7]]) (.cond (.t 25) (.seq (.reg false 0 [oN 4 (.mov (.c (.bool false)))]) .ret) .skip))) (.reg false 0 [oN 15 (oV 5), oN 16 (.bin .add (.t 15) (cI 1)), oN 5 (oV 16)])))))) (.seq (.reg false 0 [oN 4 (.mov (.c (.bool true)))]) .ret))))⟩
structure D_laws_eqIntS (T : Nat → Option Fn) : Prop where
  hT : T 8 = some F_laws_eqIntS
def F_laws_szIntS : Fn := ⟨2, 12, [.tmp 4], (.seq (.reg false 0 [oN 4 (.mov (cI 0))]) (.seq (.reg false 0 [oN 5 (oV 1), oN 6 (oV 0), oN 7 (.len (.t 6)), oN 8 (.bin .sub (.t 5) (.t 7)), oN 1 (oV 8)]) (.seq (.seq (.reg false 0 [oN 9 (oV 1), oN 10 (.bin .lss (.t 9) (cI 0))]) (.cond (.t 10) (.seq (.reg false 0 [oN 4 (.mov (cI (-1)))]) .ret) .skip)) (.seq (.reg false 0 [oN 11 (oV 1), oN 4 (oV 11)]) .ret))))⟩
structure D_laws_szIntS (T : Nat → Option Fn) : Prop where
  hT : T 61 = some F_laws_szIntS
def F_laws_szBigInt : Fn := ⟨2, 12, [.tmp 4], (.seq (.reg false 1 [oN 2 (.box (.t 0)), oK 4 1 (.mov (cI 0))]) (.seq (.reg false 0 [oN 5 (.fld 1 (.t 2)), oN 6 (.load 1 false (.t 5)), oN 7 (oV 1), oN 8 (.call 61 [(.t 6), (.t 7)]), oN 1 (oV 8)]) (.seq (.seq (.reg false 0 [oN 9 (oV 1), oN 10 (.bin .lss (.t 9) (cI 0))]) (.cond (.t 10) (.seq (.reg false 0 [oN 4 (.mov (cI (-1)))]) .ret) .skip)) (.seq (.reg false 0 [oN 11 (oV 1), oN 4 (oV 11)]) .ret))))⟩
structure D_laws_szBigInt (T : Nat → Option Fn) : Prop where
  hT : T 60 = some F_laws_szBigInt
  d_laws_szIntS : D_laws_szIntS T
def F_laws_szRat : Fn := ⟨2, 18, [.tmp 4], (.seq (.reg false 1 [oN 2 (.box (.t 0)), oK 4 1 (.mov (cI 0))]) (.seq (.reg false 0 [oN 5 (.fld 0 (.t 2)), oN 6 (.load 2 true (.t 5)), oN 7 (oV 1), oN 8 (.call 60 [(.t 6), (.t 7)]), oN 1 (oV 8)]) (.seq (.seq (.reg false 0 [oN 9 (oV 1), oN 10 (.bin .lss (.t 9) (cI 0))]) (.cond (.t 10) (.seq (.reg false 0 [oN 4 (.mov (cI (-1)))]) .ret) .skip)) (.seq (.reg false 0 [oN 11 (.fld 2 (.t 2)), oN 12 (.load 1 false (.t 11)), oN 13 (oV 1), oN 14 (.call 61 [(.t 12), (.t 13)]), oN 1 (oV 14)]) (.seq (.seq (.reg false 0 [oN 15 (oV 1), oN 16 (.bin .lss (.t 15) (cI 0))]) (.cond (.t 16) (.seq (.reg false 0 [oN 4 (.mov (cI (-1)))]) .ret) .skip)) (.seq (.reg false 0 [oN 17 (oV 1), oN 4 (oV 17)]) .ret))))))⟩
structure D_laws_szRat (T : Nat → Option Fn) : Prop where
  hT : T 46 = some F_laws_szRat
  d_laws_szBigInt : D_laws_szBigInt T
  d_laws_szIntS : D_laws_szIntS T
def F_laws_toBigInt : Fn := ⟨1, 12, [.cell 2 2 true], (.seq (.reg false 2 [oN 1 (.box (.t 0)), oK 2 1 (.alloc [.bool false, .nils])]) (.seq (.reg false 1 [oN 3 (.alloc [.bool false, .nils])]) (.seq (.reg false 0 [oN 4 (.fld 0 (.t 1)), oN 5 (.load 1 false (.t 4)), oN 6 (.fld 0 (.t 3)), oS (.store 1 (.t 6) (.t 5))]) (.seq (.reg false 0 [oN 7 (.fld 1 (.t 1)), oN 8 (.load 1 false (.t 7)), oN 9 (.call 6 [(.t 8)]), oN 10 (.fld 1 (.t 3)), oS (.store 1 (.t 10) (.t 9))]) (.seq (.reg false 0 [oN 11 (.load 2 true (.t 3)), oS (.store 2 (.t 2) (.t 11))]) .ret)))))⟩
structure D_laws_toBigInt (T : Nat → Option Fn) : Prop where
  hT : T 63 = some F_laws_toBigInt
  d_laws_toIntS : D_laws_toIntS T
def F_laws_toRat : Fn := ⟨1, 13, [.cell 2 3 true], (.seq (.reg false 2 [oN 1 (.box (.t 0)), oK 2 1 (.alloc [.bool false, .nils, .nils])]) (.seq (.reg false 1 [oN 3 (.alloc [.bool false, .nils, .nils])]) (.seq (.reg false 0 [oN 4 (.fld 0 (.t 1)), oN 5 (.load 2 true (.t 4)), oN 6 (.call 63 [(.t 5)]), oN 7 (.fld 0 (.t 3)), oS (.store 2 (.t 7) (.t 6))]) (.seq (.reg false 0 [oN 8 (.fld 2 (.t 1)), oN 9 (.load 1 false (.t 8)), oN 10 (.call 6 [(.t 9)]), oN 11 (.fld 2 (.t 3)), oS (.store 1 (.t 11) (.t 10))]) (.seq (.reg false 0 [oN 12 (.load 3 true (.t 3)), oS (.store 3 (.t 2) (.t 12))]) .ret)))))⟩
structure D_laws_toRat (T : Nat → Option Fn) : Prop where
  hT : T 48 = some F_laws_toRat
  d_laws_toIntS : D_laws_toIntS T
  d_laws_toBigInt : D_laws_toBigInt T
def F_laws_eqBigInt : Fn := ⟨2, 16, [.tmp 4], (.seq (.reg false 2 [oN 2 (.box (.t 0)), oK 3 1 (.box (.t 1)), oK 4 2 (.mov (.c (.bool false)))]) (.seq (.seq (.reg false 0 [oN 5 (.fld 0 (.t 2)), oN 6 (.load 1 false (.t 5)), oN 7 (.fld 0 (.t 3)), oN 8 (.load 1 false (.t 7)), oN 9 (.beq true (.t 6) (.t 8))]) (.cond (.t 9) (.seq (.reg false 0 [oN 4 (.mov (.c (.bool false)))]) .ret) .skip)) (.seq (.seq (.reg false 0 [oN 10 (.fld 1 (.t 2)), oN 11 (.load 1 false (.t 10)), oN 12 (.fld 1 (.t 3)), oN 13 (.load 1 false (.t 12)), oN 14 (.call 8 [(.t 11), (.t 13)]), oN 15 (.un .not (.t 14))]) (.cond (.t 15) (.seq (.reg false 0 [oN 4 (.mov (.c (.bool false)))]) .ret) .skip)) (.seq (.reg false 0 [oN 4 (.mov (.c (.bool true)))]) .ret))))⟩
structure D_laws_eqBigInt (T : Nat → Option Fn) : Prop where
  hT : T 55 = some F_laws_eqBigInt
  d_laws_eqIntS : D_laws_eqIntS T
def F_laws_eqRat : Fn := ⟨2, 17, [.tmp 4], (.seq (.reg false 2 [oN 2 (.box (.t 0)), oK 3 1 (.box (.t 1)), oK 4 2 (.mov (.c (.bool false)))]) (.seq (.seq (.reg false 0 [oN 5 (.fld 0 (.t 2)), oN 6 (.load 2 true (.t 5)), oN 7 (.fld 0 (.t 3)), oN 8 (.load 2 true (.t 7)), oN 9 (.call 55 [(.t 6), (.t 8)]), oN 10 (.un .not (.t 9))]) (.cond (.t 10) (.seq (.reg false 0 [oN 4 (.mov (.c (.bool false)))]) .ret) .skip)) (.seq (.seq (.reg false 0 [oN 11 (.fld 2 (.t 2)), oN 12 (.load 1 false (.t 11)), oN 13 (.fld 2 (.t 3)), oN 14 (.load 1 false (.t 13)), oN 15 (.call 8 [(.t 12), (.t 14)]), oN 16 (.un .not (.t 15))]) (.cond (.t 16) (.seq (.reg false 0 [oN 4 (.mov (.c (.bool false)))]) .ret) .skip)) (.seq (.reg false 0 [oN 4 (.mov (.c (.bool true)))]) .ret))))⟩
structure D_laws_eqRat (T : Nat → Option Fn) : Prop where
  hT : T 40 = some F_laws_eqRat
  d_laws_eqIntS : D_laws_eqIntS T
  d_laws_eqBigInt : D_laws_eqBigInt T
theorem c_szIntS {T : Nat → Option Fn} (h : D_laws_szIntS T) {l : List Int} {left : Int} (hl : l.length ≤ 9223372036854775807 := by first | omega | assumption | (simp; omega)) (h0 : 0 ≤ left ∧ left ≤ 1048576 := by first | omega | assumption | (simp; omega)) : PF T 61 [ints l, iv left] (iv (szr left l.length)) := by
  refine pf_end (fun _ _ => false) h.hT rfl rfl ?_
  dsimp only [F_laws_szIntS, oN, oS, oG, oK, oA, oH, oV, cI]
  (refine ev ?_; try with_reducible exact True.intro)
  refine brK_dec (fun hb => ?_) fun hb => ?_ <;> (refine ev1 @hb ?_; try with_reducible exact True.intro)
  · simp [szr]; omega
  · simp [szr]; omega
theorem c_toIntS {T : Nat → Option Fn} (h : D_laws_toIntS T) {l : List Int} (hl : l.length ≤ 1048576 := by first | omega | assumption | (simp; omega)) : PF T 6 [ints l] (ints l) := by
  refine pf_end (fun _ _ => false) h.hT rfl rfl ?_
  dsimp only [F_laws_toIntS, oN, oS, oG, oK, oA, oH, oV, cI]
  (refine ev ?_; try with_reducible exact True.intro)
  refine ⟨by omega, ?_⟩
  rw [ir_rep]
  refine loop_at (fun _ _ => false) (α := Nat) (fun i => ⟨argE [ints l, .any, .any, .msl 0 0 l.length, iv (i : Nat)], [some ⟨1, irows (fillTo l 0 i)⟩], 0, 0, [], []⟩) (fun i => i ≤ l.length) (fun i => l.length - i) rfl 0 ?_ ?_ ?_
  · omega
  · (refine Fg_env ?_) <;> (try (refine ev1 @fillTo_zero ?_; try with_reducible exact True.intro)) <;> (repeat' (first | refine ⟨?_, ?_⟩ | exact EvV_int (by omega) | exact EvV_of (by simp) | exact EvV_nil _))
  · intro i hi
    have e1 := fillTo_len l 0 hi
    (refine ev1 @e1 ?_; try with_reducible exact True.intro)
    refine brK_dec (fun hb => ?_) fun hb => ?_ <;> (refine ev2 @hb @e1 ?_; try with_reducible exact True.intro)
    · have e2 := fillTo_set l 0 (i := i) (by omega)
      have e3 : (default : Int) = 0 := rfl
      rw [e3] at e2
      rw [e2]
      exact ⟨i + 1, by omega, by omega, by (refine Fg_env ?_) <;> (try (refine ev ?_; try with_reducible exact True.intro)) <;> (repeat' (first | refine ⟨?_, ?_⟩ | exact EvV_int (by omega) | exact EvV_of (by simp) | exact EvV_nil _))⟩
    · have : i = l.length := by omega
      subst this
      rw [fillTo_all]
theorem c_eqIntS {T : Nat → Option Fn} (h : D_laws_eqIntS T) {a b : List Int} (hl : a.length ≤ 9223372036854775807 := by first | omega | assumption | (simp; omega)) (hb : b.length ≤ 9223372036854775807 := by first | omega | assumption | (simp; omega)) : PF T 8 [ints a, ints b] (.bool (decide (a = b))) := by
  refine pf_end (fun _ _ => false) h.hT rfl rfl ?_
  dsimp only [F_laws_eqIntS, oN, oS, oG, oK, oA, oH, oV, cI]
  (refine ev ?_; try with_reducible exact True.intro)
  refine brK_dec (fun h1 => ?_) fun h1 => ?_ <;> (refine ev1 @h1 ?_; try with_reducible exact True.intro)
  · have h1 : a.length = b.length := by omega
    refine loop_at (fun _ _ => false) (α := Nat) (fun i => ⟨argE [ints a, ints b, .any, .any, .any, iv (i : Nat)], [], 0, 0, [], []⟩) (fun i => i ≤ a.length ∧ ∀ j, j < i → a.getD j 0 = b.getD j 0) (fun i => a.length - i) rfl 0 ?_ ?_ ?_
    · exact ⟨by omega, by intro j hj; omega⟩
    · (refine Fg_env ?_) <;> (try (refine ev ?_; try with_reducible exact True.intro)) <;> (repeat' (first | refine ⟨?_, ?_⟩ | exact EvV_int (by omega) | exact EvV_of (by simp) | exact EvV_nil _))
    · rintro i ⟨hi, hj⟩
      (refine ev ?_; try with_reducible exact True.intro)
      refine brK_dec (fun h2 => ?_) fun h2 => ?_ <;> (refine ev1 @h2 ?_; try with_reducible exact True.intro)
      · refine brK_dec (fun h3 => ?_) fun h3 => ?_ <;> (refine ev1 @h3 ?_; try with_reducible exact True.intro)
        · refine ⟨i + 1, by omega, ⟨by omega, fun j hj' => ?_⟩, by (refine Fg_env ?_) <;> (try (refine ev ?_; try with_reducible exact True.intro)) <;> (repeat' (first | refine ⟨?_, ?_⟩ | exact EvV_int (by omega) | exact EvV_of (by simp) | exact EvV_nil _))⟩
          by_cases e : j = i
          · subst e; exact h3
          · exact hj j (by omega)
        · have : ¬ a = b := fun e => h3 (by rw [e])
          simp [this]
      · have : a = b := getD_ext' h1 fun j h => hj j (by omega)
        simp [this]
  · have : ¬ a = b := fun e => h1 (by rw [e])
    simp [this]
theorem c_szBigInt {T : Nat → Option Fn} (h : D_laws_szBigInt T) {z : Bi} {left : Int} (hl : z.mag.length ≤ 9223372036854775807 := by first | omega | assumption | (simp; omega)) (h0 : 0 ≤ left ∧ left ≤ 1048576 := by first | omega | assumption | (simp; omega)) : PF T 60 [biV z, iv left] (iv (szr left z.mag.length)) := by
  refine pf_end (fun _ _ => false) h.hT rfl rfl ?_
  dsimp only [F_laws_szBigInt, oN, oS, oG, oK, oA, oH, oV, cI]
  (refine ev ?_; try with_reducible exact True.intro)
  refine PFK_of (c_szIntS h.d_laws_szIntS) ?_
  (refine ev ?_; try with_reducible exact True.intro)
  refine brK_dec (fun hb => ?_) fun hb => ?_ <;> (refine ev1 @hb ?_; try with_reducible exact True.intro)
  unfold szr at hb ⊢
  split at hb
  · rename_i k; simp [k]
  · omega
theorem c_szRat {T : Nat → Option Fn} (h : D_laws_szRat T) {r : R} {left : Int} (hw : r.wf := by first | omega | assumption | (simp; omega)) (h0 : 0 ≤ left ∧ left ≤ 1048576 := by first | omega | assumption | (simp; omega)) : PF T 46 [ratV r, iv left] (iv (szr left r.sz)) := by
  obtain ⟨w1, w2⟩ := hw
  refine pf_end (fun _ _ => false) h.hT rfl rfl ?_
  dsimp only [F_laws_szRat, oN, oS, oG, oK, oA, oH, oV, cI]
  (refine ev ?_; try with_reducible exact True.intro)
  refine PFK_of (c_szBigInt h.d_laws_szBigInt (z := r.num)) ?_
  (refine ev ?_; try with_reducible exact True.intro)
  have k1 := @szr_le left r.mag.length
  refine brK_dec (fun hb => ?_) fun hb => ?_ <;> (refine ev1 @hb ?_; try with_reducible exact True.intro)
  · simp only [R.sz, szr_neg hb h0.1]
  · refine PFK_of (c_szIntS h.d_laws_szIntS) ?_
    (refine ev ?_; try with_reducible exact True.intro)
    rw [szr_add hb]
    refine brK_dec (fun hb2 => ?_) fun hb2 => ?_ <;> (refine ev1 @hb2 ?_; try with_reducible exact True.intro)
    · simp only [R.sz]
      unfold szr at hb2 ⊢
      split at hb2
      · rename_i k; rw [if_pos k]
      · omega
    · rfl
theorem c_toBigInt {T : Nat → Option Fn} (h : D_laws_toBigInt T) {z : Bi} (hl : z.mag.length ≤ 1048576 := by first | omega | assumption | (simp; omega)) : PF T 63 [biV z] (biV z) := by
  refine pf_end (fun _ _ => false) h.hT rfl rfl ?_
  dsimp only [F_laws_toBigInt, oN, oS, oG, oK, oA, oH, oV, cI]
  (refine ev ?_; try with_reducible exact True.intro)
  refine PFK_of (c_toIntS h.d_laws_toIntS) ?_
  (refine ev ?_; try with_reducible exact True.intro)
theorem c_toRat {T : Nat → Option Fn} (h : D_laws_toRat T) {r : R} (hl : r.sz ≤ 1048576 := by first | omega | assumption | (simp; omega)) : PF T 48 [ratV r] (ratV r) := by
  unfold R.sz at hl
  refine pf_end (fun _ _ => false) h.hT rfl rfl ?_
  dsimp only [F_laws_toRat, oN, oS, oG, oK, oA, oH, oV, cI]
  (refine ev ?_; try with_reducible exact True.intro)
  refine PFK_of (c_toBigInt h.d_laws_toBigInt (z := r.num)) ?_
  (refine ev ?_; try with_reducible exact True.intro)
  refine PFK_of (c_toIntS h.d_laws_toIntS) ?_
  (refine ev ?_; try with_reducible exact True.intro)
theorem c_eqBigInt {T : Nat → Option Fn} (h : D_laws_eqBigInt T) {y z : Bi} (hy : y.mag.length ≤ 9223372036854775807 := by first | omega | assumption | (simp; omega)) (hz : z.mag.length ≤ 9223372036854775807 := by first | omega | assumption | (simp; omega)) : PF T 55 [biV y, biV z] (.bool (decide (y = z))) := by
  refine pf_end (fun _ _ => false) h.hT rfl rfl ?_
  dsimp only [F_laws_eqBigInt, oN, oS, oG, oK, oA, oH, oV, cI]
  (refine ev ?_; try with_reducible exact True.intro)
  refine brK_dec (fun hb => ?_) fun hb => ?_ <;> (refine ev1 @hb ?_; try with_reducible exact True.intro)
  · refine PFK_of (c_eqIntS h.d_laws_eqIntS) ?_
    (refine ev ?_; try with_reducible exact True.intro)
    refine brK_dec (fun hc => ?_) fun hc => ?_ <;> (refine ev1 @hc ?_; try with_reducible exact True.intro)
    · cases y; cases z; simp_all
    · cases y; cases z; simp_all
  · cases y; cases z; simp_all
theorem c_eqRat {T : Nat → Option Fn} (h : D_laws_eqRat T) {y z : R} (hy : y.wf := by first | omega | assumption | (simp; omega)) (hz : z.wf := by first | omega | assumption | (simp; omega)) : PF T 40 [ratV y, ratV z] (.bool (decide (y = z))) := by
  obtain ⟨w1, w2⟩ := hy
  obtain ⟨w3, w4⟩ := hz
  refine pf_end (fun _ _ => false) h.hT rfl rfl ?_
  dsimp only [F_laws_eqRat, oN, oS, oG, oK, oA, oH, oV, cI]
  (refine ev ?_; try with_reducible exact True.intro)
  refine PFK_of (c_eqBigInt h.d_laws_eqBigInt (y := y.num) (z := z.num)) ?_
  (refine ev ?_; try with_reducible exact True.intro)
  refine brK_dec (fun hb => ?_) fun hb => ?_ <;> (refine ev1 @hb ?_; try with_reducible exact True.intro)
  · refine PFK_of (c_eqIntS h.d_laws_eqIntS) ?_
    (refine ev ?_; try with_reducible exact True.intro)
    refine brK_dec (fun hc => ?_) fun hc => ?_ <;> (refine ev1 @hc ?_; try with_reducible exact True.intro)
    · cases y; cases z; simp_all
    · cases y; cases z; simp_all
  · cases y; cases z; simp_all
end Go.Ml
end
section
set_option linter.unusedSimpArgs false
set_option linter.unusedVariables false
set_option maxRecDepth 100000
set_option maxHeartbeats 4000000
namespace Go.Ml
def F_laws_markIntS : Fn := ⟨2, 19, [.tmp 4], (.seq (.reg false 0 [oN 4 (.mov (cI 0))]) (.seq (.seq (.reg false 0 [oN 5 (.mov (cI 0))]) (.block 0 (.loop (.seq (.seq (.reg false 0 [oN 6 (oV 5), oN 7 (oV 0), oN 8 (.len (.t 7)), oN 9 (.bin .lss (.t 6) (.t 8))]) (.cond (.t 9) .skip (.exit 0))) (.seq (.block 1 (.seq (.reg false 0 [oN 12 (oV 0), oN 13 (oV 5), oN 14 (oV 1), oN 15 (.idx 1 (.t 12) (.t 13)), oS (.store 1 (.t 15) (.t 14))]) (.reg false 0 [oN 16 (oV 1), oN 17 (.bin .add (.t 16) (cI 1)), oN 1 (oV 17)]))) (.reg false 0 [oN 10 (oV 5), oN 11 (.bin .add (.t 10) (cI 1)), oN 5 (oV 11)])))))) (.seq (.reg false 0 [oN 18 (oV 1), oN 4 (oV 18)]) .ret)))⟩
structure D_laws_markIntS (T : Nat → Option Fn) : Prop where
  hT : T 57 = some F_laws_markIntS
def F_laws_heldIntS : Fn := ⟨2, 21, [.tmp 4], (.seq (.reg false 0 [oN 4 (.mov (cI 0))]) (.seq (.seq (.reg false 0 [oN 5 (.mov (cI 0))]) (.block 0 (.loop (.seq (.seq (.reg false 0 [oN 6 (oV 5), oN 7 (oV 0), oN 8 (.len (.t 7)), oN 9 (.bin .lss (.t 6) (.t 8))]) (.cond (.t 9) .skip (.exit 0))) (.seq (.block 1 (.seq (.seq (.reg false 0 [oN 12 (oV 0), oN 13 (oV 5), oN 14 (.idx 1 (.t 12) (.t 13)), oN 15 (.load 1 false (.t 14)), oN 16 (oV 1), oN 17 (.bin .neq (.t 15) (.t 16))]) (.cond (.t 17) (.seq (.reg false 0 [oN 4 (.mov (cI (-1)))]) .ret) .skip)) (.reg false 0 [oN 18 (oV 1), oN 19 (.bin .add (.t 18) (cI 1)), oN 1 (oV 19)]))) (.reg false 0 [oN 10 (oV 5), oN 11 (.bin .add (.t 10) (cI 1)), oN 5 (oV 11)])))))) (.seq (.reg false 0 [oN 20 (oV 1), oN 4 (oV 20)]) .ret)))⟩
structure D_laws_heldIntS (T : Nat → Option Fn) : Prop where
  hT : T 59 = some F_laws_heldIntS
theorem po_toIntS {T : Nat → Option Fn} (h : D_laws_toIntS T) {l : List Int} (hl : l.length ≤ 1048576 := by first | omega | assumption | (simp; omega)) : PO T 6 [ints l] (ints l) := by
  refine po_end2 (fun _ _ => false) h.hT rfl rfl ?_
  dsimp only [F_laws_toIntS, oN, oS, oG, oK, oA, oH, oV, cI, St.enter, List.length_cons, List.length_nil, Nat.zero_add]
  (refine ew ?_; try with_reducible exact True.intro)
  refine ⟨by omega, ?_⟩
  rw [ir_rep]
  refine loop_at (fun _ _ => false) (α := Nat) (fun i => ⟨argE [ints l, .any, .any, .msl 0 0 l.length, iv (i : Nat)], [some ⟨1, irows (fillTo l 0 i)⟩], 0, 0, [], []⟩) (fun i => i ≤ l.length) (fun i => l.length - i) rfl 0 ?_ ?_ ?_
  · omega
  · (refine Fg_env ?_) <;> (try (refine ew1 @fillTo_zero ?_; try with_reducible exact True.intro)) <;> (repeat' (first | refine ⟨?_, ?_⟩ | exact EvV_int (by omega) | exact EvV_of (by simp) | exact EvV_nil _))
  · intro i hi
    have e1 := fillTo_len l 0 hi
    (refine ew1 @e1 ?_; try with_reducible exact True.intro)
    refine brK_dec (fun hb => ?_) fun hb => ?_ <;> (refine ew2 @hb @e1 ?_; try with_reducible exact True.intro)
    · have e2 := fillTo_set l 0 (i := i) (by omega)
      have e3 : (default : Int) = 0 := rfl
      rw [e3] at e2
      rw [e2]
      exact ⟨i + 1, by omega, by omega, by (refine Fg_env ?_) <;> (try (refine ew ?_; try with_reducible exact True.intro)) <;> (repeat' (first | refine ⟨?_, ?_⟩ | exact EvV_int (by omega) | exact EvV_of (by simp) | exact EvV_nil _))⟩
    · have : i = l.length := by omega
      subst this
      rw [fillTo_all]
      exact fin_ints rfl
def cnt (n : Nat) (k : Int) : List Int := (List.range n).map fun i => k + ((i : Nat) : Int)
theorem cnt_len (n : Nat) (k : Int) : (cnt n k).length = n := by simp [cnt]
theorem cnt_at {n i : Nat} (k : Int) (h : i < n) : (cnt n k).getD i 0 = k + (i : Nat) := by
  simp [cnt, List.getD_eq_getElem?_getD, h]
def cntTo (l : List Int) (k : Int) (i : Nat) : List Int := cnt i k ++ l.drop i
theorem cntTo_0 (l : List Int) (k : Int) : cntTo l k 0 = l := by simp [cntTo, cnt]
theorem cntTo_all (l : List Int) (k : Int) : cntTo l k l.length = cnt l.length k := by simp [cntTo]
theorem cntTo_len (l : List Int) (k : Int) {i : Nat} (h : i ≤ l.length) : (cntTo l k i).length = l.length := by simp [cntTo, cnt_len]; omega
theorem cntTo_set (l : List Int) (k : Int) {i : Nat} (h : i < l.length) : (cntTo l k i).set i (k + (i : Nat)) = cntTo l k (i + 1) := by
  unfold cntTo
  rw [List.set_append_right _ _ (by rw [cnt_len]; exact Nat.le_refl _), cnt_len, Nat.sub_self, List.drop_eq_getElem_cons h, List.set_cons_zero]
  unfold cnt
  rw [List.range_succ, List.map_append]
  simp
theorem mk_markIntS {T : Nat → Option Fn} (h : D_laws_markIntS T) {l : List Int} {k : Int} (hl : l.length ≤ 1048576 := by first | omega | assumption | (simp; omega)) (hk : 0 ≤ k ∧ k ≤ 1000000000000 := by first | omega | assumption | (simp; omega)) :
    Mk T 57 (ints l) k (ints (cnt l.length k)) (k + l.length) := by
  refine mk_iff fun σ v os ho hn => ?_
  rcases ho.ints_inv with ⟨rfl, rfl, rfl⟩ | ⟨o, rfl, h1, rfl⟩
  · have : ∃ r σ', Run T (.fn 57 [.sl 1 [], iv k] σ) (.fn r σ') ∧ (r = iv k ∧ σ' = σ) := by
      refine run_end (fun _ _ => false) h.hT rfl rfl ?_
      dsimp only [F_laws_markIntS, oN, oS, oG, oK, oA, oH, oV, cI, St.enter, List.length_cons, List.length_nil, Nat.zero_add]
      (refine ew ?_; try with_reducible exact True.intro)
      refine loop_at (fun _ _ => false) (α := Nat) (fun i => ⟨argE [.sl 1 [], iv k, .any, .any, .any, iv 0], σ, σ.length, 0, [], []⟩) (fun i => i = 0) (fun i => i) rfl 0 ?_ ?_ ?_
      · rfl
      · (refine Fg_env ?_) <;> (try (refine ew ?_; try with_reducible exact True.intro)) <;> (repeat' (first | refine ⟨?_, ?_⟩ | exact EvV_int (by omega) | exact EvV_of (by simp) | exact EvV_nil _))
      · rintro i rfl
        (refine ew ?_; try with_reducible exact True.intro)
        refine brK_dec (fun hc => absurd hc (by omega)) fun hc => ?_
        (refine ew ?_; try with_reducible exact True.intro)
    obtain ⟨r, σ', h2, rfl, rfl⟩ := this
    exact ⟨σ', by simpa using h2, ho, Fr.refl _ _⟩
  · have hlt := objAt_lt h1
    have : ∃ r σ', Run T (.fn 57 [.msl o 0 l.length, iv k] σ) (.fn r σ') ∧ (r = iv (k + l.length) ∧ objAt σ' o = some ⟨1, irows (cnt l.length k)⟩ ∧ Fr [o] σ σ') := by
      refine run_end (fun _ _ => false) h.hT rfl rfl ?_
      dsimp only [F_laws_markIntS, oN, oS, oG, oK, oA, oH, oV, cI, St.enter, List.length_cons, List.length_nil, Nat.zero_add]
      (refine ew ?_; try with_reducible exact True.intro)
      refine loop_at (fun _ _ => false) (α := Nat × Store) (fun q => ⟨argE [.msl o 0 l.length, iv (k + (q.1 : Nat)), .any, .any, .any, iv (q.1 : Nat)], q.2, σ.length, 0, [], []⟩) (fun q => q.1 ≤ l.length ∧ objAt q.2 o = some ⟨1, irows (cntTo l k q.1)⟩ ∧ Fr [o] σ q.2) (fun q => l.length - q.1) rfl (0, σ) ?_ ?_ ?_
      · exact ⟨by omega, by rw [cntTo_0]; exact h1, Fr.refl _ _⟩
      · (refine Fg_env ?_) <;> (try (refine ew ?_; try with_reducible exact True.intro)) <;> (repeat' (first | refine ⟨?_, ?_⟩ | exact EvV_int (by omega) | exact EvV_of (by simp) | exact EvV_nil _))
      · rintro ⟨i, s⟩ ⟨hi, h2, h3⟩
        dsimp only at hi h2 h3
        have e1 := cntTo_len l k hi
        have hls := h3.len
        (refine ew1 @h2 ?_; try with_reducible exact True.intro)
        refine brK_dec (fun hc => ?_) fun hc => ?_ <;> (refine ew3 @hc @h2 @e1 ?_; try with_reducible exact True.intro)
        · have e2 := cntTo_set l k (i := i) (by omega)
          rw [e2]
          refine ⟨(i + 1, s.set o (some ⟨1, irows (cntTo l k (i + 1))⟩)), by dsimp only; omega, ⟨by dsimp only; omega, ?_, ?_⟩, by (refine Fg_env ?_) <;> (try (refine ew ?_; try with_reducible exact True.intro)) <;> (repeat' (first | refine ⟨?_, ?_⟩ | exact EvV_int (by omega) | exact EvV_of (by simp) | exact EvV_nil _))⟩
          · dsimp only; exact objAt_seteq (by omega)
          · dsimp only; exact h3.trans (fr_set (by simp))
        · have : i = l.length := by omega
          subst this
          exact ⟨rfl, by rw [cntTo_all], h3⟩
    obtain ⟨r, σ', h2, rfl, h3, h4⟩ := this
    have := owV_ints h3
    rw [cnt_len] at this
    exact ⟨σ', h2, this, h4⟩
theorem c_heldIntS {T : Nat → Option Fn} (h : D_laws_heldIntS T) {n : Nat} {k : Int} (hl : n ≤ 1048576 := by first | omega | assumption | (simp; omega)) (hk : 0 ≤ k ∧ k ≤ 1000000000000 := by first | omega | assumption | (simp; omega)) :
    PF T 59 [ints (cnt n k), iv k] (iv (k + n)) := by
  have hcl := cnt_len n k
  refine pf_end (fun _ _ => false) h.hT rfl rfl ?_
  dsimp only [F_laws_heldIntS, oN, oS, oG, oK, oA, oH, oV, cI]
  (refine ev ?_; try with_reducible exact True.intro)
  refine loop_at (fun _ _ => false) (α := Nat) (fun i => ⟨argE [ints (cnt n k), iv (k + (i : Nat)), .any, .any, .any, iv (i : Nat)], [], 0, 0, [], []⟩) (fun i => i ≤ n) (fun i => n - i) rfl 0 ?_ ?_ ?_
  · omega
  · (refine Fg_env ?_) <;> (try (refine ev ?_; try with_reducible exact True.intro)) <;> (repeat' (first | refine ⟨?_, ?_⟩ | exact EvV_int (by omega) | exact EvV_of (by simp) | exact EvV_nil _))
  · intro i hi
    (refine ev1 @hcl ?_; try with_reducible exact True.intro)
    refine brK_dec (fun hc => ?_) fun hc => ?_ <;> (refine ev2 @hc @hcl ?_; try with_reducible exact True.intro)
    · have := cnt_at k (show i < n by omega)
      (refine ev1 @this ?_; try with_reducible exact True.intro)
      exact ⟨i + 1, by omega, by omega, by (refine Fg_env ?_) <;> (try (refine ev ?_; try with_reducible exact True.intro)) <;> (repeat' (first | refine ⟨?_, ?_⟩ | exact EvV_int (by omega) | exact EvV_of (by simp) | exact EvV_nil _))⟩
    · have : i = n := by omega
      subst this
      rfl
end Go.Ml
end
section
set_option linter.unusedSimpArgs false
set_option linter.unusedVariables false
set_option maxRecDepth 100000
set_option maxHeartbeats 8000000
namespace Go.Ml
theorem po_natOfUint {T : Nat → Option Fn} (h : D_impl_natOfUint T) {n : Int} (hn : 0 ≤ n ∧ n < 18446744073709551616 := by first | omega | assumption | (simp; omega)) : PO T 69 [.int .u64 n] (ints (mk n.toNat)) := by
  have hlen : (mk n.toNat).length ≤ 3 := mk_len_le.2 (by omega)
  refine po_end2 (fun _ _ => false) h.hT rfl rfl ?_
  dsimp only [F_impl_natOfUint, oN, oS, oG, oK, oA, oH, oV, cI, St.enter, List.length_cons, List.length_nil, Nat.zero_add]
  (refine ew ?_; try with_reducible exact True.intro)
  refine loop_at (fun _ _ => false) (α := Nat × List Int) (fun q => ⟨argE [.int .u64 (q.1 : Nat), .any, .any, slV q.2.length], slS 1 (irows q.2), 0, 0, [], []⟩) (fun q => q.2 ++ mk q.1 = mk n.toNat ∧ q.1 ≤ n.toNat) (fun q => q.1) rfl (n.toNat, []) ?_ ?_ ?_
  · exact ⟨rfl, Nat.le_refl _⟩
  · first | ((refine Fg_env ?_) <;> (try (refine ew ?_; try with_reducible exact True.intro)) <;> (repeat' (first | refine ⟨?_, ?_⟩ | exact EvV_int (by omega) | exact EvV_of (by simp) | exact EvV_nil _)); done) | ((refine Fg_re [] (by simp) (by intro p hp; cases hp) rfl ?_) <;> (try (refine ew ?_; try with_reducible exact True.intro)) <;> (repeat' (first | exact True.intro | omega | exact CanE_ptr rfl (by simp) | refine ⟨?_, ?_⟩ | exact of_eq_true (CanE_nil _ _ _) | exact CanE_of rfl (by simp; done) | exact CanE_of rfl rfl | (refine CanE_msl rfl ?_ rfl; simp [irows]; done) | (refine CanE_msl rfl ?_ rfl; simp [irows]; omega) | (refine CanE_frz ?_ ?_; (focus ((refine ew ?_; try with_reducible exact True.intro); done)); (intro q hq k s0 l0; simp; done)))); done)
  · rintro ⟨m, xs⟩ ⟨hm, hle⟩
    dsimp only at hm hle
    have hx : xs.length ≤ 3 := by
      have := congrArg List.length hm
      simp at this; omega
    have e1 : ((m : Int).tmod 1000000000) = ((m % 1000000000 : Nat) : Int) := by rw [tmod_B (by omega)]; omega
    have e2 : ((m : Int).tdiv 1000000000) = ((m / 1000000000 : Nat) : Int) := by rw [tdiv_B (by omega)]; omega
    have key : 0 < m → (xs ++ [((m % 1000000000 : Nat) : Int)]) ++ mk (m / 1000000000) = mk n.toNat := fun h => by
      rw [← hm, mk_pos (n := m) (by omega)]; simp
    (rcases xs with _ | ⟨x, xs⟩ <;> simp only [List.length_nil, List.length_cons, slV_0, slV_s, slI_nil, slI_cons] at hx ⊢)
    · (refine ew ?_; try with_reducible exact True.intro)
      refine brK_dec (fun hb => ?_) fun hb => ?_ <;> (refine ew3 @hb @e1 @e2 ?_; try with_reducible exact True.intro)
      · exact ⟨by omega, (m / 1000000000, [] ++ [((m % 1000000000 : Nat) : Int)]), by dsimp only; omega, ⟨key (by omega), by dsimp only; omega⟩, by (simp only [← irows_snoc]; refine Fg_push (k := 1) (still_isnoc _ _) rfl ?_; (try (refine ew ?_; try with_reducible exact True.intro)); (repeat' (first | exact True.intro | omega | exact CanE_push (by simp) (by simp) (by simp) | refine ⟨?_, ?_⟩ | exact CanE_of rfl (by simp))))⟩
      · have e : mk n.toNat = [] := by rw [← hm, show m = 0 by omega, mk_zero]; rfl
        rw [e]; exact fin_nil
    · (refine ew ?_; try with_reducible exact True.intro)
      refine brK_dec (fun hb => ?_) fun hb => ?_ <;> (refine ew3 @hb @e1 @e2 ?_; try with_reducible exact True.intro)
      · refine ⟨by omega, (m / 1000000000, (x :: xs) ++ [((m % 1000000000 : Nat) : Int)]), by dsimp only; omega, ⟨key (by omega), by dsimp only; omega⟩, by (simp only [← irows_snoc]; refine Fg_push (k := 2) (still_isnoc _ _) rfl ?_; (try (refine ew ?_; try with_reducible exact True.intro)); (repeat' (first | exact True.intro | omega | exact CanE_push (by simp) (by simp) (by simp) | refine ⟨?_, ?_⟩ | exact CanE_of rfl (by simp))))⟩
      · have e : x :: xs = mk n.toNat := by rw [← hm, show m = 0 by omega, mk_zero]; simp
        rw [← e]; exact fin_ints (o := 0) (l := x :: xs) rfl
theorem rf_natTrim {T : Nat → Option Fn} (h : D_impl_natTrim T) {l : List Int} {σ : Store} {o : Nat} (h0 : objAt σ o = some ⟨1, irows l⟩) (hl : l.length ≤ 1048576 := by first | omega | assumption | (simp; omega)) :
    Run T (.fn 151 [.msl o 0 l.length] σ) (.fn (.msl o 0 (trim l).length) σ) := by
  have : ∃ r σ', Run T (.fn 151 [.msl o 0 l.length] σ) (.fn r σ') ∧ (r = .msl o 0 (trim l).length ∧ σ' = σ) := by
    have htl : ∀ n, n ≤ l.length → trimN l l.length = trimN l n → (n = 0 ∨ l.getD (n - 1) 0 ≠ 0) → (trim l).length = n := by
      intro n hn h1 h2
      unfold trim
      rw [h1, List.length_take]
      cases n with
      | zero => simp [trimN]
      | succ m =>
        simp only [Nat.add_sub_cancel] at h2
        simp only [trimN]
        rw [if_neg (by omega)]
        omega
    refine run_end (fun _ _ => false) h.hT rfl rfl ?_
    dsimp only [F_impl_natTrim, oN, oS, oG, oK, oA, oH, oV, cI, St.enter, List.length_cons, List.length_nil, Nat.zero_add]
    (refine ew ?_; try with_reducible exact True.intro)
    (refine ew1 @h0 ?_; try with_reducible exact True.intro)
    refine loop_at (fun _ _ => false) (α := Nat) (fun n => ⟨argE [.msl o 0 l.length, .any, .any, iv (n : Nat)], σ, σ.length, 0, [], []⟩) (fun n => n ≤ l.length ∧ trimN l l.length = trimN l n) (fun n => n) rfl l.length ?_ ?_ ?_
    · exact ⟨by omega, rfl⟩
    · (refine Fg_env ?_) <;> (try (refine ew ?_; try with_reducible exact True.intro)) <;> (repeat' (first | refine ⟨?_, ?_⟩ | exact EvV_int (by omega) | exact EvV_of (by simp) | exact EvV_nil _))
    · rintro n ⟨hn, ht⟩
      (refine ew1 @h0 ?_; try with_reducible exact True.intro)
      refine brK_dec (fun hb => ?_) fun hb => ?_
      · obtain ⟨m, rfl⟩ : ∃ m, n = m + 1 := ⟨n - 1, by omega⟩
        have e1 : ((m + 1 : Nat) : Int) - 1 = (m : Nat) := by omega
        (refine ew3 @h0 @e1 @hb ?_; try with_reducible exact True.intro)
        refine brK_dec (fun hc => ?_) fun hc => ?_ <;> (refine ew2 @hc @h0 ?_; try with_reducible exact True.intro)
        · refine ⟨m, by omega, ⟨by omega, ?_⟩, by (refine Fg_env ?_) <;> (try (refine ew ?_; try with_reducible exact True.intro)) <;> (repeat' (first | refine ⟨?_, ?_⟩ | exact EvV_int (by omega) | exact EvV_of (by simp) | exact EvV_nil _))⟩
          rw [ht]; simp only [trimN, hc, if_true]
        · rw [htl (m + 1) hn ht (by simp only [Nat.add_sub_cancel]; omega)]
      · have : n = 0 := by omega
        subst this
        rw [htl 0 hn ht (by omega)]
        (refine ew2 @h0 @hb ?_; try with_reducible exact True.intro)
  obtain ⟨r, σ', h1, rfl, rfl⟩ := this
  exact h1
theorem rf_bigMake {T : Nat → Option Fn} (h : D_impl_bigMake T) {neg : Bool} {n : Nat} {σ : Store} {o : Nat} (h0 : objAt σ o = some ⟨1, irows (mk n)⟩) (hn : 0 < n) (hl : (mk n).length ≤ 60 := by first | omega | assumption | (simp; omega)) :
    ∃ σ', Run T (.fn 68 [.bool neg, .msl o 0 (mk n).length] σ) (.fn (.agg [.bool neg, .msl o 0 (mk n).length]) σ') ∧ (∀ q, q < σ.length → objAt σ' q = objAt σ q) ∧ σ.length ≤ σ'.length := by
  have : ∃ r σ', Run T (.fn 68 [.bool neg, .msl o 0 (mk n).length] σ) (.fn r σ') ∧ (r = .agg [.bool neg, .msl o 0 (mk n).length] ∧ (∀ q, q < σ.length → objAt σ' q = objAt σ q) ∧ σ.length ≤ σ'.length) := by
    have hp := ln_pos.2 hn
    refine run_end (fun _ _ => false) h.hT rfl rfl ?_
    dsimp only [F_impl_bigMake, oN, oS, oG, oK, oA, oH, oV, cI, St.enter, List.length_cons, List.length_nil, Nat.zero_add]
    (refine ew ?_; try with_reducible exact True.intro)
    have hlt := objAt_lt h0
    have c1 : ¬ (((mk n).length : Nat) : Int) = 0 := by omega
    have c2 : ¬ (60 : Int) < ((mk n).length : Nat) := by omega
    (refine ew4 @h0 @hlt @c1 @c2 ?_; try with_reducible exact True.intro)
    exact ⟨fun q hq => objAt_snoc_lt hq, by omega⟩
  obtain ⟨r, σ', h1, rfl, h2, h3⟩ := this
  exact ⟨σ', h1, h2, h3⟩
theorem px_natDiv {T : Nat → Option Fn} (h : D_impl_natDiv T) {m n : Nat} (hn : 0 < n) (la : (mk m).length ≤ 900 := by first | omega | assumption | (simp; omega)) (lb : (mk n).length ≤ 900 := by first | omega | assumption | (simp; omega)) :
    PX T 138 [ints (mk m), ints (mk n)] [(true, ints (mk (m / n))), (false, ints (mk (m % n)))] := by
  obtain ⟨A, hA⟩ : ∃ A, mk m = A := ⟨_, rfl⟩
  obtain ⟨B, hB⟩ : ∃ B, mk n = B := ⟨_, rfl⟩
  have hva : val A = m := by rw [← hA, val_mk]
  have hbA : Lb A := hA ▸ lb_mk m
  have hbB : Lb B := hB ▸ lb_mk n
  rw [hA] at la ⊢
  rw [hB] at lb ⊢
  refine px_endW (fun x d => (x == 69 && d == 28) || (x == 151 && d == 74)) h.hT rfl rfl ?_
  dsimp only [F_impl_natDiv, oN, oS, oG, oK, oA, oH, oV, cI, St.enter, List.length_cons, List.length_nil, Nat.zero_add]
  (refine ew ?_; try with_reducible exact True.intro)
  have cas : (((A.length : Nat) : Int) ≤ 2 ∧ ((B.length : Nat) : Int) ≤ 2) ∨ ((((A.length : Nat) : Int) ≤ 2 ∧ ¬ ((B.length : Nat) : Int) ≤ 2) ∨ ¬ ((A.length : Nat) : Int) ≤ 2) := by omega
  rcases cas with ⟨c1, c2⟩ | big
  · have sm : m < 1000000000000000000 := by
      have := val_lt hbA
      rw [hva] at this
      exact Nat.lt_of_lt_of_le this (Nat.le_trans (Nat.pow_le_pow_right (by omega) (show A.length ≤ 2 by omega)) (by omega))
    have sn : n < 1000000000000000000 := by
      have := val_lt hbB
      rw [← hB, val_mk] at this
      exact Nat.lt_of_lt_of_le this (Nat.le_trans (Nat.pow_le_pow_right (by omega) (show (mk n).length ≤ 2 by rw [hB]; omega)) (by omega))
    have cs := c_natSmall h.d_impl_natSmall sm
    have ct := c_natSmall h.d_impl_natSmall sn
    rw [hA] at cs
    rw [hB] at ct
    have e1 : ((m : Nat) : Int).tdiv (n : Nat) = ((m / n : Nat) : Int) := by rw [Int.tdiv_eq_ediv_of_nonneg (by omega), Int.natCast_ediv]
    have e2 : ((m : Nat) : Int).tmod (n : Nat) = ((m % n : Nat) : Int) := by rw [Int.tmod_eq_emod_of_nonneg (by omega), Int.natCast_emod]
    have d1 : m / n ≤ m := Nat.div_le_self ..
    have d2 : m % n ≤ m := Nat.mod_le ..
    have nz : ¬ ((n : Nat) : Int) = 0 := by omega
    generalize m / n = q at *
    generalize m % n = r at *
    have c3 := c_natOfUint h.d_impl_natOfUint (n := ((q : Nat) : Int)) (by omega)
    have c4 := c_natOfUint h.d_impl_natOfUint (n := ((r : Nat) : Int)) (by omega)
    rw [Int.toNat_natCast] at c3 c4
    (refine ew2 @c1 @c2 ?_; try with_reducible exact True.intro)
    refine PFK_of cs ?_
    (refine ew ?_; try with_reducible exact True.intro)
    refine PFK_of ct ?_
    (refine ew3 @nz @e1 @e2 ?_; try with_reducible exact True.intro)
    have p3 := po_natOfUint h.d_impl_natOfUint (n := ((q : Nat) : Int)) (by omega)
    rw [Int.toNat_natCast] at p3
    refine OwnK_got0 p3 (by (refine ew ?_; try with_reducible exact True.intro)) (by (refine ew ?_; try with_reducible exact True.intro)) ?_
    intro v1 s1 o1 g
    (refine ew3 @nz @e1 @e2 ?_; try with_reducible exact True.intro)
    refine PFK_of c4 ?_
    (refine ew ?_; try with_reducible exact True.intro)
    refine ⟨by unfold OkA; decide +kernel, ?_⟩
    exact .inl (finX_of g.ow g.nd rfl)
  rcases big with ⟨c1, c2⟩ | c1
  case' inl => (refine ew2 @c1 @c2 ?_; try with_reducible exact True.intro)
  case' inr => (refine ew1 @c1 ?_; try with_reducible exact True.intro)
  all_goals
    refine ⟨by omega, ?_⟩
    rw [ir_rep]
    refine loop_at (fun x d => (x == 69 && d == 28) || (x == 151 && d == 74)) (α := Nat × List Int × Nat) (fun q => ⟨argE [ints A, ints B, .any, .any, .any, .any, .any, .any, .msl 0 0 A.length, ints (mk q.2.2), iv ((q.1 : Nat) - 1)], [some ⟨1, irows q.2.1⟩], 0, 0, [], []⟩) (fun q => q.1 ≤ A.length ∧ q.2.1.length = A.length ∧ Lb q.2.1 ∧ (∀ j, j < q.1 → q.2.1.getD j 0 = 0) ∧ q.2.2 < n ∧ val (A.drop q.1) = val (q.2.1.drop q.1) * n + q.2.2) (fun q => q.1) rfl (A.length, List.replicate A.length 0, 0) ?_ ?_ ?_
    · exact ⟨by omega, by simp, lb_rep _, by intro j _; simp [List.getD_eq_getElem?_getD, List.getElem?_replicate]; split <;> rfl, hn, by dsimp only; rw [val_drop_ge (Nat.le_refl _), val_drop_ge (by simp)]; simp⟩
    · rw [mk_zero]
      (refine Fg_re [(0, _)] (by simp) (by intro p hp; simp only [List.mem_cons, List.not_mem_nil, or_false] at hp; rcases hp with rfl <;> refine ⟨rfl, ?_⟩ <;> first | exact ir_still _ | simp [stillR, V.still]) rfl ?_) <;> (try (refine ew ?_; try with_reducible exact True.intro)) <;> (repeat' (first | exact True.intro | omega | exact CanE_ptr rfl (by simp) | refine ⟨?_, ?_⟩ | exact of_eq_true (CanE_nil _ _ _) | exact CanE_of rfl (by simp; done) | exact CanE_of rfl rfl | (refine CanE_msl rfl ?_ rfl; simp [irows]; done) | (refine CanE_msl rfl ?_ rfl; simp [irows]; omega) | (refine CanE_frz ?_ ?_; (focus ((refine ew ?_; try with_reducible exact True.intro); done)); (intro q hq k s0 l0; simp; done))))
    · rintro ⟨k, Q, x⟩ ⟨hk, hQ, hQb, hz, hx, hv⟩
      dsimp only at hk hQ hQb hz hx hv
      by_cases k0 : k = 0
      · subst k0
        rw [List.drop_zero, List.drop_zero, hva] at hv
        obtain ⟨q1, q2⟩ := div_unique hv hx
        have e0 : ¬ (0 : Int) ≤ ((0 : Nat) : Int) - 1 := by omega
        (refine ew1 @e0 ?_; try with_reducible exact True.intro)
        have hr := rf_natTrim h.d_impl_natTrim (l := Q) (σ := [some ⟨1, irows Q⟩]) (o := 0) rfl (by omega)
        rw [hQ] at hr
        refine RefK_mk hr rfl (Nat.le_refl _) (by simp) ?_
        (refine ew ?_; try with_reducible exact True.intro)
        rw [← q1, ← q2]
        exact .inr (finW_cut (by have := (trim_take Q).2; omega) (by rw [← (trim_take Q).1, trim_mk hQb]) rfl)
      · obtain ⟨i, rfl⟩ : ∃ i, k = i + 1 := ⟨k - 1, by omega⟩
        have e0 : (((i + 1 : Nat) : Int) - 1) = (i : Nat) := by omega
        have e1 : ((i : Nat) : Int) < (A.length : Nat) := by omega
        have e2 : (0 : Int) ≤ (i : Nat) := by omega
        rw [e0]
        have ga := lb_at hbA i
        have hvi := val_dropG A i
        obtain ⟨t, ht⟩ : ∃ t, (A.getD i 0).toNat + 1000000000 * x = t := ⟨_, rfl⟩
        have htn : t < n * 1000000000 := by omega
        have lt' : (A.getD i 0 :: mk x).length ≤ 1048576 := by
          have : (mk x).length ≤ B.length := by rw [mk_len_le]; exact Nat.lt_trans hx (by have := val_lt hbB; rw [← hB, val_mk, hB] at this; exact this)
          simp only [List.length_cons]; omega
        have tr : trim (A.getD i 0 :: mk x) = mk t := by
          rw [trim_mk (by intro y hy; rcases List.mem_cons.1 hy with rfl | hy; exact ga; exact lb_mk x y hy), ← ht, val, val_mk]
        have ct := c_natTrim h.d_impl_natTrim (l := A.getD i 0 :: mk x) lt'
        rw [tr] at ct
        have ely : ∀ y, y ≤ t → (mk y).length ≤ 901 := by
          intro y hy
          have : (mk y).length ≤ B.length + 1 := by
            rw [mk_len_le, Nat.pow_succ]
            have := val_lt hbB
            rw [← hB, val_mk, hB] at this
            exact Nat.lt_of_lt_of_le (Nat.lt_of_le_of_lt hy htn) (Nat.mul_le_mul_right _ (Nat.le_of_lt this))
          omega
        have lx := ely
        (refine ew2 @e2 @e1 ?_; try with_reducible exact True.intro)
        refine ⟨fun e3 => ?_, fun e3 => ?_⟩
        case' refine_1 =>
          have x0 : mk x = [] := by cases hm : mk x with | nil => rfl | cons a l => rw [hm] at e3; cases e3
          rw [x0] at ct
          rw [show [[V.int IntKind.i64 (A.getD i 0)]] = irows [A.getD i 0] from rfl]
          (refine ew ?_; try with_reducible exact True.intro)
        case' refine_2 =>
          (refine ew1 @e3 ?_; try with_reducible exact True.intro)
          rw [show [V.int IntKind.i64 (A.getD i 0)] :: irows (mk x) = irows (A.getD i 0 :: mk x) from rfl]
          (refine ew ?_; try with_reducible exact True.intro)
          have lm := lt'
          simp only [List.length_cons] at lm
          refine ⟨by omega, ?_⟩
        all_goals
          clear lt'
          refine PFK_of ct ?_
          (refine ew ?_; try with_reducible exact True.intro)
          refine loop_at (fun x d => (x == 69 && d == 28) || (x == 151 && d == 74)) (α := List Int × Nat) (fun q => ⟨argE [ints A, ints B, .any, .any, .any, .any, .any, .any, .msl 0 0 A.length, ints (mk q.2), iv (i : Nat)], [some ⟨1, irows q.1⟩], 0, 0, [], []⟩) (fun q => q.1.length = A.length ∧ Lb q.1 ∧ (∀ j, j < i → q.1.getD j 0 = 0) ∧ q.1.drop (i + 1) = Q.drop (i + 1) ∧ q.2 + (q.1.getD i 0).toNat * n = t) (fun q => q.2) rfl (Q, t) ?_ ?_ ?_
          · exact ⟨hQ, hQb, fun j hj => hz j (by omega), rfl, by dsimp only; rw [hz i (by omega)]; simp⟩
          · (refine Fg_re [(0, _)] (by simp) (by intro p hp; simp only [List.mem_cons, List.not_mem_nil, or_false] at hp; rcases hp with rfl <;> refine ⟨rfl, ?_⟩ <;> first | exact ir_still _ | simp [stillR, V.still]) rfl ?_) <;> (try (refine ew ?_; try with_reducible exact True.intro)) <;> (repeat' (first | exact True.intro | omega | exact CanE_ptr rfl (by simp) | refine ⟨?_, ?_⟩ | exact of_eq_true (CanE_nil _ _ _) | exact CanE_of rfl (by simp; done) | exact CanE_of rfl rfl | (refine CanE_msl rfl ?_ rfl; simp [irows]; done) | (refine CanE_msl rfl ?_ rfl; simp [irows]; omega) | (refine CanE_frz ?_ ?_; (focus ((refine ew ?_; try with_reducible exact True.intro); done)); (intro q hq k s0 l0; simp; done))))
          · rintro ⟨P, y⟩ ⟨hP, hPb, hzP, hd, hy⟩
            dsimp only at hP hPb hzP hd hy
            have yt : y ≤ t := by omega
            have ly := ely y yt
            have cc := c_natCmp h.d_impl_natCmp (can_mk y) (can_mk n) (by omega) (by rw [hB]; omega)
            rw [val_mk, val_mk, hB] at cc
            (refine ew ?_; try with_reducible exact True.intro)
            refine PFK_of cc ?_
            (refine ew ?_; try with_reducible exact True.intro)
            refine brK_dec (fun c3 => ?_) fun c3 => ?_ <;> (refine ew1 @c3 ?_; try with_reducible exact True.intro)
            · have hny : n ≤ y := cmpN_nonneg.1 c3
              obtain ⟨d, pg, d0, d1, d2⟩ := c_natGuess h.d_impl_natGuess hn hny (by omega) (by omega) (by rw [hB]; omega)
              rw [hB] at pg
              have pm := c_natMul h.d_impl_natMul (m := n) (n := d) (by rw [hB]; omega) (by rw [mk_one d0 d1]; simp)
              have dn : n * d ≤ y := by rw [Nat.mul_comm]; exact d2
              have lnd := ely (n * d) (by omega)
              have ps := c_natSub h.d_impl_natSub dn (by omega) (by omega)
              rw [hB, mk_one d0 d1] at pm
              have gp := lb_at hPb i
              have y2 : y - n * d + ((P.getD i 0).toNat + d) * n = t := by rw [Nat.add_mul, Nat.mul_comm d n]; omega
              have gp2 : P.getD i 0 + d < 1000000000 := by
                have : ((P.getD i 0).toNat + d) * n < 1000000000 * n := by rw [Nat.mul_comm 1000000000]; omega
                have := Nat.lt_of_mul_lt_mul_right this
                omega
              have d0' : 0 < n * d := Nat.mul_pos hn d0
              have k1 := lb_set (l := P) (i := i) (d := P.getD i 0 + d) (by omega) gp2 hPb
              have k2 : ∀ j, j < i → (P.set i (P.getD i 0 + d)).getD j 0 = 0 := by
                intro j hj
                rw [getD_set_int', if_neg (by omega)]
                exact hzP j hj
              have k3 : (P.set i (P.getD i 0 + d)).drop (i + 1) = Q.drop (i + 1) := by rw [List.drop_set_of_lt (by omega), hd]
              have k4 : ((P.set i (P.getD i 0 + d)).getD i 0) = P.getD i 0 + d := by rw [getD_set_int', if_pos ⟨rfl, by omega⟩]
              have k5 : y - n * d + ((P.set i (P.getD i 0 + d)).getD i 0).toNat * n = t := by
                rw [k4, show (P.getD i 0 + (d : Int)).toNat = (P.getD i 0).toNat + d by omega]; exact y2
              have k6 : y - n * d < y := by omega
              clear y2 hy htn ht hvi k4 hzP hd d2 lx ely hv hz hx
              refine PFK_of pg ?_
              (refine ew ?_; try with_reducible exact True.intro)
              rw [show [[V.int IntKind.i64 (d : Int)]] = irows [(d : Int)] from rfl]
              (refine ew ?_; try with_reducible exact True.intro)
              refine PFK_of pm ?_
              (refine ew ?_; try with_reducible exact True.intro)
              refine PFK_of ps ?_
              (refine ew2 @e1 @hP ?_; try with_reducible exact True.intro)
              exact ⟨(P.set i (P.getD i 0 + d), y - n * d), k6, ⟨by simp [hP], k1, k2, k3, k5⟩, by (refine Fg_re [(0, _)] (by simp) (by intro p hp; simp only [List.mem_cons, List.not_mem_nil, or_false] at hp; rcases hp with rfl <;> refine ⟨rfl, ?_⟩ <;> first | exact ir_still _ | simp [stillR, V.still]) rfl ?_) <;> (try (refine ew ?_; try with_reducible exact True.intro)) <;> (repeat' (first | exact True.intro | omega | exact CanE_ptr rfl (by simp) | refine ⟨?_, ?_⟩ | exact of_eq_true (CanE_nil _ _ _) | exact CanE_of rfl (by simp; done) | exact CanE_of rfl rfl | (refine CanE_msl rfl ?_ rfl; simp [irows]; done) | (refine CanE_msl rfl ?_ rfl; simp [irows]; omega) | (refine CanE_frz ?_ ?_; (focus ((refine ew ?_; try with_reducible exact True.intro); done)); (intro q hq k s0 l0; simp; done))))⟩
            · have hny : y < n := by
                have := @cmpN_nonneg y n
                omega
              have k1 := val_dropG P i
              rw [hd] at k1
              have k2 : val (A.drop i) = val (P.drop i) * n + y := by
                rw [hvi, hv, k1, Nat.add_mul, Nat.mul_add, ← Nat.mul_assoc]; omega
              exact ⟨(i, P, y), by dsimp only; omega, ⟨by dsimp only; omega, hP, hPb, hzP, hny, k2⟩, by (refine Fg_env ?_) <;> (try (refine ew ?_; try with_reducible exact True.intro)) <;> (repeat' (first | refine ⟨?_, ?_⟩ | exact EvV_int (by omega) | exact EvV_of (by simp) | exact EvV_nil _))⟩
theorem owV_agg2 {σ : Store} {b : Bool} {v : V} {l : List Int} {os : List Nat} (h : OwV σ v (ints l) os) : OwV σ (.agg [.bool b, v]) (.agg [.bool b, ints l]) os := owV_agg (owL_bool (by simpa using owL_v h owL_nil))
theorem owV_rat {σ : Store} {b : Bool} {v w : V} {l m : List Int} {o1 o2 : List Nat} (h : OwV σ v (ints l) o1) (k : OwV σ w (ints m) o2) : OwV σ (.agg [.bool b, v, w]) (.agg [.bool b, ints l, ints m]) (o1 ++ o2) :=
  owV_agg (owL_bool (owL_v h (by simpa using owL_v k owL_nil)))
theorem owV_R0 {σ : Store} : OwV σ (ratV R0) (ratV R0) [] := owV_rat (o1 := []) (o2 := []) owV_ints0 owV_ints0
theorem fin_R0 {σ : Store} : Fin σ (.agg [.bool false, .nils, .nils]) (ratV R0) := ⟨_, [], laxR0, owV_R0, .nil⟩
theorem OwV.lenI {σ : Store} {v : V} {l : List Int} {os : List Nat} (h : OwV σ v (ints l) os) : lenOf σ v = some l.length := by
  rcases h.ints_inv with ⟨rfl, rfl, _⟩ | ⟨o, rfl, h1, _⟩
  · rfl
  · simp [lenOf, h1]
theorem rf_bigMake0 {T : Nat → Option Fn} (h : D_impl_bigMake T) {neg : Bool} {σ : Store} {v : V} {os : List Nat} (h0 : OwV σ v (ints []) os) :
    ∃ σ', Run T (.fn 68 [.bool neg, v] σ) (.fn (.agg [.bool false, .nils]) σ') ∧ (∀ q, q < σ.length → objAt σ' q = objAt σ q) ∧ σ.length ≤ σ'.length := by
  have : ∃ r σ', Run T (.fn 68 [.bool neg, v] σ) (.fn r σ') ∧ (r = .agg [.bool false, .nils] ∧ (∀ q, q < σ.length → objAt σ' q = objAt σ q) ∧ σ.length ≤ σ'.length) := by
    rcases h0.ints_inv with ⟨_, rfl, _⟩ | ⟨o, rfl, h1, _⟩
    · have hz : ((0 : Nat) : Int) = 0 := rfl
      refine run_end (fun _ _ => false) h.hT rfl rfl ?_
      dsimp only [F_impl_bigMake, oN, oS, oG, oK, oA, oH, oV, cI, St.enter, List.length_cons, List.length_nil, Nat.zero_add]
      (refine ew ?_; try with_reducible exact True.intro)
      (refine ew1 @hz ?_; try with_reducible exact True.intro)
      exact ⟨fun q hq => objAt_snoc_lt hq, by omega⟩
    · have hlt := objAt_lt h1
      have hz : ((0 : Nat) : Int) = 0 := rfl
      simp only [List.length_nil]
      refine run_end (fun _ _ => false) h.hT rfl rfl ?_
      dsimp only [F_impl_bigMake, oN, oS, oG, oK, oA, oH, oV, cI, St.enter, List.length_cons, List.length_nil, Nat.zero_add]
      (refine ew ?_; try with_reducible exact True.intro)
      (refine ew3 @h1 @hlt @hz ?_; try with_reducible exact True.intro)
      exact ⟨fun q hq => objAt_snoc_lt hq, by omega⟩
  obtain ⟨r, σ', h1, rfl, h2, h3⟩ := this
  exact ⟨σ', h1, h2, h3⟩
theorem RefK_big {T : Nat → Option Fn} (h : D_impl_bigMake T) {as : List Src} {dst : Option Nat} {env : Nat → V} {σ : Store} {kp bs : Nat} {rs ms : List Nat} {k : St → Prop} {neg : Bool} {n o : Nat}
    (h0 : objAt σ o = some ⟨1, irows (mk n)⟩) (hn : 0 < n) (ha : (as.map fun s => s.ev env) = [.bool neg, .msl o 0 (mk n).length]) (hl : (mk n).length ≤ 60)
    (hk : ∀ σ2 : Store, (∀ q, q < σ.length → objAt σ2 q = objAt σ q) → σ.length ≤ σ2.length → k ⟨updO env dst (.agg [.bool neg, .msl o 0 (mk n).length]), σ2, kp, bs, rs, ms⟩) : RefK T 68 as dst ⟨env, σ, kp, bs, rs, ms⟩ k := by
  have e1 : gcS [o] σ = [some ⟨1, irows (mk n)⟩] := by simp [gcS, h0, mapO_ints]
  obtain ⟨σ', hr, hold, hlen⟩ := rf_bigMake h (neg := neg) (n := n) (σ := gcS [o] σ) (o := 0) (by rw [e1]; rfl) hn hl
  refine RefK_refI (ρ := [o]) (by simp) (fun q hq => ⟨_, by simp at hq; subst hq; exact h0⟩) ?_ hr (fun q hq => hold q (by rw [e1]; exact hq)) ?_
  · have := congrArg (List.map (mapV (place [o]))) ha
    rw [List.map_map] at this
    refine Eq.trans this ?_
    simp [mapV, place]
  · intro σ2 h1 h2
    have := hk σ2 h1 h2
    simpa [mapV, mapV.mapL, back] using this
theorem RefK_big0 {T : Nat → Option Fn} (h : D_impl_bigMake T) {as : List Src} {dst : Option Nat} {env : Nat → V} {σ : Store} {kp bs : Nat} {rs ms : List Nat} {k : St → Prop} {neg : Bool} {v : V} {os : List Nat}
    (h0 : OwV σ v (ints []) os) (ha : (as.map fun s => s.ev env) = [.bool neg, v])
    (hk : ∀ σ2 : Store, (∀ q, q < σ.length → objAt σ2 q = objAt σ q) → σ.length ≤ σ2.length → k ⟨updO env dst (.agg [.bool false, .nils]), σ2, kp, bs, rs, ms⟩) : RefK T 68 as dst ⟨env, σ, kp, bs, rs, ms⟩ k := by
  rcases h0.ints_inv with ⟨_, rfl, _⟩ | ⟨o, rfl, h1, _⟩
  · obtain ⟨σ', hr, hold, hlen⟩ := rf_bigMake0 h (neg := neg) (σ := gcS [] σ) (v := .sl 1 []) (os := []) owV_ints0
    refine RefK_refI (ρ := []) (by simp) (by simp) ?_ hr (fun q hq => by simp at hq) ?_
    · have := congrArg (List.map (mapV (place []))) ha
      rw [List.map_map] at this
      refine Eq.trans this ?_
      simp [mapV, place]
    · intro σ2 h1 h2
      have := hk σ2 h1 h2
      simpa [mapV, mapV.mapL, back] using this
  · have e1 : gcS [o] σ = [some ⟨1, irows []⟩] := by simp [gcS, h1, mapO_ints]
    obtain ⟨σ', hr, hold, hlen⟩ := rf_bigMake0 h (neg := neg) (σ := gcS [o] σ) (v := .msl 0 0 ([] : List Int).length) (os := [0]) (owV_ints (by rw [e1]; rfl))
    refine RefK_refI (ρ := [o]) (by simp) (fun q hq => ⟨_, by simp at hq; subst hq; exact h1⟩) ?_ hr (fun q hq => hold q (by rw [e1]; exact hq)) ?_
    · have := congrArg (List.map (mapV (place [o]))) ha
      rw [List.map_map] at this
      refine Eq.trans this ?_
      simp [mapV, place]
    · intro σ2 h1 h2
      have := hk σ2 h1 h2
      simpa [mapV, mapV.mapL, back] using this
theorem po_ratMake {T : Nat → Option Fn} (h : D_impl_ratMake T) {n d : Int} (ln : (mk n.natAbs).length ≤ 60 := by first | omega | assumption | (simp; omega)) (ld : (mk d.natAbs).length ≤ 60 := by first | omega | assumption | (simp; omega)) :
    PO T 144 [biV (bi n), biV (bi d)] (ratV (Q.raw (mkQ n d))) := by
  by_cases hd : d = 0
  · subst hd
    have e : mkQ n 0 = none := rfl
    rw [e]
    refine po_end2 (fun _ _ => false) h.hT rfl rfl ?_
    dsimp only [F_impl_ratMake, oN, oS, oG, oK, oA, oH, oV, cI, St.enter, List.length_cons, List.length_nil, Nat.zero_add]
    (refine ew ?_; try with_reducible exact True.intro)
    have c1 : (((mk (0 : Int).natAbs).length : Nat) : Int) = 0 := by
      show (((mk 0).length : Nat) : Int) = 0
      rw [ln_zero]; rfl
    (refine ew1 @c1 ?_; try with_reducible exact True.intro)
    exact fin_R0
  · rw [mkQ_raw hd]
    have hg : 0 < Nat.gcd n.natAbs d.natAbs := Nat.gcd_pos_of_pos_right _ (by omega)
    have cg := c_natGcd h.d_impl_natGcd (m := n.natAbs) (n := d.natAbs) (by omega) (by omega)
    have lg : (mk (Nat.gcd n.natAbs d.natAbs)).length ≤ 60 := Nat.le_trans (ln_mono (Nat.le_of_dvd (by omega) (Nat.gcd_dvd_right _ _))) ld
    have l1 := ln_div n.natAbs (Nat.gcd n.natAbs d.natAbs)
    have l2 := ln_div d.natAbs (Nat.gcd n.natAbs d.natAbs)
    have cn := px_natDiv h.d_impl_natDiv (m := n.natAbs) hg (by omega) (by omega)
    have cd := px_natDiv h.d_impl_natDiv (m := d.natAbs) hg (by omega) (by omega)
    have c1 : ¬ (((mk d.natAbs).length : Nat) : Int) = 0 := by have := @ln_z d.natAbs; omega
    clear hg lg
    generalize n.natAbs / Nat.gcd n.natAbs d.natAbs = u at *
    generalize d.natAbs / Nat.gcd n.natAbs d.natAbs = v at *
    generalize n.natAbs % Nat.gcd n.natAbs d.natAbs = u2 at *
    generalize d.natAbs % Nat.gcd n.natAbs d.natAbs = v2 at *
    refine po_end2 (fun x d => x == 138 || x == 68) h.hT rfl rfl ?_
    dsimp only [F_impl_ratMake, oN, oS, oG, oK, oA, oH, oV, cI, St.enter, List.length_cons, List.length_nil, Nat.zero_add]
    (refine ew ?_; try with_reducible exact True.intro)
    (refine ew1 @c1 ?_; try with_reducible exact True.intro)
    refine PFK_of cg ?_
    (refine ew ?_; try with_reducible exact True.intro)
    refine RefK_gotX cn (by (refine ew ?_; try with_reducible exact True.intro)) (by (refine ew ?_; try with_reducible exact True.intro)) ?_
    intro vs q1 o1 g
    obtain ⟨x, x2, rfl, hx2, g⟩ := g.of1
    have B0 := g.at 0 (by simp) rfl
    have B1 := g.at 1 (by simp) rfl
    have B2 := g.at 2 (by simp) rfl
    have lq : 3 ≤ q1.length := g.len
    have f1 : ∀ o ∈ o1, 3 ≤ o := g.fresh
    have k1 := g.ow
    have n1 := g.nd
    clear g
    (refine ew4 @B0 @B1 @B2 @lq ?_; try with_reducible exact True.intro)
    refine RefK_gotX cd (by (refine ew ?_; try with_reducible exact True.intro)) (by (refine ew ?_; try with_reducible exact True.intro)) ?_
    intro vs q2 o2 g
    obtain ⟨y, y2, rfl, hy2, g⟩ := g.of1
    replace B0 := (g.old 0 (by omega)).trans B0
    replace B1 := (g.old 1 (by omega)).trans B1
    replace B2 := (g.old 2 (by omega)).trans B2
    have lq2 := g.len
    have k1lt := k1.lt
    replace k1 := k1.frame (σ' := q2) fun o ho => g.old o (k1.lt o ho)
    have k2 := g.ow
    have n2 := g.nd
    have dj : ∀ o ∈ o1, ∀ p ∈ o2, o ≠ p := fun o ho p hp e => by
      have := k1lt o ho
      have := g.fresh p hp
      omega
    have f2 : ∀ o ∈ o2, 3 ≤ o := fun o ho => by have := g.fresh o ho; omega
    replace lq : 3 ≤ q2.length := by omega
    clear g lq2
    have e1 := k1.lenI
    have e2 := k2.lenI
    have lfy := k2.leaf rfl
    have fcy := cells_lf lfy
    have hn12 : (o1 ++ o2).Nodup := by
      rw [List.nodup_append]; exact ⟨n1, n2, dj⟩
    by_cases c2 : (24 : Int) < ((mk u).length : Nat)
    · (refine ew7 @B0 @B1 @B2 @lq @e1 @e2 @c2 ?_; try with_reducible exact True.intro)
      rw [if_neg (by omega)]
      exact fin_R0
    by_cases c3 : (24 : Int) < ((mk v).length : Nat)
    · (refine ew8 @B0 @B1 @B2 @lq @e1 @e2 @c2 @c3 ?_; try with_reducible exact True.intro)
      rw [if_neg (by omega)]
      exact fin_R0
    (refine ew8 @B0 @B1 @B2 @lq @e1 @e2 @c2 @c3 ?_; try with_reducible exact True.intro)
    rw [if_pos (by omega), ← bne_dec]
    have key := sg_natAbs (!decide (decide (n < 0) = decide (d < 0))) u
    by_cases hu : u = 0
    · subst hu
      rw [mk_zero] at k1
      obtain ⟨q3, hr, hold, hlen⟩ := rf_bigMake0 h.d_impl_bigMake (neg := !decide (decide (n < 0) = decide (d < 0))) k1
      refine RefK_mk hr rfl hlen (by simp) ?_
      replace B2 := (hold 2 (by omega)).trans B2
      have lq3 : 3 ≤ q3.length := by omega
      (refine ew4 @B2 @lq3 @lfy @fcy ?_; try with_reducible exact True.intro)
      rw [sg_zero, mk_zero]
      have k2' := k2.frame (σ' := q3.set 2 (some ⟨3, [[.bool false, .nils, y]]⟩)) fun o ho => by
        have := f2 o ho
        rw [objAt_setne (by omega), hold o (k2.lt o ho)]
      refine ⟨.agg [.bool false, .sl 1 [], y], o2, ?_, owV_rat (o1 := []) owV_ints0 k2', n2⟩
      simp only [LaxV_agg, LaxL_c, LaxL_n, LaxV_bool, LaxV_nil, true_and, and_true]
      exact laxV_refl _
    · rcases k1.ints_inv with ⟨h1, _, _⟩ | ⟨o, rfl, h1, _⟩
      · have := ln_pos.2 (Nat.pos_of_ne_zero hu)
        rw [h1] at this; simp at this
      · obtain ⟨q3, hr, hold, hlen⟩ := rf_bigMake h.d_impl_bigMake (neg := !decide (decide (n < 0) = decide (d < 0))) h1 (Nat.pos_of_ne_zero hu) (by omega)
        refine RefK_mk hr rfl hlen (by simp) ?_
        replace B2 := (hold 2 (by omega)).trans B2
        have lq3 : 3 ≤ q3.length := by omega
        (refine ew4 @B2 @lq3 @lfy @fcy ?_; try with_reducible exact True.intro)
        have hb := congrArg Bi.neg (bi_sg (!decide (decide (n < 0) = decide (d < 0))) u (Nat.pos_of_ne_zero hu))
        have hb : decide (sg (!decide (decide (n < 0) = decide (d < 0))) u < 0) = !decide (decide (n < 0) = decide (d < 0)) := hb
        rw [hb]
        generalize (!decide (decide (n < 0) = decide (d < 0))) = ng
        have fr : ∀ p, p ∈ o1 ++ o2 → objAt (q3.set 2 (some ⟨3, [[.bool ng, .msl o 0 (mk u).length, y]]⟩)) p = objAt q2 p := fun p hp => by
          have h3 : 3 ≤ p ∧ p < q2.length := by
            rcases List.mem_append.1 hp with hp | hp
            · exact ⟨f1 p hp, k1.lt p hp⟩
            · exact ⟨f2 p hp, k2.lt p hp⟩
          rw [objAt_setne (by omega), hold p h3.2]
        exact fin_of (owV_rat (k1.frame fun p hp => fr p (List.mem_append_left _ hp)) (k2.frame fun p hp => fr p (List.mem_append_right _ hp))) hn12
theorem po_ratAdd {T : Nat → Option Fn} (h : D_impl_ratAdd T) {a b : Q} (ha : a.ok := by assumption) (hb : b.ok := by assumption) : PO T 131 [ratV (Q.raw a), ratV (Q.raw b)] (ratV (Q.raw (addQ a b))) := by
  cases a with
  | none =>
    refine po_end2 (fun x d => x == 144) h.hT rfl rfl ?_
    dsimp only [F_impl_ratAdd, oN, oS, oG, oK, oA, oH, oV, cI, St.enter, List.length_cons, List.length_nil, Nat.zero_add]
    (refine ew ?_; try with_reducible exact True.intro)
    refine PFK_of (c_goodN h.d_impl_good) ?_
    (refine ew ?_; try with_reducible exact True.intro)
    exact fin_R0
  | some q => cases b with
    | none =>
      refine po_end2 (fun x d => x == 144) h.hT rfl rfl ?_
      dsimp only [F_impl_ratAdd, oN, oS, oG, oK, oA, oH, oV, cI, St.enter, List.length_cons, List.length_nil, Nat.zero_add]
      (refine ew ?_; try with_reducible exact True.intro)
      refine PFK_of (c_goodS h.d_impl_good) ?_
      (refine ew ?_; try with_reducible exact True.intro)
      refine PFK_of (c_goodN h.d_impl_good) ?_
      (refine ew ?_; try with_reducible exact True.intro)
      exact fin_R0
    | some s =>
      obtain ⟨l1, l2⟩ := q_bd ha
      obtain ⟨l3, l4⟩ := q_bd hb
      have e : addQ (some q) (some s) = mkQ (q.num * s.den + s.num * q.den) (q.den * s.den) := (mkQ_add q s).symm
      rw [e]
      have t1 := ln_imul q.num s.den
      have t2 := ln_imul s.num q.den
      have t3 := ln_imul q.den s.den
      have t5 := ln_imul q.num s.num
      have t4 := ln_iadd (q.num * s.den) (s.num * q.den)
      have n1 : (mk (q.den : Int).natAbs).length ≤ 24 := by rw [Int.natAbs_natCast]; exact l2
      have n2 : (mk (s.den : Int).natAbs).length ≤ 24 := by rw [Int.natAbs_natCast]; exact l4
      refine po_end2 (fun x d => x == 144) h.hT rfl rfl ?_
      dsimp only [F_impl_ratAdd, oN, oS, oG, oK, oA, oH, oV, cI, St.enter, List.length_cons, List.length_nil, Nat.zero_add]
      (refine ew ?_; try with_reducible exact True.intro)
      refine PFK_of (c_goodS h.d_impl_good) ?_
      (refine ew ?_; try with_reducible exact True.intro)
      refine PFK_of (c_goodS h.d_impl_good) ?_
      (refine ew ?_; try with_reducible exact True.intro)
      refine PFK_of (c_denQ h.d_impl_denOf (q := s)) ?_
      (refine ew ?_; try with_reducible exact True.intro)
      refine PFK_of (c_bigMul h.d_impl_bigMul (x := q.num) (y := s.den) (by omega) (by omega)) ?_
      (refine ew ?_; try with_reducible exact True.intro)
      refine PFK_of (c_denQ h.d_impl_denOf (q := q)) ?_
      (refine ew ?_; try with_reducible exact True.intro)
      refine PFK_of (c_bigMul h.d_impl_bigMul (x := s.num) (y := q.den) (by omega) (by omega)) ?_
      (refine ew ?_; try with_reducible exact True.intro)
      refine PFK_of (c_bigAdd h.d_impl_bigAdd (x := q.num * s.den) (y := s.num * q.den) (by omega) (by omega)) ?_
      (refine ew ?_; try with_reducible exact True.intro)
      refine ⟨by unfold OkA; decide +kernel, ?_⟩
      refine PFK_of (c_denQ h.d_impl_denOf (q := q)) ?_
      (refine ew ?_; try with_reducible exact True.intro)
      refine PFK_of (c_denQ h.d_impl_denOf (q := s)) ?_
      (refine ew ?_; try with_reducible exact True.intro)
      refine PFK_of (c_bigMul h.d_impl_bigMul (x := q.den) (y := s.den) (by omega) (by omega)) ?_
      (refine ew ?_; try with_reducible exact True.intro)
      refine OwnK_got0 (po_ratMake h.d_impl_ratMake (n := q.num * s.den + s.num * q.den) (d := q.den * s.den) (by omega) (by omega)) (by (refine ew ?_; try with_reducible exact True.intro)) (by (refine ew ?_; try with_reducible exact True.intro)) ?_
      intro v q os g
      have g0 := g
      obtain ⟨a0, d0, _, _, rfl, _, k1, k2⟩ := g.ow.rat_inv
      have B2 := g0.at 2 (by simp) rfl
      have lq : 3 ≤ q.length := by have := g0.len; simp at this; omega
      have la := k1.leaf rfl
      have ld := k2.leaf rfl
      have lfs := And.intro la ld
      have fc := fun b k => cells_agg (cs := [.bool b, a0, d0]) (by simp [la, ld, show ∀ b, V.leaf (.bool b) = true from fun _ => rfl]) k
      (refine ew4 @B2 @lq @lfs @fc ?_; try with_reducible exact True.intro)
      refine ⟨by unfold OkA; decide +kernel, ?_⟩
      (refine ew4 @B2 @lq @lfs @fc ?_; try with_reducible exact True.intro)
      exact g0.finSet (by simp)
end Go.Ml
end
section
set_option linter.unusedSimpArgs false
set_option linter.unusedVariables false
set_option maxRecDepth 100000
set_option maxHeartbeats 8000000
namespace Go.Ml
theorem po_ratAddR {T : Nat → Option Fn} (h : D_impl_ratAdd T) {r s : R} (hr : r.cn := by first | with_reducible assumption | with_reducible exact addR_cn _ _ | with_reducible exact subR_cn _ _ | with_reducible exact mulR_cn _ _ | with_reducible exact divR_cn _ _ | with_reducible exact negR_cn _ | with_reducible exact cn_0 | with_reducible exact intR_cn (by decide)) (hs : s.cn := by first | with_reducible assumption | with_reducible exact addR_cn _ _ | with_reducible exact subR_cn _ _ | with_reducible exact mulR_cn _ _ | with_reducible exact divR_cn _ _ | with_reducible exact negR_cn _ | with_reducible exact cn_0 | with_reducible exact intR_cn (by decide)) : PO T 131 [ratV r, ratV s] (ratV (addR r s)) := by
  have := po_ratAdd h (a := r.q) (b := s.q) (q_ok r) (q_ok s)
  rw [hr, hs] at this; exact this
theorem po_BigIntOf {T : Nat → Option Fn} (h : D_impl_BigIntOf T) {n : Int} (hn : -1000000000000000000 < n ∧ n < 1000000000000000000 := by first | omega | assumption | (simp; omega)) : PO T 54 [iv n] (biV (bi n)) := by
  have hl : (mk n.natAbs).length ≤ 2 := ln_small (by omega)
  by_cases hneg : n < 0
  · have c1 := po_natOfUint h.d_impl_natOfUint (n := -(n + 1) + 1) (by omega)
    rw [show (-(n + 1) + 1).toNat = n.natAbs by omega] at c1
    have e : bi n = ⟨true, mk n.natAbs⟩ := by unfold bi; rw [decide_eq_true hneg]
    rw [e]
    refine po_end2 (fun x d => x == 69 || x == 68) h.hT rfl rfl ?_
    dsimp only [F_impl_BigIntOf, oN, oS, oG, oK, oA, oH, oV, cI, St.enter, List.length_cons, List.length_nil, Nat.zero_add]
    (refine ew ?_; try with_reducible exact True.intro)
    (refine ew1 @hneg ?_; try with_reducible exact True.intro)
    rw [show (0 : Int) - (n + 1) + 1 = -(n + 1) + 1 by omega]
    refine RefK_got c1 (by (refine ew ?_; try with_reducible exact True.intro)) ?_
    intro v q1 o1 g
    have B0 := g.at 0 (by simp) rfl
    have lq : 1 ≤ q1.length := g.len
    have f1 : ∀ o ∈ o1, 1 ≤ o := g.fresh
    have k1 := g.ow
    have n1 := g.nd
    clear g
    (refine ew2 @B0 @lq ?_; try with_reducible exact True.intro)
    rcases k1.ints_inv with ⟨h1, _, _⟩ | ⟨o, rfl, h1, _⟩
    · have := ln_pos.2 (show 0 < n.natAbs by omega)
      rw [h1] at this; simp at this
    refine RefK_big h.d_impl_bigMake (neg := true) h1 (by omega) rfl (by omega) ?_
    intro q3 hold hlen
    replace B0 := (hold 0 (by omega)).trans B0
    have lq3 : 1 ≤ q3.length := by omega
    (refine ew2 @B0 @lq3 ?_; try with_reducible exact True.intro)
    refine fin_of (owV_agg2 (k1.frame fun p hp => ?_)) n1
    have := f1 p hp
    rw [objAt_setne (by omega), hold p (k1.lt p hp)]
  · have c1 := po_natOfUint h.d_impl_natOfUint (n := n) (by omega)
    rw [show n.toNat = n.natAbs by omega] at c1
    have e : bi n = ⟨false, mk n.natAbs⟩ := by unfold bi; rw [decide_eq_false hneg]
    rw [e]
    refine po_end2 (fun x d => x == 69 || x == 68) h.hT rfl rfl ?_
    dsimp only [F_impl_BigIntOf, oN, oS, oG, oK, oA, oH, oV, cI, St.enter, List.length_cons, List.length_nil, Nat.zero_add]
    (refine ew ?_; try with_reducible exact True.intro)
    (refine ew1 @hneg ?_; try with_reducible exact True.intro)
    refine RefK_got c1 (by (refine ew ?_; try with_reducible exact True.intro)) ?_
    intro v q1 o1 g
    have B0 := g.at 0 (by simp) rfl
    have lq : 1 ≤ q1.length := g.len
    have f1 : ∀ o ∈ o1, 1 ≤ o := g.fresh
    have k1 := g.ow
    have n1 := g.nd
    clear g
    (refine ew2 @B0 @lq ?_; try with_reducible exact True.intro)
    by_cases h0 : n.natAbs = 0
    · rw [h0, mk_zero] at k1 ⊢
      refine RefK_big0 h.d_impl_bigMake (neg := false) k1 rfl ?_
      intro q3 hold hlen
      replace B0 := (hold 0 (by omega)).trans B0
      have lq3 : 1 ≤ q3.length := by omega
      (refine ew2 @B0 @lq3 ?_; try with_reducible exact True.intro)
      exact ⟨.agg [.bool false, .sl 1 []], [], laxBi0, owV_agg2 (owV_ints0), .nil⟩
    rcases k1.ints_inv with ⟨h1, _, _⟩ | ⟨o, rfl, h1, _⟩
    · have := ln_pos.2 (show 0 < n.natAbs by omega)
      rw [h1] at this; simp at this
    refine RefK_big h.d_impl_bigMake (neg := false) h1 (by omega) rfl (by omega) ?_
    intro q3 hold hlen
    replace B0 := (hold 0 (by omega)).trans B0
    have lq3 : 1 ≤ q3.length := by omega
    (refine ew2 @B0 @lq3 ?_; try with_reducible exact True.intro)
    refine fin_of (owV_agg2 (k1.frame fun p hp => ?_)) n1
    have := f1 p hp
    rw [objAt_setne (by omega), hold p (k1.lt p hp)]
theorem po_RatFromInt {T : Nat → Option Fn} (h : D_impl_RatFromInt T) {n : Int} (hn : -1000000000000000000 < n ∧ n < 1000000000000000000 := by first | omega | assumption | (simp; omega)) : PO T 39 [iv n] (ratV (intR n)) := by
  rw [intR_raw]
  refine po_end2 (fun x d => x == 54) h.hT rfl rfl ?_
  dsimp only [F_impl_RatFromInt, oN, oS, oG, oK, oA, oH, oV, cI, St.enter, List.length_cons, List.length_nil, Nat.zero_add]
  (refine ew ?_; try with_reducible exact True.intro)
  refine RefK_got (po_BigIntOf h.d_impl_BigIntOf hn) (by (refine ew ?_; try with_reducible exact True.intro)) ?_
  intro v q1 o1 g
  obtain ⟨v1, rfl, k1⟩ := g.ow.bi_inv
  have B0 := g.at 0 (by simp) rfl
  have B1 := g.at 1 (by simp) rfl
  have lq : 2 ≤ q1.length := g.len
  have f1 : ∀ o ∈ o1, 2 ≤ o := g.fresh
  have n1 := g.nd
  have la := k1.leaf rfl
  have fc := fun b k => cells_agg (cs := [.bool b, v1]) (by simp [la, show ∀ b, V.leaf (.bool b) = true from fun _ => rfl]) k
  clear g
  (refine ew5 @B0 @B1 @lq @la @fc ?_; try with_reducible exact True.intro)
  refine fin_of (owV_rat (o1 := o1) (o2 := [1]) (k1.frame fun p hp => ?_) (owV_ints (l := [1]) ?_)) ?_
  · have := f1 p hp
    rw [objAt_setne (by omega), objAt_setne (by omega)]
  · rw [objAt_setne (by omega), objAt_seteq (by omega)]; rfl
  · rw [List.nodup_append]
    refine ⟨n1, by simp, fun a ha b hb e => ?_⟩
    have := f1 a ha
    simp at hb
    omega
end Go.Ml
end
section
set_option linter.unusedSimpArgs false
set_option linter.unusedVariables false
set_option maxRecDepth 100000
set_option maxHeartbeats 4000000
namespace Go.Ml
theorem po_toBigInt {T : Nat → Option Fn} (h : D_laws_toBigInt T) {z : Bi} (hl : z.mag.length ≤ 1048576 := by first | omega | assumption | (simp; omega)) : PO T 63 [biV z] (biV z) := by
  refine po_end2 (fun x d => x == 6) h.hT rfl rfl ?_
  dsimp only [F_laws_toBigInt, oN, oS, oG, oK, oA, oH, oV, cI, St.enter, List.length_cons, List.length_nil, Nat.zero_add]
  (refine ew ?_; try with_reducible exact True.intro)
  refine RefK_got (po_toIntS h.d_laws_toIntS (l := z.mag) (by omega)) (by (refine ew ?_; try with_reducible exact True.intro)) ?_
  intro r σ2 os g
  have g1 := g.at 1 (by simp) rfl
  have g2 := g.at 2 (by simp) rfl
  have gl : 3 ≤ σ2.length := g.len
  have lf := g.lf rfl
  have lb := g.lfb rfl
  have fr : ∀ o ∈ os, 3 ≤ o := g.fresh
  (refine ew4 @g1 @g2 @lf @lb ?_; try with_reducible exact True.intro)
  refine fin_of (owV_agg (owL_bool (owL_v (g.ow.frame fun o ho => ?_) owL_nil))) (by simpa using g.nd)
  have := fr o ho
  rw [objAt_setne (by omega), objAt_setne (by omega)]
theorem po_toRat {T : Nat → Option Fn} (h : D_laws_toRat T) {r : R} (hl : r.mag.length + r.den.length ≤ 1048576 := by first | omega | assumption | (simp; omega)) : PO T 48 [ratV r] (ratV r) := by
  refine po_end2 (fun x d => x == 6 || x == 63) h.hT rfl rfl ?_
  dsimp only [F_laws_toRat, oN, oS, oG, oK, oA, oH, oV, cI, St.enter, List.length_cons, List.length_nil, Nat.zero_add]
  (refine ew ?_; try with_reducible exact True.intro)
  refine RefK_got (po_toBigInt h.d_laws_toBigInt (z := r.num) (by show r.mag.length ≤ _; omega)) (by (refine ew ?_; try with_reducible exact True.intro)) ?_
  intro r1 σ1 o1 g
  obtain ⟨v1, rfl, k1⟩ := g.ow.bi_inv
  have a0 := g.at 0 (by simp) rfl
  have a1 := g.at 1 (by simp) rfl
  have a2 := g.at 2 (by simp) rfl
  have gl : 3 ≤ σ1.length := g.len
  have lf := cells_lf (k1.leaf rfl)
  have lb := k1.leaf rfl
  have f1 : ∀ o ∈ o1, 3 ≤ o := g.fresh
  (refine ew5 @a0 @a1 @a2 @lf @lb ?_; try with_reducible exact True.intro)
  refine RefK_got (po_toIntS h.d_laws_toIntS (l := r.den) (by omega)) (by (refine ew ?_; try with_reducible exact True.intro)) ?_
  intro v2 σ2 o2 g2
  have b1 := g2.old 1 (by simp; omega)
  have b2 := g2.old 2 (by simp; omega)
  have gl2 : σ1.length ≤ σ2.length := by simpa using g2.len
  have lf2 := cells_lf (g2.ow.leaf rfl)
  have lb2 := g2.ow.leaf rfl
  have f2 : ∀ o ∈ o2, σ1.length ≤ o := by simpa using g2.fresh
  (refine ew6 @b1 @b2 @a1 @lf2 @lb2 @lb ?_; try with_reducible exact True.intro)
  refine fin_of (owV_agg (owL_bool (owL_v (k1.frame fun o ho => ?_) (owL_v (g2.ow.frame fun o ho => ?_) owL_nil)))) ?_
  · have := f1 o ho
    have := k1.lt o ho
    rw [objAt_setne (by omega), objAt_setne (by omega), g2.old o (by simp; omega), objAt_setne (by omega)]
  · have := f2 o ho
    rw [objAt_setne (by omega), objAt_setne (by omega)]
  · rw [List.append_nil, List.nodup_append]
    refine ⟨by simpa using g.nd, g2.nd, fun a ha b hb e => ?_⟩
    have := k1.lt a ha
    have := f2 b hb
    omega
end Go.Ml
end
section
set_option linter.unusedSimpArgs false
set_option linter.unusedVariables false
set_option maxRecDepth 100000
set_option maxHeartbeats 4000000
namespace Go.Ml
def toSF (z : List V) (bytes sz f : Nat) : Fn := ⟨1, 23, [.tmp 2], (.seq (.reg false 0 [oN 2 (.mov (.c (.nils)))]) (.seq (.reg false 1 [oK 5 1 (oV 0), oK 6 1 (.len (.t 5)), oN 7 (.make z bytes (.t 6)), oK 3 1 (oV 7)]) (.seq (.seq (.reg false 0 [oN 4 (.mov (cI 0))]) (.block 0 (.loop (.seq (.seq (.reg false 0 [oN 8 (oV 4), oN 9 (oV 0), oN 10 (.len (.t 9)), oN 11 (.bin .lss (.t 8) (.t 10))]) (.cond (.t 11) .skip (.exit 0))) (.seq (.block 1 (.reg false 0 [oN 14 (oV 3), oN 15 (oV 4), oN 16 (oV 0), oN 17 (oV 4), oN 18 (.idx sz (.t 16) (.t 17)), oN 19 (.load sz true (.t 18)), oN 20 (.call f [(.t 19)]), oN 21 (.idx sz (.t 14) (.t 15)), oS (.store sz (.t 21) (.t 20))])) (.reg false 0 [oN 12 (oV 4), oN 13 (.bin .add (.t 12) (cI 1)), oN 4 (oV 13)])))))) (.seq (.reg false 0 [oN 22 (oV 3), oN 2 (oV 22)]) .ret))))⟩
theorem rep_get {α : Type} (A : List α) (z : α) {n i : Nat} (ha : A.length = i) (h : i < n) : (A ++ List.replicate (n - i) z)[i]? = some z := by
  rw [List.getElem?_append_right (by omega), ha, Nat.sub_self, show n - i = (n - (i + 1)) + 1 by omega, List.replicate_succ]; rfl
theorem rep_set {α : Type} (A : List α) (z x : α) {n i : Nat} (ha : A.length = i) (h : i < n) : (A ++ List.replicate (n - i) z).set i x = (A ++ [x]) ++ List.replicate (n - (i + 1)) z := by
  rw [List.set_append_right _ _ (by omega), ha, Nat.sub_self, show n - i = (n - (i + 1)) + 1 by omega, List.replicate_succ]; simp
theorem take_map_succ {α : Type} [Inhabited α] (cl : α → List V) (l : List α) {i : Nat} (h : i < l.length) : (l.take (i + 1)).map cl = (l.take i).map cl ++ [cl (l.getD i default)] := by
  rw [List.take_add_one, List.getElem?_eq_getElem h, List.getD_eq_getElem?_getD, List.getElem?_eq_getElem h, List.map_append]; rfl
theorem resC_still {σ : Store} : ∀ {cs : List V}, (∀ v ∈ cs, v.still = true) → resC σ cs = some cs
  | [], _ => rfl
  | c :: cs, h => by
    simp only [resC]
    rw [res_still (n := 10) (h c (by simp)), resC_still fun v hv => h v (by simp [hv])]
theorem res_agg_still {σ : Store} {cs : List V} (h : ∀ v ∈ cs, v.still = true) : resolve σ FD (.agg cs) = some (.agg cs) := by
  show (cs.mapM (resolve σ 11)).map V.agg = _
  rw [mapM_still (n := 10) h]; rfl
theorem po_toS {T : Nat → Option Fn} {n f bytes : Nat} {z : List V} {α : Type} [Inhabited α] {cl : α → List V} {l : List α} (hT : T n = some (toSF z bytes z.length f)) (hb : bytes ≤ 1024) (hl : l.length ≤ 1048576)
    (hcl : ∀ x ∈ l, (cl x).length = z.length ∧ (∀ v ∈ cl x, v.still = true) ∧ (cl x).all V.leaf = true) (hpo : ∀ x ∈ l, PO T f [.agg (cl x)] (.agg (cl x))) : PO T n [.sl z.length (l.map cl)] (.sl z.length (l.map cl)) := by

  refine po_end2 (fun x _ => x == f) hT rfl rfl ?_
  dsimp only [toSF, oN, oS, oG, oK, oA, oH, oV, cI]
  (refine ew ?_; try with_reducible exact True.intro)
  have hbl : l.length * bytes ≤ 1048576 * 1024 := Nat.mul_le_mul hl hb
  refine ⟨by omega, ?_⟩
  refine loop_at (fun x _ => x == f) (α := Nat × Store × List (List V)) (fun q => ⟨argE [.sl z.length (l.map cl), .any, .any, .msl 0 0 l.length, iv (q.1 : Nat)], q.2.1, 0, 0, [], []⟩) (fun q => q.1 ≤ l.length ∧ q.2.2.length = q.1 ∧ objAt q.2.1 0 = some ⟨z.length, q.2.2 ++ List.replicate (l.length - q.1) z⟩ ∧ OwRs 1 q.2.1 q.2.2 ((l.take q.1).map cl) ∧ 1 ≤ q.2.1.length) (fun q => l.length - q.1) rfl (0, [some ⟨z.length, List.replicate l.length z⟩], []) ?_ ?_ ?_
  · exact ⟨by omega, rfl, rfl, by simpa using owRs_nil, by simp⟩
  · (refine Fg_env ?_) <;> (try (refine ew ?_; try with_reducible exact True.intro)) <;> (repeat' (first | refine ⟨?_, ?_⟩ | exact EvV_int (by omega) | exact EvV_of (by simp) | exact EvV_nil _))
  · rintro ⟨i, s, A⟩ ⟨hi, hA, h0, hO, hs⟩
    dsimp only at hi hA h0 hO hs
    (refine ew1 @h0 ?_; try with_reducible exact True.intro)
    refine brK_dec (fun hc => ?_) fun hc => ?_ <;> (refine ew3 @hc @mg @h0 ?_; try with_reducible exact True.intro)
    · have hil : i < l.length := by omega
      have hx := getD_mem hil
      obtain ⟨x, hxe⟩ : ∃ x, l.getD i default = x := ⟨_, rfl⟩
      have hts := take_map_succ cl l hil
      rw [hxe] at hx hts ⊢
      obtain ⟨e1, e2, e3⟩ := hcl x hx
      have e4 : ∀ σ : Store, resC σ (cl x) = some (cl x) := fun σ => resC_still e2
      have e5 : ∀ σ : Store, resolve σ FD (.agg (cl x)) = some (.agg (cl x)) := fun σ => res_agg_still e2
      have eb : (f == f) = true := by simp
      (refine ew3 @e1 @e4 @eb ?_; try with_reducible exact True.intro)
      refine RefK_got (hpo x hx) (by (refine ew1 @e5 ?_; try with_reducible exact True.intro)) ?_
      intro r σ2 os g
      obtain ⟨cs, rfl, k1⟩ := g.ow.agg_inv
      have g0 := g.at 0 (by omega) h0
      have gl := g.len
      have lf := cells_agg (k1.leaf e3)
      have cl1 : cs.length = z.length := by rw [k1.len, e1]
      have r1 := rep_get A z hA hil
      have r2 := rep_set A z cs hA hil
      (refine ew5 @g0 @lf @cl1 @r1 @List.drop_length.{0} ?_; try with_reducible exact True.intro)
      rw [r2]
      refine ⟨(i + 1, σ2.set 0 (some ⟨z.length, (A ++ [cs]) ++ List.replicate (l.length - (i + 1)) z⟩), A ++ [cs]), by dsimp only; omega, ⟨by dsimp only; omega, by simp [hA], ?_, ?_, by simp; omega⟩, by (refine Fg_env ?_) <;> (try (refine ew ?_; try with_reducible exact True.intro)) <;> (repeat' (first | refine ⟨?_, ?_⟩ | exact EvV_int (by omega) | exact EvV_of (by simp) | exact EvV_nil _))⟩
      · dsimp only; exact objAt_seteq (by omega)
      · dsimp only
        rw [hts]
        exact (hO.got g hs).set (by omega)
    · have ei : i = l.length := by omega
      subst ei
      rw [Nat.sub_self, List.replicate_zero, List.append_nil] at h0
      rw [List.take_length] at hO
      have := hO.fin h0 (by omega)
      rw [List.length_map] at this
      exact this
end Go.Ml
end
section
set_option linter.unusedSimpArgs false
set_option linter.unusedVariables false
set_option maxRecDepth 100000
namespace Go.Ml
def F_impl_sameInts : Fn := ⟨2, 26, [.tmp 4], (.seq (.reg false 0 [oN 4 (.mov (.c (.bool false)))]) (.seq (.seq (.reg false 0 [oN 7 (oV 0), oN 8 (.len (.t 7)), oN 9 (oV 1), oN 10 (.len (.t 9)), oN 11 (.bin .neq (.t 8) (.t 10))]) (.cond (.t 11) (.seq (.reg false 0 [oN 4 (.mov (.c (.bool false)))]) .ret) .skip)) (.seq (.seq (.reg false 0 [oN 12 (oV 0), oN 13 (.len (.t 12)), oN 14 (.mov (cI 0))]) (.block 0 (.loop (.seq (.reg false 0 [oN 15 (.bin .lss (.t 14) (.t 13))]) (.seq (.cond (.t 15) .skip (.exit 0)) (.seq (.block 1 (.seq (.reg false 0 [oN 16 (oV 14), oN 17 (.idx 1 (.t 12) (.t 14)), oN 18 (.load 1 false (.t 17)), oN 5 (oV 16), oN 6 (oV 18)]) (.seq (.reg false 0 [oN 19 (oV 6), oN 20 (oV 1), oN 21 (oV 5), oN 22 (.idx 1 (.t 20) (.t 21)), oN 23 (.load 1 false (.t 22)), oN 24 (.bin .neq (.t 19) (.t 23))]) (.cond (.t 24) (.seq (.reg false 0 [oN 4 (.mov (.c (.bool false)))]) .ret) .skip)))) (.reg false 0 [oN 25 (.bin .add (.t 14) (cI 1)), oN 14 (oV 25)]))))))) (.seq (.reg false 0 [oN 4 (.mov (.c (.bool true)))]) .ret))))⟩
structure D_impl_sameInts (T : Nat → Option Fn) : Prop where
  hT : T 52 = some F_impl_sameInts
def F_spec_l04List : Fn := ⟨2, 26, [.tmp 4], (.seq (.reg false 0 [oN 4 (.mov (.c (.bool false)))]) (.seq (.seq (.reg false 0 [oN 6 (oV 0), oN 7 (.len (.t 6)), oN 8 (oV 1), oN 9 (.len (.t 8)), oN 10 (.bin .neq (.t 7) (.t 9))]) (.cond (.t 10) (.seq (.reg false 0 [oN 4 (.mov (.c (.bool false)))]) .ret) .skip)) (.seq (.seq (.reg false 0 [oN 11 (oV 0), oN 12 (.len (.t 11)), oN 13 (.mov (cI 0))]) (.block 0 (.loop (.seq (.reg false 0 [oN 14 (.bin .lss (.t 13) (.t 12))]) (.seq (.cond (.t 14) .skip (.exit 0)) (.seq (.block 1 (.seq (.reg false 0 [oN 15 (oV 13), oN 5 (oV 15)]) (.seq (.reg true 0 [oN 16 (oV 0), oN 17 (oV 5), oA 18 0 (.idx 1 (.t 16) (.t 17)) [0, 1], oA 19 0 (.load 1 false (.t 18)) [2], oN 20 (oV 1), oN 21 (oV 5), oA 22 0 (.idx 1 (.t 20) (.t 21)) [4, 5], oA 23 0 (.load 1 false (.t 22)) [6], oA 24 0 (.bin .neq (.t 19) (.t 23)) [3, 7]]) (.cond (.t 24) (.seq (.reg false 0 [oN 4 (.mov (.c (.bool false)))]) .ret) .skip)))) (.reg false 0 [oN 25 (.bin .add (.t 13) (cI 1)), oN 13 (oV 25)]))))))) (.seq (.reg false 0 [oN 4 (.mov (.c (.bool true)))]) .ret))))⟩
structure D_spec_l04List (T : Nat → Option Fn) : Prop where
  hT : T 51 = some F_spec_l04List
def F_impl_RatEqual : Fn := ⟨2, 28, [.tmp 4], (.seq (.reg false 2 [oN 2 (.box (.t 0)), oK 3 1 (.box (.t 1)), oK 4 2 (.mov (.c (.bool false)))]) (.seq (.reg false 0 [oN 5 (.fld 0 (.t 2)), oN 6 (.fld 0 (.t 5)), oN 7 (.load 1 false (.t 6)), oN 8 (.fld 0 (.t 3)), oN 9 (.fld 0 (.t 8)), oN 10 (.load 1 false (.t 9)), oN 11 (.beq false (.t 7) (.t 10)), oN 12 (oV 11), oG 12 true 13 (.fld 0 (.t 2)), oG 12 true 14 (.fld 1 (.t 13)), oG 12 true 15 (.load 1 false (.t 14)), oG 12 true 16 (.fld 0 (.t 3)), oG 12 true 17 (.fld 1 (.t 16)), oG 12 true 18 (.load 1 false (.t 17)), oG 12 true 19 (.call 52 [(.t 15), (.t 18)]), oN 20 (.pick (.t 12) (.t 19) (.c (.bool false))), oN 21 (oV 20), oG 21 true 22 (.fld 2 (.t 2)), oG 21 true 23 (.load 1 false (.t 22)), oG 21 true 24 (.fld 2 (.t 3)), oG 21 true 25 (.load 1 false (.t 24)), oG 21 true 26 (.call 52 [(.t 23), (.t 25)]), oN 27 (.pick (.t 21) (.t 26) (.c (.bool false))), oN 4 (oV 27)]) .ret))⟩
structure D_impl_RatEqual (T : Nat → Option Fn) : Prop where
  hT : T 32 = some F_impl_RatEqual
  d_impl_sameInts : D_impl_sameInts T
def F_spec_RatEqual : Fn := ⟨2, 28, [.tmp 4], (.seq (.reg false 2 [oN 2 (.box (.t 0)), oK 3 1 (.box (.t 1)), oK 4 2 (.mov (.c (.bool false)))]) (.seq (.reg false 0 [oN 5 (.fld 0 (.t 2)), oN 6 (.fld 0 (.t 5)), oN 7 (.load 1 false (.t 6)), oN 8 (.fld 0 (.t 3)), oN 9 (.fld 0 (.t 8)), oN 10 (.load 1 false (.t 9)), oN 11 (.beq false (.t 7) (.t 10)), oN 12 (oV 11), oG 12 true 13 (.fld 0 (.t 2)), oG 12 true 14 (.fld 1 (.t 13)), oG 12 true 15 (.load 1 false (.t 14)), oG 12 true 16 (.fld 0 (.t 3)), oG 12 true 17 (.fld 1 (.t 16)), oG 12 true 18 (.load 1 false (.t 17)), oG 12 true 19 (.call 51 [(.t 15), (.t 18)]), oN 20 (.pick (.t 12) (.t 19) (.c (.bool false))), oN 21 (oV 20), oG 21 true 22 (.fld 2 (.t 2)), oG 21 true 23 (.load 1 false (.t 22)), oG 21 true 24 (.fld 2 (.t 3)), oG 21 true 25 (.load 1 false (.t 24)), oG 21 true 26 (.call 51 [(.t 23), (.t 25)]), oN 27 (.pick (.t 21) (.t 26) (.c (.bool false))), oN 4 (oV 27)]) .ret))⟩
structure D_spec_RatEqual (T : Nat → Option Fn) : Prop where
  hT : T 30 = some F_spec_RatEqual
  d_spec_l04List : D_spec_l04List T
def F_impl_sameLink : Fn := ⟨2, 38, [.tmp 4], (.seq (.reg false 2 [oN 2 (.box (.t 0)), oK 3 1 (.box (.t 1)), oK 4 2 (.mov (.c (.bool false)))]) (.seq (.reg false 0 [oN 5 (.fld 0 (.t 2)), oN 6 (.load 1 false (.t 5)), oN 7 (.fld 0 (.t 3)), oN 8 (.load 1 false (.t 7)), oN 9 (.bin .eql (.t 6) (.t 8)), oN 10 (oV 9), oG 10 true 11 (.fld 1 (.t 2)), oG 10 true 12 (.load 1 false (.t 11)), oG 10 true 13 (.fld 1 (.t 3)), oG 10 true 14 (.load 1 false (.t 13)), oG 10 true 15 (.bin .eql (.t 12) (.t 14)), oN 16 (.pick (.t 10) (.t 15) (.c (.bool false))), oN 17 (oV 16), oG 17 true 18 (.fld 2 (.t 2)), oG 17 true 19 (.load 3 true (.t 18)), oG 17 true 20 (.fld 2 (.t 3)), oG 17 true 21 (.load 3 true (.t 20)), oG 17 true 22 (.call 32 [(.t 19), (.t 21)]), oN 23 (.pick (.t 17) (.t 22) (.c (.bool false))), oN 24 (oV 23), oG 24 true 25 (.fld 5 (.t 2)), oG 24 true 26 (.load 3 true (.t 25)), oG 24 true 27 (.fld 5 (.t 3)), oG 24 true 28 (.load 3 true (.t 27)), oG 24 true 29 (.call 32 [(.t 26), (.t 28)]), oN 30 (.pick (.t 24) (.t 29) (.c (.bool false))), oN 31 (oV 30), oG 31 true 32 (.fld 8 (.t 2)), oG 31 true 33 (.load 3 true (.t 32)), oG 31 true 34 (.fld 8 (.t 3)), oG 31 true 35 (.load 3 true (.t 34)), oG 31 true 36 (.call 32 [(.t 33), (.t 35)]), oN 37 (.pick (.t 31) (.t 36) (.c (.bool false))), oN 4 (oV 37)]) .ret))⟩
structure D_impl_sameLink (T : Nat → Option Fn) : Prop where
  hT : T 45 = some F_impl_sameLink
  d_impl_RatEqual : D_impl_RatEqual T
def F_impl_SameLinks : Fn := ⟨2, 27, [.tmp 4], (.seq (.reg false 0 [oN 4 (.mov (.c (.bool false)))]) (.seq (.seq (.reg false 0 [oN 7 (oV 0), oN 8 (.len (.t 7)), oN 9 (oV 1), oN 10 (.len (.t 9)), oN 11 (.bin .neq (.t 8) (.t 10))]) (.cond (.t 11) (.seq (.reg false 0 [oN 4 (.mov (.c (.bool false)))]) .ret) .skip)) (.seq (.seq (.reg false 0 [oN 12 (oV 0), oN 13 (.len (.t 12)), oN 14 (.mov (cI 0))]) (.block 0 (.loop (.seq (.reg false 0 [oN 15 (.bin .lss (.t 14) (.t 13))]) (.seq (.cond (.t 15) .skip (.exit 0)) (.seq (.block 1 (.seq (.reg false 1 [oK 16 1 (oV 14), oK 17 1 (.idx 11 (.t 12) (.t 14)), oK 18 1 (.load 11 true (.t 17)), oN 6 (.alloc [.int .i64 0, .int .i64 0, .bool false, .nils, .nils, .bool false, .nils, .nils, .bool false, .nils, .nils]), oK 5 1 (oV 16), ⟨none, none, 1, .store 11 (.t 6) (.t 18), []⟩]) (.seq (.reg true 0 [oN 19 (.load 11 true (.t 6)), oN 20 (oV 1), oN 21 (oV 5), oA 22 0 (.idx 11 (.t 20) (.t 21)) [1, 2], oA 23 0 (.load 11 true (.t 22)) [3], oA 24 0 (.call 45 [(.t 19), (.t 23)]) [0, 4], oA 25 0 (.un .not (.t 24)) [5]]) (.cond (.t 25) (.seq (.reg false 0 [oN 4 (.mov (.c (.bool false)))]) .ret) .skip)))) (.reg false 0 [oN 26 (.bin .add (.t 14) (cI 1)), oN 14 (oV 26)]))))))) (.seq (.reg false 0 [oN 4 (.mov (.c (.bool true)))]) .ret))))⟩
structure D_impl_SameLinks (T : Nat → Option Fn) : Prop where
  hT : T 22 = some F_impl_SameLinks
  d_impl_sameLink : D_impl_sameLink T
end Go.Ml
end
section
set_option linter.unusedSimpArgs false
set_option linter.unusedVariables false
set_option maxRecDepth 100000
namespace Go.Ml
def F_laws_eqPoint : Fn := ⟨2, 17, [.tmp 4], (.seq (.reg false 2 [oN 2 (.box (.t 0)), oK 3 1 (.box (.t 1)), oK 4 2 (.mov (.c (.bool false)))]) (.seq (.seq (.reg false 0 [oN 5 (.fld 0 (.t 2)), oN 6 (.load 3 true (.t 5)), oN 7 (.fld 0 (.t 3)), oN 8 (.load 3 true (.t 7)), oN 9 (.call 40 [(.t 6), (.t 8)]), oN 10 (.un .not (.t 9))]) (.cond (.t 10) (.seq (.reg false 0 [oN 4 (.mov (.c (.bool false)))]) .ret) .skip)) (.seq (.seq (.reg false 0 [oN 11 (.fld 3 (.t 2)), oN 12 (.load 3 true (.t 11)), oN 13 (.fld 3 (.t 3)), oN 14 (.load 3 true (.t 13)), oN 15 (.call 40 [(.t 12), (.t 14)]), oN 16 (.un .not (.t 15))]) (.cond (.t 16) (.seq (.reg false 0 [oN 4 (.mov (.c (.bool false)))]) .ret) .skip)) (.seq (.reg false 0 [oN 4 (.mov (.c (.bool true)))]) .ret))))⟩
structure D_laws_eqPoint (T : Nat → Option Fn) : Prop where
  hT : T 33 = some F_laws_eqPoint
  d_laws_eqRat : D_laws_eqRat T
def F_laws_eqPointS : Fn := ⟨2, 27, [.tmp 4], (.seq (.reg false 0 [oN 4 (.mov (.c (.bool false)))]) (.seq (.seq (.reg false 0 [oN 6 (oV 0), oN 7 (.len (.t 6)), oN 8 (oV 1), oN 9 (.len (.t 8)), oN 10 (.bin .neq (.t 7) (.t 9))]) (.cond (.t 10) (.seq (.reg false 0 [oN 4 (.mov (.c (.bool false)))]) .ret) .skip)) (.seq (.seq (.reg false 0 [oN 5 (.mov (cI 0))]) (.block 0 (.loop (.seq (.seq (.reg false 0 [oN 11 (oV 5), oN 12 (oV 0), oN 13 (.len (.t 12)), oN 14 (.bin .lss (.t 11) (.t 13))]) (.cond (.t 14) .skip (.exit 0))) (.seq (.block 1 (.seq (.reg true 0 [oN 17 (oV 0), oN 18 (oV 5), oA 19 0 (.idx 6 (.t 17) (.t 18)) [0, 1], oA 20 0 (.load 6 true (.t 19)) [2], oN 21 (oV 1), oN 22 (oV 5), oA 23 0 (.idx 6 (.t 21) (.t 22)) [4, 5], oA 24 0 (.load 6 true (.t 23)) [6], oA 25 0 (.call 33 [(.t 20), (.t 24)]) [3, 7], oA 26 0 (.un .not (.t 25)) [8]]) (.cond (.t 26) (.seq (.reg false 0 [oN 4 (.mov (.c (.bool false)))]) .ret) .skip))) (.reg false 0 [oN 15 (oV 5), oN 16 (.bin .add (.t 15) (cI 1)), oN 5 (oV 16)])))))) (.seq (.reg false 0 [oN 4 (.mov (.c (.bool true)))]) .ret))))⟩
structure D_laws_eqPointS (T : Nat → Option Fn) : Prop where
  hT : T 13 = some F_laws_eqPointS
  d_laws_eqPoint : D_laws_eqPoint T
def F_laws_szLink : Fn := ⟨2, 24, [.tmp 4], (.seq (.reg false 1 [oN 2 (.box (.t 0)), oK 4 1 (.mov (cI 0))]) (.seq (.reg false 0 [oN 5 (.fld 2 (.t 2)), oN 6 (.load 3 true (.t 5)), oN 7 (oV 1), oN 8 (.call 46 [(.t 6), (.t 7)]), oN 1 (oV 8)]) (.seq (.seq (.reg false 0 [oN 9 (oV 1), oN 10 (.bin .lss (.t 9) (cI 0))]) (.cond (.t 10) (.seq (.reg false 0 [oN 4 (.mov (cI (-1)))]) .ret) .skip)) (.seq (.reg false 0 [oN 11 (.fld 5 (.t 2)), oN 12 (.load 3 true (.t 11)), oN 13 (oV 1), oN 14 (.call 46 [(.t 12), (.t 13)]), oN 1 (oV 14)]) (.seq (.seq (.reg false 0 [oN 15 (oV 1), oN 16 (.bin .lss (.t 15) (cI 0))]) (.cond (.t 16) (.seq (.reg false 0 [oN 4 (.mov (cI (-1)))]) .ret) .skip)) (.seq (.reg false 0 [oN 17 (.fld 8 (.t 2)), oN 18 (.load 3 true (.t 17)), oN 19 (oV 1), oN 20 (.call 46 [(.t 18), (.t 19)]), oN 1 (oV 20)]) (.seq (.seq (.reg false 0 [oN 21 (oV 1), oN 22 (.bin .lss (.t 21) (cI 0))]) (.cond (.t 22) (.seq (.reg false 0 [oN 4 (.mov (cI (-1)))]) .ret) .skip)) (.seq (.reg false 0 [oN 23 (oV 1), oN 4 (oV 23)]) .ret))))))))⟩
structure D_laws_szLink (T : Nat → Option Fn) : Prop where
  hT : T 43 = some F_laws_szLink
  d_laws_szRat : D_laws_szRat T
def F_laws_toLink : Fn := ⟨1, 23, [.cell 2 11 true], (.seq (.reg false 2 [oN 1 (.box (.t 0)), oK 2 1 (.alloc [.int .i64 0, .int .i64 0, .bool false, .nils, .nils, .bool false, .nils, .nils, .bool false, .nils, .nils])]) (.seq (.reg false 1 [oN 3 (.alloc [.int .i64 0, .int .i64 0, .bool false, .nils, .nils, .bool false, .nils, .nils, .bool false, .nils, .nils])]) (.seq (.reg false 0 [oN 4 (.fld 0 (.t 1)), oN 5 (.load 1 false (.t 4)), oN 6 (.fld 0 (.t 3)), oS (.store 1 (.t 6) (.t 5))]) (.seq (.reg false 0 [oN 7 (.fld 1 (.t 1)), oN 8 (.load 1 false (.t 7)), oN 9 (.fld 1 (.t 3)), oS (.store 1 (.t 9) (.t 8))]) (.seq (.reg false 0 [oN 10 (.fld 2 (.t 1)), oN 11 (.load 3 true (.t 10)), oN 12 (.call 48 [(.t 11)]), oN 13 (.fld 2 (.t 3)), oS (.store 3 (.t 13) (.t 12))]) (.seq (.reg false 0 [oN 14 (.fld 5 (.t 1)), oN 15 (.load 3 true (.t 14)), oN 16 (.call 48 [(.t 15)]), oN 17 (.fld 5 (.t 3)), oS (.store 3 (.t 17) (.t 16))]) (.seq (.reg false 0 [oN 18 (.fld 8 (.t 1)), oN 19 (.load 3 true (.t 18)), oN 20 (.call 48 [(.t 19)]), oN 21 (.fld 8 (.t 3)), oS (.store 3 (.t 21) (.t 20))]) (.seq (.reg false 0 [oN 22 (.load 11 true (.t 3)), oS (.store 11 (.t 2) (.t 22))]) .ret))))))))⟩
structure D_laws_toLink (T : Nat → Option Fn) : Prop where
  hT : T 44 = some F_laws_toLink
  d_laws_toRat : D_laws_toRat T
def F_laws_eqLink : Fn := ⟨2, 33, [.tmp 4], (.seq (.reg false 2 [oN 2 (.box (.t 0)), oK 3 1 (.box (.t 1)), oK 4 2 (.mov (.c (.bool false)))]) (.seq (.seq (.reg false 0 [oN 5 (.fld 0 (.t 2)), oN 6 (.load 1 false (.t 5)), oN 7 (.fld 0 (.t 3)), oN 8 (.load 1 false (.t 7)), oN 9 (.bin .neq (.t 6) (.t 8))]) (.cond (.t 9) (.seq (.reg false 0 [oN 4 (.mov (.c (.bool false)))]) .ret) .skip)) (.seq (.seq (.reg false 0 [oN 10 (.fld 1 (.t 2)), oN 11 (.load 1 false (.t 10)), oN 12 (.fld 1 (.t 3)), oN 13 (.load 1 false (.t 12)), oN 14 (.bin .neq (.t 11) (.t 13))]) (.cond (.t 14) (.seq (.reg false 0 [oN 4 (.mov (.c (.bool false)))]) .ret) .skip)) (.seq (.seq (.reg false 0 [oN 15 (.fld 2 (.t 2)), oN 16 (.load 3 true (.t 15)), oN 17 (.fld 2 (.t 3)), oN 18 (.load 3 true (.t 17)), oN 19 (.call 40 [(.t 16), (.t 18)]), oN 20 (.un .not (.t 19))]) (.cond (.t 20) (.seq (.reg false 0 [oN 4 (.mov (.c (.bool false)))]) .ret) .skip)) (.seq (.seq (.reg false 0 [oN 21 (.fld 5 (.t 2)), oN 22 (.load 3 true (.t 21)), oN 23 (.fld 5 (.t 3)), oN 24 (.load 3 true (.t 23)), oN 25 (.call 40 [(.t 22), (.t 24)]), oN 26 (.un .not (.t 25))]) (.cond (.t 26) (.seq (.reg false 0 [oN 4 (.mov (.c (.bool false)))]) .ret) .skip)) (.seq (.seq (.reg false 0 [oN 27 (.fld 8 (.t 2)), oN 28 (.load 3 true (.t 27)), oN 29 (.fld 8 (.t 3)), oN 30 (.load 3 true (.t 29)), oN 31 (.call 40 [(.t 28), (.t 30)]), oN 32 (.un .not (.t 31))]) (.cond (.t 32) (.seq (.reg false 0 [oN 4 (.mov (.c (.bool false)))]) .ret) .skip)) (.seq (.reg false 0 [oN 4 (.mov (.c (.bool true)))]) .ret)))))))⟩
structure D_laws_eqLink (T : Nat → Option Fn) : Prop where
  hT : T 16 = some F_laws_eqLink
  d_laws_eqRat : D_laws_eqRat T
def F_laws_szLinkS : Fn := ⟨2, 27, [.tmp 4], (.seq (.reg false 0 [oN 4 (.mov (cI 0))]) (.seq (.reg false 0 [oN 6 (oV 1), oN 7 (oV 0), oN 8 (.len (.t 7)), oN 9 (.bin .sub (.t 6) (.t 8)), oN 1 (oV 9)]) (.seq (.seq (.reg false 0 [oN 10 (oV 1), oN 11 (.bin .lss (.t 10) (cI 0))]) (.cond (.t 11) (.seq (.reg false 0 [oN 4 (.mov (cI (-1)))]) .ret) .skip)) (.seq (.seq (.reg false 0 [oN 5 (.mov (cI 0))]) (.block 0 (.loop (.seq (.seq (.reg false 0 [oN 12 (oV 5), oN 13 (oV 0), oN 14 (.len (.t 13)), oN 15 (.bin .lss (.t 12) (.t 14))]) (.cond (.t 15) .skip (.exit 0))) (.seq (.block 1 (.seq (.reg false 0 [oN 18 (oV 0), oN 19 (oV 5), oN 20 (.idx 11 (.t 18) (.t 19)), oN 21 (.load 11 true (.t 20)), oN 22 (oV 1), oN 23 (.call 43 [(.t 21), (.t 22)]), oN 1 (oV 23)]) (.seq (.reg false 0 [oN 24 (oV 1), oN 25 (.bin .lss (.t 24) (cI 0))]) (.cond (.t 25) (.seq (.reg false 0 [oN 4 (.mov (cI (-1)))]) .ret) .skip)))) (.reg false 0 [oN 16 (oV 5), oN 17 (.bin .add (.t 16) (cI 1)), oN 5 (oV 17)])))))) (.seq (.reg false 0 [oN 26 (oV 1), oN 4 (oV 26)]) .ret)))))⟩
structure D_laws_szLinkS (T : Nat → Option Fn) : Prop where
  hT : T 19 = some F_laws_szLinkS
  d_laws_szLink : D_laws_szLink T
def F_laws_toLinkS : Fn := ⟨1, 23, [.tmp 2], (.seq (.reg false 0 [oN 2 (.mov (.c (.nils)))]) (.seq (.reg false 1 [oK 5 1 (oV 0), oK 6 1 (.len (.t 5)), oN 7 (.make [.int .i64 0, .int .i64 0, .bool false, .nils, .nils, .bool false, .nils, .nils, .bool false, .nils, .nils] 184 (.t 6)), oK 3 1 (oV 7)]) (.seq (.seq (.reg false 0 [oN 4 (.mov (cI 0))]) (.block 0 (.loop (.seq (.seq (.reg false 0 [oN 8 (oV 4), oN 9 (oV 0), oN 10 (.len (.t 9)), oN 11 (.bin .lss (.t 8) (.t 10))]) (.cond (.t 11) .skip (.exit 0))) (.seq (.block 1 (.reg false 0 [oN 14 (oV 3), oN 15 (oV 4), oN 16 (oV 0), oN 17 (oV 4), oN 18 (.idx 11 (.t 16) (.t 17)), oN 19 (.load 11 true (.t 18)), oN 20 (.call 44 [(.t 19)]), oN 21 (.idx 11 (.t 14) (.t 15)), oS (.store 11 (.t 21) (.t 20))])) (.reg false 0 [oN 12 (oV 4), oN 13 (.bin .add (.t 12) (cI 1)), oN 4 (oV 13)])))))) (.seq (.reg false 0 [oN 22 (oV 3), oN 2 (oV 22)]) .ret))))⟩
structure D_laws_toLinkS (T : Nat → Option Fn) : Prop where
  hT : T 21 = some F_laws_toLinkS
  d_laws_toLink : D_laws_toLink T
def F_laws_eqLinkS : Fn := ⟨2, 27, [.tmp 4], (.seq (.reg false 0 [oN 4 (.mov (.c (.bool false)))]) (.seq (.seq (.reg false 0 [oN 6 (oV 0), oN 7 (.len (.t 6)), oN 8 (oV 1), oN 9 (.len (.t 8)), oN 10 (.bin .neq (.t 7) (.t 9))]) (.cond (.t 10) (.seq (.reg false 0 [oN 4 (.mov (.c (.bool false)))]) .ret) .skip)) (.seq (.seq (.reg false 0 [oN 5 (.mov (cI 0))]) (.block 0 (.loop (.seq (.seq (.reg false 0 [oN 11 (oV 5), oN 12 (oV 0), oN 13 (.len (.t 12)), oN 14 (.bin .lss (.t 11) (.t 13))]) (.cond (.t 14) .skip (.exit 0))) (.seq (.block 1 (.seq (.reg true 0 [oN 17 (oV 0), oN 18 (oV 5), oA 19 0 (.idx 11 (.t 17) (.t 18)) [0, 1], oA 20 0 (.load 11 true (.t 19)) [2], oN 21 (oV 1), oN 22 (oV 5), oA 23 0 (.idx 11 (.t 21) (.t 22)) [4, 5], oA 24 0 (.load 11 true (.t 23)) [6], oA 25 0 (.call 16 [(.t 20), (.t 24)]) [3, 7], oA 26 0 (.un .not (.t 25)) [8]]) (.cond (.t 26) (.seq (.reg false 0 [oN 4 (.mov (.c (.bool false)))]) .ret) .skip))) (.reg false 0 [oN 15 (oV 5), oN 16 (.bin .add (.t 15) (cI 1)), oN 5 (oV 16)])))))) (.seq (.reg false 0 [oN 4 (.mov (.c (.bool true)))]) .ret))))⟩
structure D_laws_eqLinkS (T : Nat → Option Fn) : Prop where
  hT : T 23 = some F_laws_eqLinkS
  d_laws_eqLink : D_laws_eqLink T
end Go.Ml
end
section
set_option linter.unusedSimpArgs false
set_option linter.unusedVariables false
set_option maxRecDepth 100000
namespace Go.Ml
def F_laws_szParent : Fn := ⟨2, 24, [.tmp 4], (.seq (.reg false 1 [oN 2 (.box (.t 0)), oK 4 1 (.mov (cI 0))]) (.seq (.reg false 0 [oN 5 (.fld 1 (.t 2)), oN 6 (.load 3 true (.t 5)), oN 7 (oV 1), oN 8 (.call 46 [(.t 6), (.t 7)]), oN 1 (oV 8)]) (.seq (.seq (.reg false 0 [oN 9 (oV 1), oN 10 (.bin .lss (.t 9) (cI 0))]) (.cond (.t 10) (.seq (.reg false 0 [oN 4 (.mov (cI (-1)))]) .ret) .skip)) (.seq (.reg false 0 [oN 11 (.fld 4 (.t 2)), oN 12 (.load 3 true (.t 11)), oN 13 (oV 1), oN 14 (.call 46 [(.t 12), (.t 13)]), oN 1 (oV 14)]) (.seq (.seq (.reg false 0 [oN 15 (oV 1), oN 16 (.bin .lss (.t 15) (cI 0))]) (.cond (.t 16) (.seq (.reg false 0 [oN 4 (.mov (cI (-1)))]) .ret) .skip)) (.seq (.reg false 0 [oN 17 (.fld 7 (.t 2)), oN 18 (.load 3 true (.t 17)), oN 19 (oV 1), oN 20 (.call 46 [(.t 18), (.t 19)]), oN 1 (oV 20)]) (.seq (.seq (.reg false 0 [oN 21 (oV 1), oN 22 (.bin .lss (.t 21) (cI 0))]) (.cond (.t 22) (.seq (.reg false 0 [oN 4 (.mov (cI (-1)))]) .ret) .skip)) (.seq (.reg false 0 [oN 23 (oV 1), oN 4 (oV 23)]) .ret))))))))⟩
structure D_laws_szParent (T : Nat → Option Fn) : Prop where
  hT : T 62 = some F_laws_szParent
  d_laws_szRat : D_laws_szRat T
def F_laws_toParent : Fn := ⟨1, 20, [.cell 2 10 true], (.seq (.reg false 2 [oN 1 (.box (.t 0)), oK 2 1 (.alloc [.int .i64 0, .bool false, .nils, .nils, .bool false, .nils, .nils, .bool false, .nils, .nils])]) (.seq (.reg false 1 [oN 3 (.alloc [.int .i64 0, .bool false, .nils, .nils, .bool false, .nils, .nils, .bool false, .nils, .nils])]) (.seq (.reg false 0 [oN 4 (.fld 0 (.t 1)), oN 5 (.load 1 false (.t 4)), oN 6 (.fld 0 (.t 3)), oS (.store 1 (.t 6) (.t 5))]) (.seq (.reg false 0 [oN 7 (.fld 1 (.t 1)), oN 8 (.load 3 true (.t 7)), oN 9 (.call 48 [(.t 8)]), oN 10 (.fld 1 (.t 3)), oS (.store 3 (.t 10) (.t 9))]) (.seq (.reg false 0 [oN 11 (.fld 4 (.t 1)), oN 12 (.load 3 true (.t 11)), oN 13 (.call 48 [(.t 12)]), oN 14 (.fld 4 (.t 3)), oS (.store 3 (.t 14) (.t 13))]) (.seq (.reg false 0 [oN 15 (.fld 7 (.t 1)), oN 16 (.load 3 true (.t 15)), oN 17 (.call 48 [(.t 16)]), oN 18 (.fld 7 (.t 3)), oS (.store 3 (.t 18) (.t 17))]) (.seq (.reg false 0 [oN 19 (.load 10 true (.t 3)), oS (.store 10 (.t 2) (.t 19))]) .ret)))))))⟩
structure D_laws_toParent (T : Nat → Option Fn) : Prop where
  hT : T 64 = some F_laws_toParent
  d_laws_toRat : D_laws_toRat T
def F_laws_eqParent : Fn := ⟨2, 28, [.tmp 4], (.seq (.reg false 2 [oN 2 (.box (.t 0)), oK 3 1 (.box (.t 1)), oK 4 2 (.mov (.c (.bool false)))]) (.seq (.seq (.reg false 0 [oN 5 (.fld 0 (.t 2)), oN 6 (.load 1 false (.t 5)), oN 7 (.fld 0 (.t 3)), oN 8 (.load 1 false (.t 7)), oN 9 (.bin .neq (.t 6) (.t 8))]) (.cond (.t 9) (.seq (.reg false 0 [oN 4 (.mov (.c (.bool false)))]) .ret) .skip)) (.seq (.seq (.reg false 0 [oN 10 (.fld 1 (.t 2)), oN 11 (.load 3 true (.t 10)), oN 12 (.fld 1 (.t 3)), oN 13 (.load 3 true (.t 12)), oN 14 (.call 40 [(.t 11), (.t 13)]), oN 15 (.un .not (.t 14))]) (.cond (.t 15) (.seq (.reg false 0 [oN 4 (.mov (.c (.bool false)))]) .ret) .skip)) (.seq (.seq (.reg false 0 [oN 16 (.fld 4 (.t 2)), oN 17 (.load 3 true (.t 16)), oN 18 (.fld 4 (.t 3)), oN 19 (.load 3 true (.t 18)), oN 20 (.call 40 [(.t 17), (.t 19)]), oN 21 (.un .not (.t 20))]) (.cond (.t 21) (.seq (.reg false 0 [oN 4 (.mov (.c (.bool false)))]) .ret) .skip)) (.seq (.seq (.reg false 0 [oN 22 (.fld 7 (.t 2)), oN 23 (.load 3 true (.t 22)), oN 24 (.fld 7 (.t 3)), oN 25 (.load 3 true (.t 24)), oN 26 (.call 40 [(.t 23), (.t 25)]), oN 27 (.un .not (.t 26))]) (.cond (.t 27) (.seq (.reg false 0 [oN 4 (.mov (.c (.bool false)))]) .ret) .skip)) (.seq (.reg false 0 [oN 4 (.mov (.c (.bool true)))]) .ret))))))⟩
structure D_laws_eqParent (T : Nat → Option Fn) : Prop where
  hT : T 65 = some F_laws_eqParent
  d_laws_eqRat : D_laws_eqRat T
def F_laws_szParentS : Fn := ⟨2, 27, [.tmp 4], (.seq (.reg false 0 [oN 4 (.mov (cI 0))]) (.seq (.reg false 0 [oN 6 (oV 1), oN 7 (oV 0), oN 8 (.len (.t 7)), oN 9 (.bin .sub (.t 6) (.t 8)), oN 1 (oV 9)]) (.seq (.seq (.reg false 0 [oN 10 (oV 1), oN 11 (.bin .lss (.t 10) (cI 0))]) (.cond (.t 11) (.seq (.reg false 0 [oN 4 (.mov (cI (-1)))]) .ret) .skip)) (.seq (.seq (.reg false 0 [oN 5 (.mov (cI 0))]) (.block 0 (.loop (.seq (.seq (.reg false 0 [oN 12 (oV 5), oN 13 (oV 0), oN 14 (.len (.t 13)), oN 15 (.bin .lss (.t 12) (.t 14))]) (.cond (.t 15) .skip (.exit 0))) (.seq (.block 1 (.seq (.reg false 0 [oN 18 (oV 0), oN 19 (oV 5), oN 20 (.idx 10 (.t 18) (.t 19)), oN 21 (.load 10 true (.t 20)), oN 22 (oV 1), oN 23 (.call 62 [(.t 21), (.t 22)]), oN 1 (oV 23)]) (.seq (.reg false 0 [oN 24 (oV 1), oN 25 (.bin .lss (.t 24) (cI 0))]) (.cond (.t 25) (.seq (.reg false 0 [oN 4 (.mov (cI (-1)))]) .ret) .skip)))) (.reg false 0 [oN 16 (oV 5), oN 17 (.bin .add (.t 16) (cI 1)), oN 5 (oV 17)])))))) (.seq (.reg false 0 [oN 26 (oV 1), oN 4 (oV 26)]) .ret)))))⟩
structure D_laws_szParentS (T : Nat → Option Fn) : Prop where
  hT : T 47 = some F_laws_szParentS
  d_laws_szParent : D_laws_szParent T
def F_laws_toParentS : Fn := ⟨1, 23, [.tmp 2], (.seq (.reg false 0 [oN 2 (.mov (.c (.nils)))]) (.seq (.reg false 1 [oK 5 1 (oV 0), oK 6 1 (.len (.t 5)), oN 7 (.make [.int .i64 0, .bool false, .nils, .nils, .bool false, .nils, .nils, .bool false, .nils, .nils] 176 (.t 6)), oK 3 1 (oV 7)]) (.seq (.seq (.reg false 0 [oN 4 (.mov (cI 0))]) (.block 0 (.loop (.seq (.seq (.reg false 0 [oN 8 (oV 4), oN 9 (oV 0), oN 10 (.len (.t 9)), oN 11 (.bin .lss (.t 8) (.t 10))]) (.cond (.t 11) .skip (.exit 0))) (.seq (.block 1 (.reg false 0 [oN 14 (oV 3), oN 15 (oV 4), oN 16 (oV 0), oN 17 (oV 4), oN 18 (.idx 10 (.t 16) (.t 17)), oN 19 (.load 10 true (.t 18)), oN 20 (.call 64 [(.t 19)]), oN 21 (.idx 10 (.t 14) (.t 15)), oS (.store 10 (.t 21) (.t 20))])) (.reg false 0 [oN 12 (oV 4), oN 13 (.bin .add (.t 12) (cI 1)), oN 4 (oV 13)])))))) (.seq (.reg false 0 [oN 22 (oV 3), oN 2 (oV 22)]) .ret))))⟩
structure D_laws_toParentS (T : Nat → Option Fn) : Prop where
  hT : T 49 = some F_laws_toParentS
  d_laws_toParent : D_laws_toParent T
def F_laws_eqParentS : Fn := ⟨2, 27, [.tmp 4], (.seq (.reg false 0 [oN 4 (.mov (.c (.bool false)))]) (.seq (.seq (.reg false 0 [oN 6 (oV 0), oN 7 (.len (.t 6)), oN 8 (oV 1), oN 9 (.len (.t 8)), oN 10 (.bin .neq (.t 7) (.t 9))]) (.cond (.t 10) (.seq (.reg false 0 [oN 4 (.mov (.c (.bool false)))]) .ret) .skip)) (.seq (.seq (.reg false 0 [oN 5 (.mov (cI 0))]) (.block 0 (.loop (.seq (.seq (.reg false 0 [oN 11 (oV 5), oN 12 (oV 0), oN 13 (.len (.t 12)), oN 14 (.bin .lss (.t 11) (.t 13))]) (.cond (.t 14) .skip (.exit 0))) (.seq (.block 1 (.seq (.reg true 0 [oN 17 (oV 0), oN 18 (oV 5), oA 19 0 (.idx 10 (.t 17) (.t 18)) [0, 1], oA 20 0 (.load 10 true (.t 19)) [2], oN 21 (oV 1), oN 22 (oV 5), oA 23 0 (.idx 10 (.t 21) (.t 22)) [4, 5], oA 24 0 (.load 10 true (.t 23)) [6], oA 25 0 (.call 65 [(.t 20), (.t 24)]) [3, 7], oA 26 0 (.un .not (.t 25)) [8]]) (.cond (.t 26) (.seq (.reg false 0 [oN 4 (.mov (.c (.bool false)))]) .ret) .skip))) (.reg false 0 [oN 15 (oV 5), oN 16 (.bin .add (.t 15) (cI 1)), oN 5 (oV 16)])))))) (.seq (.reg false 0 [oN 4 (.mov (.c (.bool true)))]) .ret))))⟩
structure D_laws_eqParentS (T : Nat → Option Fn) : Prop where
  hT : T 50 = some F_laws_eqParentS
  d_laws_eqParent : D_laws_eqParent T
def F_laws_szConditional : Fn := ⟨2, 18, [.tmp 4], (.seq (.reg false 1 [oN 2 (.box (.t 0)), oK 4 1 (.mov (cI 0))]) (.seq (.reg false 0 [oN 5 (.fld 1 (.t 2)), oN 6 (.load 3 true (.t 5)), oN 7 (oV 1), oN 8 (.call 46 [(.t 6), (.t 7)]), oN 1 (oV 8)]) (.seq (.seq (.reg false 0 [oN 9 (oV 1), oN 10 (.bin .lss (.t 9) (cI 0))]) (.cond (.t 10) (.seq (.reg false 0 [oN 4 (.mov (cI (-1)))]) .ret) .skip)) (.seq (.reg false 0 [oN 11 (.fld 4 (.t 2)), oN 12 (.load 1 false (.t 11)), oN 13 (oV 1), oN 14 (.call 47 [(.t 12), (.t 13)]), oN 1 (oV 14)]) (.seq (.seq (.reg false 0 [oN 15 (oV 1), oN 16 (.bin .lss (.t 15) (cI 0))]) (.cond (.t 16) (.seq (.reg false 0 [oN 4 (.mov (cI (-1)))]) .ret) .skip)) (.seq (.reg false 0 [oN 17 (oV 1), oN 4 (oV 17)]) .ret))))))⟩
structure D_laws_szConditional (T : Nat → Option Fn) : Prop where
  hT : T 24 = some F_laws_szConditional
  d_laws_szRat : D_laws_szRat T
  d_laws_szParentS : D_laws_szParentS T
def F_laws_toConditional : Fn := ⟨1, 16, [.cell 2 5 true], (.seq (.reg false 2 [oN 1 (.box (.t 0)), oK 2 1 (.alloc [.int .i64 0, .bool false, .nils, .nils, .nils])]) (.seq (.reg false 1 [oN 3 (.alloc [.int .i64 0, .bool false, .nils, .nils, .nils])]) (.seq (.reg false 0 [oN 4 (.fld 0 (.t 1)), oN 5 (.load 1 false (.t 4)), oN 6 (.fld 0 (.t 3)), oS (.store 1 (.t 6) (.t 5))]) (.seq (.reg false 0 [oN 7 (.fld 1 (.t 1)), oN 8 (.load 3 true (.t 7)), oN 9 (.call 48 [(.t 8)]), oN 10 (.fld 1 (.t 3)), oS (.store 3 (.t 10) (.t 9))]) (.seq (.reg false 0 [oN 11 (.fld 4 (.t 1)), oN 12 (.load 1 false (.t 11)), oN 13 (.call 49 [(.t 12)]), oN 14 (.fld 4 (.t 3)), oS (.store 1 (.t 14) (.t 13))]) (.seq (.reg false 0 [oN 15 (.load 5 true (.t 3)), oS (.store 5 (.t 2) (.t 15))]) .ret))))))⟩
structure D_laws_toConditional (T : Nat → Option Fn) : Prop where
  hT : T 26 = some F_laws_toConditional
  d_laws_toRat : D_laws_toRat T
  d_laws_toParentS : D_laws_toParentS T
def F_laws_eqConditional : Fn := ⟨2, 22, [.tmp 4], (.seq (.reg false 2 [oN 2 (.box (.t 0)), oK 3 1 (.box (.t 1)), oK 4 2 (.mov (.c (.bool false)))]) (.seq (.seq (.reg false 0 [oN 5 (.fld 0 (.t 2)), oN 6 (.load 1 false (.t 5)), oN 7 (.fld 0 (.t 3)), oN 8 (.load 1 false (.t 7)), oN 9 (.bin .neq (.t 6) (.t 8))]) (.cond (.t 9) (.seq (.reg false 0 [oN 4 (.mov (.c (.bool false)))]) .ret) .skip)) (.seq (.seq (.reg false 0 [oN 10 (.fld 1 (.t 2)), oN 11 (.load 3 true (.t 10)), oN 12 (.fld 1 (.t 3)), oN 13 (.load 3 true (.t 12)), oN 14 (.call 40 [(.t 11), (.t 13)]), oN 15 (.un .not (.t 14))]) (.cond (.t 15) (.seq (.reg false 0 [oN 4 (.mov (.c (.bool false)))]) .ret) .skip)) (.seq (.seq (.reg false 0 [oN 16 (.fld 4 (.t 2)), oN 17 (.load 1 false (.t 16)), oN 18 (.fld 4 (.t 3)), oN 19 (.load 1 false (.t 18)), oN 20 (.call 50 [(.t 17), (.t 19)]), oN 21 (.un .not (.t 20))]) (.cond (.t 21) (.seq (.reg false 0 [oN 4 (.mov (.c (.bool false)))]) .ret) .skip)) (.seq (.reg false 0 [oN 4 (.mov (.c (.bool true)))]) .ret)))))⟩
structure D_laws_eqConditional (T : Nat → Option Fn) : Prop where
  hT : T 28 = some F_laws_eqConditional
  d_laws_eqRat : D_laws_eqRat T
  d_laws_eqParentS : D_laws_eqParentS T
def F_laws_szConditionalS : Fn := ⟨2, 27, [.tmp 4], (.seq (.reg false 0 [oN 4 (.mov (cI 0))]) (.seq (.reg false 0 [oN 6 (oV 1), oN 7 (oV 0), oN 8 (.len (.t 7)), oN 9 (.bin .sub (.t 6) (.t 8)), oN 1 (oV 9)]) (.seq (.seq (.reg false 0 [oN 10 (oV 1), oN 11 (.bin .lss (.t 10) (cI 0))]) (.cond (.t 11) (.seq (.reg false 0 [oN 4 (.mov (cI (-1)))]) .ret) .skip)) (.seq (.seq (.reg false 0 [oN 5 (.mov (cI 0))]) (.block 0 (.loop (.seq (.seq (.reg false 0 [oN 12 (oV 5), oN 13 (oV 0), oN 14 (.len (.t 13)), oN 15 (.bin .lss (.t 12) (.t 14))]) (.cond (.t 15) .skip (.exit 0))) (.seq (.block 1 (.seq (.reg false 0 [oN 18 (oV 0), oN 19 (oV 5), oN 20 (.idx 5 (.t 18) (.t 19)), oN 21 (.load 5 true (.t 20)), oN 22 (oV 1), oN 23 (.call 24 [(.t 21), (.t 22)]), oN 1 (oV 23)]) (.seq (.reg false 0 [oN 24 (oV 1), oN 25 (.bin .lss (.t 24) (cI 0))]) (.cond (.t 25) (.seq (.reg false 0 [oN 4 (.mov (cI (-1)))]) .ret) .skip)))) (.reg false 0 [oN 16 (oV 5), oN 17 (.bin .add (.t 16) (cI 1)), oN 5 (oV 17)])))))) (.seq (.reg false 0 [oN 26 (oV 1), oN 4 (oV 26)]) .ret)))))⟩
structure D_laws_szConditionalS (T : Nat → Option Fn) : Prop where
  hT : T 304 = some F_laws_szConditionalS
  d_laws_szConditional : D_laws_szConditional T
def F_laws_toConditionalS : Fn := ⟨1, 23, [.tmp 2], (.seq (.reg false 0 [oN 2 (.mov (.c (.nils)))]) (.seq (.reg false 1 [oK 5 1 (oV 0), oK 6 1 (.len (.t 5)), oN 7 (.make [.int .i64 0, .bool false, .nils, .nils, .nils] 88 (.t 6)), oK 3 1 (oV 7)]) (.seq (.seq (.reg false 0 [oN 4 (.mov (cI 0))]) (.block 0 (.loop (.seq (.seq (.reg false 0 [oN 8 (oV 4), oN 9 (oV 0), oN 10 (.len (.t 9)), oN 11 (.bin .lss (.t 8) (.t 10))]) (.cond (.t 11) .skip (.exit 0))) (.seq (.block 1 (.reg false 0 [oN 14 (oV 3), oN 15 (oV 4), oN 16 (oV 0), oN 17 (oV 4), oN 18 (.idx 5 (.t 16) (.t 17)), oN 19 (.load 5 true (.t 18)), oN 20 (.call 26 [(.t 19)]), oN 21 (.idx 5 (.t 14) (.t 15)), oS (.store 5 (.t 21) (.t 20))])) (.reg false 0 [oN 12 (oV 4), oN 13 (.bin .add (.t 12) (cI 1)), oN 4 (oV 13)])))))) (.seq (.reg false 0 [oN 22 (oV 3), oN 2 (oV 22)]) .ret))))⟩
structure D_laws_toConditionalS (T : Nat → Option Fn) : Prop where
  hT : T 306 = some F_laws_toConditionalS
  d_laws_toConditional : D_laws_toConditional T
def F_laws_eqConditionalS : Fn := ⟨2, 27, [.tmp 4], (.seq (.reg false 0 [oN 4 (.mov (.c (.bool false)))]) (.seq (.seq (.reg false 0 [oN 6 (oV 0), oN 7 (.len (.t 6)), oN 8 (oV 1), oN 9 (.len (.t 8)), oN 10 (.bin .neq (.t 7) (.t 9))]) (.cond (.t 10) (.seq (.reg false 0 [oN 4 (.mov (.c (.bool false)))]) .ret) .skip)) (.seq (.seq (.reg false 0 [oN 5 (.mov (cI 0))]) (.block 0 (.loop (.seq (.seq (.reg false 0 [oN 11 (oV 5), oN 12 (oV 0), oN 13 (.len (.t 12)), oN 14 (.bin .lss (.t 11) (.t 13))]) (.cond (.t 14) .skip (.exit 0))) (.seq (.block 1 (.seq (.reg true 0 [oN 17 (oV 0), oN 18 (oV 5), oA 19 0 (.idx 5 (.t 17) (.t 18)) [0, 1], oA 20 0 (.load 5 true (.t 19)) [2], oN 21 (oV 1), oN 22 (oV 5), oA 23 0 (.idx 5 (.t 21) (.t 22)) [4, 5], oA 24 0 (.load 5 true (.t 23)) [6], oA 25 0 (.call 28 [(.t 20), (.t 24)]) [3, 7], oA 26 0 (.un .not (.t 25)) [8]]) (.cond (.t 26) (.seq (.reg false 0 [oN 4 (.mov (.c (.bool false)))]) .ret) .skip))) (.reg false 0 [oN 15 (oV 5), oN 16 (.bin .add (.t 15) (cI 1)), oN 5 (oV 16)])))))) (.seq (.reg false 0 [oN 4 (.mov (.c (.bool true)))]) .ret))))⟩
structure D_laws_eqConditionalS (T : Nat → Option Fn) : Prop where
  hT : T 307 = some F_laws_eqConditionalS
  d_laws_eqConditional : D_laws_eqConditional T
end Go.Ml
end
section
set_option linter.unusedSimpArgs false
set_option linter.unusedVariables false
set_option maxRecDepth 100000
namespace Go.Ml
def F_laws_szRatS : Fn := ⟨2, 27, [.tmp 4], (.seq (.reg false 0 [oN 4 (.mov (cI 0))]) (.seq (.reg false 0 [oN 6 (oV 1), oN 7 (oV 0), oN 8 (.len (.t 7)), oN 9 (.bin .sub (.t 6) (.t 8)), oN 1 (oV 9)]) (.seq (.seq (.reg false 0 [oN 10 (oV 1), oN 11 (.bin .lss (.t 10) (cI 0))]) (.cond (.t 11) (.seq (.reg false 0 [oN 4 (.mov (cI (-1)))]) .ret) .skip)) (.seq (.seq (.reg false 0 [oN 5 (.mov (cI 0))]) (.block 0 (.loop (.seq (.seq (.reg false 0 [oN 12 (oV 5), oN 13 (oV 0), oN 14 (.len (.t 13)), oN 15 (.bin .lss (.t 12) (.t 14))]) (.cond (.t 15) .skip (.exit 0))) (.seq (.block 1 (.seq (.reg false 0 [oN 18 (oV 0), oN 19 (oV 5), oN 20 (.idx 3 (.t 18) (.t 19)), oN 21 (.load 3 true (.t 20)), oN 22 (oV 1), oN 23 (.call 46 [(.t 21), (.t 22)]), oN 1 (oV 23)]) (.seq (.reg false 0 [oN 24 (oV 1), oN 25 (.bin .lss (.t 24) (cI 0))]) (.cond (.t 25) (.seq (.reg false 0 [oN 4 (.mov (cI (-1)))]) .ret) .skip)))) (.reg false 0 [oN 16 (oV 5), oN 17 (.bin .add (.t 16) (cI 1)), oN 5 (oV 17)])))))) (.seq (.reg false 0 [oN 26 (oV 1), oN 4 (oV 26)]) .ret)))))⟩
structure D_laws_szRatS (T : Nat → Option Fn) : Prop where
  hT : T 112 = some F_laws_szRatS
  d_laws_szRat : D_laws_szRat T
def F_laws_toRatS : Fn := ⟨1, 23, [.tmp 2], (.seq (.reg false 0 [oN 2 (.mov (.c (.nils)))]) (.seq (.reg false 1 [oK 5 1 (oV 0), oK 6 1 (.len (.t 5)), oN 7 (.make [.bool false, .nils, .nils] 56 (.t 6)), oK 3 1 (oV 7)]) (.seq (.seq (.reg false 0 [oN 4 (.mov (cI 0))]) (.block 0 (.loop (.seq (.seq (.reg false 0 [oN 8 (oV 4), oN 9 (oV 0), oN 10 (.len (.t 9)), oN 11 (.bin .lss (.t 8) (.t 10))]) (.cond (.t 11) .skip (.exit 0))) (.seq (.block 1 (.reg false 0 [oN 14 (oV 3), oN 15 (oV 4), oN 16 (oV 0), oN 17 (oV 4), oN 18 (.idx 3 (.t 16) (.t 17)), oN 19 (.load 3 true (.t 18)), oN 20 (.call 48 [(.t 19)]), oN 21 (.idx 3 (.t 14) (.t 15)), oS (.store 3 (.t 21) (.t 20))])) (.reg false 0 [oN 12 (oV 4), oN 13 (.bin .add (.t 12) (cI 1)), oN 4 (oV 13)])))))) (.seq (.reg false 0 [oN 22 (oV 3), oN 2 (oV 22)]) .ret))))⟩
structure D_laws_toRatS (T : Nat → Option Fn) : Prop where
  hT : T 113 = some F_laws_toRatS
  d_laws_toRat : D_laws_toRat T
def F_laws_eqRatS : Fn := ⟨2, 27, [.tmp 4], (.seq (.reg false 0 [oN 4 (.mov (.c (.bool false)))]) (.seq (.seq (.reg false 0 [oN 6 (oV 0), oN 7 (.len (.t 6)), oN 8 (oV 1), oN 9 (.len (.t 8)), oN 10 (.bin .neq (.t 7) (.t 9))]) (.cond (.t 10) (.seq (.reg false 0 [oN 4 (.mov (.c (.bool false)))]) .ret) .skip)) (.seq (.seq (.reg false 0 [oN 5 (.mov (cI 0))]) (.block 0 (.loop (.seq (.seq (.reg false 0 [oN 11 (oV 5), oN 12 (oV 0), oN 13 (.len (.t 12)), oN 14 (.bin .lss (.t 11) (.t 13))]) (.cond (.t 14) .skip (.exit 0))) (.seq (.block 1 (.seq (.reg true 0 [oN 17 (oV 0), oN 18 (oV 5), oA 19 0 (.idx 3 (.t 17) (.t 18)) [0, 1], oA 20 0 (.load 3 true (.t 19)) [2], oN 21 (oV 1), oN 22 (oV 5), oA 23 0 (.idx 3 (.t 21) (.t 22)) [4, 5], oA 24 0 (.load 3 true (.t 23)) [6], oA 25 0 (.call 40 [(.t 20), (.t 24)]) [3, 7], oA 26 0 (.un .not (.t 25)) [8]]) (.cond (.t 26) (.seq (.reg false 0 [oN 4 (.mov (.c (.bool false)))]) .ret) .skip))) (.reg false 0 [oN 15 (oV 5), oN 16 (.bin .add (.t 15) (cI 1)), oN 5 (oV 16)])))))) (.seq (.reg false 0 [oN 4 (.mov (.c (.bool true)))]) .ret))))⟩
structure D_laws_eqRatS (T : Nat → Option Fn) : Prop where
  hT : T 114 = some F_laws_eqRatS
  d_laws_eqRat : D_laws_eqRat T
def F_laws_szRatSS : Fn := ⟨2, 27, [.tmp 4], (.seq (.reg false 0 [oN 4 (.mov (cI 0))]) (.seq (.reg false 0 [oN 6 (oV 1), oN 7 (oV 0), oN 8 (.len (.t 7)), oN 9 (.bin .sub (.t 6) (.t 8)), oN 1 (oV 9)]) (.seq (.seq (.reg false 0 [oN 10 (oV 1), oN 11 (.bin .lss (.t 10) (cI 0))]) (.cond (.t 11) (.seq (.reg false 0 [oN 4 (.mov (cI (-1)))]) .ret) .skip)) (.seq (.seq (.reg false 0 [oN 5 (.mov (cI 0))]) (.block 0 (.loop (.seq (.seq (.reg false 0 [oN 12 (oV 5), oN 13 (oV 0), oN 14 (.len (.t 13)), oN 15 (.bin .lss (.t 12) (.t 14))]) (.cond (.t 15) .skip (.exit 0))) (.seq (.block 1 (.seq (.reg false 0 [oN 18 (oV 0), oN 19 (oV 5), oN 20 (.idx 1 (.t 18) (.t 19)), oN 21 (.load 1 false (.t 20)), oN 22 (oV 1), oN 23 (.call 112 [(.t 21), (.t 22)]), oN 1 (oV 23)]) (.seq (.reg false 0 [oN 24 (oV 1), oN 25 (.bin .lss (.t 24) (cI 0))]) (.cond (.t 25) (.seq (.reg false 0 [oN 4 (.mov (cI (-1)))]) .ret) .skip)))) (.reg false 0 [oN 16 (oV 5), oN 17 (.bin .add (.t 16) (cI 1)), oN 5 (oV 17)])))))) (.seq (.reg false 0 [oN 26 (oV 1), oN 4 (oV 26)]) .ret)))))⟩
structure D_laws_szRatSS (T : Nat → Option Fn) : Prop where
  hT : T 90 = some F_laws_szRatSS
  d_laws_szRatS : D_laws_szRatS T
def F_laws_toRatSS : Fn := ⟨1, 23, [.tmp 2], (.seq (.reg false 0 [oN 2 (.mov (.c (.nils)))]) (.seq (.reg false 1 [oK 5 1 (oV 0), oK 6 1 (.len (.t 5)), oN 7 (.make [.nils] 24 (.t 6)), oK 3 1 (oV 7)]) (.seq (.seq (.reg false 0 [oN 4 (.mov (cI 0))]) (.block 0 (.loop (.seq (.seq (.reg false 0 [oN 8 (oV 4), oN 9 (oV 0), oN 10 (.len (.t 9)), oN 11 (.bin .lss (.t 8) (.t 10))]) (.cond (.t 11) .skip (.exit 0))) (.seq (.block 1 (.reg false 0 [oN 14 (oV 3), oN 15 (oV 4), oN 16 (oV 0), oN 17 (oV 4), oN 18 (.idx 1 (.t 16) (.t 17)), oN 19 (.load 1 false (.t 18)), oN 20 (.call 113 [(.t 19)]), oN 21 (.idx 1 (.t 14) (.t 15)), oS (.store 1 (.t 21) (.t 20))])) (.reg false 0 [oN 12 (oV 4), oN 13 (.bin .add (.t 12) (cI 1)), oN 4 (oV 13)])))))) (.seq (.reg false 0 [oN 22 (oV 3), oN 2 (oV 22)]) .ret))))⟩
structure D_laws_toRatSS (T : Nat → Option Fn) : Prop where
  hT : T 92 = some F_laws_toRatSS
  d_laws_toRatS : D_laws_toRatS T
def F_laws_eqRatSS : Fn := ⟨2, 27, [.tmp 4], (.seq (.reg false 0 [oN 4 (.mov (.c (.bool false)))]) (.seq (.seq (.reg false 0 [oN 6 (oV 0), oN 7 (.len (.t 6)), oN 8 (oV 1), oN 9 (.len (.t 8)), oN 10 (.bin .neq (.t 7) (.t 9))]) (.cond (.t 10) (.seq (.reg false 0 [oN 4 (.mov (.c (.bool false)))]) .ret) .skip)) (.seq (.seq (.reg false 0 [oN 5 (.mov (cI 0))]) (.block 0 (.loop (.seq (.seq (.reg false 0 [oN 11 (oV 5), oN 12 (oV 0), oN 13 (.len (.t 12)), oN 14 (.bin .lss (.t 11) (.t 13))]) (.cond (.t 14) .skip (.exit 0))) (.seq (.block 1 (.seq (.reg true 0 [oN 17 (oV 0), oN 18 (oV 5), oA 19 0 (.idx 1 (.t 17) (.t 18)) [0, 1], oA 20 0 (.load 1 false (.t 19)) [2], oN 21 (oV 1), oN 22 (oV 5), oA 23 0 (.idx 1 (.t 21) (.t 22)) [4, 5], oA 24 0 (.load 1 false (.t 23)) [6], oA 25 0 (.call 114 [(.t 20), (.t 24)]) [3, 7], oA 26 0 (.un .not (.t 25)) [8]]) (.cond (.t 26) (.seq (.reg false 0 [oN 4 (.mov (.c (.bool false)))]) .ret) .skip))) (.reg false 0 [oN 15 (oV 5), oN 16 (.bin .add (.t 15) (cI 1)), oN 5 (oV 16)])))))) (.seq (.reg false 0 [oN 4 (.mov (.c (.bool true)))]) .ret))))⟩
structure D_laws_eqRatSS (T : Nat → Option Fn) : Prop where
  hT : T 94 = some F_laws_eqRatSS
  d_laws_eqRatS : D_laws_eqRatS T
theorem c_szRatS {T : Nat → Option Fn} (h : D_laws_szRatS T) {l : List R} {left : Int} (hw : wfL R.wf l := by first | omega | assumption | (simp; omega)) (h0 : 0 ≤ left ∧ left ≤ 1048576 := by first | omega | assumption | (simp; omega)) : PF T 112 [ratsV l, iv left] (iv (szr left (szL R.sz l))) := by
  have hlen := hw.1
  refine pf_end (fun _ _ => false) h.hT rfl rfl ?_
  dsimp only [F_laws_szRatS, oN, oS, oG, oK, oA, oH, oV, cI]
  (refine ev ?_; try with_reducible exact True.intro)
  refine brK_dec (fun hb => ?_) fun hb => ?_ <;> (refine ev1 @hb ?_; try with_reducible exact True.intro)
  · rw [szr_no (by rw [szL_eq]; omega)]
  refine loop_at (fun _ _ => false) (α := Nat) (fun i => ⟨argE [ratsV l, iv (left - (l.length : Nat) - (sumTo R.sz l i : Nat)), .any, .any, .any, iv (i : Nat)], [], 0, 0, [], []⟩) (fun i => i ≤ l.length ∧ (l.length : Int) + (sumTo R.sz l i : Nat) ≤ left) (fun i => l.length - i) rfl 0 ?_ ?_ ?_
  · rw [sumTo_zero]; omega
  · (refine Fg_env ?_) <;> (try (refine ev1 @sumTo_zero ?_; try with_reducible exact True.intro)) <;> (repeat' (first | refine ⟨?_, ?_⟩ | exact EvV_int (by omega) | exact EvV_of (by simp) | exact EvV_nil _))
  · rintro i ⟨hi, hs⟩
    (refine ev ?_; try with_reducible exact True.intro)
    refine brK_dec (fun hc => ?_) fun hc => ?_ <;> (refine ev2 @hc @mg ?_; try with_reducible exact True.intro)
    · refine PFK_of (c_szRat h.d_laws_szRat (r := l.getD i default) (hw.at_ (by omega)) ⟨by omega, by omega⟩) ?_
      (refine ev ?_; try with_reducible exact True.intro)
      have k1 := sumTo_mono R.sz (l := l) (i := i) (by omega)
      have k2 := sumTo_succ R.sz (l := l) (i := i) (by omega)
      refine brK_dec (fun hd => ?_) fun hd => ?_ <;> (refine ev1 @hd ?_; try with_reducible exact True.intro)
      · have := szr_lt hd (by omega)
        rw [szr_no (left := left) (by rw [szL_eq]; omega)]
      · have e1 : szr (left - (l.length : Nat) - (sumTo R.sz l i : Nat)) (R.sz (l.getD i default)) = left - (l.length : Nat) - (sumTo R.sz l (i + 1) : Nat) := by
          rw [szr_ok (szr_nlt hd)]; omega
        rw [show (l.getD i default).sz = R.sz (l.getD i default) from rfl, e1] at hd ⊢
        exact ⟨i + 1, by omega, ⟨by omega, by omega⟩, by (refine Fg_env ?_) <;> (try (refine ev ?_; try with_reducible exact True.intro)) <;> (repeat' (first | refine ⟨?_, ?_⟩ | exact EvV_int (by omega) | exact EvV_of (by simp) | exact EvV_nil _))⟩
    · have : i = l.length := by omega
      subst this
      rw [sumTo_all] at hs ⊢
      rw [szr_ok (by rw [szL_eq]; omega)]; rw [szL_eq]
      congr 1; omega
theorem c_toRatS {T : Nat → Option Fn} (h : D_laws_toRatS T) {l : List R} (hl : szL R.sz l ≤ 1048576 := by first | omega | assumption | (simp; omega)) : PF T 113 [ratsV l] (ratsV l) := by
  rw [szL_eq] at hl
  refine pf_end (fun _ _ => false) h.hT rfl rfl ?_
  dsimp only [F_laws_toRatS, oN, oS, oG, oK, oA, oH, oV, cI]
  (refine ev ?_; try with_reducible exact True.intro)
  refine ⟨by omega, ?_⟩
  refine loop_at (fun _ _ => false) (α := Nat) (fun i => ⟨argE [ratsV l, .any, .any, .msl 0 0 l.length, iv (i : Nat)], [some ⟨3, fillR R.cells l [.bool false, .nils, .nils] i⟩], 0, 0, [], []⟩) (fun i => i ≤ l.length) (fun i => l.length - i) rfl 0 ?_ ?_ ?_
  · omega
  · (refine Fg_env ?_) <;> (try (refine ev1 @fillR_zero ?_; try with_reducible exact True.intro)) <;> (repeat' (first | refine ⟨?_, ?_⟩ | exact EvV_int (by omega) | exact EvV_of (by simp) | exact EvV_nil _))
  · intro i hi
    have e1 := fillR_len R.cells l [.bool false, .nils, .nils] hi
    (refine ev1 @e1 ?_; try with_reducible exact True.intro)
    refine brK_dec (fun hb => ?_) fun hb => ?_ <;> (refine ev3 @hb @e1 @mg ?_; try with_reducible exact True.intro)
    · have k1 := sumTo_mono R.sz (l := l) (i := i) (by omega)
      refine PFK_of (c_toRat h.d_laws_toRat (r := l.getD i default) (by first | omega | (change R.sz _ ≤ _; omega))) ?_
      have e0 := fillR_get R.cells l [.bool false, .nils, .nils] (i := i) (by omega)
      (refine ev2 @e0 @e1 ?_; try with_reducible exact True.intro)
      have e2 := fillR_set R.cells l [.bool false, .nils, .nils] (i := i) (by omega)
      refine ⟨i + 1, by omega, by omega, Fg_env' ?_ (by rw [← e2])⟩
      (refine ev ?_; try with_reducible exact True.intro)
      repeat' (first | refine ⟨?_, ?_⟩ | exact EvV_int (by omega) | exact EvV_of (by simp))
    · have : i = l.length := by omega
      subst this
      rw [fillR_all, resO_st (still_map (f := R.cells) (l := l) (by intro x _ v hv; simp at hv; rcases hv with rfl | rfl | rfl <;> rfl)) (by simp), List.drop_zero, List.take_of_length_le (by simp)]; rfl
theorem c_eqRatS {T : Nat → Option Fn} (h : D_laws_eqRatS T) {a b : List R} (ha : wfL R.wf a := by first | omega | assumption | (simp; omega)) (hb : wfL R.wf b := by first | omega | assumption | (simp; omega)) : PF T 114 [ratsV a, ratsV b] (.bool (decide (a = b))) := by
  have l1 := ha.1
  have l2 := hb.1
  refine pf_end (fun _ _ => false) h.hT rfl rfl ?_
  dsimp only [F_laws_eqRatS, oN, oS, oG, oK, oA, oH, oV, cI]
  (refine ev ?_; try with_reducible exact True.intro)
  refine brK_dec (fun h1 => ?_) fun h1 => ?_ <;> (refine ev1 @h1 ?_; try with_reducible exact True.intro)
  · have h1 : a.length = b.length := by omega
    refine loop_at (fun _ _ => false) (α := Nat) (fun i => ⟨argE [ratsV a, ratsV b, .any, .any, .any, iv (i : Nat)], [], 0, 0, [], []⟩) (fun i => i ≤ a.length ∧ ∀ j, j < i → a.getD j default = b.getD j default) (fun i => a.length - i) rfl 0 ?_ ?_ ?_
    · exact ⟨by omega, by intro j hj; omega⟩
    · (refine Fg_env ?_) <;> (try (refine ev ?_; try with_reducible exact True.intro)) <;> (repeat' (first | refine ⟨?_, ?_⟩ | exact EvV_int (by omega) | exact EvV_of (by simp) | exact EvV_nil _))
    · rintro i ⟨hi, hj⟩
      (refine ev ?_; try with_reducible exact True.intro)
      refine brK_dec (fun h2 => ?_) fun h2 => ?_ <;> (refine ev2 @h2 @mg ?_; try with_reducible exact True.intro)
      · refine PFK_of (c_eqRat h.d_laws_eqRat (y := a.getD i default) (z := b.getD i default) (ha.at_ (by omega)) (hb.at_ (by omega))) ?_
        (refine ev ?_; try with_reducible exact True.intro)
        refine brK_dec (fun h3 => ?_) fun h3 => ?_ <;> (refine ev1 @h3 ?_; try with_reducible exact True.intro)
        · refine ⟨i + 1, by omega, ⟨by omega, fun j hj' => ?_⟩, by (refine Fg_env ?_) <;> (try (refine ev ?_; try with_reducible exact True.intro)) <;> (repeat' (first | refine ⟨?_, ?_⟩ | exact EvV_int (by omega) | exact EvV_of (by simp) | exact EvV_nil _))⟩
          by_cases e : j = i
          · subst e; exact h3
          · exact hj j (by omega)
        · have : ¬ a = b := fun e => h3 (by rw [e])
          simp [this]
      · have : a = b := getD_ext' h1 fun j h => hj j (by omega)
        simp [this]
  · have : ¬ a = b := fun e => h1 (by rw [e])
    simp [this]
theorem c_szRatSS {T : Nat → Option Fn} (h : D_laws_szRatSS T) {l : List (List R)} {left : Int} (hw : wfL (wfL R.wf) l := by first | omega | assumption | (simp; omega)) (h0 : 0 ≤ left ∧ left ≤ 1048576 := by first | omega | assumption | (simp; omega)) : PF T 90 [ratssV l, iv left] (iv (szr left (szL (szL R.sz) l))) := by
  have hlen := hw.1
  refine pf_end (fun _ _ => false) h.hT rfl rfl ?_
  dsimp only [F_laws_szRatSS, oN, oS, oG, oK, oA, oH, oV, cI]
  (refine ev ?_; try with_reducible exact True.intro)
  refine brK_dec (fun hb => ?_) fun hb => ?_ <;> (refine ev1 @hb ?_; try with_reducible exact True.intro)
  · rw [szr_no (by rw [szL_eq]; omega)]
  refine loop_at (fun _ _ => false) (α := Nat) (fun i => ⟨argE [ratssV l, iv (left - (l.length : Nat) - (sumTo (szL R.sz) l i : Nat)), .any, .any, .any, iv (i : Nat)], [], 0, 0, [], []⟩) (fun i => i ≤ l.length ∧ (l.length : Int) + (sumTo (szL R.sz) l i : Nat) ≤ left) (fun i => l.length - i) rfl 0 ?_ ?_ ?_
  · rw [sumTo_zero]; omega
  · (refine Fg_env ?_) <;> (try (refine ev1 @sumTo_zero ?_; try with_reducible exact True.intro)) <;> (repeat' (first | refine ⟨?_, ?_⟩ | exact EvV_int (by omega) | exact EvV_of (by simp) | exact EvV_nil _))
  · rintro i ⟨hi, hs⟩
    (refine ev ?_; try with_reducible exact True.intro)
    refine brK_dec (fun hc => ?_) fun hc => ?_ <;> (refine ev2 @hc @mg ?_; try with_reducible exact True.intro)
    · refine PFK_of (c_szRatS h.d_laws_szRatS (l := l.getD i default) (hw.at_ (by omega)) ⟨by omega, by omega⟩) ?_
      (refine ev ?_; try with_reducible exact True.intro)
      have k1 := sumTo_mono (szL R.sz) (l := l) (i := i) (by omega)
      have k2 := sumTo_succ (szL R.sz) (l := l) (i := i) (by omega)
      refine brK_dec (fun hd => ?_) fun hd => ?_ <;> (refine ev1 @hd ?_; try with_reducible exact True.intro)
      · have := szr_lt hd (by omega)
        rw [szr_no (left := left) (by rw [szL_eq]; omega)]
      · have e1 : szr (left - (l.length : Nat) - (sumTo (szL R.sz) l i : Nat)) ((szL R.sz) (l.getD i default)) = left - (l.length : Nat) - (sumTo (szL R.sz) l (i + 1) : Nat) := by
          rw [szr_ok (szr_nlt hd)]; omega
        rw [show szL R.sz (l.getD i default) = (szL R.sz) (l.getD i default) from rfl, e1] at hd ⊢
        exact ⟨i + 1, by omega, ⟨by omega, by omega⟩, by (refine Fg_env ?_) <;> (try (refine ev ?_; try with_reducible exact True.intro)) <;> (repeat' (first | refine ⟨?_, ?_⟩ | exact EvV_int (by omega) | exact EvV_of (by simp) | exact EvV_nil _))⟩
    · have : i = l.length := by omega
      subst this
      rw [sumTo_all] at hs ⊢
      rw [szr_ok (by rw [szL_eq]; omega)]; rw [szL_eq]
      congr 1; omega
theorem c_toRatSS {T : Nat → Option Fn} (h : D_laws_toRatSS T) {l : List (List R)} (hl : szL (szL R.sz) l ≤ 1048576 := by first | omega | assumption | (simp; omega)) : PF T 92 [ratssV l] (ratssV l) := by
  rw [szL_eq] at hl
  refine pf_end (fun _ _ => false) h.hT rfl rfl ?_
  dsimp only [F_laws_toRatSS, oN, oS, oG, oK, oA, oH, oV, cI]
  (refine ev ?_; try with_reducible exact True.intro)
  refine ⟨by omega, ?_⟩
  refine loop_at (fun _ _ => false) (α := Nat) (fun i => ⟨argE [ratssV l, .any, .any, .msl 0 0 l.length, iv (i : Nat)], [some ⟨1, fillR (fun r => [ratsV r]) l [.nils] i⟩], 0, 0, [], []⟩) (fun i => i ≤ l.length) (fun i => l.length - i) rfl 0 ?_ ?_ ?_
  · omega
  · (refine Fg_env ?_) <;> (try (refine ev1 @fillR_zero ?_; try with_reducible exact True.intro)) <;> (repeat' (first | refine ⟨?_, ?_⟩ | exact EvV_int (by omega) | exact EvV_of (by simp) | exact EvV_nil _))
  · intro i hi
    have e1 := fillR_len (fun r => [ratsV r]) l [.nils] hi
    (refine ev1 @e1 ?_; try with_reducible exact True.intro)
    refine brK_dec (fun hb => ?_) fun hb => ?_ <;> (refine ev3 @hb @e1 @mg ?_; try with_reducible exact True.intro)
    · have k1 := sumTo_mono (szL R.sz) (l := l) (i := i) (by omega)
      refine PFK_of (c_toRatS h.d_laws_toRatS (l := l.getD i default) (by first | omega | (change (szL R.sz) _ ≤ _; omega))) ?_
      have e0 := fillR_get (fun r => [ratsV r]) l [.nils] (i := i) (by omega)
      (refine ev2 @e0 @e1 ?_; try with_reducible exact True.intro)
      have e2 := fillR_set (fun r => [ratsV r]) l [.nils] (i := i) (by omega)
      refine ⟨i + 1, by omega, by omega, Fg_env' ?_ (by rw [← e2])⟩
      (refine ev ?_; try with_reducible exact True.intro)
      repeat' (first | refine ⟨?_, ?_⟩ | exact EvV_int (by omega) | exact EvV_of (by simp))
    · have : i = l.length := by omega
      subst this
      rw [fillR_all, resO_st (still_map (f := (fun r => [ratsV r])) (l := l) (by intro x _ v hv; simp at hv; rcases hv with rfl <;> rfl)) (by simp), List.drop_zero, List.take_of_length_le (by simp)]; rfl
theorem c_eqRatSS {T : Nat → Option Fn} (h : D_laws_eqRatSS T) {a b : List (List R)} (ha : wfL (wfL R.wf) a := by first | omega | assumption | (simp; omega)) (hb : wfL (wfL R.wf) b := by first | omega | assumption | (simp; omega)) : PF T 94 [ratssV a, ratssV b] (.bool (decide (a = b))) := by
  have l1 := ha.1
  have l2 := hb.1
  refine pf_end (fun _ _ => false) h.hT rfl rfl ?_
  dsimp only [F_laws_eqRatSS, oN, oS, oG, oK, oA, oH, oV, cI]
  (refine ev ?_; try with_reducible exact True.intro)
  refine brK_dec (fun h1 => ?_) fun h1 => ?_ <;> (refine ev1 @h1 ?_; try with_reducible exact True.intro)
  · have h1 : a.length = b.length := by omega
    refine loop_at (fun _ _ => false) (α := Nat) (fun i => ⟨argE [ratssV a, ratssV b, .any, .any, .any, iv (i : Nat)], [], 0, 0, [], []⟩) (fun i => i ≤ a.length ∧ ∀ j, j < i → a.getD j default = b.getD j default) (fun i => a.length - i) rfl 0 ?_ ?_ ?_
    · exact ⟨by omega, by intro j hj; omega⟩
    · (refine Fg_env ?_) <;> (try (refine ev ?_; try with_reducible exact True.intro)) <;> (repeat' (first | refine ⟨?_, ?_⟩ | exact EvV_int (by omega) | exact EvV_of (by simp) | exact EvV_nil _))
    · rintro i ⟨hi, hj⟩
      (refine ev ?_; try with_reducible exact True.intro)
      refine brK_dec (fun h2 => ?_) fun h2 => ?_ <;> (refine ev2 @h2 @mg ?_; try with_reducible exact True.intro)
      · refine PFK_of (c_eqRatS h.d_laws_eqRatS (a := a.getD i default) (b := b.getD i default) (ha.at_ (by omega)) (hb.at_ (by omega))) ?_
        (refine ev ?_; try with_reducible exact True.intro)
        refine brK_dec (fun h3 => ?_) fun h3 => ?_ <;> (refine ev1 @h3 ?_; try with_reducible exact True.intro)
        · refine ⟨i + 1, by omega, ⟨by omega, fun j hj' => ?_⟩, by (refine Fg_env ?_) <;> (try (refine ev ?_; try with_reducible exact True.intro)) <;> (repeat' (first | refine ⟨?_, ?_⟩ | exact EvV_int (by omega) | exact EvV_of (by simp) | exact EvV_nil _))⟩
          by_cases e : j = i
          · subst e; exact h3
          · exact hj j (by omega)
        · have : ¬ a = b := fun e => h3 (by rw [e])
          simp [this]
      · have : a = b := getD_ext' h1 fun j h => hj j (by omega)
        simp [this]
  · have : ¬ a = b := fun e => h1 (by rw [e])
    simp [this]
end Go.Ml
end
section
set_option linter.unusedSimpArgs false
set_option linter.unusedVariables false
set_option maxRecDepth 100000
set_option maxHeartbeats 4000000
namespace Go.Ml
def toSG (f : Nat) : Fn := ⟨1, 23, [.tmp 2], (.seq (.reg false 0 [oN 2 (.mov (.c (.nils)))]) (.seq (.reg false 1 [oK 5 1 (oV 0), oK 6 1 (.len (.t 5)), oN 7 (.make [.nils] 24 (.t 6)), oK 3 1 (oV 7)]) (.seq (.seq (.reg false 0 [oN 4 (.mov (cI 0))]) (.block 0 (.loop (.seq (.seq (.reg false 0 [oN 8 (oV 4), oN 9 (oV 0), oN 10 (.len (.t 9)), oN 11 (.bin .lss (.t 8) (.t 10))]) (.cond (.t 11) .skip (.exit 0))) (.seq (.block 1 (.reg false 0 [oN 14 (oV 3), oN 15 (oV 4), oN 16 (oV 0), oN 17 (oV 4), oN 18 (.idx 1 (.t 16) (.t 17)), oN 19 (.load 1 false (.t 18)), oN 20 (.call f [(.t 19)]), oN 21 (.idx 1 (.t 14) (.t 15)), oS (.store 1 (.t 21) (.t 20))])) (.reg false 0 [oN 12 (oV 4), oN 13 (.bin .add (.t 12) (cI 1)), oN 4 (oV 13)])))))) (.seq (.reg false 0 [oN 22 (oV 3), oN 2 (oV 22)]) .ret))))⟩
theorem po_toSG {T : Nat → Option Fn} {n f : Nat} {α : Type} [Inhabited α] {cl : α → V} {l : List α} (hT : T n = some (toSG f)) (hl : l.length ≤ 1048576)
    (hcl : ∀ x ∈ l, (cl x).still = true ∧ (cl x).leaf = true) (hpo : ∀ x ∈ l, PO T f [cl x] (cl x)) : PO T n [.sl 1 (l.map fun x => [cl x])] (.sl 1 (l.map fun x => [cl x])) := by

  refine po_end2 (fun x _ => x == f) hT rfl rfl ?_
  dsimp only [toSG, oN, oS, oG, oK, oA, oH, oV, cI]
  (refine ew ?_; try with_reducible exact True.intro)
  refine ⟨by omega, ?_⟩
  refine loop_at (fun x _ => x == f) (α := Nat × Store × List (List V)) (fun q => ⟨argE [.sl 1 (l.map fun x => [cl x]), .any, .any, .msl 0 0 l.length, iv (q.1 : Nat)], q.2.1, 0, 0, [], []⟩) (fun q => q.1 ≤ l.length ∧ q.2.2.length = q.1 ∧ objAt q.2.1 0 = some ⟨1, q.2.2 ++ List.replicate (l.length - q.1) [.nils]⟩ ∧ OwRs 1 q.2.1 q.2.2 ((l.take q.1).map fun x => [cl x]) ∧ 1 ≤ q.2.1.length) (fun q => l.length - q.1) rfl (0, [some ⟨1, List.replicate l.length [.nils]⟩], []) ?_ ?_ ?_
  · exact ⟨by omega, rfl, rfl, by simpa using owRs_nil, by simp⟩
  · (refine Fg_env ?_) <;> (try (refine ew ?_; try with_reducible exact True.intro)) <;> (repeat' (first | refine ⟨?_, ?_⟩ | exact EvV_int (by omega) | exact EvV_of (by simp) | exact EvV_nil _))
  · rintro ⟨i, s, A⟩ ⟨hi, hA, h0, hO, hs⟩
    dsimp only at hi hA h0 hO hs
    (refine ew1 @h0 ?_; try with_reducible exact True.intro)
    refine brK_dec (fun hc => ?_) fun hc => ?_ <;> (refine ew3 @hc @mg @h0 ?_; try with_reducible exact True.intro)
    · have hil : i < l.length := by omega
      have hx := getD_mem hil
      obtain ⟨x, hxe⟩ : ∃ x, l.getD i default = x := ⟨_, rfl⟩
      have hts := take_map_succ (fun x => [cl x]) l hil
      rw [hxe] at hx hts ⊢
      obtain ⟨e1, e2⟩ := hcl x hx
      have e5 : ∀ σ : Store, resolve σ FD (cl x) = some (cl x) := fun σ => res_still (n := 11) e1
      have eb : (f == f) = true := by simp
      (refine ew1 @eb ?_; try with_reducible exact True.intro)
      refine RefK_got (hpo x hx) (by (refine ew1 @e5 ?_; try with_reducible exact True.intro)) ?_
      intro r σ2 os g
      have g0 := g.at 0 (by omega) h0
      have gl := g.len
      have lb := g.ow.leaf e2
      have lf := cells_lf lb
      have r1 := rep_get A [.nils] hA hil
      have r2 := rep_set A [.nils] [r] hA hil
      (refine ew3 @g0 @lf @r1 ?_; try with_reducible exact True.intro)
      rw [r2]
      refine ⟨(i + 1, σ2.set 0 (some ⟨1, (A ++ [[r]]) ++ List.replicate (l.length - (i + 1)) [.nils]⟩), A ++ [[r]]), by dsimp only; omega, ⟨by dsimp only; omega, by simp [hA], ?_, ?_, by simp; omega⟩, by (refine Fg_env ?_) <;> (try (refine ew ?_; try with_reducible exact True.intro)) <;> (repeat' (first | refine ⟨?_, ?_⟩ | exact EvV_int (by omega) | exact EvV_of (by simp) | exact EvV_nil _))⟩
      · dsimp only; exact objAt_seteq (by omega)
      · dsimp only
        rw [hts]
        have g' : Got s σ2 (.agg [r]) (.agg [cl x]) os := ⟨owV_agg (by simpa using owL_v g.ow owL_nil), g.nd, g.fresh, g.old, g.len⟩
        exact (hO.got g' hs).set (by omega)
    · have ei : i = l.length := by omega
      subst ei
      rw [Nat.sub_self, List.replicate_zero, List.append_nil] at h0
      rw [List.take_length] at hO
      have := hO.fin h0 (by omega)
      rw [List.length_map] at this
      exact this
end Go.Ml
end
section
set_option linter.unusedSimpArgs false
set_option linter.unusedVariables false
set_option maxRecDepth 100000
set_option maxHeartbeats 4000000
namespace Go.Ml
def F_laws_markRatS : Fn := ⟨2, 38, [.tmp 4], (.seq (.reg false 0 [oN 4 (.mov (cI 0))]) (.seq (.seq (.reg false 0 [oN 5 (.mov (cI 0))]) (.block 0 (.loop (.seq (.seq (.reg false 0 [oN 6 (oV 5), oN 7 (oV 0), oN 8 (.len (.t 7)), oN 9 (.bin .lss (.t 6) (.t 8))]) (.cond (.t 9) .skip (.exit 0))) (.seq (.block 1 (.seq (.reg false 0 [oN 12 (oV 0), oN 13 (oV 5), oN 14 (oV 1), oN 15 (.bin .rem (.t 14) (cI 3)), oN 16 (.bin .eql (.t 15) (cI 0)), oN 17 (.idx 3 (.t 12) (.t 13)), oN 18 (.fld 0 (.t 17)), oN 19 (.fld 0 (.t 18)), oS (.store 1 (.t 19) (.t 16))]) (.seq (.reg false 0 [oN 20 (oV 1), oN 21 (.bin .add (.t 20) (cI 1)), oN 1 (oV 21)]) (.seq (.reg false 0 [oN 22 (oV 0), oN 23 (oV 5), oN 24 (.idx 3 (.t 22) (.t 23)), oN 25 (.fld 0 (.t 24)), oN 26 (.fld 1 (.t 25)), oN 27 (.load 1 false (.t 26)), oN 28 (oV 1), oN 29 (.call 57 [(.t 27), (.t 28)]), oN 1 (oV 29)]) (.reg false 0 [oN 30 (oV 0), oN 31 (oV 5), oN 32 (.idx 3 (.t 30) (.t 31)), oN 33 (.fld 2 (.t 32)), oN 34 (.load 1 false (.t 33)), oN 35 (oV 1), oN 36 (.call 57 [(.t 34), (.t 35)]), oN 1 (oV 36)]))))) (.reg false 0 [oN 10 (oV 5), oN 11 (.bin .add (.t 10) (cI 1)), oN 5 (oV 11)])))))) (.seq (.reg false 0 [oN 37 (oV 1), oN 4 (oV 37)]) .ret)))⟩
structure D_laws_markRatS (T : Nat → Option Fn) : Prop where
  hT : T 312 = some F_laws_markRatS
  d_laws_markIntS : D_laws_markIntS T
def F_laws_markPointS : Fn := ⟨2, 69, [.tmp 4], (.seq (.reg false 0 [oN 4 (.mov (cI 0))]) (.seq (.seq (.reg false 0 [oN 5 (.mov (cI 0))]) (.block 0 (.loop (.seq (.seq (.reg false 0 [oN 6 (oV 5), oN 7 (oV 0), oN 8 (.len (.t 7)), oN 9 (.bin .lss (.t 6) (.t 8))]) (.cond (.t 9) .skip (.exit 0))) (.seq (.block 1 (.seq (.reg false 0 [oN 12 (oV 0), oN 13 (oV 5), oN 14 (oV 1), oN 15 (.bin .rem (.t 14) (cI 3)), oN 16 (.bin .eql (.t 15) (cI 0)), oN 17 (.idx 6 (.t 12) (.t 13)), oN 18 (.fld 0 (.t 17)), oN 19 (.fld 0 (.t 18)), oN 20 (.fld 0 (.t 19)), oS (.store 1 (.t 20) (.t 16))]) (.seq (.reg false 0 [oN 21 (oV 1), oN 22 (.bin .add (.t 21) (cI 1)), oN 1 (oV 22)]) (.seq (.reg false 0 [oN 23 (oV 0), oN 24 (oV 5), oN 25 (.idx 6 (.t 23) (.t 24)), oN 26 (.fld 0 (.t 25)), oN 27 (.fld 0 (.t 26)), oN 28 (.fld 1 (.t 27)), oN 29 (.load 1 false (.t 28)), oN 30 (oV 1), oN 31 (.call 57 [(.t 29), (.t 30)]), oN 1 (oV 31)]) (.seq (.reg false 0 [oN 32 (oV 0), oN 33 (oV 5), oN 34 (.idx 6 (.t 32) (.t 33)), oN 35 (.fld 0 (.t 34)), oN 36 (.fld 2 (.t 35)), oN 37 (.load 1 false (.t 36)), oN 38 (oV 1), oN 39 (.call 57 [(.t 37), (.t 38)]), oN 1 (oV 39)]) (.seq (.reg false 0 [oN 40 (oV 0), oN 41 (oV 5), oN 42 (oV 1), oN 43 (.bin .rem (.t 42) (cI 3)), oN 44 (.bin .eql (.t 43) (cI 0)), oN 45 (.idx 6 (.t 40) (.t 41)), oN 46 (.fld 3 (.t 45)), oN 47 (.fld 0 (.t 46)), oN 48 (.fld 0 (.t 47)), oS (.store 1 (.t 48) (.t 44))]) (.seq (.reg false 0 [oN 49 (oV 1), oN 50 (.bin .add (.t 49) (cI 1)), oN 1 (oV 50)]) (.seq (.reg false 0 [oN 51 (oV 0), oN 52 (oV 5), oN 53 (.idx 6 (.t 51) (.t 52)), oN 54 (.fld 3 (.t 53)), oN 55 (.fld 0 (.t 54)), oN 56 (.fld 1 (.t 55)), oN 57 (.load 1 false (.t 56)), oN 58 (oV 1), oN 59 (.call 57 [(.t 57), (.t 58)]), oN 1 (oV 59)]) (.reg false 0 [oN 60 (oV 0), oN 61 (oV 5), oN 62 (.idx 6 (.t 60) (.t 61)), oN 63 (.fld 3 (.t 62)), oN 64 (.fld 2 (.t 63)), oN 65 (.load 1 false (.t 64)), oN 66 (oV 1), oN 67 (.call 57 [(.t 65), (.t 66)]), oN 1 (oV 67)]))))))))) (.reg false 0 [oN 10 (oV 5), oN 11 (.bin .add (.t 10) (cI 1)), oN 5 (oV 11)])))))) (.seq (.reg false 0 [oN 68 (oV 1), oN 4 (oV 68)]) .ret)))⟩
structure D_laws_markPointS (T : Nat → Option Fn) : Prop where
  hT : T 334 = some F_laws_markPointS
  d_laws_markIntS : D_laws_markIntS T
def F_laws_markLinkS : Fn := ⟨2, 111, [.tmp 4], (.seq (.reg false 0 [oN 4 (.mov (cI 0))]) (.seq (.seq (.reg false 0 [oN 5 (.mov (cI 0))]) (.block 0 (.loop (.seq (.seq (.reg false 0 [oN 6 (oV 5), oN 7 (oV 0), oN 8 (.len (.t 7)), oN 9 (.bin .lss (.t 6) (.t 8))]) (.cond (.t 9) .skip (.exit 0))) (.seq (.block 1 (.seq (.reg false 0 [oN 12 (oV 0), oN 13 (oV 5), oN 14 (oV 1), oN 15 (.idx 11 (.t 12) (.t 13)), oN 16 (.fld 0 (.t 15)), oS (.store 1 (.t 16) (.t 14))]) (.seq (.reg false 0 [oN 17 (oV 1), oN 18 (.bin .add (.t 17) (cI 1)), oN 1 (oV 18)]) (.seq (.reg false 0 [oN 19 (oV 0), oN 20 (oV 5), oN 21 (oV 1), oN 22 (.idx 11 (.t 19) (.t 20)), oN 23 (.fld 1 (.t 22)), oS (.store 1 (.t 23) (.t 21))]) (.seq (.reg false 0 [oN 24 (oV 1), oN 25 (.bin .add (.t 24) (cI 1)), oN 1 (oV 25)]) (.seq (.reg false 0 [oN 26 (oV 0), oN 27 (oV 5), oN 28 (oV 1), oN 29 (.bin .rem (.t 28) (cI 3)), oN 30 (.bin .eql (.t 29) (cI 0)), oN 31 (.idx 11 (.t 26) (.t 27)), oN 32 (.fld 2 (.t 31)), oN 33 (.fld 0 (.t 32)), oN 34 (.fld 0 (.t 33)), oS (.store 1 (.t 34) (.t 30))]) (.seq (.reg false 0 [oN 35 (oV 1), oN 36 (.bin .add (.t 35) (cI 1)), oN 1 (oV 36)]) (.seq (.reg false 0 [oN 37 (oV 0), oN 38 (oV 5), oN 39 (.idx 11 (.t 37) (.t 38)), oN 40 (.fld 2 (.t 39)), oN 41 (.fld 0 (.t 40)), oN 42 (.fld 1 (.t 41)), oN 43 (.load 1 false (.t 42)), oN 44 (oV 1), oN 45 (.call 57 [(.t 43), (.t 44)]), oN 1 (oV 45)]) (.seq (.reg false 0 [oN 46 (oV 0), oN 47 (oV 5), oN 48 (.idx 11 (.t 46) (.t 47)), oN 49 (.fld 2 (.t 48)), oN 50 (.fld 2 (.t 49)), oN 51 (.load 1 false (.t 50)), oN 52 (oV 1), oN 53 (.call 57 [(.t 51), (.t 52)]), oN 1 (oV 53)]) (.seq (.reg false 0 [oN 54 (oV 0), oN 55 (oV 5), oN 56 (oV 1), oN 57 (.bin .rem (.t 56) (cI 3)), oN 58 (.bin .eql (.t 57) (cI 0)), oN 59 (.idx 11 (.t 54) (.t 55)), oN 60 (.fld 5 (.t 59)), oN 61 (.fld 0 (.t 60)), oN 62 (.fld 0 (.t 61)), oS (.store 1 (.t 62) (.t 58))]) (.seq (.reg false 0 [oN 63 (oV 1), oN 64 (.bin .add (.t 63) (cI 1)), oN 1 (oV 64)]) (.seq (.reg false 0 [oN 65 (oV 0), oN 66 (oV 5), oN 67 (.idx 11 (.t 65) (.t 66)), oN 68 (.fld 5 (.t 67)), oN 69 (.fld 0 (.t 68)), oN 70 (.fld 1 (.t 69)), oN 71 (.load 1 false (.t 70)), oN 72 (oV 1), oN 73 (.call 57 [(.t 71), (.t 72)]), oN 1 (oV 73)]) (.seq (.reg false 0 [oN 74 (oV 0), oN 75 (oV 5), oN 76 (.idx 11 (.t 74) (.t 75)), oN 77 (.fld 5 (.t 76)), oN 78 (.fld 2 (.t 77)), oN 79 (.load 1 false (.t 78)), oN 80 (oV 1), oN 81 (.call 57 [(.t 79), (.t 80)]), oN 1 (oV 81)]) (.seq (.reg false 0 [oN 82 (oV 0), oN 83 (oV 5), oN 84 (oV 1), oN 85 (.bin .rem (.t 84) (cI 3)), oN 86 (.bin .eql (.t 85) (cI 0)), oN 87 (.idx 11 (.t 82) (.t 83)), oN 88 (.fld 8 (.t 87)), oN 89 (.fld 0 (.t 88)), oN 90 (.fld 0 (.t 89)), oS (.store 1 (.t 90) (.t 86))]) (.seq (.reg false 0 [oN 91 (oV 1), oN 92 (.bin .add (.t 91) (cI 1)), oN 1 (oV 92)]) (.seq (.reg false 0 [oN 93 (oV 0), oN 94 (oV 5), oN 95 (.idx 11 (.t 93) (.t 94)), oN 96 (.fld 8 (.t 95)), oN 97 (.fld 0 (.t 96)), oN 98 (.fld 1 (.t 97)), oN 99 (.load 1 false (.t 98)), oN 100 (oV 1), oN 101 (.call 57 [(.t 99), (.t 100)]), oN 1 (oV 101)]) (.reg false 0 [oN 102 (oV 0), oN 103 (oV 5), oN 104 (.idx 11 (.t 102) (.t 103)), oN 105 (.fld 8 (.t 104)), oN 106 (.fld 2 (.t 105)), oN 107 (.load 1 false (.t 106)), oN 108 (oV 1), oN 109 (.call 57 [(.t 107), (.t 108)]), oN 1 (oV 109)]))))))))))))))))) (.reg false 0 [oN 10 (oV 5), oN 11 (.bin .add (.t 10) (cI 1)), oN 5 (oV 11)])))))) (.seq (.reg false 0 [oN 110 (oV 1), oN 4 (oV 110)]) .ret)))⟩
structure D_laws_markLinkS (T : Nat → Option Fn) : Prop where
  hT : T 118 = some F_laws_markLinkS
  d_laws_markIntS : D_laws_markIntS T
def F_laws_markParentS : Fn := ⟨2, 104, [.tmp 4], (.seq (.reg false 0 [oN 4 (.mov (cI 0))]) (.seq (.seq (.reg false 0 [oN 5 (.mov (cI 0))]) (.block 0 (.loop (.seq (.seq (.reg false 0 [oN 6 (oV 5), oN 7 (oV 0), oN 8 (.len (.t 7)), oN 9 (.bin .lss (.t 6) (.t 8))]) (.cond (.t 9) .skip (.exit 0))) (.seq (.block 1 (.seq (.reg false 0 [oN 12 (oV 0), oN 13 (oV 5), oN 14 (oV 1), oN 15 (.idx 10 (.t 12) (.t 13)), oN 16 (.fld 0 (.t 15)), oS (.store 1 (.t 16) (.t 14))]) (.seq (.reg false 0 [oN 17 (oV 1), oN 18 (.bin .add (.t 17) (cI 1)), oN 1 (oV 18)]) (.seq (.reg false 0 [oN 19 (oV 0), oN 20 (oV 5), oN 21 (oV 1), oN 22 (.bin .rem (.t 21) (cI 3)), oN 23 (.bin .eql (.t 22) (cI 0)), oN 24 (.idx 10 (.t 19) (.t 20)), oN 25 (.fld 1 (.t 24)), oN 26 (.fld 0 (.t 25)), oN 27 (.fld 0 (.t 26)), oS (.store 1 (.t 27) (.t 23))]) (.seq (.reg false 0 [oN 28 (oV 1), oN 29 (.bin .add (.t 28) (cI 1)), oN 1 (oV 29)]) (.seq (.reg false 0 [oN 30 (oV 0), oN 31 (oV 5), oN 32 (.idx 10 (.t 30) (.t 31)), oN 33 (.fld 1 (.t 32)), oN 34 (.fld 0 (.t 33)), oN 35 (.fld 1 (.t 34)), oN 36 (.load 1 false (.t 35)), oN 37 (oV 1), oN 38 (.call 57 [(.t 36), (.t 37)]), oN 1 (oV 38)]) (.seq (.reg false 0 [oN 39 (oV 0), oN 40 (oV 5), oN 41 (.idx 10 (.t 39) (.t 40)), oN 42 (.fld 1 (.t 41)), oN 43 (.fld 2 (.t 42)), oN 44 (.load 1 false (.t 43)), oN 45 (oV 1), oN 46 (.call 57 [(.t 44), (.t 45)]), oN 1 (oV 46)]) (.seq (.reg false 0 [oN 47 (oV 0), oN 48 (oV 5), oN 49 (oV 1), oN 50 (.bin .rem (.t 49) (cI 3)), oN 51 (.bin .eql (.t 50) (cI 0)), oN 52 (.idx 10 (.t 47) (.t 48)), oN 53 (.fld 4 (.t 52)), oN 54 (.fld 0 (.t 53)), oN 55 (.fld 0 (.t 54)), oS (.store 1 (.t 55) (.t 51))]) (.seq (.reg false 0 [oN 56 (oV 1), oN 57 (.bin .add (.t 56) (cI 1)), oN 1 (oV 57)]) (.seq (.reg false 0 [oN 58 (oV 0), oN 59 (oV 5), oN 60 (.idx 10 (.t 58) (.t 59)), oN 61 (.fld 4 (.t 60)), oN 62 (.fld 0 (.t 61)), oN 63 (.fld 1 (.t 62)), oN 64 (.load 1 false (.t 63)), oN 65 (oV 1), oN 66 (.call 57 [(.t 64), (.t 65)]), oN 1 (oV 66)]) (.seq (.reg false 0 [oN 67 (oV 0), oN 68 (oV 5), oN 69 (.idx 10 (.t 67) (.t 68)), oN 70 (.fld 4 (.t 69)), oN 71 (.fld 2 (.t 70)), oN 72 (.load 1 false (.t 71)), oN 73 (oV 1), oN 74 (.call 57 [(.t 72), (.t 73)]), oN 1 (oV 74)]) (.seq (.reg false 0 [oN 75 (oV 0), oN 76 (oV 5), oN 77 (oV 1), oN 78 (.bin .rem (.t 77) (cI 3)), oN 79 (.bin .eql (.t 78) (cI 0)), oN 80 (.idx 10 (.t 75) (.t 76)), oN 81 (.fld 7 (.t 80)), oN 82 (.fld 0 (.t 81)), oN 83 (.fld 0 (.t 82)), oS (.store 1 (.t 83) (.t 79))]) (.seq (.reg false 0 [oN 84 (oV 1), oN 85 (.bin .add (.t 84) (cI 1)), oN 1 (oV 85)]) (.seq (.reg false 0 [oN 86 (oV 0), oN 87 (oV 5), oN 88 (.idx 10 (.t 86) (.t 87)), oN 89 (.fld 7 (.t 88)), oN 90 (.fld 0 (.t 89)), oN 91 (.fld 1 (.t 90)), oN 92 (.load 1 false (.t 91)), oN 93 (oV 1), oN 94 (.call 57 [(.t 92), (.t 93)]), oN 1 (oV 94)]) (.reg false 0 [oN 95 (oV 0), oN 96 (oV 5), oN 97 (.idx 10 (.t 95) (.t 96)), oN 98 (.fld 7 (.t 97)), oN 99 (.fld 2 (.t 98)), oN 100 (.load 1 false (.t 99)), oN 101 (oV 1), oN 102 (.call 57 [(.t 100), (.t 101)]), oN 1 (oV 102)]))))))))))))))) (.reg false 0 [oN 10 (oV 5), oN 11 (.bin .add (.t 10) (cI 1)), oN 5 (oV 11)])))))) (.seq (.reg false 0 [oN 103 (oV 1), oN 4 (oV 103)]) .ret)))⟩
structure D_laws_markParentS (T : Nat → Option Fn) : Prop where
  hT : T 119 = some F_laws_markParentS
  d_laws_markIntS : D_laws_markIntS T
def F_laws_markConditionalS : Fn := ⟨2, 55, [.tmp 4], (.seq (.reg false 0 [oN 4 (.mov (cI 0))]) (.seq (.seq (.reg false 0 [oN 5 (.mov (cI 0))]) (.block 0 (.loop (.seq (.seq (.reg false 0 [oN 6 (oV 5), oN 7 (oV 0), oN 8 (.len (.t 7)), oN 9 (.bin .lss (.t 6) (.t 8))]) (.cond (.t 9) .skip (.exit 0))) (.seq (.block 1 (.seq (.reg false 0 [oN 12 (oV 0), oN 13 (oV 5), oN 14 (oV 1), oN 15 (.idx 5 (.t 12) (.t 13)), oN 16 (.fld 0 (.t 15)), oS (.store 1 (.t 16) (.t 14))]) (.seq (.reg false 0 [oN 17 (oV 1), oN 18 (.bin .add (.t 17) (cI 1)), oN 1 (oV 18)]) (.seq (.reg false 0 [oN 19 (oV 0), oN 20 (oV 5), oN 21 (oV 1), oN 22 (.bin .rem (.t 21) (cI 3)), oN 23 (.bin .eql (.t 22) (cI 0)), oN 24 (.idx 5 (.t 19) (.t 20)), oN 25 (.fld 1 (.t 24)), oN 26 (.fld 0 (.t 25)), oN 27 (.fld 0 (.t 26)), oS (.store 1 (.t 27) (.t 23))]) (.seq (.reg false 0 [oN 28 (oV 1), oN 29 (.bin .add (.t 28) (cI 1)), oN 1 (oV 29)]) (.seq (.reg false 0 [oN 30 (oV 0), oN 31 (oV 5), oN 32 (.idx 5 (.t 30) (.t 31)), oN 33 (.fld 1 (.t 32)), oN 34 (.fld 0 (.t 33)), oN 35 (.fld 1 (.t 34)), oN 36 (.load 1 false (.t 35)), oN 37 (oV 1), oN 38 (.call 57 [(.t 36), (.t 37)]), oN 1 (oV 38)]) (.seq (.reg false 0 [oN 39 (oV 0), oN 40 (oV 5), oN 41 (.idx 5 (.t 39) (.t 40)), oN 42 (.fld 1 (.t 41)), oN 43 (.fld 2 (.t 42)), oN 44 (.load 1 false (.t 43)), oN 45 (oV 1), oN 46 (.call 57 [(.t 44), (.t 45)]), oN 1 (oV 46)]) (.reg false 0 [oN 47 (oV 0), oN 48 (oV 5), oN 49 (.idx 5 (.t 47) (.t 48)), oN 50 (.fld 4 (.t 49)), oN 51 (.load 1 false (.t 50)), oN 52 (oV 1), oN 53 (.call 119 [(.t 51), (.t 52)]), oN 1 (oV 53)])))))))) (.reg false 0 [oN 10 (oV 5), oN 11 (.bin .add (.t 10) (cI 1)), oN 5 (oV 11)])))))) (.seq (.reg false 0 [oN 54 (oV 1), oN 4 (oV 54)]) .ret)))⟩
structure D_laws_markConditionalS (T : Nat → Option Fn) : Prop where
  hT : T 385 = some F_laws_markConditionalS
  d_laws_markIntS : D_laws_markIntS T
  d_laws_markParentS : D_laws_markParentS T
def F_laws_markRatSS : Fn := ⟨2, 19, [.tmp 4], (.seq (.reg false 0 [oN 4 (.mov (cI 0))]) (.seq (.seq (.reg false 0 [oN 5 (.mov (cI 0))]) (.block 0 (.loop (.seq (.seq (.reg false 0 [oN 6 (oV 5), oN 7 (oV 0), oN 8 (.len (.t 7)), oN 9 (.bin .lss (.t 6) (.t 8))]) (.cond (.t 9) .skip (.exit 0))) (.seq (.block 1 (.reg false 0 [oN 12 (oV 0), oN 13 (oV 5), oN 14 (.idx 1 (.t 12) (.t 13)), oN 15 (.load 1 false (.t 14)), oN 16 (oV 1), oN 17 (.call 312 [(.t 15), (.t 16)]), oN 1 (oV 17)])) (.reg false 0 [oN 10 (oV 5), oN 11 (.bin .add (.t 10) (cI 1)), oN 5 (oV 11)])))))) (.seq (.reg false 0 [oN 18 (oV 1), oN 4 (oV 18)]) .ret)))⟩
structure D_laws_markRatSS (T : Nat → Option Fn) : Prop where
  hT : T 302 = some F_laws_markRatSS
  d_laws_markRatS : D_laws_markRatS T
def R.ct (x : R) : Nat := 1 + x.mag.length + x.den.length
def R.mk3 (k : Int) (x : R) : R := ⟨decide ((k).tmod 3 = 0), cnt x.mag.length (k + 1), cnt x.den.length (k + 1 + x.mag.length)⟩
theorem mk_markRatS {T : Nat → Option Fn} (h : D_laws_markRatS T) {l : List R} {k : Int} (hl : szL R.sz l ≤ 1048576 := by first | omega | assumption | (simp; omega)) (hk : 0 ≤ k ∧ k + cnL R.ct l l.length ≤ 1000000000000 := by first | omega | assumption | (simp; omega)) :
    Mk T 312 (ratsV l) k (ratsV (mkL R.mk3 R.ct k l)) (k + cnL R.ct l l.length) := by
  refine mk_iff fun σ v os ho hn => ?_
  have hll : l.length ≤ 1048576 := by unfold szL at hl; omega
  rcases ho.sl_inv with ⟨e, rfl, rfl⟩ | ⟨o, R0, os', rfl, _, _, hos, _⟩
  · have el : l = [] := by simpa using e
    subst el
    have : ∃ r σ', Run T (.fn 312 [.sl 3 [], iv k] σ) (.fn r σ') ∧ (r = iv k ∧ σ' = σ) := by
      refine run_end (fun _ _ => false) h.hT rfl rfl ?_
      dsimp only [F_laws_markRatS, oN, oS, oG, oK, oA, oH, oV, cI, St.enter, List.length_cons, List.length_nil, Nat.zero_add]
      (refine ew ?_; try with_reducible exact True.intro)
      refine loop_at (fun _ _ => false) (α := Nat) (fun i => ⟨argE [.sl 3 [], iv k, .any, .any, .any, iv 0], σ, σ.length, 0, [], []⟩) (fun i => i = 0) (fun i => i) rfl 0 ?_ ?_ ?_
      · rfl
      · (refine Fg_env ?_) <;> (try (refine ew ?_; try with_reducible exact True.intro)) <;> (repeat' (first | refine ⟨?_, ?_⟩ | exact EvV_int (by omega) | exact EvV_of (by simp) | exact EvV_nil _))
      · rintro i rfl
        (refine ew ?_; try with_reducible exact True.intro)
        refine brK_dec (fun hc => absurd hc (by omega)) fun hc => ?_
        (refine ew ?_; try with_reducible exact True.intro)
    obtain ⟨r, σ', h2, rfl, rfl⟩ := this
    exact ⟨σ', by simpa [cnL] using h2, ho, Fr.refl _ _⟩
  · rw [List.length_map] at ho ⊢
    have : ∃ r σ', Run T (.fn 312 [.msl o 0 l.length, iv k] σ) (.fn r σ') ∧ (r = iv (k + cnL R.ct l l.length) ∧ OwV σ' (.msl o 0 l.length) (ratsV (mkTo R.mk3 R.ct k l l.length)) os ∧ Fr os σ σ') := by
      refine run_end (fun x d => x == 57) h.hT rfl rfl ?_
      dsimp only [F_laws_markRatS, oN, oS, oG, oK, oA, oH, oV, cI, St.enter, List.length_cons, List.length_nil, Nat.zero_add]
      (refine ew ?_; try with_reducible exact True.intro)
      refine loop_at (fun x d => x == 57) (α := Nat × Store) (fun q => ⟨argE [.msl o 0 l.length, iv (k + cnL R.ct l q.1), .any, .any, .any, iv (q.1 : Nat)], q.2, σ.length, 0, [], []⟩) (fun q => q.1 ≤ l.length ∧ OwV q.2 (.msl o 0 l.length) (ratsV (mkTo R.mk3 R.ct k l q.1)) os ∧ Fr os σ q.2) (fun q => l.length - q.1) rfl (0, σ) ?_ ?_ ?_
      · exact ⟨by omega, by rw [mkTo_0]; exact ho, Fr.refl _ _⟩
      · (refine Fg_env ?_) <;> (try (refine ew1 @cnL_0 ?_; try with_reducible exact True.intro)) <;> (repeat' (first | refine ⟨?_, ?_⟩ | exact EvV_int (by omega) | exact EvV_of (by simp) | exact EvV_nil _))
      · rintro ⟨i, s⟩ ⟨hi, h2, h3⟩
        dsimp only at hi h2 h3
        have hls := h3.len
        obtain ⟨A, hob, hM⟩ := h2.obj
        (refine ew1 @hob ?_; try with_reducible exact True.intro)
        refine brK_dec (fun hc => ?_) fun hc => ?_
        · have hil : i < l.length := by omega
          obtain ⟨o', M', cs, oc, hv, hob', hM', hRi, hcs, hoc, hoo, hno, hre⟩ := h2.row_inv hn (i := i) (mg? (by rw [mkTo_len _ _ _ _ hi]; exact hil))
          rw [List.length_map, mkTo_len _ _ _ _ hi] at hv
          cases hv
          rw [hob] at hob'
          cases hob'
          rw [mkTo_at _ _ _ _ hil] at hcs
          obtain ⟨x, hx⟩ : ∃ x, l.getD i default = x := ⟨_, rfl⟩
          rw [hx] at hcs
          have hcn := cnL_s R.ct l hil
          have hcl := cnL_le R.ct l (i := i + 1) hil
          have hms := mkTo_set R.mk3 R.ct k l hil
          rw [hx] at hcn hms
          rw [hcn] at hcl
          obtain ⟨kk, hkk⟩ : ∃ kk, k + (cnL R.ct l i : Int) = kk := ⟨_, rfl⟩
          obtain ⟨c0, c1, c2, rfl⟩ : ∃ c0 c1 c2, cs = [c0, c1, c2] := by
            have := hcs.ow.len
            match cs, this with
            | [a0, a1, a2], _ => exact ⟨a0, a1, a2, rfl⟩
          have hlo := objAt_lt hob
          have rs : ∀ r, (A.set i r)[i]? = some r := fun r => by rw [List.getElem?_set_self (by omega)]
          have hct : R.ct x = 1 + x.mag.length + x.den.length := rfl
          have hxs : R.sz x ≤ 1048576 := by
            have := szL_at R.sz hil
            rw [hx] at this
            omega
          simp only [R.sz] at hxs
          have F0 : Fr (o :: oc) s s := Fr.refl _ _
          have hcs := hcs.sca 0 (.bool (decide ((kk).tmod 3 = 0))) rfl
          (refine ew7 @hkk @hc @hob @hRi @hlo @rs @List.set_set.{0} ?_; try with_reducible exact True.intro)
          have hcs := hcs.set (x := some ⟨3, A.set i [.bool (decide ((kk).tmod 3 = 0)), c1, c2]⟩) hno
          have G0 := F0.trans (fr_set (σ := s) (o := o) (x := some ⟨3, A.set i [.bool (decide ((kk).tmod 3 = 0)), c1, c2]⟩) (by simp))
          obtain ⟨s1, hr, hcs, hf1⟩ := hcs.call 1 (mk_markIntS h.d_laws_markIntS (l := x.mag) (k := kk + 1) (by omega) (by omega)) rfl rfl
          refine RefK_mk hr rfl hf1.len (by simp) ?_
          have hb1 := (hf1.old o (by simpa using hlo) hno).trans (objAt_seteq hlo)
          have hl1 := objAt_lt hb1
          have F1 := G0.trans (hf1.mono (by simp +contextual))
          (refine ew4 @hb1 @rs @hl1 @List.set_set.{0} ?_; try with_reducible exact True.intro)
          have G1 := F1
          obtain ⟨s2, hr, hcs, hf2⟩ := hcs.call 2 (mk_markIntS h.d_laws_markIntS (l := x.den) (k := kk + 1 + x.mag.length) (by omega) (by omega)) rfl rfl
          refine RefK_mk hr rfl hf2.len (by simp) ?_
          have hb2 := (hf2.old o hl1 hno).trans hb1
          have hl2 := objAt_lt hb2
          have F2 := G1.trans (hf2.mono (by simp +contextual))
          (refine ew4 @hb2 @rs @hl2 @List.set_set.{0} ?_; try with_reducible exact True.intro)
          refine ⟨(i + 1, s2), by dsimp only; omega, ⟨by dsimp only; omega, ?_, ?_⟩, by (refine Fg_env ?_) <;> (try (refine ew ?_; try with_reducible exact True.intro)) <;> (repeat' (first | refine ⟨?_, ?_⟩ | exact EvV_int (by omega) | exact EvV_of (by simp) | exact EvV_nil _))⟩
          · dsimp only
            rw [← hms, hkk]
            show OwV _ _ (.sl 3 (List.map R.cells _)) _
            rw [List.map_set]
            exact hre _ _ _ hcs hb2 F2
          · exact h3.trans (F2.mono (by simpa using ⟨hoo, hoc⟩))
        · have : i = l.length := by omega
          subst this
          (refine ew1 @hc ?_; try with_reducible exact True.intro)
          exact ⟨h2, h3⟩
    obtain ⟨r, σ', h2, rfl, h3, h4⟩ := this
    rw [mkTo_all] at h3
    exact ⟨σ', h2, h3, h4⟩
def Pt.ct (x : Pt) : Nat := 1 + x.x.mag.length + x.x.den.length + 1 + x.y.mag.length + x.y.den.length
def Pt.mk3 (k : Int) (x : Pt) : Pt := ⟨⟨decide ((k).tmod 3 = 0), cnt x.x.mag.length (k + 1), cnt x.x.den.length (k + 1 + x.x.mag.length)⟩, ⟨decide ((k + 1 + x.x.mag.length + x.x.den.length).tmod 3 = 0), cnt x.y.mag.length (k + 1 + x.x.mag.length + x.x.den.length + 1), cnt x.y.den.length (k + 1 + x.x.mag.length + x.x.den.length + 1 + x.y.mag.length)⟩⟩
def Lk.ct (x : Lk) : Nat := 1 + 1 + 1 + x.w.mag.length + x.w.den.length + 1 + x.dx.mag.length + x.dx.den.length + 1 + x.dy.mag.length + x.dy.den.length
def Lk.mk3 (k : Int) (x : Lk) : Lk := ⟨k, k + 1, ⟨decide ((k + 1 + 1).tmod 3 = 0), cnt x.w.mag.length (k + 1 + 1 + 1), cnt x.w.den.length (k + 1 + 1 + 1 + x.w.mag.length)⟩, ⟨decide ((k + 1 + 1 + 1 + x.w.mag.length + x.w.den.length).tmod 3 = 0), cnt x.dx.mag.length (k + 1 + 1 + 1 + x.w.mag.length + x.w.den.length + 1), cnt x.dx.den.length (k + 1 + 1 + 1 + x.w.mag.length + x.w.den.length + 1 + x.dx.mag.length)⟩, ⟨decide ((k + 1 + 1 + 1 + x.w.mag.length + x.w.den.length + 1 + x.dx.mag.length + x.dx.den.length).tmod 3 = 0), cnt x.dy.mag.length (k + 1 + 1 + 1 + x.w.mag.length + x.w.den.length + 1 + x.dx.mag.length + x.dx.den.length + 1), cnt x.dy.den.length (k + 1 + 1 + 1 + x.w.mag.length + x.w.den.length + 1 + x.dx.mag.length + x.dx.den.length + 1 + x.dy.mag.length)⟩⟩
def Pa.ct (x : Pa) : Nat := 1 + 1 + x.share.mag.length + x.share.den.length + 1 + x.dx.mag.length + x.dx.den.length + 1 + x.dy.mag.length + x.dy.den.length
def Pa.mk3 (k : Int) (x : Pa) : Pa := ⟨k, ⟨decide ((k + 1).tmod 3 = 0), cnt x.share.mag.length (k + 1 + 1), cnt x.share.den.length (k + 1 + 1 + x.share.mag.length)⟩, ⟨decide ((k + 1 + 1 + x.share.mag.length + x.share.den.length).tmod 3 = 0), cnt x.dx.mag.length (k + 1 + 1 + x.share.mag.length + x.share.den.length + 1), cnt x.dx.den.length (k + 1 + 1 + x.share.mag.length + x.share.den.length + 1 + x.dx.mag.length)⟩, ⟨decide ((k + 1 + 1 + x.share.mag.length + x.share.den.length + 1 + x.dx.mag.length + x.dx.den.length).tmod 3 = 0), cnt x.dy.mag.length (k + 1 + 1 + x.share.mag.length + x.share.den.length + 1 + x.dx.mag.length + x.dx.den.length + 1), cnt x.dy.den.length (k + 1 + 1 + x.share.mag.length + x.share.den.length + 1 + x.dx.mag.length + x.dx.den.length + 1 + x.dy.mag.length)⟩⟩
def Cd.ct (x : Cd) : Nat := 1 + 1 + x.total.mag.length + x.total.den.length + cnL Pa.ct x.ps x.ps.length
def Cd.mk3 (k : Int) (x : Cd) : Cd := ⟨k, ⟨decide ((k + 1).tmod 3 = 0), cnt x.total.mag.length (k + 1 + 1), cnt x.total.den.length (k + 1 + 1 + x.total.mag.length)⟩, mkL Pa.mk3 Pa.ct (k + 1 + 1 + x.total.mag.length + x.total.den.length) x.ps⟩
def Tn.ct (x : Tn) : Nat := 1 + 1 + cnL Lk.ct x.own x.own.length + 1 + 1 + x.cond.total.mag.length + x.cond.total.den.length + cnL Pa.ct x.cond.ps x.cond.ps.length + cnL Lk.ct x.msgs x.msgs.length + 1 + x.energy.mag.length + x.energy.den.length
def Tn.mk3 (k : Int) (x : Tn) : Tn := ⟨k, k + 1, mkL Lk.mk3 Lk.ct (k + 1 + 1) x.own, ⟨k + 1 + 1 + cnL Lk.ct x.own x.own.length, ⟨decide ((k + 1 + 1 + cnL Lk.ct x.own x.own.length + 1).tmod 3 = 0), cnt x.cond.total.mag.length (k + 1 + 1 + cnL Lk.ct x.own x.own.length + 1 + 1), cnt x.cond.total.den.length (k + 1 + 1 + cnL Lk.ct x.own x.own.length + 1 + 1 + x.cond.total.mag.length)⟩, mkL Pa.mk3 Pa.ct (k + 1 + 1 + cnL Lk.ct x.own x.own.length + 1 + 1 + x.cond.total.mag.length + x.cond.total.den.length) x.cond.ps⟩, mkL Lk.mk3 Lk.ct (k + 1 + 1 + cnL Lk.ct x.own x.own.length + 1 + 1 + x.cond.total.mag.length + x.cond.total.den.length + cnL Pa.ct x.cond.ps x.cond.ps.length) x.msgs, ⟨decide ((k + 1 + 1 + cnL Lk.ct x.own x.own.length + 1 + 1 + x.cond.total.mag.length + x.cond.total.den.length + cnL Pa.ct x.cond.ps x.cond.ps.length + cnL Lk.ct x.msgs x.msgs.length).tmod 3 = 0), cnt x.energy.mag.length (k + 1 + 1 + cnL Lk.ct x.own x.own.length + 1 + 1 + x.cond.total.mag.length + x.cond.total.den.length + cnL Pa.ct x.cond.ps x.cond.ps.length + cnL Lk.ct x.msgs x.msgs.length + 1), cnt x.energy.den.length (k + 1 + 1 + cnL Lk.ct x.own x.own.length + 1 + 1 + x.cond.total.mag.length + x.cond.total.den.length + cnL Pa.ct x.cond.ps x.cond.ps.length + cnL Lk.ct x.msgs x.msgs.length + 1 + x.energy.mag.length)⟩⟩
def rsct (x : List R) : Nat := cnL R.ct x x.length
def rsmk (k : Int) (x : List R) : List R := mkL R.mk3 R.ct k x
theorem mk_markRatSS {T : Nat → Option Fn} (h : D_laws_markRatSS T) {l : List (List R)} {k : Int} (hl : szL (szL R.sz) l ≤ 1048576 := by first | omega | assumption | (simp; omega)) (hk : 0 ≤ k ∧ k + cnL rsct l l.length ≤ 1000000000000 := by first | omega | assumption | (simp; omega)) :
    Mk T 302 (ratssV l) k (ratssV (mkL rsmk rsct k l)) (k + cnL rsct l l.length) := by
  refine mk_iff fun σ v os ho hn => ?_
  have hll : l.length ≤ 1048576 := by unfold szL at hl; omega
  rcases ho.sl_inv with ⟨e, rfl, rfl⟩ | ⟨o, R0, os', rfl, _, _, hos, _⟩
  · have el : l = [] := by simpa using e
    subst el
    have : ∃ r σ', Run T (.fn 302 [.sl 1 [], iv k] σ) (.fn r σ') ∧ (r = iv k ∧ σ' = σ) := by
      refine run_end (fun _ _ => false) h.hT rfl rfl ?_
      dsimp only [F_laws_markRatSS, oN, oS, oG, oK, oA, oH, oV, cI, St.enter, List.length_cons, List.length_nil, Nat.zero_add]
      (refine ew ?_; try with_reducible exact True.intro)
      refine loop_at (fun _ _ => false) (α := Nat) (fun i => ⟨argE [.sl 1 [], iv k, .any, .any, .any, iv 0], σ, σ.length, 0, [], []⟩) (fun i => i = 0) (fun i => i) rfl 0 ?_ ?_ ?_
      · rfl
      · (refine Fg_env ?_) <;> (try (refine ew ?_; try with_reducible exact True.intro)) <;> (repeat' (first | refine ⟨?_, ?_⟩ | exact EvV_int (by omega) | exact EvV_of (by simp) | exact EvV_nil _))
      · rintro i rfl
        (refine ew ?_; try with_reducible exact True.intro)
        refine brK_dec (fun hc => absurd hc (by omega)) fun hc => ?_
        (refine ew ?_; try with_reducible exact True.intro)
    obtain ⟨r, σ', h2, rfl, rfl⟩ := this
    exact ⟨σ', by simpa [cnL] using h2, ho, Fr.refl _ _⟩
  · rw [List.length_map] at ho ⊢
    have : ∃ r σ', Run T (.fn 302 [.msl o 0 l.length, iv k] σ) (.fn r σ') ∧ (r = iv (k + cnL rsct l l.length) ∧ OwV σ' (.msl o 0 l.length) (ratssV (mkTo rsmk rsct k l l.length)) os ∧ Fr os σ σ') := by
      refine run_end (fun x d => x == 312) h.hT rfl rfl ?_
      dsimp only [F_laws_markRatSS, oN, oS, oG, oK, oA, oH, oV, cI, St.enter, List.length_cons, List.length_nil, Nat.zero_add]
      (refine ew ?_; try with_reducible exact True.intro)
      refine loop_at (fun x d => x == 312) (α := Nat × Store) (fun q => ⟨argE [.msl o 0 l.length, iv (k + cnL rsct l q.1), .any, .any, .any, iv (q.1 : Nat)], q.2, σ.length, 0, [], []⟩) (fun q => q.1 ≤ l.length ∧ OwV q.2 (.msl o 0 l.length) (ratssV (mkTo rsmk rsct k l q.1)) os ∧ Fr os σ q.2) (fun q => l.length - q.1) rfl (0, σ) ?_ ?_ ?_
      · exact ⟨by omega, by rw [mkTo_0]; exact ho, Fr.refl _ _⟩
      · (refine Fg_env ?_) <;> (try (refine ew1 @cnL_0 ?_; try with_reducible exact True.intro)) <;> (repeat' (first | refine ⟨?_, ?_⟩ | exact EvV_int (by omega) | exact EvV_of (by simp) | exact EvV_nil _))
      · rintro ⟨i, s⟩ ⟨hi, h2, h3⟩
        dsimp only at hi h2 h3
        have hls := h3.len
        obtain ⟨A, hob, hM⟩ := h2.obj
        (refine ew1 @hob ?_; try with_reducible exact True.intro)
        refine brK_dec (fun hc => ?_) fun hc => ?_
        · have hil : i < l.length := by omega
          obtain ⟨o', M', cs, oc, hv, hob', hM', hRi, hcs, hoc, hoo, hno, hre⟩ := h2.row_inv hn (i := i) (mg? (by rw [mkTo_len _ _ _ _ hi]; exact hil))
          rw [List.length_map, mkTo_len _ _ _ _ hi] at hv
          cases hv
          rw [hob] at hob'
          cases hob'
          rw [mkTo_at _ _ _ _ hil] at hcs
          obtain ⟨x, hx⟩ : ∃ x, l.getD i default = x := ⟨_, rfl⟩
          rw [hx] at hcs
          have hcn := cnL_s rsct l hil
          have hcl := cnL_le rsct l (i := i + 1) hil
          have hms := mkTo_set rsmk rsct k l hil
          rw [hx] at hcn hms
          rw [hcn] at hcl
          obtain ⟨kk, hkk⟩ : ∃ kk, k + (cnL rsct l i : Int) = kk := ⟨_, rfl⟩
          obtain ⟨c0, rfl⟩ : ∃ c0, cs = [c0] := by
            have := hcs.ow.len
            match cs, this with
            | [a0], _ => exact ⟨a0, rfl⟩
          have hlo := objAt_lt hob
          have rs : ∀ r, (A.set i r)[i]? = some r := fun r => by rw [List.getElem?_set_self (by omega)]
          have hct : rsct x = cnL R.ct x x.length := rfl
          have hxs : (szL R.sz) x ≤ 1048576 := by
            have := szL_at (szL R.sz) hil
            rw [hx] at this
            omega
          have F0 : Fr (o :: oc) s s := Fr.refl _ _
          (refine ew7 @hkk @hc @hob @hRi @hlo @rs @List.set_set.{0} ?_; try with_reducible exact True.intro)
          have G0 := F0
          obtain ⟨s1, hr, hcs, hf1⟩ := hcs.call 0 (mk_markRatS h.d_laws_markRatS (l := x) (k := kk) (by omega) (by omega)) rfl rfl
          refine RefK_mk hr rfl hf1.len (by simp) ?_
          have hb1 := (hf1.old o hlo hno).trans hob
          have hl1 := objAt_lt hb1
          have F1 := G0.trans (hf1.mono (by simp +contextual))
          have hRi' := hRi
          (refine ew4 @hb1 @hRi @hl1 @List.set_set.{0} ?_; try with_reducible exact True.intro)
          refine ⟨(i + 1, s1), by dsimp only; omega, ⟨by dsimp only; omega, ?_, ?_⟩, by (refine Fg_env ?_) <;> (try (refine ew ?_; try with_reducible exact True.intro)) <;> (repeat' (first | refine ⟨?_, ?_⟩ | exact EvV_int (by omega) | exact EvV_of (by simp) | exact EvV_nil _))⟩
          · dsimp only
            rw [← hms, hkk]
            show OwV _ _ (.sl 1 (List.map (fun r => [ratsV r]) _)) _
            rw [List.map_set]
            exact hre _ _ _ hcs (hb1.trans (by rw [set_at hRi])) F1
          · exact h3.trans (F1.mono (by simpa using ⟨hoo, hoc⟩))
        · have : i = l.length := by omega
          subst this
          (refine ew1 @hc ?_; try with_reducible exact True.intro)
          exact ⟨h2, h3⟩
    obtain ⟨r, σ', h2, rfl, h3, h4⟩ := this
    rw [mkTo_all] at h3
    exact ⟨σ', h2, h3, h4⟩
end Go.Ml
end
section
set_option linter.unusedSimpArgs false
set_option linter.unusedVariables false
set_option maxRecDepth 100000
set_option maxHeartbeats 4000000
namespace Go.Ml
def F_laws_markBigInt : Fn := ⟨2, 10, [.tmp 4], (.seq (.reg false 1 [oN 2 (.box (.t 0)), oK 4 1 (.mov (cI 0))]) (.seq (.reg false 0 [oN 5 (.fld 1 (.t 2)), oN 6 (.load 1 false (.t 5)), oN 7 (oV 1), oN 8 (.call 57 [(.t 6), (.t 7)]), oN 1 (oV 8)]) (.seq (.reg false 0 [oN 9 (oV 1), oN 4 (oV 9)]) .ret)))⟩
structure D_laws_markBigInt (T : Nat → Option Fn) : Prop where
  hT : T 56 = some F_laws_markBigInt
  d_laws_markIntS : D_laws_markIntS T
def F_laws_markRat : Fn := ⟨2, 14, [.tmp 4], (.seq (.reg false 1 [oN 2 (.box (.t 0)), oK 4 1 (.mov (cI 0))]) (.seq (.reg false 0 [oN 5 (.fld 0 (.t 2)), oN 6 (.load 2 true (.t 5)), oN 7 (oV 1), oN 8 (.call 56 [(.t 6), (.t 7)]), oN 1 (oV 8)]) (.seq (.reg false 0 [oN 9 (.fld 2 (.t 2)), oN 10 (.load 1 false (.t 9)), oN 11 (oV 1), oN 12 (.call 57 [(.t 10), (.t 11)]), oN 1 (oV 12)]) (.seq (.reg false 0 [oN 13 (oV 1), oN 4 (oV 13)]) .ret))))⟩
structure D_laws_markRat (T : Nat → Option Fn) : Prop where
  hT : T 41 = some F_laws_markRat
  d_laws_markBigInt : D_laws_markBigInt T
  d_laws_markIntS : D_laws_markIntS T
def F_laws_markLink : Fn := ⟨2, 18, [.tmp 4], (.seq (.reg false 1 [oN 2 (.box (.t 0)), oK 4 1 (.mov (cI 0))]) (.seq (.reg false 0 [oN 5 (.fld 2 (.t 2)), oN 6 (.load 3 true (.t 5)), oN 7 (oV 1), oN 8 (.call 41 [(.t 6), (.t 7)]), oN 1 (oV 8)]) (.seq (.reg false 0 [oN 9 (.fld 5 (.t 2)), oN 10 (.load 3 true (.t 9)), oN 11 (oV 1), oN 12 (.call 41 [(.t 10), (.t 11)]), oN 1 (oV 12)]) (.seq (.reg false 0 [oN 13 (.fld 8 (.t 2)), oN 14 (.load 3 true (.t 13)), oN 15 (oV 1), oN 16 (.call 41 [(.t 14), (.t 15)]), oN 1 (oV 16)]) (.seq (.reg false 0 [oN 17 (oV 1), oN 4 (oV 17)]) .ret)))))⟩
structure D_laws_markLink (T : Nat → Option Fn) : Prop where
  hT : T 17 = some F_laws_markLink
  d_laws_markRat : D_laws_markRat T
def Bi.ct2 (x : Bi) : Nat := x.mag.length
def R.ct2 (x : R) : Nat := Bi.ct2 x.num + x.den.length
def Pt.ct2 (x : Pt) : Nat := x.x.ct2 + x.y.ct2
def Lk.ct2 (x : Lk) : Nat := x.w.ct2 + x.dx.ct2 + x.dy.ct2
def Cd.ct2 (x : Cd) : Nat := x.total.ct2 + cnL Pa.ct x.ps x.ps.length
end Go.Ml
end
section
set_option linter.unusedSimpArgs false
set_option linter.unusedVariables false
set_option maxRecDepth 100000
set_option maxHeartbeats 4000000
namespace Go.Ml
theorem szL_memb {α : Type} {f : α → Nat} {l : List α} {x : α} {n : Nat} (h : szL f l ≤ n) (hx : x ∈ l) : f x ≤ n := by
  have : ∀ l : List α, x ∈ l → f x ≤ (l.map f).sum := by
    intro l
    induction l with
    | nil => intro h; simp at h
    | cons y l ih =>
      intro h
      rw [List.map_cons, List.sum_cons]
      rcases List.mem_cons.1 h with rfl | h
      · omega
      · have := ih h; omega
  have := this l hx
  unfold szL at h
  omega
theorem po_toRatS {T : Nat → Option Fn} (h : D_laws_toRatS T) {l : List R} (hl : szL R.sz l ≤ 1048576 := by first | omega | assumption | (simp; omega)) : PO T 113 [ratsV l] (ratsV l) := by
  have hll : l.length ≤ 1048576 := by unfold szL at hl; omega
  exact po_toS (cl := R.cells) (z := [.bool false, .nils, .nils]) (h.hT.trans rfl) (by decide) hll (fun x hx => ⟨rfl, st_R l _ (List.mem_map.2 ⟨x, hx, rfl⟩), rfl⟩) fun x hx => po_toRat h.d_laws_toRat (r := x) (szL_memb (f := R.sz) hl hx)
theorem po_toRatSS {T : Nat → Option Fn} (h : D_laws_toRatSS T) {l : List (List R)} (hl : szL (szL R.sz) l ≤ 1048576 := by first | omega | assumption | (simp; omega)) : PO T 92 [ratssV l] (ratssV l) := by
  have hll : l.length ≤ 1048576 := by unfold szL at hl; omega
  refine po_toSG (f := 113) (cl := ratsV) (h.hT.trans rfl) hll (fun x _ => ⟨rfl, rfl⟩) fun x hx => po_toRatS h.d_laws_toRatS (szL_memb hl hx)
end Go.Ml
end
section
set_option linter.unusedSimpArgs false
set_option linter.unusedVariables false
set_option maxRecDepth 100000
set_option maxHeartbeats 4000000
namespace Go.Ml
def F_impl_copyRat : Fn := ⟨1, 15, [.cell 2 3 true], (.seq (.reg false 2 [oN 1 (.box (.t 0)), oK 2 1 (.alloc [.bool false, .nils, .nils])]) (.seq (.reg true 0 [oN 3 (.fld 0 (.t 1)), oA 4 0 (.fld 0 (.t 3)) [0], oA 5 0 (.load 1 false (.t 4)) [1], oN 6 (.fld 0 (.t 1)), oA 7 0 (.fld 1 (.t 6)) [3], oA 8 0 (.load 1 false (.t 7)) [4], oA 9 0 (.call 139 [(.t 8)]) [5], oA 10 0 (.build [.bool false, .nils] [(0, 1, (.t 5)), (1, 1, (.t 9))]) [2, 6], oN 11 (.fld 2 (.t 1)), oA 12 0 (.load 1 false (.t 11)) [8], oA 13 0 (.call 139 [(.t 12)]) [9, 6], oA 14 0 (.build [.bool false, .nils, .nils] [(0, 2, (.t 10)), (2, 1, (.t 13))]) [7, 10], ⟨none, none, 0, .store 3 (.t 2) (.t 14), [11, 10, 0, 1, 2, 3, 4, 5, 6, 7, 8, 9, 10, 11]⟩]) .ret))⟩
structure D_impl_copyRat (T : Nat → Option Fn) : Prop where
  hT : T 145 = some F_impl_copyRat
  d_impl_copyInts : D_impl_copyInts T
def F_impl_copyLink : Fn := ⟨1, 17, [.cell 2 11 true], (.seq (.reg false 2 [oN 1 (.box (.t 0)), oK 2 1 (.alloc [.int .i64 0, .int .i64 0, .bool false, .nils, .nils, .bool false, .nils, .nils, .bool false, .nils, .nils])]) (.seq (.reg true 0 [oN 3 (.fld 0 (.t 1)), oA 4 0 (.load 1 false (.t 3)) [0], oN 5 (.fld 1 (.t 1)), oA 6 0 (.load 1 false (.t 5)) [2], oN 7 (.fld 2 (.t 1)), oA 8 0 (.load 3 true (.t 7)) [4], oA 9 0 (.call 145 [(.t 8)]) [5], oN 10 (.fld 5 (.t 1)), oA 11 0 (.load 3 true (.t 10)) [7], oA 12 0 (.call 145 [(.t 11)]) [8, 6], oN 13 (.fld 8 (.t 1)), oA 14 0 (.load 3 true (.t 13)) [10], oA 15 0 (.call 145 [(.t 14)]) [11, 9], oA 16 0 (.build [.int .i64 0, .int .i64 0, .bool false, .nils, .nils, .bool false, .nils, .nils, .bool false, .nils, .nils] [(0, 1, (.t 4)), (1, 1, (.t 6)), (2, 3, (.t 9)), (5, 3, (.t 12)), (8, 3, (.t 15))]) [1, 3, 6, 9, 12], ⟨none, none, 0, .store 11 (.t 2) (.t 16), [13, 12, 0, 1, 2, 3, 4, 5, 6, 7, 8, 9, 10, 11, 12, 13]⟩]) .ret))⟩
structure D_impl_copyLink (T : Nat → Option Fn) : Prop where
  hT : T 133 = some F_impl_copyLink
  d_impl_copyRat : D_impl_copyRat T
def F_impl_copyLinks : Fn := ⟨1, 20, [.tmp 2], (.seq (.reg false 0 [oN 2 (.mov (.c (.nils)))]) (.seq (.reg false 1 [oN 6 (.mkSl 11 [.int .i64 0, .int .i64 0, .bool false, .nils, .nils, .bool false, .nils, .nils, .bool false, .nils, .nils] 0 []), oK 3 1 (oV 6)]) (.seq (.seq (.reg false 0 [oN 7 (oV 0), oN 8 (.len (.t 7)), oN 9 (.mov (cI 0))]) (.block 0 (.loop (.seq (.reg false 0 [oN 10 (.bin .lss (.t 9) (.t 8))]) (.seq (.cond (.t 10) .skip (.exit 0)) (.seq (.block 1 (.seq (.reg false 1 [oK 11 1 (.idx 11 (.t 7) (.t 9)), oK 12 1 (.load 11 true (.t 11)), oN 5 (.alloc [.int .i64 0, .int .i64 0, .bool false, .nils, .nils, .bool false, .nils, .nils, .bool false, .nils, .nils]), ⟨none, none, 1, .store 11 (.t 5) (.t 12), []⟩]) (.reg false 2 [oK 13 2 (oV 3), oK 14 2 (.load 11 true (.t 5)), oK 15 2 (.call 133 [(.t 14)]), oN 16 (.mkSl 11 [.int .i64 0, .int .i64 0, .bool false, .nils, .nils, .bool false, .nils, .nils, .bool false, .nils, .nils] 1 [(0, (.t 15))]), oK 17 1 (.app 11 184 (.t 13) (.t 16)), oK 3 2 (oV 17)]))) (.reg false 0 [oN 18 (.bin .add (.t 9) (cI 1)), oN 9 (oV 18)]))))))) (.seq (.reg false 0 [oN 19 (oV 3), oN 2 (oV 19)]) .ret))))⟩
structure D_impl_copyLinks (T : Nat → Option Fn) : Prop where
  hT : T 110 = some F_impl_copyLinks
  d_impl_copyLink : D_impl_copyLink T
end Go.Ml
end
section
set_option linter.unusedSimpArgs false
set_option linter.unusedVariables false
set_option maxRecDepth 100000
set_option maxHeartbeats 8000000
namespace Go.Ml
def F_spec_NewLink : Fn := ⟨5, 59, [.cell 10 11 true, .tmp 11], (.seq (.reg false 1 [oN 10 (.alloc [.int .i64 0, .int .i64 0, .bool false, .nils, .nils, .bool false, .nils, .nils, .bool false, .nils, .nils]), oK 11 1 (.mov (.c (.bool false)))]) (.seq (.seq (.reg false 0 [oN 12 (oV 0), oN 13 (.call 34 [(.t 12)]), oN 14 (.un .not (.t 13)), oN 15 (oV 14), oG 15 false 16 (oV 1), oG 15 false 17 (.call 34 [(.t 16)]), oG 15 false 18 (.un .not (.t 17)), oN 19 (.pick (.t 15) (.c (.bool true)) (.t 18)), oN 20 (oV 19), oG 20 false 21 (oV 0), oG 20 false 22 (oV 1), oG 20 false 23 (.bin .eql (.t 21) (.t 22)), oN 24 (.pick (.t 20) (.c (.bool true)) (.t 23)), oN 25 (oV 24), oG 25 false 26 (oV 2), oG 25 false 27 (.call 35 [(.t 26), (cI 1), (cI 9999)]), oG 25 false 28 (.un .not (.t 27)), oN 29 (.pick (.t 25) (.c (.bool true)) (.t 28)), oN 30 (oV 29), oG 30 false 31 (oV 3), oG 30 false 32 (.call 35 [(.t 31), (cI (-1000000)), (cI 1000000)]), oG 30 false 33 (.un .not (.t 32)), oN 34 (.pick (.t 30) (.c (.bool true)) (.t 33)), oN 35 (oV 34), oG 35 false 36 (oV 4), oG 35 false 37 (.call 35 [(.t 36), (cI (-1000000)), (cI 1000000)]), oG 35 false 38 (.un .not (.t 37)), oN 39 (.pick (.t 35) (.c (.bool true)) (.t 38))]) (.cond (.t 39) (.seq (.reg false 0 [oN 40 (.build [.int .i64 0, .int .i64 0, .bool false, .nils, .nils, .bool false, .nils, .nils, .bool false, .nils, .nils] []), oS (.store 11 (.t 10) (.t 40)), oN 11 (.mov (.c (.bool false)))]) .ret) .skip)) (.seq (.seq (.reg false 0 [oN 41 (oV 0), oN 42 (oV 1), oN 43 (.bin .gtr (.t 41) (.t 42))]) (.cond (.t 43) (.reg false 0 [oN 44 (oV 1), oN 45 (oV 0), oN 46 (oV 3), oN 47 (.un .neg (.t 46)), oN 48 (oV 4), oN 49 (.un .neg (.t 48)), oN 0 (oV 44), oN 1 (oV 45), oN 3 (oV 47), oN 4 (oV 49)]) .skip)) (.seq (.reg false 0 [oN 50 (oV 0), oN 51 (oV 1), oN 52 (oV 2), oN 53 (.call 36 [(.t 52)]), oN 54 (oV 3), oN 55 (.call 36 [(.t 54)]), oN 56 (oV 4), oN 57 (.call 36 [(.t 56)]), oN 58 (.build [.int .i64 0, .int .i64 0, .bool false, .nils, .nils, .bool false, .nils, .nils, .bool false, .nils, .nils] [(0, 1, (.t 50)), (1, 1, (.t 51)), (2, 3, (.t 53)), (5, 3, (.t 55)), (8, 3, (.t 57))]), oS (.store 11 (.t 10) (.t 58)), oN 11 (.mov (.c (.bool true)))]) .ret))))⟩
structure D_spec_NewLink (T : Nat → Option Fn) : Prop where
  hT : T 14 = some F_spec_NewLink
  d_spec_l06Node : D_spec_l06Node T
  d_spec_l01In : D_spec_l01In T
  d_spec_RatFromInt : D_spec_RatFromInt T
end Go.Ml
end
section
set_option linter.unusedSimpArgs false
namespace Go.Ml
def inB (a lo hi : Int) : Bool := decide (lo ≤ a) && decide (a ≤ hi)
def paAt (c : Cd) (i : Nat) : Bool :=
  inB (c.ps.getD i default).node 0 9 && !decide ((c.ps.getD i default).node = c.node) && (decide (i = 0) || decide ((c.ps.getD (i - 1) default).node < (c.ps.getD i default).node)) &&
    decide (0 < sgnR (c.ps.getD i default).share) && (c.ps.getD i default).dx.ok && (c.ps.getD i default).dy.ok
def sumS (l : List Pa) (n : Nat) : R := (l.take n).foldl (fun s p => addR s p.share) (intR 0)
def paOk (c : Cd) : Prop := ∀ i, i < c.ps.length → paAt c i = true
instance (c : Cd) : Decidable (paOk c) := inferInstanceAs (Decidable (∀ i, i < c.ps.length → paAt c i = true))
def cdOk (c : Cd) : Bool := decide (paOk c) && inB c.node 1 9 && decide (0 < sgnR c.total) && !c.ps.isEmpty && decide (sumS c.ps c.ps.length = intR 1)
end Go.Ml
end
section
set_option linter.unusedSimpArgs false
set_option linter.unusedVariables false
set_option maxRecDepth 100000
set_option maxHeartbeats 8000000
namespace Go.Ml
def F_impl_sumOfSquares : Fn := ⟨2, 12, [.cell 4 3 true], (.seq (.reg false 3 [oN 2 (.box (.t 0)), oK 3 1 (.box (.t 1)), oK 4 2 (.alloc [.bool false, .nils, .nils])]) (.seq (.reg true 0 [oN 5 (.load 3 true (.t 2)), oN 6 (.load 3 true (.t 2)), oA 7 0 (.call 157 [(.t 5), (.t 6)]) [0, 1], oN 8 (.load 3 true (.t 3)), oN 9 (.load 3 true (.t 3)), oA 10 0 (.call 157 [(.t 8), (.t 9)]) [3, 4, 2], oA 11 0 (.call 131 [(.t 7), (.t 10)]) [2, 5, 5], ⟨none, none, 0, .store 3 (.t 4) (.t 11), [6, 6, 0, 1, 2, 3, 4, 5, 6]⟩]) .ret))⟩
structure D_impl_sumOfSquares (T : Nat → Option Fn) : Prop where
  hT : T 158 = some F_impl_sumOfSquares
  d_impl_ratAdd : D_impl_ratAdd T
  d_impl_ratMul : D_impl_ratMul T
def F_spec_l06Squares : Fn := ⟨2, 12, [.cell 4 3 true], (.seq (.reg false 3 [oN 2 (.box (.t 0)), oK 3 1 (.box (.t 1)), oK 4 2 (.alloc [.bool false, .nils, .nils])]) (.seq (.reg true 0 [oN 5 (.load 3 true (.t 2)), oN 6 (.load 3 true (.t 2)), oA 7 0 (.call 201 [(.t 5), (.t 6)]) [0, 1], oN 8 (.load 3 true (.t 3)), oN 9 (.load 3 true (.t 3)), oA 10 0 (.call 201 [(.t 8), (.t 9)]) [3, 4, 2], oA 11 0 (.call 189 [(.t 7), (.t 10)]) [2, 5, 5], ⟨none, none, 0, .store 3 (.t 4) (.t 11), [6, 6, 0, 1, 2, 3, 4, 5, 6]⟩]) .ret))⟩
structure D_spec_l06Squares (T : Nat → Option Fn) : Prop where
  hT : T 202 = some F_spec_l06Squares
  d_spec_RatAdd : D_spec_RatAdd T
  d_spec_RatMul : D_spec_RatMul T
end Go.Ml
end
section
set_option linter.unusedSimpArgs false
set_option linter.unusedVariables false
set_option maxRecDepth 100000
set_option maxHeartbeats 4000000
namespace Go.Ml
def F_impl_comesBefore : Fn := ⟨2, 24, [.tmp 4], (.seq (.reg false 2 [oN 2 (.box (.t 0)), oK 3 1 (.box (.t 1)), oK 4 2 (.mov (.c (.bool false)))]) (.seq (.reg false 0 [oN 5 (.fld 0 (.t 2)), oN 6 (.load 1 false (.t 5)), oN 7 (.fld 0 (.t 3)), oN 8 (.load 1 false (.t 7)), oN 9 (.bin .lss (.t 6) (.t 8)), oN 10 (oV 9), oG 10 false 11 (.fld 0 (.t 2)), oG 10 false 12 (.load 1 false (.t 11)), oG 10 false 13 (.fld 0 (.t 3)), oG 10 false 14 (.load 1 false (.t 13)), oG 10 false 15 (.bin .eql (.t 12) (.t 14)), oG 10 false 16 (oV 15), oG 16 true 17 (.fld 1 (.t 2)), oG 16 true 18 (.load 1 false (.t 17)), oG 16 true 19 (.fld 1 (.t 3)), oG 16 true 20 (.load 1 false (.t 19)), oG 16 true 21 (.bin .lss (.t 18) (.t 20)), oG 10 false 22 (.pick (.t 16) (.t 21) (.c (.bool false))), oN 23 (.pick (.t 10) (.c (.bool true)) (.t 22)), oN 4 (oV 23)]) .ret))⟩
structure D_impl_comesBefore (T : Nat → Option Fn) : Prop where
  hT : T 111 = some F_impl_comesBefore
def F_impl_IsLinkSet : Fn := ⟨1, 30, [.tmp 2], (.seq (.reg false 0 [oN 2 (.mov (.c (.bool false)))]) (.seq (.seq (.reg false 0 [oN 5 (oV 0), oN 6 (.len (.t 5)), oN 7 (.mov (cI 0))]) (.block 0 (.loop (.seq (.reg false 0 [oN 8 (.bin .lss (.t 7) (.t 6))]) (.seq (.cond (.t 8) .skip (.exit 0)) (.seq (.block 1 (.seq (.reg false 1 [oK 9 1 (oV 7), oK 10 1 (.idx 11 (.t 5) (.t 7)), oK 11 1 (.load 11 true (.t 10)), oN 4 (.alloc [.int .i64 0, .int .i64 0, .bool false, .nils, .nils, .bool false, .nils, .nils, .bool false, .nils, .nils]), oK 3 1 (oV 9), ⟨none, none, 1, .store 11 (.t 4) (.t 11), []⟩]) (.seq (.reg true 0 [oN 12 (.load 11 true (.t 4)), oA 13 0 (.call 84 [(.t 12)]) [0], oA 14 0 (.un .not (.t 13)) [1], oA 15 0 (oV 14) [2, 1], oH 15 false 16 0 (oV 3) [3], oH 15 false 17 0 (.bin .gtr (.t 16) (cI 0)) [4, 3], oH 15 false 18 0 (oV 17) [5, 3, 3], oH 18 true 19 0 (oV 0) [6], oH 18 true 20 0 (oV 3) [6], oH 18 true 21 0 (.bin .sub (.t 20) (cI 1)) [8, 6], oH 18 true 22 0 (.idx 11 (.t 19) (.t 21)) [7, 9, 6], oH 18 true 23 0 (.load 11 true (.t 22)) [10, 6], oH 18 true 24 0 (.load 11 true (.t 4)) [6], oH 18 true 25 0 (.call 111 [(.t 23), (.t 24)]) [11, 12, 6, 6], oH 18 true 26 0 (.un .not (.t 25)) [13, 6], oH 15 false 27 0 (.pick (.t 18) (.t 26) (.c (.bool false))) [6, 14, 3], oA 28 0 (.pick (.t 15) (.c (.bool true)) (.t 27)) [3, 15]]) (.cond (.t 28) (.seq (.reg false 0 [oN 2 (.mov (.c (.bool false)))]) .ret) .skip)))) (.reg false 0 [oN 29 (.bin .add (.t 7) (cI 1)), oN 7 (oV 29)]))))))) (.seq (.reg false 0 [oN 2 (.mov (.c (.bool true)))]) .ret)))⟩
structure D_impl_IsLinkSet (T : Nat → Option Fn) : Prop where
  hT : T 89 = some F_impl_IsLinkSet
  d_impl_IsValidLink : D_impl_IsValidLink T
  d_impl_comesBefore : D_impl_comesBefore T
def F_spec_l06Less : Fn := ⟨2, 24, [.tmp 4], (.seq (.reg false 2 [oN 2 (.box (.t 0)), oK 3 1 (.box (.t 1)), oK 4 2 (.mov (.c (.bool false)))]) (.seq (.reg false 0 [oN 5 (.fld 0 (.t 2)), oN 6 (.load 1 false (.t 5)), oN 7 (.fld 0 (.t 3)), oN 8 (.load 1 false (.t 7)), oN 9 (.bin .lss (.t 6) (.t 8)), oN 10 (oV 9), oG 10 false 11 (.fld 0 (.t 2)), oG 10 false 12 (.load 1 false (.t 11)), oG 10 false 13 (.fld 0 (.t 3)), oG 10 false 14 (.load 1 false (.t 13)), oG 10 false 15 (.bin .eql (.t 12) (.t 14)), oG 10 false 16 (oV 15), oG 16 true 17 (.fld 1 (.t 2)), oG 16 true 18 (.load 1 false (.t 17)), oG 16 true 19 (.fld 1 (.t 3)), oG 16 true 20 (.load 1 false (.t 19)), oG 16 true 21 (.bin .lss (.t 18) (.t 20)), oG 10 false 22 (.pick (.t 16) (.t 21) (.c (.bool false))), oN 23 (.pick (.t 10) (.c (.bool true)) (.t 22)), oN 4 (oV 23)]) .ret))⟩
structure D_spec_l06Less (T : Nat → Option Fn) : Prop where
  hT : T 195 = some F_spec_l06Less
def F_spec_IsLinkSet : Fn := ⟨1, 30, [.tmp 2], (.seq (.reg false 0 [oN 2 (.mov (.c (.bool false)))]) (.seq (.seq (.reg false 0 [oN 5 (oV 0), oN 6 (.len (.t 5)), oN 7 (.mov (cI 0))]) (.block 0 (.loop (.seq (.reg false 0 [oN 8 (.bin .lss (.t 7) (.t 6))]) (.seq (.cond (.t 8) .skip (.exit 0)) (.seq (.block 1 (.seq (.reg false 1 [oK 9 1 (oV 7), oK 10 1 (.idx 11 (.t 5) (.t 7)), oK 11 1 (.load 11 true (.t 10)), oN 4 (.alloc [.int .i64 0, .int .i64 0, .bool false, .nils, .nils, .bool false, .nils, .nils, .bool false, .nils, .nils]), oK 3 1 (oV 9), ⟨none, none, 1, .store 11 (.t 4) (.t 11), []⟩]) (.seq (.reg true 0 [oN 12 (.load 11 true (.t 4)), oA 13 0 (.call 83 [(.t 12)]) [0], oA 14 0 (.un .not (.t 13)) [1], oA 15 0 (oV 14) [2, 1], oH 15 false 16 0 (oV 3) [3], oH 15 false 17 0 (.bin .gtr (.t 16) (cI 0)) [4, 3], oH 15 false 18 0 (oV 17) [5, 3, 3], oH 18 true 19 0 (oV 0) [6], oH 18 true 20 0 (oV 3) [6], oH 18 true 21 0 (.bin .sub (.t 20) (cI 1)) [8, 6], oH 18 true 22 0 (.idx 11 (.t 19) (.t 21)) [7, 9, 6], oH 18 true 23 0 (.load 11 true (.t 22)) [10, 6], oH 18 true 24 0 (.load 11 true (.t 4)) [6], oH 18 true 25 0 (.call 195 [(.t 23), (.t 24)]) [11, 12, 6, 6], oH 18 true 26 0 (.un .not (.t 25)) [13, 6], oH 15 false 27 0 (.pick (.t 18) (.t 26) (.c (.bool false))) [6, 14, 3], oA 28 0 (.pick (.t 15) (.c (.bool true)) (.t 27)) [3, 15]]) (.cond (.t 28) (.seq (.reg false 0 [oN 2 (.mov (.c (.bool false)))]) .ret) .skip)))) (.reg false 0 [oN 29 (.bin .add (.t 7) (cI 1)), oN 7 (oV 29)]))))))) (.seq (.reg false 0 [oN 2 (.mov (.c (.bool true)))]) .ret)))⟩
structure D_spec_IsLinkSet (T : Nat → Option Fn) : Prop where
  hT : T 193 = some F_spec_IsLinkSet
  d_spec_IsValidLink : D_spec_IsValidLink T
  d_spec_l06Less : D_spec_l06Less T
def F_impl_IsMatrix : Fn := ⟨2, 33, [.tmp 4], (.seq (.reg false 0 [oN 4 (.mov (.c (.bool false)))]) (.seq (.seq (.reg false 0 [oN 9 (oV 0), oN 10 (.len (.t 9)), oN 11 (.bin .gtr (.t 10) (cI 10))]) (.cond (.t 11) (.seq (.reg false 0 [oN 4 (.mov (.c (.bool false)))]) .ret) .skip)) (.seq (.seq (.reg false 0 [oN 12 (oV 0), oN 13 (.len (.t 12)), oN 14 (.mov (cI 0))]) (.block 0 (.loop (.seq (.reg false 0 [oN 15 (.bin .lss (.t 14) (.t 13))]) (.seq (.cond (.t 15) .skip (.exit 0)) (.seq (.block 1 (.seq (.reg false 0 [oN 16 (.idx 1 (.t 12) (.t 14)), oN 17 (.load 1 false (.t 16)), oN 6 (oV 17)]) (.seq (.seq (.reg false 0 [oN 18 (oV 6), oN 19 (.len (.t 18)), oN 20 (oV 1), oN 21 (.bin .neq (.t 19) (.t 20))]) (.cond (.t 21) (.seq (.reg false 0 [oN 4 (.mov (.c (.bool false)))]) .ret) .skip)) (.seq (.reg false 0 [oN 22 (oV 6), oN 23 (.len (.t 22)), oN 24 (.mov (cI 0))]) (.block 2 (.loop (.seq (.reg false 0 [oN 25 (.bin .lss (.t 24) (.t 23))]) (.seq (.cond (.t 25) .skip (.exit 2)) (.seq (.block 3 (.seq (.reg false 1 [oK 26 1 (.idx 3 (.t 22) (.t 24)), oK 27 1 (.load 3 true (.t 26)), oN 8 (.alloc [.bool false, .nils, .nils]), ⟨none, none, 1, .store 3 (.t 8) (.t 27), []⟩]) (.seq (.reg false 0 [oN 28 (.load 3 true (.t 8)), oN 29 (.call 102 [(.t 28)]), oN 30 (.un .not (.t 29))]) (.cond (.t 30) (.seq (.reg false 0 [oN 4 (.mov (.c (.bool false)))]) .ret) .skip)))) (.reg false 0 [oN 31 (.bin .add (.t 24) (cI 1)), oN 24 (oV 31)])))))))))) (.reg false 0 [oN 32 (.bin .add (.t 14) (cI 1)), oN 14 (oV 32)]))))))) (.seq (.reg false 0 [oN 4 (.mov (.c (.bool true)))]) .ret))))⟩
structure D_impl_IsMatrix (T : Nat → Option Fn) : Prop where
  hT : T 93 = some F_impl_IsMatrix
  d_impl_RatOk : D_impl_RatOk T
def F_spec_IsMatrix : Fn := ⟨2, 33, [.tmp 4], (.seq (.reg false 0 [oN 4 (.mov (.c (.bool false)))]) (.seq (.seq (.reg false 0 [oN 9 (oV 0), oN 10 (.len (.t 9)), oN 11 (.mov (cI 0))]) (.block 0 (.loop (.seq (.reg false 0 [oN 12 (.bin .lss (.t 11) (.t 10))]) (.seq (.cond (.t 12) .skip (.exit 0)) (.seq (.block 1 (.seq (.reg false 0 [oN 13 (.idx 1 (.t 9) (.t 11)), oN 14 (.load 1 false (.t 13)), oN 6 (oV 14)]) (.seq (.seq (.reg false 0 [oN 15 (oV 6), oN 16 (.len (.t 15)), oN 17 (oV 1), oN 18 (.bin .neq (.t 16) (.t 17))]) (.cond (.t 18) (.seq (.reg false 0 [oN 4 (.mov (.c (.bool false)))]) .ret) .skip)) (.seq (.reg false 0 [oN 19 (oV 6), oN 20 (.len (.t 19)), oN 21 (.mov (cI 0))]) (.block 2 (.loop (.seq (.reg false 0 [oN 22 (.bin .lss (.t 21) (.t 20))]) (.seq (.cond (.t 22) .skip (.exit 2)) (.seq (.block 3 (.seq (.reg false 1 [oK 23 1 (.idx 3 (.t 19) (.t 21)), oK 24 1 (.load 3 true (.t 23)), oN 8 (.alloc [.bool false, .nils, .nils]), ⟨none, none, 1, .store 3 (.t 8) (.t 24), []⟩]) (.seq (.reg false 0 [oN 25 (.load 3 true (.t 8)), oN 26 (.call 100 [(.t 25)]), oN 27 (.un .not (.t 26))]) (.cond (.t 27) (.seq (.reg false 0 [oN 4 (.mov (.c (.bool false)))]) .ret) .skip)))) (.reg false 0 [oN 28 (.bin .add (.t 21) (cI 1)), oN 21 (oV 28)])))))))))) (.reg false 0 [oN 29 (.bin .add (.t 11) (cI 1)), oN 11 (oV 29)]))))))) (.seq (.reg false 0 [oN 30 (oV 0), oN 31 (.len (.t 30)), oN 32 (.bin .leq (.t 31) (cI 10)), oN 4 (oV 32)]) .ret)))⟩
structure D_spec_IsMatrix (T : Nat → Option Fn) : Prop where
  hT : T 91 = some F_spec_IsMatrix
  d_spec_RatOk : D_spec_RatOk T
def lkLess (k l : Lk) : Bool := decide (k.a < l.a) || (decide (k.a = l.a) && decide (k.b < l.b))
def allB (n : Nat) (p : Nat → Bool) : Bool := decide (∀ i, i < n → p i = true)
theorem allB_t {n : Nat} {p : Nat → Bool} (h : ∀ i, i < n → p i = true) : allB n p = true := decide_eq_true h
theorem allB_f {n : Nat} {p : Nat → Bool} {i : Nat} (hi : i < n) (h : p i = false) : allB n p = false := decide_eq_false fun k => by rw [k i hi] at h; cases h
theorem allB_iff {n : Nat} {p : Nat → Bool} : allB n p = true ↔ ∀ i, i < n → p i = true := by simp [allB]
def lksAt (l : List Lk) (i : Nat) : Bool := lkOk (l.getD i default) && (decide (i = 0) || lkLess (l.getD (i - 1) default) (l.getD i default))
def lksOk (l : List Lk) : Bool := allB l.length (lksAt l)
def matAt (m : List (List R)) (cols : Int) (i : Nat) : Bool := decide (((m.getD i default).length : Int) = cols) && allB (m.getD i default).length (fun j => ((m.getD i default).getD j default).ok)
def matOk (m : List (List R)) (cols : Int) : Bool := allB m.length (matAt m cols) && decide (m.length ≤ 10)
theorem matOk_f {m : List (List R)} {cols : Int} {i : Nat} (hi : i < m.length) (h : matAt m cols i = false) : matOk m cols = false := by
  unfold matOk; rw [allB_f hi h, Bool.false_and]
theorem matOk_t {m : List (List R)} {cols : Int} (h : ∀ j, j < m.length → matAt m cols j = true) : matOk m cols = decide (m.length ≤ 10) := by
  unfold matOk; rw [allB_t h, Bool.true_and]
theorem c_sIsMatrix {T : Nat → Option Fn} (h : D_spec_IsMatrix T) {m : List (List R)} {cols : Int} (hw : wfL (wfL R.wf) m := by first | omega | assumption | (simp; omega)) (hcw : cols ≤ 9223372036854775807 := by first | omega | assumption | (simp; omega)) : PF T 91 [ratssV m, iv cols] (.bool (matOk m cols)) := by
  have hlen := hw.1
  refine pf_end (fun _ _ => false) h.hT rfl rfl ?_
  dsimp only [F_spec_IsMatrix, oN, oS, oG, oK, oA, oH, oV, cI]
  (refine ev ?_; try with_reducible exact True.intro)
  refine loop_at (fun _ _ => false) (α := Nat) (fun i => ⟨argE [ratssV m, iv cols, .any, .any, .bool false, .any, .any, .any, .any, ratssV m, iv (m.length : Nat), iv (i : Nat)], [], 0, 0, [], []⟩) (fun i => i ≤ m.length ∧ ∀ j, j < i → matAt m cols j = true) (fun i => m.length - i) rfl 0 ?_ ?_ ?_
  · exact ⟨by omega, by intro j hj; omega⟩
  · first | ((refine Fg_env ?_) <;> (try (refine ev ?_; try with_reducible exact True.intro)) <;> (repeat' (first | refine ⟨?_, ?_⟩ | exact EvV_int (by omega) | exact EvV_of (by simp) | exact EvV_nil _)); done) | ((refine Fg_re [] (by simp) (by intro p hp; cases hp) rfl ?_) <;> (try (refine ev ?_; try with_reducible exact True.intro)) <;> (repeat' (first | exact True.intro | omega | exact CanE_ptr rfl (by simp) | refine ⟨?_, ?_⟩ | exact of_eq_true (CanE_nil _ _ _) | exact CanE_of rfl (by simp; done) | exact CanE_of rfl rfl | (refine CanE_msl rfl ?_ rfl; simp [irows]; done) | (refine CanE_msl rfl ?_ rfl; simp [irows]; omega) | (refine CanE_frz ?_ ?_; (focus ((refine ev ?_; try with_reducible exact True.intro); done)); (intro q hq k s0 l0; simp; done)))); done)
  · rintro i ⟨hi, hj⟩
    (refine ev ?_; try with_reducible exact True.intro)
    refine brK_dec (fun hc => ?_) fun hc => ?_ <;> (refine ev2 @hc @mg ?_; try with_reducible exact True.intro)
    · have hil : i < m.length := by omega
      have hwr := hw.at_ hil
      have hrl := hwr.1
      obtain ⟨row, hrow⟩ : ∃ row, m.getD i default = row := ⟨_, rfl⟩
      rw [hrow] at hwr hrl ⊢
      (refine ev ?_; try with_reducible exact True.intro)
      refine brK_dec (fun hn => ?_) fun hn => ?_ <;> (refine ev1 @hn ?_; try with_reducible exact True.intro)
      · refine loop_at (fun _ _ => false) (α := Nat) (fun k => ⟨argE [ratssV m, iv cols, .any, .any, .bool false, .any, .any, .any, .any, ratssV m, iv (m.length : Nat), iv (i : Nat), .any, .any, .any, .any, .any, .any, .any, ratsV row, iv (row.length : Nat), iv (k : Nat)], [], 0, 0, [], []⟩) (fun k => k ≤ row.length ∧ ∀ j, j < k → (row.getD j default).ok = true) (fun k => row.length - k) rfl 0 ?_ ?_ ?_
        · exact ⟨by omega, by intro j hj; omega⟩
        · first | ((refine Fg_env ?_) <;> (try (refine ev ?_; try with_reducible exact True.intro)) <;> (repeat' (first | refine ⟨?_, ?_⟩ | exact EvV_int (by omega) | exact EvV_of (by simp) | exact EvV_nil _)); done) | ((refine Fg_re [] (by simp) (by intro p hp; cases hp) rfl ?_) <;> (try (refine ev ?_; try with_reducible exact True.intro)) <;> (repeat' (first | exact True.intro | omega | exact CanE_ptr rfl (by simp) | refine ⟨?_, ?_⟩ | exact of_eq_true (CanE_nil _ _ _) | exact CanE_of rfl (by simp; done) | exact CanE_of rfl rfl | (refine CanE_msl rfl ?_ rfl; simp [irows]; done) | (refine CanE_msl rfl ?_ rfl; simp [irows]; omega) | (refine CanE_frz ?_ ?_; (focus ((refine ev ?_; try with_reducible exact True.intro); done)); (intro q hq k s0 l0; simp; done)))); done)
        · rintro k ⟨hk, hkj⟩
          (refine ev ?_; try with_reducible exact True.intro)
          refine brK_dec (fun hd => ?_) fun hd => ?_ <;> (refine ev2 @hd @mg ?_; try with_reducible exact True.intro)
          · have hkl : k < row.length := by omega
            have co := c_sRatOk h.d_spec_RatOk (r := row.getD k default) (hwr.at_ hkl)
            cases hv : (row.getD k default).ok
            · rw [hv] at co
              refine PFK_of co ?_
              (refine ev ?_; try with_reducible exact True.intro)
              have : matOk m cols = false := matOk_f hil (by unfold matAt; rw [hrow, allB_f hkl hv, Bool.and_false])
              rw [this]
            · rw [hv] at co
              refine PFK_of co ?_
              (refine ev ?_; try with_reducible exact True.intro)
              refine ⟨k + 1, by omega, ⟨by omega, fun j hj' => ?_⟩, by first | ((refine Fg_env ?_) <;> (try (refine ev ?_; try with_reducible exact True.intro)) <;> (repeat' (first | refine ⟨?_, ?_⟩ | exact EvV_int (by omega) | exact EvV_of (by simp) | exact EvV_nil _)); done) | ((refine Fg_re [] (by simp) (by intro p hp; cases hp) rfl ?_) <;> (try (refine ev ?_; try with_reducible exact True.intro)) <;> (repeat' (first | exact True.intro | omega | exact CanE_ptr rfl (by simp) | refine ⟨?_, ?_⟩ | exact of_eq_true (CanE_nil _ _ _) | exact CanE_of rfl (by simp; done) | exact CanE_of rfl rfl | (refine CanE_msl rfl ?_ rfl; simp [irows]; done) | (refine CanE_msl rfl ?_ rfl; simp [irows]; omega) | (refine CanE_frz ?_ ?_; (focus ((refine ev ?_; try with_reducible exact True.intro); done)); (intro q hq k s0 l0; simp; done)))); done)⟩
              by_cases e : j = k
              · subst e; exact hv
              · exact hkj j (by omega)
          · refine ⟨i + 1, by omega, ⟨by omega, fun j hj' => ?_⟩, by first | ((refine Fg_env ?_) <;> (try (refine ev ?_; try with_reducible exact True.intro)) <;> (repeat' (first | refine ⟨?_, ?_⟩ | exact EvV_int (by omega) | exact EvV_of (by simp) | exact EvV_nil _)); done) | ((refine Fg_re [] (by simp) (by intro p hp; cases hp) rfl ?_) <;> (try (refine ev ?_; try with_reducible exact True.intro)) <;> (repeat' (first | exact True.intro | omega | exact CanE_ptr rfl (by simp) | refine ⟨?_, ?_⟩ | exact of_eq_true (CanE_nil _ _ _) | exact CanE_of rfl (by simp; done) | exact CanE_of rfl rfl | (refine CanE_msl rfl ?_ rfl; simp [irows]; done) | (refine CanE_msl rfl ?_ rfl; simp [irows]; omega) | (refine CanE_frz ?_ ?_; (focus ((refine ev ?_; try with_reducible exact True.intro); done)); (intro q hq k s0 l0; simp; done)))); done)⟩
            by_cases e : j = i
            · subst e; unfold matAt; rw [hrow, decide_eq_true (by omega), allB_t fun j hj => hkj j (by omega)]; rfl
            · exact hj j (by omega)
      · have : matOk m cols = false := matOk_f hil (by unfold matAt; rw [hrow, decide_eq_false (by omega), Bool.false_and])
        rw [this]
    · rw [matOk_t fun j hj' => hj j (by omega)]
      by_cases e : m.length ≤ 10
      · simp [e]; omega
      · simp [e]; omega
theorem c_iIsMatrix {T : Nat → Option Fn} (h : D_impl_IsMatrix T) {m : List (List R)} {cols : Int} (hw : wfL (wfL R.wf) m := by first | omega | assumption | (simp; omega)) (hcw : cols ≤ 9223372036854775807 := by first | omega | assumption | (simp; omega)) : PF T 93 [ratssV m, iv cols] (.bool (matOk m cols)) := by
  have hlen := hw.1
  refine pf_end (fun _ _ => false) h.hT rfl rfl ?_
  dsimp only [F_impl_IsMatrix, oN, oS, oG, oK, oA, oH, oV, cI]
  (refine ev ?_; try with_reducible exact True.intro)
  refine brK_dec (fun h10 => ?_) fun h10 => ?_ <;> (refine ev1 @h10 ?_; try with_reducible exact True.intro)
  · have : matOk m cols = false := by unfold matOk; rw [decide_eq_false (by omega), Bool.and_false]
    rw [this]
  refine loop_at (fun _ _ => false) (α := Nat) (fun i => ⟨argE [ratssV m, iv cols, .any, .any, .bool false, .any, .any, .any, .any, .any, .any, .any, ratssV m, iv (m.length : Nat), iv (i : Nat)], [], 0, 0, [], []⟩) (fun i => i ≤ m.length ∧ ∀ j, j < i → matAt m cols j = true) (fun i => m.length - i) rfl 0 ?_ ?_ ?_
  · exact ⟨by omega, by intro j hj; omega⟩
  · first | ((refine Fg_env ?_) <;> (try (refine ev ?_; try with_reducible exact True.intro)) <;> (repeat' (first | refine ⟨?_, ?_⟩ | exact EvV_int (by omega) | exact EvV_of (by simp) | exact EvV_nil _)); done) | ((refine Fg_re [] (by simp) (by intro p hp; cases hp) rfl ?_) <;> (try (refine ev ?_; try with_reducible exact True.intro)) <;> (repeat' (first | exact True.intro | omega | exact CanE_ptr rfl (by simp) | refine ⟨?_, ?_⟩ | exact of_eq_true (CanE_nil _ _ _) | exact CanE_of rfl (by simp; done) | exact CanE_of rfl rfl | (refine CanE_msl rfl ?_ rfl; simp [irows]; done) | (refine CanE_msl rfl ?_ rfl; simp [irows]; omega) | (refine CanE_frz ?_ ?_; (focus ((refine ev ?_; try with_reducible exact True.intro); done)); (intro q hq k s0 l0; simp; done)))); done)
  · rintro i ⟨hi, hj⟩
    (refine ev ?_; try with_reducible exact True.intro)
    refine brK_dec (fun hc => ?_) fun hc => ?_ <;> (refine ev2 @hc @mg ?_; try with_reducible exact True.intro)
    · have hil : i < m.length := by omega
      have hwr := hw.at_ hil
      have hrl := hwr.1
      obtain ⟨row, hrow⟩ : ∃ row, m.getD i default = row := ⟨_, rfl⟩
      rw [hrow] at hwr hrl ⊢
      (refine ev ?_; try with_reducible exact True.intro)
      refine brK_dec (fun hn => ?_) fun hn => ?_ <;> (refine ev1 @hn ?_; try with_reducible exact True.intro)
      · refine loop_at (fun _ _ => false) (α := Nat) (fun k => ⟨argE [ratssV m, iv cols, .any, .any, .bool false, .any, .any, .any, .any, .any, .any, .any, ratssV m, iv (m.length : Nat), iv (i : Nat), .any, .any, .any, .any, .any, .any, .any, ratsV row, iv (row.length : Nat), iv (k : Nat)], [], 0, 0, [], []⟩) (fun k => k ≤ row.length ∧ ∀ j, j < k → (row.getD j default).ok = true) (fun k => row.length - k) rfl 0 ?_ ?_ ?_
        · exact ⟨by omega, by intro j hj; omega⟩
        · first | ((refine Fg_env ?_) <;> (try (refine ev ?_; try with_reducible exact True.intro)) <;> (repeat' (first | refine ⟨?_, ?_⟩ | exact EvV_int (by omega) | exact EvV_of (by simp) | exact EvV_nil _)); done) | ((refine Fg_re [] (by simp) (by intro p hp; cases hp) rfl ?_) <;> (try (refine ev ?_; try with_reducible exact True.intro)) <;> (repeat' (first | exact True.intro | omega | exact CanE_ptr rfl (by simp) | refine ⟨?_, ?_⟩ | exact of_eq_true (CanE_nil _ _ _) | exact CanE_of rfl (by simp; done) | exact CanE_of rfl rfl | (refine CanE_msl rfl ?_ rfl; simp [irows]; done) | (refine CanE_msl rfl ?_ rfl; simp [irows]; omega) | (refine CanE_frz ?_ ?_; (focus ((refine ev ?_; try with_reducible exact True.intro); done)); (intro q hq k s0 l0; simp; done)))); done)
        · rintro k ⟨hk, hkj⟩
          (refine ev ?_; try with_reducible exact True.intro)
          refine brK_dec (fun hd => ?_) fun hd => ?_ <;> (refine ev2 @hd @mg ?_; try with_reducible exact True.intro)
          · have hkl : k < row.length := by omega
            have co := c_RatOk h.d_impl_RatOk (r := row.getD k default) (hwr.at_ hkl)
            cases hv : (row.getD k default).ok
            · rw [hv] at co
              refine PFK_of co ?_
              (refine ev ?_; try with_reducible exact True.intro)
              have : matOk m cols = false := matOk_f hil (by unfold matAt; rw [hrow, allB_f hkl hv, Bool.and_false])
              rw [this]
            · rw [hv] at co
              refine PFK_of co ?_
              (refine ev ?_; try with_reducible exact True.intro)
              refine ⟨k + 1, by omega, ⟨by omega, fun j hj' => ?_⟩, by first | ((refine Fg_env ?_) <;> (try (refine ev ?_; try with_reducible exact True.intro)) <;> (repeat' (first | refine ⟨?_, ?_⟩ | exact EvV_int (by omega) | exact EvV_of (by simp) | exact EvV_nil _)); done) | ((refine Fg_re [] (by simp) (by intro p hp; cases hp) rfl ?_) <;> (try (refine ev ?_; try with_reducible exact True.intro)) <;> (repeat' (first | exact True.intro | omega | exact CanE_ptr rfl (by simp) | refine ⟨?_, ?_⟩ | exact of_eq_true (CanE_nil _ _ _) | exact CanE_of rfl (by simp; done) | exact CanE_of rfl rfl | (refine CanE_msl rfl ?_ rfl; simp [irows]; done) | (refine CanE_msl rfl ?_ rfl; simp [irows]; omega) | (refine CanE_frz ?_ ?_; (focus ((refine ev ?_; try with_reducible exact True.intro); done)); (intro q hq k s0 l0; simp; done)))); done)⟩
              by_cases e : j = k
              · subst e; exact hv
              · exact hkj j (by omega)
          · refine ⟨i + 1, by omega, ⟨by omega, fun j hj' => ?_⟩, by first | ((refine Fg_env ?_) <;> (try (refine ev ?_; try with_reducible exact True.intro)) <;> (repeat' (first | refine ⟨?_, ?_⟩ | exact EvV_int (by omega) | exact EvV_of (by simp) | exact EvV_nil _)); done) | ((refine Fg_re [] (by simp) (by intro p hp; cases hp) rfl ?_) <;> (try (refine ev ?_; try with_reducible exact True.intro)) <;> (repeat' (first | exact True.intro | omega | exact CanE_ptr rfl (by simp) | refine ⟨?_, ?_⟩ | exact of_eq_true (CanE_nil _ _ _) | exact CanE_of rfl (by simp; done) | exact CanE_of rfl rfl | (refine CanE_msl rfl ?_ rfl; simp [irows]; done) | (refine CanE_msl rfl ?_ rfl; simp [irows]; omega) | (refine CanE_frz ?_ ?_; (focus ((refine ev ?_; try with_reducible exact True.intro); done)); (intro q hq k s0 l0; simp; done)))); done)⟩
            by_cases e : j = i
            · subst e; unfold matAt; rw [hrow, decide_eq_true (by omega), allB_t fun j hj => hkj j (by omega)]; rfl
            · exact hj j (by omega)
      · have : matOk m cols = false := matOk_f hil (by unfold matAt; rw [hrow, decide_eq_false (by omega), Bool.false_and])
        rw [this]
    · rw [matOk_t fun j hj' => hj j (by omega), decide_eq_true (by omega)]
end Go.Ml
end
section
set_option linter.unusedSimpArgs false
set_option linter.unusedVariables false
set_option maxRecDepth 100000
set_option maxHeartbeats 4000000
namespace Go.Ml
def F_spec_l07Put : Fn := ⟨2, 48, [.tmp 4], (.seq (.reg false 0 [oN 4 (.mov (.c (.nils)))]) (.seq (.reg false 0 [oN 5 (.mov (cI 0))]) (.seq (.block 0 (.loop (.seq (.seq (.reg false 0 [oN 7 (oV 5), oN 8 (oV 0), oN 9 (.len (.t 8)), oN 10 (.bin .lss (.t 7) (.t 9)), oN 11 (oV 10), oG 11 true 12 (oV 0), oG 11 true 13 (oV 5), oG 11 true 14 (.idx 1 (.t 12) (.t 13)), oG 11 true 15 (.load 1 false (.t 14)), oG 11 true 16 (oV 1), oG 11 true 17 (.bin .lss (.t 15) (.t 16)), oN 18 (.pick (.t 11) (.t 17) (.c (.bool false)))]) (.cond (.t 18) .skip (.exit 0))) (.block 1 (.reg false 0 [oN 19 (oV 5), oN 20 (.bin .add (.t 19) (cI 1)), oN 5 (oV 20)]))))) (.seq (.seq (.reg false 0 [oN 21 (oV 5), oN 22 (oV 0), oN 23 (.len (.t 22)), oN 24 (.bin .lss (.t 21) (.t 23)), oN 25 (oV 24), oG 25 true 26 (oV 0), oG 25 true 27 (oV 5), oG 25 true 28 (.idx 1 (.t 26) (.t 27)), oG 25 true 29 (.load 1 false (.t 28)), oG 25 true 30 (oV 1), oG 25 true 31 (.bin .eql (.t 29) (.t 30)), oN 32 (.pick (.t 25) (.t 31) (.c (.bool false)))]) (.cond (.t 32) (.seq (.reg false 0 [oN 33 (oV 0), oN 4 (oV 33)]) .ret) .skip)) (.seq (.reg false 2 [oN 34 (.mkSl 1 [.int .i64 0] 0 []), oK 35 2 (oV 0), oK 36 2 (oV 5), oK 37 2 (.slice 1 (.t 35) none (some (.t 36))), oK 38 1 (.app 1 8 (.t 34) (.t 37)), oK 6 2 (oV 38)]) (.seq (.reg false 2 [oK 39 2 (oV 6), oK 40 2 (oV 1), oN 41 (.mkSl 1 [.int .i64 0] 1 [(0, (.t 40))]), oK 42 1 (.app 1 8 (.t 39) (.t 41)), oK 6 2 (oV 42)]) (.seq (.reg false 1 [oK 43 1 (oV 6), oK 44 1 (oV 0), oK 45 1 (oV 5), oK 46 1 (.slice 1 (.t 44) (some (.t 45)) none), oN 47 (.app 1 8 (.t 43) (.t 46)), oK 4 1 (oV 47)]) .ret)))))))⟩
structure D_spec_l07Put (T : Nat → Option Fn) : Prop where
  hT : T 237 = some F_spec_l07Put
def F_spec_NodesOf : Fn := ⟨1, 29, [.tmp 2], (.seq (.reg false 0 [oN 2 (.mov (.c (.nils)))]) (.seq (.reg false 1 [oN 6 (.mkSl 1 [.int .i64 0] 0 []), oK 3 1 (oV 6)]) (.seq (.seq (.reg false 0 [oN 7 (oV 0), oN 8 (.call 193 [(.t 7)]), oN 9 (.un .not (.t 8))]) (.cond (.t 9) (.seq (.reg false 0 [oN 2 (.mov (.c (.nils)))]) .ret) .skip)) (.seq (.seq (.reg false 0 [oN 10 (oV 0), oN 11 (.len (.t 10)), oN 12 (.mov (cI 0))]) (.block 0 (.loop (.seq (.reg false 0 [oN 13 (.bin .lss (.t 12) (.t 11))]) (.seq (.cond (.t 13) .skip (.exit 0)) (.seq (.block 1 (.seq (.reg false 1 [oK 14 1 (.idx 11 (.t 10) (.t 12)), oK 15 1 (.load 11 true (.t 14)), oN 5 (.alloc [.int .i64 0, .int .i64 0, .bool false, .nils, .nils, .bool false, .nils, .nils, .bool false, .nils, .nils]), ⟨none, none, 1, .store 11 (.t 5) (.t 15), []⟩]) (.seq (.seq (.reg false 0 [oN 16 (.fld 0 (.t 5)), oN 17 (.load 1 false (.t 16)), oN 18 (.bin .gtr (.t 17) (cI 0))]) (.cond (.t 18) (.reg false 0 [oN 19 (oV 3), oN 20 (.fld 0 (.t 5)), oN 21 (.load 1 false (.t 20)), oN 22 (.call 237 [(.t 19), (.t 21)]), oN 3 (oV 22)]) .skip)) (.reg false 0 [oN 23 (oV 3), oN 24 (.fld 1 (.t 5)), oN 25 (.load 1 false (.t 24)), oN 26 (.call 237 [(.t 23), (.t 25)]), oN 3 (oV 26)])))) (.reg false 0 [oN 27 (.bin .add (.t 12) (cI 1)), oN 12 (oV 27)]))))))) (.seq (.reg false 0 [oN 28 (oV 3), oN 2 (oV 28)]) .ret)))))⟩
structure D_spec_NodesOf (T : Nat → Option Fn) : Prop where
  hT : T 222 = some F_spec_NodesOf
  d_spec_IsLinkSet : D_spec_IsLinkSet T
  d_spec_l07Put : D_spec_l07Put T
def F_impl_nodesOf : Fn := ⟨1, 34, [.tmp 2], (.seq (.reg false 0 [oN 2 (.mov (.c (.nils)))]) (.seq (.reg false 1 [oN 7 (.mkSl 1 [.int .i64 0] 0 []), oK 3 1 (oV 7)]) (.seq (.seq (.reg false 0 [oN 4 (.mov (cI 1))]) (.block 0 (.loop (.seq (.seq (.reg false 0 [oN 8 (oV 4), oN 9 (.bin .lss (.t 8) (cI 10))]) (.cond (.t 9) .skip (.exit 0))) (.seq (.block 1 (.seq (.reg false 0 [oN 12 (oV 0), oN 13 (.len (.t 12)), oN 14 (.mov (cI 0))]) (.block 2 (.loop (.seq (.reg false 0 [oN 15 (.bin .lss (.t 14) (.t 13))]) (.seq (.cond (.t 15) .skip (.exit 2)) (.seq (.block 3 (.seq (.reg false 1 [oK 16 1 (.idx 11 (.t 12) (.t 14)), oK 17 1 (.load 11 true (.t 16)), oN 6 (.alloc [.int .i64 0, .int .i64 0, .bool false, .nils, .nils, .bool false, .nils, .nils, .bool false, .nils, .nils]), ⟨none, none, 1, .store 11 (.t 6) (.t 17), []⟩]) (.seq (.reg false 0 [oN 18 (.fld 0 (.t 6)), oN 19 (.load 1 false (.t 18)), oN 20 (oV 4), oN 21 (.bin .eql (.t 19) (.t 20)), oN 22 (oV 21), oG 22 false 23 (.fld 1 (.t 6)), oG 22 false 24 (.load 1 false (.t 23)), oG 22 false 25 (oV 4), oG 22 false 26 (.bin .eql (.t 24) (.t 25)), oN 27 (.pick (.t 22) (.c (.bool true)) (.t 26))]) (.cond (.t 27) (.seq (.reg false 2 [oK 28 2 (oV 3), oK 29 2 (oV 4), oN 30 (.mkSl 1 [.int .i64 0] 1 [(0, (.t 29))]), oK 31 1 (.app 1 8 (.t 28) (.t 30)), oK 3 2 (oV 31)]) (.exit 2)) .skip)))) (.reg false 0 [oN 32 (.bin .add (.t 14) (cI 1)), oN 14 (oV 32)])))))))) (.reg false 0 [oN 10 (oV 4), oN 11 (.bin .add (.t 10) (cI 1)), oN 4 (oV 11)])))))) (.seq (.reg false 0 [oN 33 (oV 3), oN 2 (oV 33)]) .ret))))⟩
structure D_impl_nodesOf (T : Nat → Option Fn) : Prop where
  hT : T 180 = some F_impl_nodesOf
def ends (l : List Lk) (v : Int) : Bool := l.any fun x => decide (x.a = v) || decide (x.b = v)
def nodesI (l : List Lk) (v : Nat) : List Int := ((List.range v).filter fun (u : Nat) => decide (1 ≤ u) && ends l u).map fun u => ((u : Nat) : Int)
end Go.Ml
end
section
set_option linter.unusedSimpArgs false
set_option linter.unusedVariables false
set_option maxRecDepth 100000
set_option maxHeartbeats 4000000
namespace Go.Ml
def F_impl_IsValidConditional : Fn := ⟨1, 86, [.tmp 2], (.seq (.reg false 1 [oN 1 (.box (.t 0)), oK 2 1 (.mov (.c (.bool false)))]) (.seq (.seq (.reg false 0 [oN 6 (.fld 0 (.t 1)), oN 7 (.load 1 false (.t 6)), oN 8 (.bin .lss (.t 7) (cI 1)), oN 9 (oV 8), oG 9 false 10 (.fld 0 (.t 1)), oG 9 false 11 (.load 1 false (.t 10)), oG 9 false 12 (.bin .geq (.t 11) (cI 10)), oN 13 (.pick (.t 9) (.c (.bool true)) (.t 12)), oN 14 (oV 13), oG 14 false 15 (.fld 1 (.t 1)), oG 14 false 16 (.load 3 true (.t 15)), oG 14 false 17 (.call 101 [(.t 16)]), oG 14 false 18 (.bin .leq (.t 17) (cI 0)), oN 19 (.pick (.t 14) (.c (.bool true)) (.t 18)), oN 20 (oV 19), oG 20 false 21 (.fld 4 (.t 1)), oG 20 false 22 (.load 1 false (.t 21)), oG 20 false 23 (.len (.t 22)), oG 20 false 24 (.bin .eql (.t 23) (cI 0)), oN 25 (.pick (.t 20) (.c (.bool true)) (.t 24))]) (.cond (.t 25) (.seq (.reg false 0 [oN 2 (.mov (.c (.bool false)))]) .ret) .skip)) (.seq (.reg false 1 [oK 26 1 (.call 39 [(cI 0)]), oN 3 (.alloc [.bool false, .nils, .nils]), ⟨none, none, 1, .store 3 (.t 3) (.t 26), []⟩]) (.seq (.seq (.reg false 0 [oN 27 (.fld 4 (.t 1)), oN 28 (.load 1 false (.t 27)), oN 29 (.len (.t 28)), oN 30 (.mov (cI 0))]) (.block 0 (.loop (.seq (.reg false 0 [oN 31 (.bin .lss (.t 30) (.t 29))]) (.seq (.cond (.t 31) .skip (.exit 0)) (.seq (.block 1 (.seq (.reg false 1 [oK 32 1 (oV 30), oK 33 1 (.idx 10 (.t 28) (.t 30)), oK 34 1 (.load 10 true (.t 33)), oN 5 (.alloc [.int .i64 0, .bool false, .nils, .nils, .bool false, .nils, .nils, .bool false, .nils, .nils]), oK 4 1 (oV 32), ⟨none, none, 1, .store 10 (.t 5) (.t 34), []⟩]) (.seq (.seq (.reg true 0 [oN 35 (.fld 0 (.t 5)), oA 36 0 (.load 1 false (.t 35)) [0], oA 37 0 (.call 37 [(.t 36)]) [1], oA 38 0 (.un .not (.t 37)) [2], oA 39 0 (oV 38) [3, 2], oH 39 false 40 0 (.fld 0 (.t 5)) [4], oH 39 false 41 0 (.load 1 false (.t 40)) [5, 4], oH 39 false 42 0 (.fld 0 (.t 1)) [4], oH 39 false 43 0 (.load 1 false (.t 42)) [7, 4], oH 39 false 44 0 (.bin .eql (.t 41) (.t 43)) [6, 8, 4], oA 45 0 (.pick (.t 39) (.c (.bool true)) (.t 44)) [4, 9], oA 46 0 (oV 45) [10, 4], oH 46 false 47 0 (oV 4) [11], oH 46 false 48 0 (.bin .gtr (.t 47) (cI 0)) [12, 11], oH 46 false 49 0 (oV 48) [13, 11, 11], oH 49 true 50 0 (.fld 4 (.t 1)) [14], oH 49 true 51 0 (.load 1 false (.t 50)) [15, 14], oH 49 true 52 0 (oV 4) [14], oH 49 true 53 0 (.bin .sub (.t 52) (cI 1)) [17, 14], oH 49 true 54 0 (.idx 10 (.t 51) (.t 53)) [16, 18, 14], oH 49 true 55 0 (.fld 0 (.t 54)) [19, 14], oH 49 true 56 0 (.load 1 false (.t 55)) [20, 14], oH 49 true 57 0 (.fld 0 (.t 5)) [14], oH 49 true 58 0 (.load 1 false (.t 57)) [22, 14], oH 49 true 59 0 (.bin .geq (.t 56) (.t 58)) [21, 23, 14], oH 46 false 60 0 (.pick (.t 49) (.t 59) (.c (.bool false))) [14, 24, 11], oA 61 0 (.pick (.t 46) (.c (.bool true)) (.t 60)) [11, 25]]) (.cond (.t 61) (.seq (.reg false 0 [oN 2 (.mov (.c (.bool false)))]) .ret) .skip)) (.seq (.seq (.reg false 0 [oN 62 (.fld 1 (.t 5)), oN 63 (.load 3 true (.t 62)), oN 64 (.call 101 [(.t 63)]), oN 65 (.bin .leq (.t 64) (cI 0)), oN 66 (oV 65), oG 66 false 67 (.fld 4 (.t 5)), oG 66 false 68 (.load 3 true (.t 67)), oG 66 false 69 (.call 102 [(.t 68)]), oG 66 false 70 (.un .not (.t 69)), oN 71 (.pick (.t 66) (.c (.bool true)) (.t 70)), oN 72 (oV 71), oG 72 false 73 (.fld 7 (.t 5)), oG 72 false 74 (.load 3 true (.t 73)), oG 72 false 75 (.call 102 [(.t 74)]), oG 72 false 76 (.un .not (.t 75)), oN 77 (.pick (.t 72) (.c (.bool true)) (.t 76))]) (.cond (.t 77) (.seq (.reg false 0 [oN 2 (.mov (.c (.bool false)))]) .ret) .skip)) (.reg false 0 [oN 78 (.load 3 true (.t 3)), oN 79 (.fld 1 (.t 5)), oN 80 (.load 3 true (.t 79)), oN 81 (.call 131 [(.t 78), (.t 80)]), oS (.store 3 (.t 3) (.t 81))]))))) (.reg false 0 [oN 82 (.bin .add (.t 30) (cI 1)), oN 30 (oV 82)]))))))) (.seq (.reg true 0 [oN 83 (.load 3 true (.t 3)), oN 84 (.call 39 [(cI 1)]), oA 85 0 (.call 32 [(.t 83), (.t 84)]) [0, 1, 1], oA 2 0 (oV 85) [2, 2, 0, 1, 2]]) .ret)))))⟩
structure D_impl_IsValidConditional (T : Nat → Option Fn) : Prop where
  hT : T 185 = some F_impl_IsValidConditional
  d_impl_RatEqual : D_impl_RatEqual T
  d_impl_isNode : D_impl_isNode T
  d_impl_RatFromInt : D_impl_RatFromInt T
  d_impl_RatSign : D_impl_RatSign T
  d_impl_RatOk : D_impl_RatOk T
  d_impl_ratAdd : D_impl_ratAdd T
def F_spec_IsValidConditional : Fn := ⟨1, 85, [.tmp 2], (.seq (.reg false 1 [oN 1 (.box (.t 0)), oK 2 1 (.mov (.c (.bool false)))]) (.seq (.reg false 1 [oK 6 1 (.call 36 [(cI 0)]), oN 3 (.alloc [.bool false, .nils, .nils]), ⟨none, none, 1, .store 3 (.t 3) (.t 6), []⟩]) (.seq (.seq (.reg false 0 [oN 7 (.fld 4 (.t 1)), oN 8 (.load 1 false (.t 7)), oN 9 (.len (.t 8)), oN 10 (.mov (cI 0))]) (.block 0 (.loop (.seq (.reg false 0 [oN 11 (.bin .lss (.t 10) (.t 9))]) (.seq (.cond (.t 11) .skip (.exit 0)) (.seq (.block 1 (.seq (.reg false 1 [oK 12 1 (oV 10), oK 13 1 (.idx 10 (.t 8) (.t 10)), oK 14 1 (.load 10 true (.t 13)), oN 5 (.alloc [.int .i64 0, .bool false, .nils, .nils, .bool false, .nils, .nils, .bool false, .nils, .nils]), oK 4 1 (oV 12), ⟨none, none, 1, .store 10 (.t 5) (.t 14), []⟩]) (.seq (.seq (.reg true 0 [oN 15 (.fld 0 (.t 5)), oA 16 0 (.load 1 false (.t 15)) [0], oA 17 0 (.call 34 [(.t 16)]) [1], oA 18 0 (.un .not (.t 17)) [2], oA 19 0 (oV 18) [3, 2], oH 19 false 20 0 (.fld 0 (.t 5)) [4], oH 19 false 21 0 (.load 1 false (.t 20)) [5, 4], oH 19 false 22 0 (.fld 0 (.t 1)) [4], oH 19 false 23 0 (.load 1 false (.t 22)) [7, 4], oH 19 false 24 0 (.bin .eql (.t 21) (.t 23)) [6, 8, 4], oA 25 0 (.pick (.t 19) (.c (.bool true)) (.t 24)) [4, 9], oA 26 0 (oV 25) [10, 4], oH 26 false 27 0 (oV 4) [11], oH 26 false 28 0 (.bin .gtr (.t 27) (cI 0)) [12, 11], oH 26 false 29 0 (oV 28) [13, 11, 11], oH 29 true 30 0 (.fld 4 (.t 1)) [14], oH 29 true 31 0 (.load 1 false (.t 30)) [15, 14], oH 29 true 32 0 (oV 4) [14], oH 29 true 33 0 (.bin .sub (.t 32) (cI 1)) [17, 14], oH 29 true 34 0 (.idx 10 (.t 31) (.t 33)) [16, 18, 14], oH 29 true 35 0 (.fld 0 (.t 34)) [19, 14], oH 29 true 36 0 (.load 1 false (.t 35)) [20, 14], oH 29 true 37 0 (.fld 0 (.t 5)) [14], oH 29 true 38 0 (.load 1 false (.t 37)) [22, 14], oH 29 true 39 0 (.bin .geq (.t 36) (.t 38)) [21, 23, 14], oH 26 false 40 0 (.pick (.t 29) (.t 39) (.c (.bool false))) [14, 24, 11], oA 41 0 (.pick (.t 26) (.c (.bool true)) (.t 40)) [11, 25], oA 42 0 (oV 41) [26, 14], oH 42 false 43 0 (.fld 1 (.t 5)) [27], oH 42 false 44 0 (.load 3 true (.t 43)) [28, 27], oH 42 false 45 0 (.call 99 [(.t 44)]) [29, 27, 27], oH 42 false 46 0 (.bin .leq (.t 45) (cI 0)) [30, 27], oA 47 0 (.pick (.t 42) (.c (.bool true)) (.t 46)) [27, 31], oA 48 0 (oV 47) [32, 30], oH 48 false 49 0 (.fld 4 (.t 5)) [33], oH 48 false 50 0 (.load 3 true (.t 49)) [34, 33], oH 48 false 51 0 (.call 100 [(.t 50)]) [35, 33, 33], oH 48 false 52 0 (.un .not (.t 51)) [36, 33], oA 53 0 (.pick (.t 48) (.c (.bool true)) (.t 52)) [33, 37], oA 54 0 (oV 53) [38, 36], oH 54 false 55 0 (.fld 7 (.t 5)) [39], oH 54 false 56 0 (.load 3 true (.t 55)) [40, 39], oH 54 false 57 0 (.call 100 [(.t 56)]) [41, 39, 39], oH 54 false 58 0 (.un .not (.t 57)) [42, 39], oA 59 0 (.pick (.t 54) (.c (.bool true)) (.t 58)) [39, 43]]) (.cond (.t 59) (.seq (.reg false 0 [oN 2 (.mov (.c (.bool false)))]) .ret) .skip)) (.reg false 0 [oN 60 (.load 3 true (.t 3)), oN 61 (.fld 1 (.t 5)), oN 62 (.load 3 true (.t 61)), oN 63 (.call 189 [(.t 60), (.t 62)]), oS (.store 3 (.t 3) (.t 63))])))) (.reg false 0 [oN 64 (.bin .add (.t 10) (cI 1)), oN 10 (oV 64)]))))))) (.seq (.reg true 0 [oN 65 (.fld 0 (.t 1)), oA 66 0 (.load 1 false (.t 65)) [0], oA 67 0 (.call 35 [(.t 66), (cI 1), (cI 9)]) [1], oA 68 0 (oV 67) [2, 2], oH 68 true 69 0 (.fld 1 (.t 1)) [3], oH 68 true 70 0 (.load 3 true (.t 69)) [4, 3], oH 68 true 71 0 (.call 99 [(.t 70)]) [5, 3, 3], oH 68 true 72 0 (.bin .gtr (.t 71) (cI 0)) [6, 3], oA 73 0 (.pick (.t 68) (.t 72) (.c (.bool false))) [3, 7], oA 74 0 (oV 73) [8, 6], oH 74 true 75 0 (.fld 4 (.t 1)) [9], oH 74 true 76 0 (.load 1 false (.t 75)) [10, 9], oH 74 true 77 0 (.len (.t 76)) [11, 9], oH 74 true 78 0 (.bin .gtr (.t 77) (cI 0)) [12, 9], oA 79 0 (.pick (.t 74) (.t 78) (.c (.bool false))) [9, 13], oA 80 0 (oV 79) [14, 9], oH 80 true 81 0 (.load 3 true (.t 3)) [15], oH 80 true 82 0 (.call 36 [(cI 1)]) [15, 15], oH 80 true 83 0 (.call 30 [(.t 81), (.t 82)]) [16, 17, 17, 15], oA 84 0 (.pick (.t 80) (.t 83) (.c (.bool false))) [15, 18], oA 2 0 (oV 84) [19, 18, 0, 1, 2, 3, 4, 5, 6, 7, 8, 9, 10, 11, 12, 13, 14, 15, 16, 17, 18, 19]]) .ret))))⟩
structure D_spec_IsValidConditional (T : Nat → Option Fn) : Prop where
  hT : T 294 = some F_spec_IsValidConditional
  d_spec_RatEqual : D_spec_RatEqual T
  d_spec_l06Node : D_spec_l06Node T
  d_spec_l01In : D_spec_l01In T
  d_spec_RatFromInt : D_spec_RatFromInt T
  d_spec_RatSign : D_spec_RatSign T
  d_spec_RatOk : D_spec_RatOk T
  d_spec_RatAdd : D_spec_RatAdd T
end Go.Ml
end
section
set_option linter.unusedSimpArgs false
namespace Go.Ml
def netAt (l : List Cd) (i : Nat) : Prop :=
  cdOk (l.getD i default) = true ∧ (∀ k, k < (l.getD i default).ps.length → ((l.getD i default).ps.getD k default).node = 0 ∨ ∃ j, i < j ∧ j < l.length ∧ (l.getD j default).node = ((l.getD i default).ps.getD k default).node) ∧
    ∀ j, i < j → j < l.length → (l.getD j default).node ≠ (l.getD i default).node
noncomputable instance (l : List Cd) : Decidable (∀ i, i < l.length → netAt l i) := Classical.propDecidable _
end Go.Ml
end
section
set_option linter.unusedSimpArgs false
set_option linter.unusedVariables false
set_option maxRecDepth 100000
set_option maxHeartbeats 4000000
namespace Go.Ml
def F_impl_hasInt : Fn := ⟨2, 17, [.tmp 4], (.seq (.reg false 0 [oN 4 (.mov (.c (.bool false)))]) (.seq (.seq (.reg false 0 [oN 7 (oV 0), oN 8 (.len (.t 7)), oN 9 (.mov (cI 0))]) (.block 0 (.loop (.seq (.reg false 0 [oN 10 (.bin .lss (.t 9) (.t 8))]) (.seq (.cond (.t 10) .skip (.exit 0)) (.seq (.block 1 (.seq (.reg false 0 [oN 11 (.idx 1 (.t 7) (.t 9)), oN 12 (.load 1 false (.t 11)), oN 6 (oV 12)]) (.seq (.reg false 0 [oN 13 (oV 6), oN 14 (oV 1), oN 15 (.bin .eql (.t 13) (.t 14))]) (.cond (.t 15) (.seq (.reg false 0 [oN 4 (.mov (.c (.bool true)))]) .ret) .skip)))) (.reg false 0 [oN 16 (.bin .add (.t 9) (cI 1)), oN 9 (oV 16)]))))))) (.seq (.reg false 0 [oN 4 (.mov (.c (.bool false)))]) .ret)))⟩
structure D_impl_hasInt (T : Nat → Option Fn) : Prop where
  hT : T 236 = some F_impl_hasInt
def F_impl_IsNet : Fn := ⟨1, 54, [.tmp 2], (.seq (.reg false 0 [oN 2 (.mov (.c (.bool false)))]) (.seq (.reg false 1 [oN 7 (.mkSl 1 [.int .i64 0] 1 [(0, (cI 0))]), oK 3 1 (oV 7)]) (.seq (.seq (.reg false 0 [oN 8 (oV 0), oN 9 (.len (.t 8)), oN 10 (.bin .sub (.t 9) (cI 1)), oN 4 (oV 10)]) (.block 0 (.loop (.seq (.seq (.reg false 0 [oN 11 (oV 4), oN 12 (.bin .geq (.t 11) (cI 0))]) (.cond (.t 12) .skip (.exit 0))) (.seq (.block 1 (.seq (.seq (.reg false 0 [oN 15 (oV 0), oN 16 (oV 4), oN 17 (.idx 5 (.t 15) (.t 16)), oN 18 (.load 5 true (.t 17)), oN 19 (.call 185 [(.t 18)]), oN 20 (.un .not (.t 19)), oN 21 (oV 20), oG 21 false 22 (oV 3), oG 21 false 23 (oV 0), oG 21 false 24 (oV 4), oG 21 false 25 (.idx 5 (.t 23) (.t 24)), oG 21 false 26 (.fld 0 (.t 25)), oG 21 false 27 (.load 1 false (.t 26)), oG 21 false 28 (.call 236 [(.t 22), (.t 27)]), oN 29 (.pick (.t 21) (.c (.bool true)) (.t 28))]) (.cond (.t 29) (.seq (.reg false 0 [oN 2 (.mov (.c (.bool false)))]) .ret) .skip)) (.seq (.seq (.reg false 0 [oN 30 (oV 0), oN 31 (oV 4), oN 32 (.idx 5 (.t 30) (.t 31)), oN 33 (.fld 4 (.t 32)), oN 34 (.load 1 false (.t 33)), oN 35 (.len (.t 34)), oN 36 (.mov (cI 0))]) (.block 2 (.loop (.seq (.reg false 0 [oN 37 (.bin .lss (.t 36) (.t 35))]) (.seq (.cond (.t 37) .skip (.exit 2)) (.seq (.block 3 (.seq (.reg false 1 [oK 38 1 (.idx 10 (.t 34) (.t 36)), oK 39 1 (.load 10 true (.t 38)), oN 6 (.alloc [.int .i64 0, .bool false, .nils, .nils, .bool false, .nils, .nils, .bool false, .nils, .nils]), ⟨none, none, 1, .store 10 (.t 6) (.t 39), []⟩]) (.seq (.reg false 0 [oN 40 (oV 3), oN 41 (.fld 0 (.t 6)), oN 42 (.load 1 false (.t 41)), oN 43 (.call 236 [(.t 40), (.t 42)]), oN 44 (.un .not (.t 43))]) (.cond (.t 44) (.seq (.reg false 0 [oN 2 (.mov (.c (.bool false)))]) .ret) .skip)))) (.reg false 0 [oN 45 (.bin .add (.t 36) (cI 1)), oN 36 (oV 45)]))))))) (.reg false 2 [oK 46 2 (oV 3), oK 47 2 (oV 0), oK 48 2 (oV 4), oK 49 2 (.idx 5 (.t 47) (.t 48)), oK 50 2 (.fld 0 (.t 49)), oK 51 2 (.load 1 false (.t 50)), oN 52 (.mkSl 1 [.int .i64 0] 1 [(0, (.t 51))]), oK 53 1 (.app 1 8 (.t 46) (.t 52)), oK 3 2 (oV 53)])))) (.reg false 0 [oN 13 (oV 4), oN 14 (.bin .sub (.t 13) (cI 1)), oN 4 (oV 14)])))))) (.seq (.reg false 0 [oN 2 (.mov (.c (.bool true)))]) .ret))))⟩
structure D_impl_IsNet (T : Nat → Option Fn) : Prop where
  hT : T 273 = some F_impl_IsNet
  d_impl_IsValidConditional : D_impl_IsValidConditional T
  d_impl_hasInt : D_impl_hasInt T
def F_spec_IsNet : Fn := ⟨1, 69, [.tmp 2], (.seq (.reg false 0 [oN 2 (.mov (.c (.bool false)))]) (.seq (.seq (.reg false 0 [oN 12 (oV 0), oN 13 (.len (.t 12)), oN 14 (.mov (cI 0))]) (.block 0 (.loop (.seq (.reg false 0 [oN 15 (.bin .lss (.t 14) (.t 13))]) (.seq (.cond (.t 15) .skip (.exit 0)) (.seq (.block 1 (.seq (.reg false 1 [oK 16 1 (oV 14), oK 17 1 (.idx 5 (.t 12) (.t 14)), oK 18 1 (.load 5 true (.t 17)), oN 4 (.alloc [.int .i64 0, .bool false, .nils, .nils, .nils]), oK 3 1 (oV 16), ⟨none, none, 1, .store 5 (.t 4) (.t 18), []⟩]) (.seq (.seq (.reg false 0 [oN 19 (.load 5 true (.t 4)), oN 20 (.call 294 [(.t 19)]), oN 21 (.un .not (.t 20))]) (.cond (.t 21) (.seq (.reg false 0 [oN 2 (.mov (.c (.bool false)))]) .ret) .skip)) (.seq (.seq (.reg false 0 [oN 22 (.fld 4 (.t 4)), oN 23 (.load 1 false (.t 22)), oN 24 (.len (.t 23)), oN 25 (.mov (cI 0))]) (.block 2 (.loop (.seq (.reg false 0 [oN 26 (.bin .lss (.t 25) (.t 24))]) (.seq (.cond (.t 26) .skip (.exit 2)) (.seq (.block 3 (.seq (.reg false 1 [oK 27 1 (.idx 10 (.t 23) (.t 25)), oK 28 1 (.load 10 true (.t 27)), oN 6 (.alloc [.int .i64 0, .bool false, .nils, .nils, .bool false, .nils, .nils, .bool false, .nils, .nils]), ⟨none, none, 1, .store 10 (.t 6) (.t 28), []⟩]) (.seq (.reg false 0 [oN 29 (.fld 0 (.t 6)), oN 30 (.load 1 false (.t 29)), oN 31 (.bin .eql (.t 30) (cI 0)), oN 7 (oV 31)]) (.seq (.seq (.reg false 0 [oN 32 (oV 0), oN 33 (oV 3), oN 34 (.bin .add (.t 33) (cI 1)), oN 35 (.slice 5 (.t 32) (some (.t 34)) none), oN 36 (.len (.t 35)), oN 37 (.mov (cI 0))]) (.block 4 (.loop (.seq (.reg false 0 [oN 38 (.bin .lss (.t 37) (.t 36))]) (.seq (.cond (.t 38) .skip (.exit 4)) (.seq (.block 5 (.seq (.reg false 1 [oK 39 1 (.idx 5 (.t 35) (.t 37)), oK 40 1 (.load 5 true (.t 39)), oN 9 (.alloc [.int .i64 0, .bool false, .nils, .nils, .nils]), ⟨none, none, 1, .store 5 (.t 9) (.t 40), []⟩]) (.reg false 0 [oN 41 (oV 7), oN 42 (oV 41), oG 42 false 43 (.fld 0 (.t 9)), oG 42 false 44 (.load 1 false (.t 43)), oG 42 false 45 (.fld 0 (.t 6)), oG 42 false 46 (.load 1 false (.t 45)), oG 42 false 47 (.bin .eql (.t 44) (.t 46)), oN 48 (.pick (.t 42) (.c (.bool true)) (.t 47)), oN 7 (oV 48)]))) (.reg false 0 [oN 49 (.bin .add (.t 37) (cI 1)), oN 37 (oV 49)]))))))) (.seq (.reg false 0 [oN 50 (oV 7), oN 51 (.un .not (.t 50))]) (.cond (.t 51) (.seq (.reg false 0 [oN 2 (.mov (.c (.bool false)))]) .ret) .skip)))))) (.reg false 0 [oN 52 (.bin .add (.t 25) (cI 1)), oN 25 (oV 52)]))))))) (.seq (.reg false 0 [oN 53 (oV 0), oN 54 (oV 3), oN 55 (.bin .add (.t 54) (cI 1)), oN 56 (.slice 5 (.t 53) (some (.t 55)) none), oN 57 (.len (.t 56)), oN 58 (.mov (cI 0))]) (.block 6 (.loop (.seq (.reg false 0 [oN 59 (.bin .lss (.t 58) (.t 57))]) (.seq (.cond (.t 59) .skip (.exit 6)) (.seq (.block 7 (.seq (.reg false 1 [oK 60 1 (.idx 5 (.t 56) (.t 58)), oK 61 1 (.load 5 true (.t 60)), oN 11 (.alloc [.int .i64 0, .bool false, .nils, .nils, .nils]), ⟨none, none, 1, .store 5 (.t 11) (.t 61), []⟩]) (.seq (.reg false 0 [oN 62 (.fld 0 (.t 11)), oN 63 (.load 1 false (.t 62)), oN 64 (.fld 0 (.t 4)), oN 65 (.load 1 false (.t 64)), oN 66 (.bin .eql (.t 63) (.t 65))]) (.cond (.t 66) (.seq (.reg false 0 [oN 2 (.mov (.c (.bool false)))]) .ret) .skip)))) (.reg false 0 [oN 67 (.bin .add (.t 58) (cI 1)), oN 58 (oV 67)]))))))))))) (.reg false 0 [oN 68 (.bin .add (.t 14) (cI 1)), oN 14 (oV 68)]))))))) (.seq (.reg false 0 [oN 2 (.mov (.c (.bool true)))]) .ret)))⟩
structure D_spec_IsNet (T : Nat → Option Fn) : Prop where
  hT : T 305 = some F_spec_IsNet
  d_spec_IsValidConditional : D_spec_IsValidConditional T
def F_spec_l07Has : Fn := ⟨2, 17, [.tmp 4], (.seq (.reg false 0 [oN 4 (.mov (.c (.bool false)))]) (.seq (.seq (.reg false 0 [oN 7 (oV 0), oN 8 (.len (.t 7)), oN 9 (.mov (cI 0))]) (.block 0 (.loop (.seq (.reg false 0 [oN 10 (.bin .lss (.t 9) (.t 8))]) (.seq (.cond (.t 10) .skip (.exit 0)) (.seq (.block 1 (.seq (.reg false 0 [oN 11 (.idx 1 (.t 7) (.t 9)), oN 12 (.load 1 false (.t 11)), oN 6 (oV 12)]) (.seq (.reg false 0 [oN 13 (oV 6), oN 14 (oV 1), oN 15 (.bin .eql (.t 13) (.t 14))]) (.cond (.t 15) (.seq (.reg false 0 [oN 4 (.mov (.c (.bool true)))]) .ret) .skip)))) (.reg false 0 [oN 16 (.bin .add (.t 9) (cI 1)), oN 9 (oV 16)]))))))) (.seq (.reg false 0 [oN 4 (.mov (.c (.bool false)))]) .ret)))⟩
structure D_spec_l07Has (T : Nat → Option Fn) : Prop where
  hT : T 235 = some F_spec_l07Has
end Go.Ml
end
section
set_option linter.unusedSimpArgs false
set_option linter.unusedVariables false
set_option maxRecDepth 100000
set_option maxHeartbeats 4000000
namespace Go.Ml
def nodesM (l : List Lk) : List Int := if lksOk l = true then nodesI l 10 else []
def ordP (l : List Lk) (o : List Int) : Prop := lksOk l = true ∧ o.length = (nodesM l).length ∧ ∀ x ∈ nodesM l, x ∈ o
instance (l : List Lk) (o : List Int) : Decidable (ordP l o) := inferInstanceAs (Decidable (_ ∧ _ ∧ _))
end Go.Ml
end
section
set_option linter.unusedSimpArgs false
set_option linter.unusedVariables false
set_option maxRecDepth 100000
set_option maxHeartbeats 4000000
namespace Go.Ml
def F_spec_l07Near : Fn := ⟨2, 33, [.tmp 4], (.seq (.reg false 0 [oN 4 (.mov (.c (.nils)))]) (.seq (.reg false 1 [oN 8 (.mkSl 1 [.int .i64 0] 0 []), oK 5 1 (oV 8)]) (.seq (.seq (.reg false 0 [oN 9 (oV 0), oN 10 (.len (.t 9)), oN 11 (.mov (cI 0))]) (.block 0 (.loop (.seq (.reg false 0 [oN 12 (.bin .lss (.t 11) (.t 10))]) (.seq (.cond (.t 12) .skip (.exit 0)) (.seq (.block 1 (.seq (.reg false 1 [oK 13 1 (.idx 11 (.t 9) (.t 11)), oK 14 1 (.load 11 true (.t 13)), oN 7 (.alloc [.int .i64 0, .int .i64 0, .bool false, .nils, .nils, .bool false, .nils, .nils, .bool false, .nils, .nils]), ⟨none, none, 1, .store 11 (.t 7) (.t 14), []⟩]) (.seq (.seq (.reg false 0 [oN 15 (.fld 0 (.t 7)), oN 16 (.load 1 false (.t 15)), oN 17 (oV 1), oN 18 (.bin .eql (.t 16) (.t 17))]) (.cond (.t 18) (.reg false 0 [oN 19 (oV 5), oN 20 (.fld 1 (.t 7)), oN 21 (.load 1 false (.t 20)), oN 22 (.call 237 [(.t 19), (.t 21)]), oN 5 (oV 22)]) .skip)) (.seq (.reg false 0 [oN 23 (.fld 1 (.t 7)), oN 24 (.load 1 false (.t 23)), oN 25 (oV 1), oN 26 (.bin .eql (.t 24) (.t 25))]) (.cond (.t 26) (.reg false 0 [oN 27 (oV 5), oN 28 (.fld 0 (.t 7)), oN 29 (.load 1 false (.t 28)), oN 30 (.call 237 [(.t 27), (.t 29)]), oN 5 (oV 30)]) .skip))))) (.reg false 0 [oN 31 (.bin .add (.t 11) (cI 1)), oN 11 (oV 31)]))))))) (.seq (.reg false 0 [oN 32 (oV 5), oN 4 (oV 32)]) .ret))))⟩
structure D_spec_l07Near (T : Nat → Option Fn) : Prop where
  hT : T 238 = some F_spec_l07Near
  d_spec_l07Put : D_spec_l07Put T
def F_impl_neighborsOf : Fn := ⟨2, 35, [.tmp 4], (.seq (.reg false 0 [oN 4 (.mov (.c (.nils)))]) (.seq (.reg false 1 [oN 8 (.mkSl 1 [.int .i64 0] 0 []), oK 5 1 (oV 8)]) (.seq (.seq (.reg false 0 [oN 9 (oV 0), oN 10 (.len (.t 9)), oN 11 (.mov (cI 0))]) (.block 0 (.loop (.seq (.reg false 0 [oN 12 (.bin .lss (.t 11) (.t 10))]) (.seq (.cond (.t 12) .skip (.exit 0)) (.seq (.block 1 (.seq (.reg false 1 [oK 13 1 (.idx 11 (.t 9) (.t 11)), oK 14 1 (.load 11 true (.t 13)), oN 7 (.alloc [.int .i64 0, .int .i64 0, .bool false, .nils, .nils, .bool false, .nils, .nils, .bool false, .nils, .nils]), ⟨none, none, 1, .store 11 (.t 7) (.t 14), []⟩]) (.seq (.reg false 0 [oN 15 (.fld 0 (.t 7)), oN 16 (.load 1 false (.t 15)), oN 17 (oV 1), oN 18 (.bin .eql (.t 16) (.t 17))]) (.cond (.t 18) (.reg false 2 [oK 19 2 (oV 5), oK 20 2 (.fld 1 (.t 7)), oK 21 2 (.load 1 false (.t 20)), oN 22 (.mkSl 1 [.int .i64 0] 1 [(0, (.t 21))]), oK 23 1 (.app 1 8 (.t 19) (.t 22)), oK 5 2 (oV 23)]) (.seq (.reg false 0 [oN 24 (.fld 1 (.t 7)), oN 25 (.load 1 false (.t 24)), oN 26 (oV 1), oN 27 (.bin .eql (.t 25) (.t 26))]) (.cond (.t 27) (.reg false 2 [oK 28 2 (oV 5), oK 29 2 (.fld 0 (.t 7)), oK 30 2 (.load 1 false (.t 29)), oN 31 (.mkSl 1 [.int .i64 0] 1 [(0, (.t 30))]), oK 32 1 (.app 1 8 (.t 28) (.t 31)), oK 5 2 (oV 32)]) .skip)))))) (.reg false 0 [oN 33 (.bin .add (.t 11) (cI 1)), oN 11 (oV 33)]))))))) (.seq (.reg false 0 [oN 34 (oV 5), oN 4 (oV 34)]) .ret))))⟩
structure D_impl_neighborsOf (T : Nat → Option Fn) : Prop where
  hT : T 239 = some F_impl_neighborsOf
end Go.Ml
end
section
set_option linter.unusedSimpArgs false
set_option linter.unusedVariables false
set_option maxRecDepth 100000
set_option maxHeartbeats 4000000
namespace Go.Ml
def F_spec_l04Copy : Fn := ⟨1, 17, [.cell 2 3 true], (.seq (.reg false 2 [oN 1 (.box (.t 0)), oK 2 1 (.alloc [.bool false, .nils, .nils])]) (.seq (.reg true 4 [oK 3 4 (.fld 0 (.t 1)), oA 4 4 (.fld 0 (.t 3)) [0], oA 5 4 (.load 1 false (.t 4)) [1], oN 6 (.mkSl 1 [.int .i64 0] 0 []), oK 7 4 (.fld 0 (.t 1)), oA 8 4 (.fld 1 (.t 7)) [4], oA 9 4 (.load 1 false (.t 8)) [5], oA 10 1 (.app 1 8 (.t 6) (.t 9)) [3, 6], oA 11 4 (.build [.bool false, .nils] [(0, 1, (.t 5)), (1, 1, (.t 10))]) [2, 7], oK 12 2 (.mkSl 1 [.int .i64 0] 0 []), oK 13 4 (.fld 2 (.t 1)), oA 14 4 (.load 1 false (.t 13)) [10], oA 15 3 (.app 1 8 (.t 12) (.t 14)) [9, 11, 7], oA 16 4 (.build [.bool false, .nils, .nils] [(0, 2, (.t 11)), (2, 1, (.t 15))]) [8, 12], ⟨none, none, 4, .store 3 (.t 2) (.t 16), [13, 12, 0, 1, 2, 3, 4, 5, 6, 7, 8, 9, 10, 11, 12, 13]⟩]) .ret))⟩
structure D_spec_l04Copy (T : Nat → Option Fn) : Prop where
  hT : T 204 = some F_spec_l04Copy
def F_spec_l06Copy : Fn := ⟨1, 17, [.cell 2 11 true], (.seq (.reg false 2 [oN 1 (.box (.t 0)), oK 2 1 (.alloc [.int .i64 0, .int .i64 0, .bool false, .nils, .nils, .bool false, .nils, .nils, .bool false, .nils, .nils])]) (.seq (.reg true 0 [oN 3 (.fld 0 (.t 1)), oA 4 0 (.load 1 false (.t 3)) [0], oN 5 (.fld 1 (.t 1)), oA 6 0 (.load 1 false (.t 5)) [2], oN 7 (.fld 2 (.t 1)), oA 8 0 (.load 3 true (.t 7)) [4], oA 9 0 (.call 204 [(.t 8)]) [5], oN 10 (.fld 5 (.t 1)), oA 11 0 (.load 3 true (.t 10)) [7], oA 12 0 (.call 204 [(.t 11)]) [8, 6], oN 13 (.fld 8 (.t 1)), oA 14 0 (.load 3 true (.t 13)) [10], oA 15 0 (.call 204 [(.t 14)]) [11, 9], oA 16 0 (.build [.int .i64 0, .int .i64 0, .bool false, .nils, .nils, .bool false, .nils, .nils, .bool false, .nils, .nils] [(0, 1, (.t 4)), (1, 1, (.t 6)), (2, 3, (.t 9)), (5, 3, (.t 12)), (8, 3, (.t 15))]) [1, 3, 6, 9, 12], ⟨none, none, 0, .store 11 (.t 2) (.t 16), [13, 12, 0, 1, 2, 3, 4, 5, 6, 7, 8, 9, 10, 11, 12, 13]⟩]) .ret))⟩
structure D_spec_l06Copy (T : Nat → Option Fn) : Prop where
  hT : T 197 = some F_spec_l06Copy
  d_spec_l04Copy : D_spec_l04Copy T
end Go.Ml
end
section
set_option linter.unusedSimpArgs false
set_option linter.unusedVariables false
set_option maxRecDepth 100000
set_option maxHeartbeats 8000000
namespace Go.Ml
def F_spec_MergeLinks : Fn := ⟨2, 104, [.cell 4 11 true, .cell 5 3 true, .tmp 6], (.seq (.reg false 4 [oN 2 (.box (.t 0)), oK 3 1 (.box (.t 1)), oK 4 2 (.alloc [.int .i64 0, .int .i64 0, .bool false, .nils, .nils, .bool false, .nils, .nils, .bool false, .nils, .nils]), oK 5 3 (.alloc [.bool false, .nils, .nils]), oK 6 4 (.mov (.c (.bool false)))]) (.seq (.seq (.reg false 0 [oN 10 (.load 11 true (.t 2)), oN 11 (.call 83 [(.t 10)]), oN 12 (.un .not (.t 11)), oN 13 (oV 12), oG 13 false 14 (.load 11 true (.t 3)), oG 13 false 15 (.call 83 [(.t 14)]), oG 13 false 16 (.un .not (.t 15)), oN 17 (.pick (.t 13) (.c (.bool true)) (.t 16)), oN 18 (oV 17), oG 18 false 19 (.fld 0 (.t 2)), oG 18 false 20 (.load 1 false (.t 19)), oG 18 false 21 (.fld 0 (.t 3)), oG 18 false 22 (.load 1 false (.t 21)), oG 18 false 23 (.bin .neq (.t 20) (.t 22)), oN 24 (.pick (.t 18) (.c (.bool true)) (.t 23)), oN 25 (oV 24), oG 25 false 26 (.fld 1 (.t 2)), oG 25 false 27 (.load 1 false (.t 26)), oG 25 false 28 (.fld 1 (.t 3)), oG 25 false 29 (.load 1 false (.t 28)), oG 25 false 30 (.bin .neq (.t 27) (.t 29)), oN 31 (.pick (.t 25) (.c (.bool true)) (.t 30))]) (.cond (.t 31) (.seq (.reg false 0 [oN 32 (.build [.int .i64 0, .int .i64 0, .bool false, .nils, .nils, .bool false, .nils, .nils, .bool false, .nils, .nils] []), oN 33 (.build [.bool false, .nils, .nils] []), oS (.store 11 (.t 4) (.t 32)), oS (.store 3 (.t 5) (.t 33)), oN 6 (.mov (.c (.bool false)))]) .ret) .skip)) (.seq (.reg false 1 [oK 34 1 (.fld 2 (.t 2)), oK 35 1 (.load 3 true (.t 34)), oK 36 1 (.fld 2 (.t 3)), oK 37 1 (.load 3 true (.t 36)), oK 38 1 (.call 189 [(.t 35), (.t 37)]), oN 7 (.alloc [.bool false, .nils, .nils]), ⟨none, none, 1, .store 3 (.t 7) (.t 38), []⟩]) (.seq (.reg false 1 [oK 39 1 (.fld 0 (.t 2)), oK 40 1 (.load 1 false (.t 39)), oK 41 1 (.fld 1 (.t 2)), oK 42 1 (.load 1 false (.t 41)), oK 43 1 (.load 3 true (.t 7)), oK 44 1 (.build [.int .i64 0, .int .i64 0, .bool false, .nils, .nils, .bool false, .nils, .nils, .bool false, .nils, .nils] [(0, 1, (.t 40)), (1, 1, (.t 42)), (2, 3, (.t 43))]), oN 8 (.alloc [.int .i64 0, .int .i64 0, .bool false, .nils, .nils, .bool false, .nils, .nils, .bool false, .nils, .nils]), ⟨none, none, 1, .store 11 (.t 8) (.t 44), []⟩]) (.seq (.reg true 0 [oN 45 (.fld 2 (.t 2)), oA 46 0 (.load 3 true (.t 45)) [0], oN 47 (.fld 5 (.t 2)), oA 48 0 (.load 3 true (.t 47)) [2], oA 49 0 (.call 201 [(.t 46), (.t 48)]) [1, 3], oN 50 (.fld 2 (.t 3)), oA 51 0 (.load 3 true (.t 50)) [5], oN 52 (.fld 5 (.t 3)), oA 53 0 (.load 3 true (.t 52)) [7], oA 54 0 (.call 201 [(.t 51), (.t 53)]) [6, 8, 4], oA 55 0 (.call 189 [(.t 49), (.t 54)]) [4, 9, 9], oN 56 (.load 3 true (.t 7)), oA 57 0 (.call 200 [(.t 55), (.t 56)]) [10, 11, 10], oA 58 0 (.fld 5 (.t 8)) [0, 1, 2, 3, 4, 5, 6, 7, 8, 9, 10, 11, 12], ⟨none, none, 0, .store 3 (.t 58) (.t 57), [13, 12, 12, 0, 1, 2, 3, 4, 5, 6, 7, 8, 9, 10, 11, 12]⟩]) (.seq (.reg true 0 [oN 59 (.fld 2 (.t 2)), oA 60 0 (.load 3 true (.t 59)) [0], oN 61 (.fld 8 (.t 2)), oA 62 0 (.load 3 true (.t 61)) [2], oA 63 0 (.call 201 [(.t 60), (.t 62)]) [1, 3], oN 64 (.fld 2 (.t 3)), oA 65 0 (.load 3 true (.t 64)) [5], oN 66 (.fld 8 (.t 3)), oA 67 0 (.load 3 true (.t 66)) [7], oA 68 0 (.call 201 [(.t 65), (.t 67)]) [6, 8, 4], oA 69 0 (.call 189 [(.t 63), (.t 68)]) [4, 9, 9], oN 70 (.load 3 true (.t 7)), oA 71 0 (.call 200 [(.t 69), (.t 70)]) [10, 11, 10], oA 72 0 (.fld 8 (.t 8)) [0, 1, 2, 3, 4, 5, 6, 7, 8, 9, 10, 11, 12], ⟨none, none, 0, .store 3 (.t 72) (.t 71), [13, 12, 12, 0, 1, 2, 3, 4, 5, 6, 7, 8, 9, 10, 11, 12]⟩]) (.seq (.reg true 1 [oK 73 1 (.fld 2 (.t 2)), oA 74 1 (.load 3 true (.t 73)) [0], oK 75 1 (.fld 2 (.t 3)), oA 76 1 (.load 3 true (.t 75)) [2], oA 77 1 (.call 201 [(.t 74), (.t 76)]) [1, 3], oK 78 1 (.load 3 true (.t 7)), oA 79 1 (.call 200 [(.t 77), (.t 78)]) [4, 5, 4], oK 80 1 (.fld 5 (.t 2)), oA 81 1 (.load 3 true (.t 80)) [7], oK 82 1 (.fld 5 (.t 3)), oA 83 1 (.load 3 true (.t 82)) [9], oA 84 1 (.call 203 [(.t 81), (.t 83)]) [8, 10, 6], oK 85 1 (.fld 8 (.t 2)), oA 86 1 (.load 3 true (.t 85)) [12], oK 87 1 (.fld 8 (.t 3)), oA 88 1 (.load 3 true (.t 87)) [14], oA 89 1 (.call 203 [(.t 86), (.t 88)]) [13, 15, 11], oA 90 1 (.call 202 [(.t 84), (.t 89)]) [11, 16, 16], oA 91 1 (.call 201 [(.t 79), (.t 90)]) [6, 17, 17], oN 9 (.alloc [.bool false, .nils, .nils]), ⟨none, none, 1, .store 3 (.t 9) (.t 91), [19, 18, 18, 0, 1, 2, 3, 4, 5, 6, 7, 8, 9, 10, 11, 12, 13, 14, 15, 16, 17, 18, 19]⟩]) (.seq (.seq (.reg false 0 [oN 92 (.load 11 true (.t 8)), oN 93 (.call 83 [(.t 92)]), oN 94 (.un .not (.t 93)), oN 95 (oV 94), oG 95 false 96 (.load 3 true (.t 9)), oG 95 false 97 (.call 100 [(.t 96)]), oG 95 false 98 (.un .not (.t 97)), oN 99 (.pick (.t 95) (.c (.bool true)) (.t 98))]) (.cond (.t 99) (.seq (.reg false 0 [oN 100 (.build [.int .i64 0, .int .i64 0, .bool false, .nils, .nils, .bool false, .nils, .nils, .bool false, .nils, .nils] []), oN 101 (.build [.bool false, .nils, .nils] []), oS (.store 11 (.t 4) (.t 100)), oS (.store 3 (.t 5) (.t 101)), oN 6 (.mov (.c (.bool false)))]) .ret) .skip)) (.seq (.reg true 0 [oN 102 (.load 11 true (.t 8)), oN 103 (.load 3 true (.t 9)), ⟨none, none, 0, .store 11 (.t 4) (.t 102), [0, 0]⟩, ⟨none, none, 0, .store 3 (.t 5) (.t 103), [1, 2, 0, 1, 2]⟩, oA 6 0 (.mov (.c (.bool true))) [3, 0, 1, 2, 3]]) .ret)))))))))⟩
structure D_spec_MergeLinks (T : Nat → Option Fn) : Prop where
  hT : T 196 = some F_spec_MergeLinks
  d_spec_IsValidLink : D_spec_IsValidLink T
  d_spec_RatOk : D_spec_RatOk T
  d_spec_RatAdd : D_spec_RatAdd T
  d_spec_RatDiv : D_spec_RatDiv T
  d_spec_RatMul : D_spec_RatMul T
  d_spec_l06Squares : D_spec_l06Squares T
  d_spec_RatSub : D_spec_RatSub T
end Go.Ml
end
section
set_option linter.unusedSimpArgs false
set_option linter.unusedVariables false
set_option maxRecDepth 100000
set_option maxHeartbeats 16000000
namespace Go.Ml
def F_impl_mergeLinks : Fn := ⟨2, 91, [.cell 4 11 true, .cell 5 3 true, .tmp 6], (.seq (.reg false 4 [oN 2 (.box (.t 0)), oK 3 1 (.box (.t 1)), oK 4 2 (.alloc [.int .i64 0, .int .i64 0, .bool false, .nils, .nils, .bool false, .nils, .nils, .bool false, .nils, .nils]), oK 5 3 (.alloc [.bool false, .nils, .nils]), oK 6 4 (.mov (.c (.bool false)))]) (.seq (.reg true 2 [oK 12 2 (.fld 2 (.t 2)), oA 13 2 (.load 3 true (.t 12)) [0], oK 14 2 (.fld 2 (.t 3)), oA 15 2 (.load 3 true (.t 14)) [2], oN 7 (.alloc [.bool false, .nils, .nils]), oK 8 1 (.alloc [.bool false, .nils, .nils]), ⟨none, none, 2, .store 3 (.t 7) (.t 13), [4, 1, 0, 1, 4, 5]⟩, ⟨none, none, 2, .store 3 (.t 8) (.t 15), [5, 3, 6, 0, 1, 2, 3, 4, 5, 6]⟩]) (.seq (.reg false 1 [oK 16 1 (.load 3 true (.t 7)), oK 17 1 (.load 3 true (.t 8)), oK 18 1 (.call 131 [(.t 16), (.t 17)]), oN 9 (.alloc [.bool false, .nils, .nils]), ⟨none, none, 1, .store 3 (.t 9) (.t 18), []⟩]) (.seq (.reg false 1 [oK 19 1 (.fld 0 (.t 2)), oK 20 1 (.load 1 false (.t 19)), oK 21 1 (.fld 1 (.t 2)), oK 22 1 (.load 1 false (.t 21)), oK 23 1 (.load 3 true (.t 9)), oK 24 1 (.build [.int .i64 0, .int .i64 0, .bool false, .nils, .nils, .bool false, .nils, .nils, .bool false, .nils, .nils] [(0, 1, (.t 20)), (1, 1, (.t 22)), (2, 3, (.t 23))]), oN 10 (.alloc [.int .i64 0, .int .i64 0, .bool false, .nils, .nils, .bool false, .nils, .nils, .bool false, .nils, .nils]), ⟨none, none, 1, .store 11 (.t 10) (.t 24), []⟩]) (.seq (.reg true 0 [oN 25 (.load 3 true (.t 7)), oN 26 (.fld 5 (.t 2)), oA 27 0 (.load 3 true (.t 26)) [1], oA 28 0 (.call 157 [(.t 25), (.t 27)]) [0, 2], oN 29 (.load 3 true (.t 8)), oN 30 (.fld 5 (.t 3)), oA 31 0 (.load 3 true (.t 30)) [5], oA 32 0 (.call 157 [(.t 29), (.t 31)]) [4, 6, 3], oA 33 0 (.call 131 [(.t 28), (.t 32)]) [3, 7, 7], oN 34 (.load 3 true (.t 9)), oA 35 0 (.call 156 [(.t 33), (.t 34)]) [8, 9, 8], oA 36 0 (.fld 5 (.t 10)) [0, 1, 2, 3, 4, 5, 6, 7, 8, 9, 10], ⟨none, none, 0, .store 3 (.t 36) (.t 35), [11, 10, 10, 0, 1, 2, 3, 4, 5, 6, 7, 8, 9, 10]⟩]) (.seq (.reg true 0 [oN 37 (.load 3 true (.t 7)), oN 38 (.fld 8 (.t 2)), oA 39 0 (.load 3 true (.t 38)) [1], oA 40 0 (.call 157 [(.t 37), (.t 39)]) [0, 2], oN 41 (.load 3 true (.t 8)), oN 42 (.fld 8 (.t 3)), oA 43 0 (.load 3 true (.t 42)) [5], oA 44 0 (.call 157 [(.t 41), (.t 43)]) [4, 6, 3], oA 45 0 (.call 131 [(.t 40), (.t 44)]) [3, 7, 7], oN 46 (.load 3 true (.t 9)), oA 47 0 (.call 156 [(.t 45), (.t 46)]) [8, 9, 8], oA 48 0 (.fld 8 (.t 10)) [0, 1, 2, 3, 4, 5, 6, 7, 8, 9, 10], ⟨none, none, 0, .store 3 (.t 48) (.t 47), [11, 10, 10, 0, 1, 2, 3, 4, 5, 6, 7, 8, 9, 10]⟩]) (.seq (.reg true 1 [oK 49 1 (.load 3 true (.t 7)), oK 50 1 (.load 3 true (.t 8)), oA 51 1 (.call 157 [(.t 49), (.t 50)]) [0, 1], oK 52 1 (.load 3 true (.t 9)), oA 53 1 (.call 156 [(.t 51), (.t 52)]) [2, 3, 2], oK 54 1 (.fld 5 (.t 2)), oA 55 1 (.load 3 true (.t 54)) [5], oK 56 1 (.fld 5 (.t 3)), oA 57 1 (.load 3 true (.t 56)) [7], oA 58 1 (.call 159 [(.t 55), (.t 57)]) [6, 8, 4], oK 59 1 (.fld 8 (.t 2)), oA 60 1 (.load 3 true (.t 59)) [10], oK 61 1 (.fld 8 (.t 3)), oA 62 1 (.load 3 true (.t 61)) [12], oA 63 1 (.call 159 [(.t 60), (.t 62)]) [11, 13, 9], oA 64 1 (.call 158 [(.t 58), (.t 63)]) [9, 14, 14], oA 65 1 (.call 157 [(.t 53), (.t 64)]) [4, 15, 15], oN 11 (.alloc [.bool false, .nils, .nils]), ⟨none, none, 1, .store 3 (.t 11) (.t 65), [17, 16, 16, 0, 1, 2, 3, 4, 5, 6, 7, 8, 9, 10, 11, 12, 13, 14, 15, 16, 17]⟩]) (.seq (.seq (.reg false 0 [oN 66 (.fld 2 (.t 10)), oN 67 (.load 3 true (.t 66)), oN 68 (.call 132 [(.t 67)]), oN 69 (.un .not (.t 68)), oN 70 (oV 69), oG 70 false 71 (.fld 5 (.t 10)), oG 70 false 72 (.load 3 true (.t 71)), oG 70 false 73 (.call 132 [(.t 72)]), oG 70 false 74 (.un .not (.t 73)), oN 75 (.pick (.t 70) (.c (.bool true)) (.t 74)), oN 76 (oV 75), oG 76 false 77 (.fld 8 (.t 10)), oG 76 false 78 (.load 3 true (.t 77)), oG 76 false 79 (.call 132 [(.t 78)]), oG 76 false 80 (.un .not (.t 79)), oN 81 (.pick (.t 76) (.c (.bool true)) (.t 80)), oN 82 (oV 81), oG 82 false 83 (.load 3 true (.t 11)), oG 82 false 84 (.call 132 [(.t 83)]), oG 82 false 85 (.un .not (.t 84)), oN 86 (.pick (.t 82) (.c (.bool true)) (.t 85))]) (.cond (.t 86) (.seq (.reg false 0 [oN 87 (.build [.int .i64 0, .int .i64 0, .bool false, .nils, .nils, .bool false, .nils, .nils, .bool false, .nils, .nils] []), oN 88 (.build [.bool false, .nils, .nils] []), oS (.store 11 (.t 4) (.t 87)), oS (.store 3 (.t 5) (.t 88)), oN 6 (.mov (.c (.bool false)))]) .ret) .skip)) (.seq (.reg true 0 [oN 89 (.load 11 true (.t 10)), oN 90 (.load 3 true (.t 11)), ⟨none, none, 0, .store 11 (.t 4) (.t 89), [0, 0]⟩, ⟨none, none, 0, .store 3 (.t 5) (.t 90), [1, 2, 0, 1, 2]⟩, oA 6 0 (.mov (.c (.bool true))) [3, 0, 1, 2, 3]]) .ret)))))))))⟩
structure D_impl_mergeLinks (T : Nat → Option Fn) : Prop where
  hT : T 140 = some F_impl_mergeLinks
  d_impl_ratAdd : D_impl_ratAdd T
  d_impl_good : D_impl_good T
  d_impl_ratDiv : D_impl_ratDiv T
  d_impl_ratMul : D_impl_ratMul T
  d_impl_sumOfSquares : D_impl_sumOfSquares T
  d_impl_ratSub : D_impl_ratSub T
end Go.Ml
end
section
set_option linter.unusedSimpArgs false
set_option linter.unusedVariables false
namespace Go.Ml
abbrev Gd := Nat → Nat → Bool
def gset (g : Gd) (i j : Nat) (b : Bool) : Gd := fun x y => if x = i ∧ y = j then b else g x y
def grow (g : Gd) (a : Nat) : List (List V) := (List.range 10).map fun j => [.bool (g a j)]
theorem grow_set {g : Gd} {a j : Nat} {b : Bool} : (grow g a).set j [.bool b] = grow (gset g a j b) a := by
  apply List.ext_getElem?
  intro n
  rw [List.getElem?_set]
  simp only [grow, List.getElem?_map, List.length_map, List.length_range]
  by_cases hn : n < 10
  · rw [List.getElem?_range hn]
    by_cases e : j = n
    · rw [if_pos e, if_pos (by omega)]
      simp only [Option.map_some, gset]
      rw [if_pos (by simp [e])]
    · rw [if_neg e]
      simp only [Option.map_some, gset]
      rw [if_neg (by omega)]
  · rw [List.getElem?_eq_none (by simp; omega)]
    split
    · split
      · omega
      · rfl
    · rfl
theorem grow_ne {g : Gd} {a c j : Nat} {b : Bool} (h : c ≠ a) : grow (gset g a j b) c = grow g c := by
  unfold grow gset
  apply List.map_congr_left
  intro k _
  rw [if_neg (by omega)]
end Go.Ml
end
section
set_option linter.unusedSimpArgs false
set_option linter.unusedVariables false
namespace Go.Ml
def onR (b : Nat) : List (List V) := (List.range 10).map fun i => [.msl (b + i) 0 10]
def gst (g : Gd) : Store := some ⟨1, [[.msl 1 0 10]]⟩ :: some ⟨1, onR 2⟩ :: (List.range 10).map fun a => some ⟨1, grow g a⟩
theorem gst_len (g : Gd) : (gst g).length = 12 := by simp [gst]
structure GridAt (s : Store) (b : Nat) (g : Gd) : Prop where
  p : objAt s b = some ⟨1, [[.msl (b + 1) 0 10]]⟩
  on : objAt s (b + 1) = some ⟨1, onR (b + 2)⟩
  row : ∀ a, a < 10 → objAt s (b + 2 + a) = some ⟨1, grow g a⟩
theorem gst_row {g : Gd} {a : Nat} (ha : a < 10) : objAt (gst g) (2 + a) = some ⟨1, grow g a⟩ := by
  rw [Nat.add_comm]
  show ((List.range 10).map fun a => some (⟨1, grow g a⟩ : Obj))[a]?.getD none = _
  rw [List.getElem?_map, List.getElem?_range ha]; rfl
theorem GridAt.lt {s : Store} {b : Nat} {g : Gd} (h : GridAt s b g) : b + 12 ≤ s.length := by
  have := objAt_lt (h.row 9 (by omega)); omega
theorem GridAt.frame {s s2 : Store} {b : Nat} {g : Gd} (h : GridAt s b g) (hs : ∀ q, b ≤ q → q < b + 12 → objAt s2 q = objAt s q) : GridAt s2 b g :=
  ⟨(hs _ (by omega) (by omega)).trans h.p, (hs _ (by omega) (by omega)).trans h.on, fun a ha => (hs _ (by omega) (by omega)).trans (h.row a ha)⟩
theorem GridAt.set {s : Store} {b : Nat} {g : Gd} (h : GridAt s b g) {i j : Nat} {x : Bool} (hi : i < 10) (hj : j < 10) : GridAt (s.set (b + 2 + i) (some ⟨1, (grow g i).set j [.bool x]⟩)) b (gset g i j x) := by
  have hl := h.lt
  refine ⟨(objAt_setne (by omega)).trans h.p, (objAt_setne (by omega)).trans h.on, fun a ha => ?_⟩
  by_cases e : a = i
  · subst e
    rw [objAt_seteq (by omega), grow_set]
  · rw [objAt_setne (by omega), h.row a ha, grow_ne e]
theorem mapO_on {ρ : Nat → Option Nat} {b b' : Nat} (h : ∀ i, i < 10 → ρ (b + i) = some (b' + i)) : mapO ρ ⟨1, onR b⟩ = ⟨1, onR b'⟩ := by
  unfold mapO onR
  congr 1
  rw [List.map_map]
  apply List.map_congr_left
  intro i hi
  simp [mapV, h i (List.mem_range.1 hi)]
theorem mapO_grow (f : Nat → Option Nat) (g : Gd) (a : Nat) : mapO f ⟨1, grow g a⟩ = ⟨1, grow g a⟩ := by
  unfold mapO
  congr 1
theorem place_range {b j : Nat} : ∀ n, j < n → place ((List.range n).map (b + ·)) (b + j) = some j := by
  intro n hj
  have h1 : ((List.range n).map (b + ·))[j]? = some (b + j) := by rw [List.getElem?_map, List.getElem?_range hj]; rfl
  have h2 : ((List.range n).map (b + ·)).Nodup := by
    refine List.pairwise_map.2 (List.nodup_range.imp fun hne e => hne (by omega))
  exact place_get h2 h1
def g12 (b : Nat) : List Nat := (List.range 12).map (b + ·)
theorem gst_range (g : Gd) : gst g = (List.range 12).map fun j => objAt (gst g) j := by
  apply List.ext_getElem?
  intro n
  rw [List.getElem?_map]
  by_cases h : n < 12
  · rw [List.getElem?_range h]
    simp only [Option.map_some, objAt]
    rw [List.getElem?_eq_getElem (by rw [gst_len]; exact h)]; rfl
  · rw [List.getElem?_eq_none (by rw [gst_len]; omega), List.getElem?_eq_none (by simp; omega)]; rfl
theorem mapO_row {ρ : Nat → Option Nat} {o o' : Nat} (h : ρ o = some o') {s l : Nat} : mapO ρ ⟨1, [[.msl o s l]]⟩ = ⟨1, [[.msl o' s l]]⟩ := by
  simp [mapO, mapV, h]
theorem GridAt.gc {s : Store} {b : Nat} {g : Gd} (h : GridAt s b g) : gcS (g12 b) s = gst g := by
  rw [gst_range g]
  unfold gcS
  rw [g12, List.map_map]
  apply List.map_congr_left
  intro j hj
  have hj := List.mem_range.1 hj
  show (objAt s (b + j)).map (mapO (place ((List.range 12).map (b + ·)))) = objAt (gst g) j
  by_cases h0 : j = 0
  · subst h0
    rw [Nat.add_zero, h.p]
    exact congrArg some (mapO_row (place_range 12 (by omega : 1 < 12)))
  by_cases h1 : j = 1
  · subst h1
    rw [h.on]
    refine congrArg some (mapO_on fun i hi => ?_)
    rw [show b + 2 + i = b + (2 + i) by omega]
    exact place_range 12 (by omega)
  obtain ⟨a, rfl⟩ : ∃ a, j = 2 + a := ⟨j - 2, by omega⟩
  rw [← Nat.add_assoc, h.row a (by omega), gst_row (by omega)]
  exact congrArg some (mapO_grow _ _ _)
end Go.Ml
namespace Go.Ml
end Go.Ml
end
section
set_option linter.unusedSimpArgs false
set_option linter.unusedVariables false
set_option maxRecDepth 100000
set_option maxHeartbeats 8000000
namespace Go.Ml
def F_spec_l06All : Fn := ⟨1, 20, [.tmp 2], (.seq (.reg false 0 [oN 2 (.mov (.c (.nils)))]) (.seq (.reg false 1 [oN 6 (.mkSl 11 [.int .i64 0, .int .i64 0, .bool false, .nils, .nils, .bool false, .nils, .nils, .bool false, .nils, .nils] 0 []), oK 3 1 (oV 6)]) (.seq (.seq (.reg false 0 [oN 7 (oV 0), oN 8 (.len (.t 7)), oN 9 (.mov (cI 0))]) (.block 0 (.loop (.seq (.reg false 0 [oN 10 (.bin .lss (.t 9) (.t 8))]) (.seq (.cond (.t 10) .skip (.exit 0)) (.seq (.block 1 (.seq (.reg false 1 [oK 11 1 (.idx 11 (.t 7) (.t 9)), oK 12 1 (.load 11 true (.t 11)), oN 5 (.alloc [.int .i64 0, .int .i64 0, .bool false, .nils, .nils, .bool false, .nils, .nils, .bool false, .nils, .nils]), ⟨none, none, 1, .store 11 (.t 5) (.t 12), []⟩]) (.reg false 2 [oK 13 2 (oV 3), oK 14 2 (.load 11 true (.t 5)), oK 15 2 (.call 197 [(.t 14)]), oN 16 (.mkSl 11 [.int .i64 0, .int .i64 0, .bool false, .nils, .nils, .bool false, .nils, .nils, .bool false, .nils, .nils] 1 [(0, (.t 15))]), oK 17 1 (.app 11 184 (.t 13) (.t 16)), oK 3 2 (oV 17)]))) (.reg false 0 [oN 18 (.bin .add (.t 9) (cI 1)), oN 9 (oV 18)]))))))) (.seq (.reg false 0 [oN 19 (oV 3), oN 2 (oV 19)]) .ret))))⟩
structure D_spec_l06All (T : Nat → Option Fn) : Prop where
  hT : T 194 = some F_spec_l06All
  d_spec_l06Copy : D_spec_l06Copy T
def F_spec_AddLink : Fn := ⟨2, 86, [.tmp 4, .cell 5 3 true, .tmp 6], (.seq (.reg false 2 [oN 3 (.box (.t 1)), oK 4 2 (.mov (.c (.nils))), oK 5 1 (.alloc [.bool false, .nils, .nils]), oK 6 2 (.mov (.c (.bool false)))]) (.seq (.seq (.reg false 0 [oN 13 (oV 0), oN 14 (.call 193 [(.t 13)]), oN 15 (.un .not (.t 14)), oN 16 (oV 15), oG 16 false 17 (.load 11 true (.t 3)), oG 16 false 18 (.call 83 [(.t 17)]), oG 16 false 19 (.un .not (.t 18)), oN 20 (.pick (.t 16) (.c (.bool true)) (.t 19))]) (.cond (.t 20) (.seq (.reg false 0 [oN 21 (.build [.bool false, .nils, .nils] []), oN 4 (.mov (.c (.nils))), oS (.store 3 (.t 5) (.t 21)), oN 6 (.mov (.c (.bool false)))]) .ret) .skip)) (.seq (.reg false 0 [oN 22 (oV 0), oN 23 (.call 194 [(.t 22)]), oN 7 (oV 23)]) (.seq (.reg false 0 [oN 8 (.mov (cI 0))]) (.seq (.block 0 (.loop (.seq (.seq (.reg true 0 [oN 24 (oV 8), oN 25 (oV 7), oA 26 0 (.len (.t 25)) [1], oA 27 0 (.bin .lss (.t 24) (.t 26)) [0, 2], oA 28 0 (oV 27) [3], oH 28 true 29 0 (oV 7) [4], oH 28 true 30 0 (oV 8) [4], oH 28 true 31 0 (.idx 11 (.t 29) (.t 30)) [5, 6, 4], oH 28 true 32 0 (.load 11 true (.t 31)) [7, 4], oH 28 true 33 0 (.load 11 true (.t 3)) [4], oH 28 true 34 0 (.call 195 [(.t 32), (.t 33)]) [8, 9, 4, 4], oA 35 0 (.pick (.t 28) (.t 34) (.c (.bool false))) [4, 10]]) (.cond (.t 35) .skip (.exit 0))) (.block 1 (.reg false 0 [oN 36 (oV 8), oN 37 (.bin .add (.t 36) (cI 1)), oN 8 (oV 37)]))))) (.seq (.seq (.reg true 0 [oN 38 (oV 8), oN 39 (oV 7), oA 40 0 (.len (.t 39)) [1], oA 41 0 (.bin .lss (.t 38) (.t 40)) [0, 2], oA 42 0 (oV 41) [3], oH 42 true 43 0 (.load 11 true (.t 3)) [4], oH 42 true 44 0 (oV 7) [4], oH 42 true 45 0 (oV 8) [4], oH 42 true 46 0 (.idx 11 (.t 44) (.t 45)) [6, 7, 4], oH 42 true 47 0 (.load 11 true (.t 46)) [8, 4], oH 42 true 48 0 (.call 195 [(.t 43), (.t 47)]) [5, 9, 4, 4], oH 42 true 49 0 (.un .not (.t 48)) [10, 4], oA 50 0 (.pick (.t 42) (.t 49) (.c (.bool false))) [4, 11]]) (.cond (.t 50) (.seq (.reg true 2 [oK 52 2 (oV 7), oK 53 2 (oV 8), oA 54 2 (.idx 11 (.t 52) (.t 53)) [0, 1], oA 55 2 (.load 11 true (.t 54)) [2], oK 56 2 (.load 11 true (.t 3)), oA 57 2 (.call 196 [(.t 55), (.t 56)]) [3, 4], oA 51 2 (oV 57) [5], oA 58 2 (.extr 0 (.t 51)) [6], oA 59 2 (.extr 1 (.t 51)) [6], oA 60 2 (.extr 2 (.t 51)) [6], oN 9 (.alloc [.int .i64 0, .int .i64 0, .bool false, .nils, .nils, .bool false, .nils, .nils, .bool false, .nils, .nils]), oK 10 1 (.alloc [.bool false, .nils, .nils]), ⟨none, none, 2, .store 11 (.t 9) (.t 58), [10, 7, 5, 0, 1, 2, 3, 4, 5, 6, 7, 10, 11]⟩, ⟨none, none, 2, .store 3 (.t 10) (.t 59), [11, 8, 12, 0, 1, 2, 3, 4, 5, 6, 7, 8, 10, 11, 12]⟩, oA 11 2 (oV 60) [9, 13, 0, 1, 2, 3, 4, 5, 6, 7, 8, 9, 10, 11, 12, 13]]) (.seq (.seq (.reg false 0 [oN 61 (oV 11), oN 62 (.un .not (.t 61))]) (.cond (.t 62) (.seq (.reg false 0 [oN 63 (.build [.bool false, .nils, .nils] []), oN 4 (.mov (.c (.nils))), oS (.store 3 (.t 5) (.t 63)), oN 6 (.mov (.c (.bool false)))]) .ret) .skip)) (.seq (.reg false 0 [oN 64 (oV 7), oN 65 (oV 8), oN 66 (.load 11 true (.t 9)), oN 67 (.idx 11 (.t 64) (.t 65)), oS (.store 11 (.t 67) (.t 66))]) (.seq (.reg true 0 [oN 68 (oV 7), oN 69 (.load 3 true (.t 10)), oA 4 0 (oV 68) [0, 0], ⟨none, none, 0, .store 3 (.t 5) (.t 69), [1, 2, 0, 1, 2]⟩, oA 6 0 (.mov (.c (.bool true))) [3, 0, 1, 2, 3]]) .ret)))) .skip)) (.seq (.reg false 2 [oN 70 (.mkSl 11 [.int .i64 0, .int .i64 0, .bool false, .nils, .nils, .bool false, .nils, .nils, .bool false, .nils, .nils] 0 []), oK 71 2 (oV 7), oK 72 2 (oV 8), oK 73 2 (.slice 11 (.t 71) none (some (.t 72))), oK 74 1 (.app 11 184 (.t 70) (.t 73)), oK 12 2 (oV 74)]) (.seq (.reg false 2 [oK 75 2 (oV 12), oK 76 2 (.load 11 true (.t 3)), oK 77 2 (.call 197 [(.t 76)]), oN 78 (.mkSl 11 [.int .i64 0, .int .i64 0, .bool false, .nils, .nils, .bool false, .nils, .nils, .bool false, .nils, .nils] 1 [(0, (.t 77))]), oK 79 1 (.app 11 184 (.t 75) (.t 78)), oK 12 2 (oV 79)]) (.seq (.reg false 1 [oK 80 1 (oV 12), oK 81 1 (oV 7), oK 82 1 (oV 8), oK 83 1 (.slice 11 (.t 81) (some (.t 82)) none), oN 84 (.app 11 184 (.t 80) (.t 83)), oK 85 1 (.call 36 [(cI 0)]), oK 4 1 (oV 84), ⟨none, none, 1, .store 3 (.t 5) (.t 85), []⟩, oK 6 1 (.mov (.c (.bool true)))]) .ret)))))))))⟩
structure D_spec_AddLink (T : Nat → Option Fn) : Prop where
  hT : T 188 = some F_spec_AddLink
  d_spec_RatFromInt : D_spec_RatFromInt T
  d_spec_IsValidLink : D_spec_IsValidLink T
  d_spec_IsLinkSet : D_spec_IsLinkSet T
  d_spec_l06All : D_spec_l06All T
  d_spec_l06Less : D_spec_l06Less T
  d_spec_MergeLinks : D_spec_MergeLinks T
  d_spec_l06Copy : D_spec_l06Copy T
def F_impl_addLink : Fn := ⟨2, 77, [.tmp 4, .cell 5 3 true, .tmp 6], (.seq (.reg false 2 [oN 3 (.box (.t 1)), oK 4 2 (.mov (.c (.nils))), oK 5 1 (.alloc [.bool false, .nils, .nils]), oK 6 2 (.mov (.c (.bool false)))]) (.seq (.reg false 0 [oN 7 (.mov (cI 0))]) (.seq (.block 0 (.loop (.seq (.seq (.reg true 0 [oN 12 (oV 7), oN 13 (oV 0), oA 14 0 (.len (.t 13)) [1], oA 15 0 (.bin .lss (.t 12) (.t 14)) [0, 2], oA 16 0 (oV 15) [3], oH 16 true 17 0 (oV 0) [4], oH 16 true 18 0 (oV 7) [4], oH 16 true 19 0 (.idx 11 (.t 17) (.t 18)) [5, 6, 4], oH 16 true 20 0 (.load 11 true (.t 19)) [7, 4], oH 16 true 21 0 (.load 11 true (.t 3)) [4], oH 16 true 22 0 (.call 111 [(.t 20), (.t 21)]) [8, 9, 4, 4], oA 23 0 (.pick (.t 16) (.t 22) (.c (.bool false))) [4, 10]]) (.cond (.t 23) .skip (.exit 0))) (.block 1 (.reg false 0 [oN 24 (oV 7), oN 25 (.bin .add (.t 24) (cI 1)), oN 7 (oV 25)]))))) (.seq (.reg false 2 [oN 26 (.mkSl 11 [.int .i64 0, .int .i64 0, .bool false, .nils, .nils, .bool false, .nils, .nils, .bool false, .nils, .nils] 0 []), oK 27 2 (oV 0), oK 28 2 (oV 7), oK 29 2 (.slice 11 (.t 27) none (some (.t 28))), oK 30 1 (.app 11 184 (.t 26) (.t 29)), oK 8 2 (oV 30)]) (.seq (.seq (.reg true 0 [oN 31 (oV 7), oN 32 (oV 0), oA 33 0 (.len (.t 32)) [1], oA 34 0 (.bin .eql (.t 31) (.t 33)) [0, 2], oA 35 0 (oV 34) [3], oH 35 false 36 0 (.load 11 true (.t 3)) [4], oH 35 false 37 0 (oV 0) [4], oH 35 false 38 0 (oV 7) [4], oH 35 false 39 0 (.idx 11 (.t 37) (.t 38)) [6, 7, 4], oH 35 false 40 0 (.load 11 true (.t 39)) [8, 4], oH 35 false 41 0 (.call 111 [(.t 36), (.t 40)]) [5, 9, 4, 4], oA 42 0 (.pick (.t 35) (.c (.bool true)) (.t 41)) [4, 10]]) (.cond (.t 42) (.seq (.reg false 2 [oK 43 2 (oV 8), oK 44 2 (.load 11 true (.t 3)), oN 45 (.mkSl 11 [.int .i64 0, .int .i64 0, .bool false, .nils, .nils, .bool false, .nils, .nils, .bool false, .nils, .nils] 1 [(0, (.t 44))]), oK 46 1 (.app 11 184 (.t 43) (.t 45)), oK 8 2 (oV 46)]) (.seq (.reg false 1 [oK 47 1 (oV 8), oK 48 1 (oV 0), oK 49 1 (oV 7), oK 50 1 (.slice 11 (.t 48) (some (.t 49)) none), oN 51 (.app 11 184 (.t 47) (.t 50)), oK 52 1 (.call 39 [(cI 0)]), oK 4 1 (oV 51), ⟨none, none, 1, .store 3 (.t 5) (.t 52), []⟩, oK 6 1 (.mov (.c (.bool true)))]) .ret)) .skip)) (.seq (.reg true 2 [oK 54 2 (oV 0), oK 55 2 (oV 7), oA 56 2 (.idx 11 (.t 54) (.t 55)) [0, 1], oA 57 2 (.load 11 true (.t 56)) [2], oK 58 2 (.load 11 true (.t 3)), oA 59 2 (.call 140 [(.t 57), (.t 58)]) [3, 4], oA 53 2 (oV 59) [5], oA 60 2 (.extr 0 (.t 53)) [6], oA 61 2 (.extr 1 (.t 53)) [6], oA 62 2 (.extr 2 (.t 53)) [6], oN 9 (.alloc [.int .i64 0, .int .i64 0, .bool false, .nils, .nils, .bool false, .nils, .nils, .bool false, .nils, .nils]), oK 10 1 (.alloc [.bool false, .nils, .nils]), ⟨none, none, 2, .store 11 (.t 9) (.t 60), [10, 7, 5, 0, 1, 2, 3, 4, 5, 6, 7, 10, 11]⟩, ⟨none, none, 2, .store 3 (.t 10) (.t 61), [11, 8, 12, 0, 1, 2, 3, 4, 5, 6, 7, 8, 10, 11, 12]⟩, oA 11 2 (oV 62) [9, 13, 0, 1, 2, 3, 4, 5, 6, 7, 8, 9, 10, 11, 12, 13]]) (.seq (.seq (.reg false 0 [oN 63 (oV 11), oN 64 (.un .not (.t 63))]) (.cond (.t 64) (.seq (.reg false 0 [oN 65 (.build [.bool false, .nils, .nils] []), oN 4 (.mov (.c (.nils))), oS (.store 3 (.t 5) (.t 65)), oN 6 (.mov (.c (.bool false)))]) .ret) .skip)) (.seq (.reg false 2 [oK 66 2 (oV 8), oK 67 2 (.load 11 true (.t 9)), oN 68 (.mkSl 11 [.int .i64 0, .int .i64 0, .bool false, .nils, .nils, .bool false, .nils, .nils, .bool false, .nils, .nils] 1 [(0, (.t 67))]), oK 69 1 (.app 11 184 (.t 66) (.t 68)), oK 8 2 (oV 69)]) (.seq (.reg true 1 [oK 70 1 (oV 8), oK 71 1 (oV 0), oK 72 1 (oV 7), oA 73 1 (.bin .add (.t 72) (cI 1)) [2], oA 74 1 (.slice 11 (.t 71) (some (.t 73)) none) [1, 3], oA 75 0 (.app 11 184 (.t 70) (.t 74)) [0, 4], oK 76 1 (.load 3 true (.t 10)), oA 4 1 (oV 75) [5, 5, 0, 1, 2, 3, 4, 5], ⟨none, none, 1, .store 3 (.t 5) (.t 76), [6, 7, 0, 1, 2, 3, 4, 5, 6, 7]⟩, oA 6 1 (.mov (.c (.bool true))) [8, 0, 1, 2, 3, 4, 5, 6, 7, 8]]) .ret)))))))))⟩
structure D_impl_addLink (T : Nat → Option Fn) : Prop where
  hT : T 130 = some F_impl_addLink
  d_impl_RatFromInt : D_impl_RatFromInt T
  d_impl_comesBefore : D_impl_comesBefore T
  d_impl_mergeLinks : D_impl_mergeLinks T
def F_impl_AddLink : Fn := ⟨2, 32, [.tmp 4, .cell 5 3 true, .tmp 6], (.seq (.reg false 2 [oN 3 (.box (.t 1)), oK 4 2 (.mov (.c (.nils))), oK 5 1 (.alloc [.bool false, .nils, .nils]), oK 6 2 (.mov (.c (.bool false)))]) (.seq (.seq (.reg false 0 [oN 10 (oV 0), oN 11 (.call 89 [(.t 10)]), oN 12 (.un .not (.t 11)), oN 13 (oV 12), oG 13 false 14 (.load 11 true (.t 3)), oG 13 false 15 (.call 84 [(.t 14)]), oG 13 false 16 (.un .not (.t 15)), oN 17 (.pick (.t 13) (.c (.bool true)) (.t 16))]) (.cond (.t 17) (.seq (.reg false 0 [oN 18 (.build [.bool false, .nils, .nils] []), oN 4 (.mov (.c (.nils))), oS (.store 3 (.t 5) (.t 18)), oN 6 (.mov (.c (.bool false)))]) .ret) .skip)) (.seq (.reg false 1 [oK 20 1 (oV 0), oK 21 1 (.load 11 true (.t 3)), oK 22 1 (.call 130 [(.t 20), (.t 21)]), oK 19 1 (oV 22), oK 23 1 (.extr 0 (.t 19)), oK 24 1 (.extr 1 (.t 19)), oK 25 1 (.extr 2 (.t 19)), oN 8 (.alloc [.bool false, .nils, .nils]), oK 7 1 (oV 23), ⟨none, none, 1, .store 3 (.t 8) (.t 24), []⟩, oK 9 1 (oV 25)]) (.seq (.seq (.reg false 0 [oN 26 (oV 9), oN 27 (.un .not (.t 26))]) (.cond (.t 27) (.seq (.reg false 0 [oN 28 (.build [.bool false, .nils, .nils] []), oN 4 (.mov (.c (.nils))), oS (.store 3 (.t 5) (.t 28)), oN 6 (.mov (.c (.bool false)))]) .ret) .skip)) (.seq (.reg true 0 [oN 29 (oV 7), oA 30 0 (.call 110 [(.t 29)]) [0], oN 31 (.load 3 true (.t 8)), oA 4 0 (oV 30) [1, 1, 0, 1], ⟨none, none, 0, .store 3 (.t 5) (.t 31), [2, 3, 0, 1, 2, 3]⟩, oA 6 0 (.mov (.c (.bool true))) [4, 0, 1, 2, 3, 4]]) .ret)))))⟩
structure D_impl_AddLink (T : Nat → Option Fn) : Prop where
  hT : T 365 = some F_impl_AddLink
  d_impl_IsValidLink : D_impl_IsValidLink T
  d_impl_IsLinkSet : D_impl_IsLinkSet T
  d_impl_copyLinks : D_impl_copyLinks T
  d_impl_addLink : D_impl_addLink T
end Go.Ml
end
section
set_option linter.unusedSimpArgs false
set_option linter.unusedVariables false
set_option maxRecDepth 100000
set_option maxHeartbeats 8000000
namespace Go.Ml
theorem szL_bd {α : Type} {f : α → Nat} {k : Nat} : ∀ {l : List α}, (∀ x ∈ l, f x ≤ k) → szL f l ≤ l.length * (k + 1)
  | [], _ => by simp [szL]
  | x :: l, h => by
    have h1 := h x (by simp)
    have h2 := szL_bd (f := f) (k := k) (l := l) fun y hy => h y (by simp [hy])
    unfold szL at h2 ⊢
    simp only [List.length_cons, List.map_cons, List.sum_cons]
    rw [Nat.succ_mul]
    omega
end Go.Ml
end
