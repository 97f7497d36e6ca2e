/- The theorem, calls. -/
import Derived.Test.YteiefahbhljlgaaZzSound
set_option linter.unusedSimpArgs false
namespace Go.Ml

theorem objAt_kill : ∀ (R : List Nat) (σ : Store) (o : Nat), objAt (killAll σ R) o = if o ∈ R then none else objAt σ o
  | [], σ, o => by simp [killAll]
  | r :: R, σ, o => by
    have ih := objAt_kill R (σ.set r none) o
    simp only [killAll, List.foldl_cons] at ih ⊢
    rw [ih]
    by_cases h1 : o ∈ R
    · simp [h1]
    · by_cases h2 : o = r
      · subst h2
        simp only [h1, if_false, List.mem_cons, true_or, if_true]
        unfold objAt
        rw [List.getElem?_set]
        simp only [if_true]
        split <;> rfl
      · simp only [h1, if_false, List.mem_cons, h2, or_self]
        unfold objAt
        rw [List.getElem?_set, if_neg (fun k => h2 k.symm)]

theorem len_kill : ∀ (R : List Nat) (σ : Store), (killAll σ R).length = σ.length
  | [], _ => rfl
  | r :: R, σ => by simpa [killAll] using len_kill R (σ.set r none)

def DM.kill (D : DM) (R : List Nat) : DM := fun o => if o ∈ R then (match D o with | .unborn => .unborn | _ => .dead) else D o

theorem kill_le (D : DM) (R : List Nat) (o : Nat) : DSle (D o) (D.kill R o) := by
  unfold DM.kill
  split
  · cases D o <;> simp [DSle]
  · exact DSle.refl _

theorem kill_live {D : DM} {R : List Nat} {o : Nat} {d : Desc} (h : D.kill R o = .live d) : D o = .live d ∧ o ∉ R := by
  unfold DM.kill at h
  split at h
  · cases hD : D o <;> simp [hD] at h
  · rename_i hn; exact ⟨h, hn⟩

/-- The arrival of the objects R, in a world of which no elder block has turned. -/
theorem SRel.killed {w w' : World} {D : DM} {M : Nat → Prop} {σ : Store} (h : SRel w D M σ) (R : List Nat) (hsz : w.heap.size ≤ w'.heap.size) (hb : ∀ b, b < w.heap.size → w'.heap[b]? = w.heap[b]?) :
    SRel w' (D.kill R) M (killAll σ R) ∧ Ext w D (XS M D) w' (D.kill R) (XS M (D.kill R)) := by
  have E : Ext w D (XS M D) w' (D.kill R) (XS M (D.kill R)) :=
    ⟨hsz, fun b hb' _ => hb b hb', fun b _ k => k.imp id fun ⟨o, d, h1, h2⟩ => ⟨o, d, (kill_live h1).1, h2⟩, kill_le D R⟩
  refine ⟨⟨?_, ?_, ?_, ?_, fun b hM => Nat.lt_of_lt_of_le (h.mlt b hM) hsz⟩, E⟩
  · intro o d ho
    obtain ⟨ho, hR⟩ := kill_live ho
    obtain ⟨ob, c, e, h1, h2, h3, h4, h5, h6, h7, h8, h9, h10, h11⟩ := h.live o d ho
    refine ⟨ob, c, e, by rw [objAt_kill, if_neg hR]; exact h1, h2, h3, h4, h5, Nat.lt_of_lt_of_le h6 hsz, by rw [hb _ h6]; exact h7, h8, h9, h10, fun i x hi => ?_⟩
    obtain ⟨k0, y, k1, k2⟩ := h11 i x hi
    exact ⟨k0, y, k1, rd_mono _ _ E k2⟩
  · intro o ob ho
    rw [objAt_kill] at ho
    split at ho
    · cases ho
    · rename_i hR
      obtain ⟨d, hd⟩ := h.alive o ob ho
      exact ⟨d, by simp only [DM.kill, if_neg hR]; exact hd⟩
  · intro o o' d d' ho ho' hbb
    exact h.inj o o' d d' (kill_live ho).1 (kill_live ho').1 hbb
  · intro o ho
    rw [len_kill] at ho
    have := h.far o ho
    simp only [DM.kill, this]
    split <;> rfl

section
variable {P : Program} {ν : Nat → Option Nat} {nt : Nat} {M : Nat → Prop} {w0 : World} {D0 : DM} {st : St} {D : DM} {a : Act} {w : World}

theorem run_call_op {o : Oper} {f : Nat} {as : List Src} (h : trI P ν o = some (.call f as)) : ∃ fid xs, ν fid = some f ∧ trArgs xs = some as ∧
    ∀ (a : Act) (w : World), (execOp a.eval o).run P w = .ok (.enter fid (xs.map a.eval).toArray) w := by
  obtain ⟨dst, op, type, pos, after, guard⟩ := o
  cases op with
  | call c =>
    obtain ⟨callee, args, argTypes⟩ := c
    cases callee with
    | invoke r m => simp [trI] at h
    | builtin b =>
      cases b <;> simp [trI] at h
      all_goals (repeat (split at h <;> first | (cases h; done) | skip))
    | value f' =>
      cases f' with
      | func fid =>
        simp only [trI] at h
        split at h <;> first | (cases h; done) | skip
        rename_i n fn as' h1 h2 h3
        split at h <;> first | (cases h; done) | skip
        rename_i hc
        simp only [Option.some.injEq, I.call.injEq] at h
        obtain ⟨rfl, rfl⟩ := h
        refine ⟨fid, args.toList, h1, h3, fun a w => ?_⟩
        have hb : fn.body.isNone = false := by
          have := hc.1
          cases hb : fn.body <;> simp_all
        have harr : (args.toList.map a.eval).toArray = args.map a.eval := by apply Array.ext'; simp
        simp only [execOp, Go.resolve, invoke, Sem.run_bind, Deferred.ofValue, Act.eval, Sem.run_pure, Result.andThen_ok, callFunc, run_program, h2, hc.2, hb, Bool.false_eq_true, if_false, Array.append_empty, Array.empty_append, harr]
      | _ => simp [trI] at h
  | slice t x lo hi mx =>
    exfalso
    cases mx with
    | some m => simp [trI] at h
    | none =>
      simp only [trI] at h
      repeat (split at h <;> first | (cases h; done) | skip)
  | build t parts =>
    exfalso
    simp only [trI] at h
    split at h <;> first | (cases h; done) | skip
    split at h <;> first | (cases h; done) | skip
    simp [Option.map_eq_some_iff] at h
  | _ =>
    exfalso
    simp only [trI] at h
    first
      | (simp [Option.map_eq_some_iff] at h; done)
      | (repeat (split at h <;> first | (cases h; done) | skip))

theorem trArgs_rd {σ : Store} (hS : SRel w D M σ) {env : Nat → V} (he : ∀ t, rd w D (XS M D) (env t) (a.tmps.getD t undef)) {R : List Nat} :
    ∀ (xs : List Operand) {as : List Src} {as' : List V}, trArgs xs = some as → as.mapM (fun s => resolve σ FD (s.ev env)) = some as' → (∀ o, o ∈ as.flatMap (fun s => reach σ FD (s.ev env)) → o ∈ R) →
      rdL w DM.none (fun b => M b ∨ ∃ o d, D o = .live d ∧ d.blk = b ∧ o ∉ R) as' (xs.map a.eval)
  | [], as, as', h, hm, _ => by
    simp only [trArgs, Option.some.injEq] at h; subst h
    simp at hm; subst hm
    simp [rdL]
  | x :: xs, as, as', h, hm, hR => by
    simp only [trArgs] at h
    split at h <;> first | (cases h; done) | skip
    rename_i s r h1 h2
    simp only [Option.some.injEq] at h; subst h
    simp only [List.mapM_cons, Option.pure_def, Option.bind_eq_bind, Option.bind_eq_some_iff, Option.some.injEq] at hm
    obtain ⟨v, k1, r', k2, rfl⟩ := hm
    simp only [List.map_cons, rdL]
    refine ⟨_, _, rfl, rd_resolve hS FD _ _ _ k1 (fun o ho => hR o (by simp [ho])) (rd_src he h1), trArgs_rd hS he xs h2 k2 (fun o ho => hR o ?_)⟩
    simp only [List.flatMap_cons, List.mem_append]; exact .inr ho

theorem trArgs_map {env : Nat → V} (he : ∀ t, rd w D (XS M D) (env t) (a.tmps.getD t undef)) {D' : DM} {g : Nat → Option Nat} (hg : ∀ o o', g o = some o' → DSle (D o) (D' o')) :
    ∀ (xs : List Operand) {as : List Src}, trArgs xs = some as → rdL w D' (XS M D) (as.map fun s => mapV g (s.ev env)) (xs.map a.eval)
  | [], as, h => by simp only [trArgs, Option.some.injEq] at h; subst h; simp [rdL]
  | x :: xs, as, h => by
    simp only [trArgs] at h
    split at h <;> first | (cases h; done) | skip
    rename_i s r h1 h2
    simp only [Option.some.injEq] at h; subst h
    simp only [List.map_cons, rdL]
    exact ⟨_, _, rfl, rd_map hg _ _ (rd_src he h1), trArgs_map he hg xs h2⟩

theorem rdL_mono' {X X' : Nat → Prop} {xs : List V} {ys : List Value} (h : rdL w D X xs ys) (hX : ∀ b, X' b → X b) : rdL w D X' xs ys :=
  rdL_mono xs ys ⟨Nat.le_refl _, fun _ _ _ => rfl, fun b _ => hX b, fun _ => DSle.refl _⟩ h

theorem enter_wp {o : Oper} {K : Act → World → Prop} {Q : Exit → Act → World → Prop} {f : FuncId} {args : Array Value} (h : (execOp a.eval o).run P w = .ok (.enter f args) w)
    {R : Value → World → Prop} (hc : Calls P f args w fun e w' => ∃ v, e = .returned v ∧ R v w') (hK : ∀ v w', R v w' → K (a.put o.dst v) w') : o.wp P a w K Q := by
  unfold Oper.wp
  rw [h]
  refine hc.mono ?_
  rintro e w' ⟨v, rfl, hr⟩
  exact hK v w' hr

theorem opOk_callP {x : OpI} {f : Nat} {as : List Src} {as' : List V} {r : V} {R : List Nat} (hg : ∀ g want, x.g = some (g, want) → st.env g = .bool want) (hi : x.i = .call f as)
    (ha : as.mapM (fun s => resolve st.objs FD (s.ev st.env)) = some as') (ih : FnOk P ν f as' [] r [])
    (hR : R = if scalar SD r then [] else as.flatMap fun s => reach st.objs FD (s.ev st.env)) :
    OpOk P ν x st { st with env := updO st.env x.dst r, objs := killAll st.objs R } := by
  refine ⟨rfl, rfl, by simp [len_kill], ?_⟩
  intro ops dr nt m k o htr M w0 D0 D a w hs _ K Q hK
  obtain ⟨t1, t2, t3, t4⟩ := trOp_spec htr
  rw [if_pos ((wanted_iff hs t4).1 hg)]
  rw [hi] at t1
  obtain ⟨fid, xs, c1, c2, c3⟩ := run_call_op t1
  have hrd := trArgs_rd hs.store hs.env xs c2 ha (R := as.flatMap fun s => reach st.objs FD (s.ev st.env)) (fun o h => h)
  let X' : Nat → Prop := fun b => M b ∨ ∃ o d, D o = .live d ∧ d.blk = b ∧ o ∉ as.flatMap fun s => reach st.objs FD (s.ev st.env)
  have hX : ∀ b, XS X' DM.none b → X' b := by
    rintro b (h | ⟨o, d, h, _⟩)
    · exact h
    · simp [DM.none] at h
  have hlt : ∀ b, X' b → b < w.heap.size := by
    rintro b (h | ⟨o, d, h, rfl, _⟩)
    · exact hs.store.mlt b h
    · obtain ⟨_, _, _, _, _, _, _, _, h6, _⟩ := hs.store.live o d h
      exact h6
  have hcall := ih fid c1 w X' DM.none (xs.map a.eval).toArray (by simpa using rdL_mono' hrd hX)
    ⟨fun o d h => by simp [DM.none] at h, fun o ob h => by simp [objAt] at h, fun o o' d d' h => by simp [DM.none] at h, fun _ _ => rfl, hlt⟩
  refine enter_wp (c3 a w) (R := fun v w' => ∃ D'c, rd w' D'c (XS X' D'c) r v ∧ SRel w' D'c X' [] ∧ Gr (Own DM.none) w w') (hcall.mono ?_) ?_
  · rintro e w' ⟨v, D', rfl, h1, h2, h3, _⟩
    exact ⟨v, rfl, D', h1, h2, h3⟩
  · rintro v w' ⟨D'c, h1, h2, h3⟩
    have hsame : ∀ b, b < w.heap.size → w'.heap[b]? = w.heap[b]? := fun b hb => h3.block b hb (by rintro ⟨o, d, h, _⟩; simp [DM.none] at h)
    have hk := hs.store.killed R h3.size hsame
    have hr : rd w' (D.kill R) (XS M (D.kill R)) r v := by
      by_cases hsc : scalar SD r = true
      · exact rd_scalar SD r v hsc h1
      · rw [if_neg hsc] at hR
        refine rd_mono r v ⟨Nat.le_refl _, fun _ _ _ => rfl, fun b _ hb => ?_, fun o => by rw [h2.far o (Nat.zero_le _)]; trivial⟩ h1
        rcases hb with h | ⟨o, d, ho, hbb⟩
        · exact .inl (.inl h)
        · obtain ⟨k1, k2⟩ := kill_live ho
          exact .inl (.inr ⟨o, d, k1, hbb, by rw [← hR]; exact k2⟩)
    rw [t2]
    refine hK (D.kill R) _ w' ⟨rd_put (fun t => rd_mono _ _ hk.2 (hs.env t)) (fun d hd => by rw [hs.tm]; exact t3 d (t2.trans hd)) hr, ?_, ?_, hk.1, ?_, ?_, fun o ho => (hs.kp o ho).trans (kill_le D R o)⟩ ?_
    · rw [← hs.tm]; cases x.dst <;> simp [Act.put]
    · rw [← hs.df]; cases x.dst <;> rfl
    · exact hs.gr.trans (h3.mono fun b _ ⟨o, d, h, _⟩ => by simp [DM.none] at h)
    · intro o d ho; exact hs.fr o d (kill_live ho).1
    · intro o _ h _; simp only [DM.kill, h]; split <;> rfl
end
end Go.Ml
