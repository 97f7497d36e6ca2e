/- The theorem: calls that are handed objects; renumbering. -/
import Derived.Test.YteiefahbhljlgaaZzSound2
set_option linter.unusedSimpArgs false
namespace Go.Ml

theorem place_some : ∀ {ρ : List Nat} {o j : Nat}, place ρ o = some j → ρ[j]? = some o
  | [], o, j, h => by simp [place] at h
  | r :: ρ, o, j, h => by
    simp only [place] at h
    split at h
    · rename_i e; cases h; simp [e]
    · simp only [Option.map_eq_some_iff] at h
      obtain ⟨k, h1, rfl⟩ := h
      simpa using place_some h1

theorem place_none : ∀ {ρ : List Nat} {o : Nat}, place ρ o = none → o ∉ ρ
  | [], _, _ => by simp
  | r :: ρ, o, h => by
    simp only [place] at h
    split at h
    · cases h
    · rename_i e
      simp only [Option.map_eq_none_iff] at h
      simp only [List.mem_cons, not_or]
      exact ⟨fun k => e k.symm, place_none h⟩

theorem place_get {ρ : List Nat} (hn : ρ.Nodup) {o j : Nat} (h : ρ[j]? = some o) : place ρ o = some j := by
  cases hp : place ρ o with
  | none => exact absurd (List.mem_of_getElem? h) (place_none hp)
  | some i =>
    have := place_some hp
    have hi := (List.getElem?_eq_some_iff.1 this)
    have hj := (List.getElem?_eq_some_iff.1 h)
    congr 1
    exact (List.getElem_inj (h₀ := hi.1) (h₁ := hj.1) hn).1 (hi.2.trans hj.2.symm)

def DM.pick (D : DM) (ρ : List Nat) : DM := fun j => match ρ[j]? with
  | .some o => D o
  | .none => .unborn

theorem pick_place {D : DM} {ρ : List Nat} (o j : Nat) (h : place ρ o = some j) : DSle (D o) (D.pick ρ j) := by
  simp only [DM.pick, place_some h]; exact DSle.refl _

theorem objAt_gcS {ρ : List Nat} {σ : Store} {j : Nat} : objAt (gcS ρ σ) j = match ρ[j]? with
    | some o => (objAt σ o).map (mapO (place ρ))
    | none => none := by
  unfold gcS
  rw [objAt, List.getElem?_map]
  cases ρ[j]? <;> rfl

theorem flatten_mapO {g : Nat → Option Nat} (ob : Obj) : (mapO g ob).rows.flatten = ob.rows.flatten.map (mapV g) := by
  simp [mapO, List.map_flatten]

section
variable {w : World} {D : DM} {M M' : Nat → Prop} {σ : Store} {ρ : List Nat}

theorem xs_pick (hM : ∀ b, M' b → XS M D b) : ∀ b, XS M' (D.pick ρ) b → XS M D b := by
  rintro b (h | ⟨j, d, hj, rfl⟩)
  · exact hM b h
  · simp only [DM.pick] at hj
    split at hj
    · exact .inr ⟨_, d, hj, rfl⟩
    · cases hj

theorem SRel.gcS (h : SRel w D M σ) (hn : ρ.Nodup) (hM : ∀ b, M' b → M b ∨ ∃ o d, D o = .live d ∧ d.blk = b ∧ o ∉ ρ) : SRel w (D.pick ρ) M' (gcS ρ σ) := by
  have hX : ∀ b, XS M' (D.pick ρ) b → XS M D b := xs_pick fun b hb => (hM b hb).imp id fun ⟨o, d, h1, h2, _⟩ => ⟨o, d, h1, h2⟩
  have live' : ∀ j d, D.pick ρ j = .live d → ∃ o, ρ[j]? = some o ∧ D o = .live d := by
    intro j d hj
    simp only [DM.pick] at hj
    split at hj
    · exact ⟨_, by assumption, hj⟩
    · cases hj
  refine ⟨?_, ?_, ?_, ?_, ?_⟩
  · intro j d hj
    obtain ⟨o, ho, hd⟩ := live' j d hj
    obtain ⟨ob, c, e, h1, h2, h3, h4, h5, h6, h7, h8, h9, h10, h11⟩ := h.live o d hd
    refine ⟨mapO (place ρ) ob, c, e, by rw [objAt_gcS, ho]; simp [h1], h2, by simp [mapO, h3], h4, ?_, h6, h7, h8, h9, ?_, fun i x hi => ?_⟩
    · intro hb
      rcases hM _ hb with hb | ⟨o', d', ho', hbb, hnr⟩
      · exact h5 hb
      · exact hnr (h.inj o' o d' d ho' hd hbb ▸ List.mem_of_getElem? ho)
    · intro r hr
      simp only [mapO, List.mem_map] at hr
      obtain ⟨r0, hr0, rfl⟩ := hr
      simpa [mapO] using h10 r0 hr0
    · rw [flatten_mapO, List.getElem?_map, Option.map_eq_some_iff] at hi
      obtain ⟨x0, hx0, rfl⟩ := hi
      obtain ⟨k0, y, k1, k2⟩ := h11 i x0 hx0
      refine ⟨leaf_map k0, y, k1, ?_⟩
      exact rd_mono _ _ ⟨Nat.le_refl _, fun _ _ _ => rfl, fun b _ => hX b, fun _ => DSle.refl _⟩ (rd_map (D' := D.pick ρ) (fun o j => pick_place o j) x0 y k2)
  · intro j ob hj
    rw [objAt_gcS] at hj
    split at hj
    · rename_i o ho
      simp only [Option.map_eq_some_iff] at hj
      obtain ⟨ob0, h1, _⟩ := hj
      obtain ⟨d, hd⟩ := h.alive o ob0 h1
      exact ⟨d, by simp only [DM.pick, ho]; exact hd⟩
    · cases hj
  · intro j j' d d' hj hj' hb
    obtain ⟨o, ho, hd⟩ := live' j d hj
    obtain ⟨o', ho', hd'⟩ := live' j' d' hj'
    have := h.inj o o' d d' hd hd' hb
    subst this
    have e1 := place_get hn ho
    have e2 := place_get hn ho'
    rw [e1] at e2; exact Option.some.inj e2
  · intro j hj
    simp only [DM.pick]
    rw [List.getElem?_eq_none (by simpa [Ml.gcS] using hj)]
  · intro b hb
    rcases hM b hb with hb | ⟨o, d, ho, rfl, _⟩
    · exact h.mlt b hb
    · obtain ⟨_, _, _, _, _, _, _, _, h6, _⟩ := h.live o d ho
      exact h6
end

section
variable {P : Program} {ν : Nat → Option Nat} {nt : Nat} {M : Nat → Prop} {w0 : World} {D0 : DM} {st : St} {D : DM} {a : Act} {w : World}

theorem rd_pick {ρ : List Nat} {x : V} {v : Value} (h : rd w D (XS M D) x v) : rd w (D.pick ρ) (XS M (D.pick ρ)) (mapV (place ρ) x) v :=
  rd_mono _ _ ⟨Nat.le_refl _, fun _ _ _ => rfl, fun b _ => xs_pick (fun _ h => .inl h) b, fun _ => DSle.refl _⟩ (rd_map (D' := D.pick ρ) (fun o j => pick_place o j) x v h)

theorem SR.gc {ρ : List Nat} (h : SR nt M w0 D0 st D a w) (hn : ρ.Nodup) (hρ : ∀ i, i < st.keep → ρ[i]? = some i) : SR nt M w0 D0 (st.gc ρ) (D.pick ρ) a w := by
  refine ⟨fun t => rd_pick (h.env t), h.tm, h.df, h.store.gcS hn (fun b hb => .inl hb), h.gr, ?_, ?_⟩
  · intro j d hj
    simp only [DM.pick] at hj
    split at hj
    · exact h.fr _ d hj
    · cases hj
  · intro o ho
    have ho' : o < st.keep := ho
    simp only [DM.pick, hρ o ho']
    exact h.kp o ho'

theorem fnOk_gcF {f : Nat} {args : List V} {σ σ' : Store} {r : V} {ρ : List Nat} (hn : ρ.Nodup) (hρ : ∀ i, i < σ.length → ρ[i]? = some i) (ih : FnOk P ν f args σ r σ') :
    FnOk P ν f args σ (mapV (place ρ) r) (gcS ρ σ') := by
  intro fid hf w M D vals h1 h2
  refine (ih fid hf w M D vals h1 h2).mono ?_
  rintro e w' ⟨v, D', rfl, k1, k2, k3, k4, k5⟩
  refine ⟨v, D'.pick ρ, rfl, rd_pick k1, k2.gcS hn (fun b hb => .inl hb), k3, ?_, ?_⟩
  · intro j d hj
    simp only [DM.pick] at hj
    split at hj
    · exact k4 _ d hj
    · cases hj
  · intro o ho
    simp only [DM.pick, hρ o ho]
    exact k5 o ho

theorem fnOk_frz {f : Nat} {args : List V} {σ' : Store} {r r' : V} (hr : resolve σ' FD r = some r') (ih : FnOk P ν f args [] r σ') : FnOk P ν f args [] r' [] := by
  intro fid hf w M D vals h1 h2
  refine (ih fid hf w M D vals h1 h2).mono ?_
  rintro e w' ⟨v, D', rfl, k1, k2, k3, k4, k5⟩
  refine ⟨v, DM.none, rfl, ?_, ?_, k3, fun o d h => by simp [DM.none] at h, fun o ho => by simp at ho⟩
  · have := rd_resolve k2 (R := reach σ' FD r) FD r r' v hr (fun o h => h) k1
    refine rd_mono _ _ ⟨Nat.le_refl _, fun _ _ _ => rfl, fun b _ hb => ?_, fun _ => DSle.refl _⟩ this
    rcases hb with h | ⟨o, d, h, _⟩
    · exact .inl h
    · simp [DM.none] at h
  · exact ⟨fun o d h => by simp [DM.none] at h, fun o ob h => by simp [objAt] at h, fun o o' d d' h => by simp [DM.none] at h, fun _ _ => rfl, k2.mlt⟩

theorem objAt_putBack {ρ : List Nat} {σ σ' : Store} {o : Nat} : objAt (putBack ρ σ σ') o = if o < σ.length then
      (match place ρ o with | some j => (objAt σ' j).map (mapO (back ρ σ.length)) | none => objAt σ o)
    else (objAt σ' (ρ.length + (o - σ.length))).map (mapO (back ρ σ.length)) := by
  unfold putBack
  rw [objAt]
  by_cases h : o < σ.length
  · rw [List.getElem?_append_left (by simpa using h), if_pos h, List.getElem?_mapIdx, List.getElem?_eq_getElem h]
    simp only [Option.map_some, Option.getD_some]
    cases place ρ o with
    | some j => rfl
    | none => simp [objAt, h]
  · rw [List.getElem?_append_right (by simpa using h), if_neg h]
    simp only [List.length_mapIdx, List.getElem?_map, List.getElem?_drop]
    unfold objAt
    cases σ'[ρ.length + (o - σ.length)]? <;> rfl

theorem opOk_callR {x : OpI} {f : Nat} {as : List Src} {r : V} {σ' : Store} {ρ : List Nat} (hn : ρ.Nodup) (hρ : ∀ o, o ∈ ρ → (objAt st.objs o).isSome = true) (hg : ∀ g want, x.g = some (g, want) → st.env g = .bool want) (hi : x.i = .call f as)
    (ih : FnOk P ν f (as.map fun s => mapV (place ρ) (s.ev st.env)) (gcS ρ st.objs) r σ') :
    OpOk P ν x st { st with env := updO st.env x.dst (mapV (back ρ st.objs.length) r), objs := putBack ρ st.objs σ' } := by
  refine ⟨rfl, rfl, by simp [putBack], ?_⟩
  intro ops dr nt m k o htr M w0 D0 D a w hs _ K Q hK
  obtain ⟨t1, t2, t3, t4⟩ := trOp_spec htr
  rw [if_pos ((wanted_iff hs t4).1 hg)]
  rw [hi] at t1
  obtain ⟨fid, xs, c1, c2, c3⟩ := run_call_op t1
  let Mc : Nat → Prop := fun b => M b ∨ ∃ o d, D o = .live d ∧ d.blk = b ∧ o ∉ ρ
  have hMc : ∀ b, Mc b → XS M D b := fun b hb => hb.imp id fun ⟨o, d, h1, h2, _⟩ => ⟨o, d, h1, h2⟩
  have hargs := trArgs_map (D' := D.pick ρ) hs.env (fun o j => pick_place (D := D) (ρ := ρ) o j) xs c2
  have hcall := ih fid c1 w Mc (D.pick ρ) (xs.map a.eval).toArray (by simpa using rdL_mono' hargs (xs_pick hMc)) (hs.store.gcS hn (fun b hb => hb))
  have hρlt : ∀ o, o ∈ ρ → o < st.objs.length := by
    intro o ho
    have := hρ o ho
    rcases Nat.lt_or_ge o st.objs.length with h | h
    · exact h
    · rw [objAt, List.getElem?_eq_none h] at this; cases this
  have hρD : ∀ o, o ∈ ρ → ∃ d, D o = .live d := by
    intro o ho
    obtain ⟨ob, hob⟩ := Option.isSome_iff_exists.1 (hρ o ho)
    exact hs.store.alive o ob hob
  have hlen : (gcS ρ st.objs).length = ρ.length := by simp [gcS]
  refine enter_wp (c3 a w) (R := fun v w' => ∃ D'c, rd w' D'c (XS Mc D'c) r v ∧ SRel w' D'c Mc σ' ∧ Gr (Own (D.pick ρ)) w w' ∧ (∀ o d, D'c o = .live d → Own (D.pick ρ) d.blk ∨ w.heap.size ≤ d.blk) ∧ ∀ j, j < ρ.length → DSle (D.pick ρ j) (D'c j)) (hcall.mono ?_) ?_
  · rintro e w' ⟨v, D', rfl, h1, h2, h3, h4, h5⟩
    exact ⟨v, rfl, D', h1, h2, h3, h4, fun j hj => h5 j (by rw [hlen]; exact hj)⟩
  · rintro v w' ⟨Dc, h1, h2, h3, h4, h5⟩
    let n := st.objs.length
    let D' : DM := fun o => match place ρ o with
      | some j => Dc j
      | none => if n ≤ o then Dc (ρ.length + (o - n)) else D o
    have dPlace : ∀ o j, place ρ o = some j → D' o = Dc j := fun o j h => by simp only [D', h]
    have dFar : ∀ o, n ≤ o → D' o = Dc (ρ.length + (o - n)) := by
      intro o ho
      have : place ρ o = none := by
        cases hp : place ρ o with
        | none => rfl
        | some j => have := hρlt o (List.mem_of_getElem? (place_some hp)); omega
      simp only [D', this, if_pos ho]
    have dOld : ∀ o, o < n → o ∉ ρ → D' o = D o := by
      intro o ho hno
      have : place ρ o = none := by
        cases hp : place ρ o with
        | none => rfl
        | some j => exact absurd (List.mem_of_getElem? (place_some hp)) hno
      simp only [D', this, if_neg (by omega : ¬ n ≤ o)]
    -- where a live object of D' comes from
    have dFrom : ∀ o d, D' o = .live d → (∃ j, Dc j = .live d ∧ back ρ n j = some o) ∨ (o < n ∧ o ∉ ρ ∧ D o = .live d) := by
      intro o d ho
      cases hp : place ρ o with
      | some j =>
        rw [dPlace o j hp] at ho
        have hj := place_some hp
        exact .inl ⟨j, ho, by simp only [back]; rw [if_pos (List.getElem?_eq_some_iff.1 hj).1]; exact hj⟩
      | none =>
        by_cases hno : n ≤ o
        · rw [dFar o hno] at ho
          exact .inl ⟨_, ho, by simp only [back]; rw [if_neg (by omega)]; congr 1; omega⟩
        · have := place_none hp
          rw [dOld o (by omega) this] at ho
          exact .inr ⟨by omega, this, ho⟩
    have dBack : ∀ j o, back ρ n j = some o → D' o = Dc j := by
      intro j o hj
      simp only [back] at hj
      split at hj
      · exact dPlace o j (place_get hn hj)
      · simp only [Option.some.injEq] at hj
        rw [dFar o (by omega)]; congr 1; omega
    have hback : ∀ j o, back ρ n j = some o → DSle (Dc j) (D' o) := fun j o h => by rw [dBack j o h]; exact DSle.refl _
    have hX : ∀ b, XS M D' b → XS Mc Dc b := by
      rintro b (h | ⟨o, d, ho, rfl⟩)
      · exact .inl (.inl h)
      · rcases dFrom o d ho with ⟨j, hj, _⟩ | ⟨_, hno, hd⟩
        · exact .inr ⟨j, d, hj, rfl⟩
        · exact .inl (.inr ⟨o, d, hd, rfl, hno⟩)
    have hown : ∀ b, Own (D.pick ρ) b → Own D b := by
      rintro b ⟨j, d, hj, rfl⟩
      simp only [DM.pick] at hj
      split at hj
      · exact ⟨_, d, hj, rfl⟩
      · cases hj
    have E : Ext w D (XS M D) w' D' (XS M D') := by
      refine ⟨h3.size, fun b hb hx => h3.block b hb (fun ho => hx (.inr (hown b ho))), ?_, ?_⟩
      · rintro b hb (h | ⟨o, d, ho, rfl⟩)
        · exact .inl h
        · rcases dFrom o d ho with ⟨j, hj, _⟩ | ⟨_, _, hd⟩
          · rcases h4 j d hj with h | h
            · exact .inr (hown _ h)
            · omega
          · exact .inr ⟨o, d, hd, rfl⟩
      · intro o
        cases hp : place ρ o with
        | some j =>
          rw [dPlace o j hp]
          have hj := place_some hp
          have := h5 j (List.getElem?_eq_some_iff.1 hj).1
          simp only [DM.pick, hj] at this
          exact this
        | none =>
          by_cases hno : n ≤ o
          · rw [hs.store.far o hno]; trivial
          · rw [dOld o (by omega) (place_none hp)]; exact DSle.refl _
    have hmapX : ∀ {x : V} {v : Value}, rd w' Dc (XS Mc Dc) x v → rd w' D' (XS M D') (mapV (back ρ n) x) v := fun h =>
      rd_mono _ _ ⟨Nat.le_refl _, fun _ _ _ => rfl, fun b _ => hX b, fun _ => DSle.refl _⟩ (rd_map (D' := D') hback _ _ h)
    have hnew : ∀ o j, D' o = Dc j → objAt (putBack ρ st.objs σ') o = (objAt σ' j).map (mapO (back ρ n)) → ∀ d, Dc j = .live d → ∃ ob c e, objAt (putBack ρ st.objs σ') o = some ob ∧ d.sz = ob.sz ∧ d.n = ob.rows.length ∧ 0 < d.sz ∧ ¬ M d.blk ∧ d.blk < w'.heap.size ∧
        w'.heap[d.blk]? = some (.cells c e (0, 0)) ∧ c.size = d.cap ∧ d.bas + d.n * d.sz ≤ d.cap ∧ (∀ r ∈ ob.rows, r.length = ob.sz) ∧
        ∀ (i : Nat) (x : V), ob.rows.flatten[i]? = some x → x.leaf = true ∧ ∃ y, c[d.bas + i]? = some y ∧ rd w' D' (XS M D') x y := by
      intro o j _ hat d hd
      obtain ⟨ob, c, e, g1, g2, g3, g4, g5, g6, g7, g8, g9, g10, g11⟩ := h2.live j d hd
      refine ⟨mapO (back ρ n) ob, c, e, by rw [hat, g1]; rfl, g2, by simp [mapO, g3], g4, fun hm => g5 (.inl hm), g6, g7, g8, g9, ?_, fun i x hi => ?_⟩
      · intro r hr
        simp only [mapO, List.mem_map] at hr
        obtain ⟨r0, hr0, rfl⟩ := hr
        simpa [mapO] using g10 r0 hr0
      · rw [flatten_mapO, List.getElem?_map, Option.map_eq_some_iff] at hi
        obtain ⟨x0, hx0, rfl⟩ := hi
        obtain ⟨k0, y, k1, k2⟩ := g11 i x0 hx0
        exact ⟨leaf_map k0, y, k1, hmapX k2⟩
    have hst : SRel w' D' M (putBack ρ st.objs σ') := by
      refine ⟨?_, ?_, ?_, ?_, fun b hb => Nat.lt_of_lt_of_le (hs.store.mlt b hb) h3.size⟩
      · intro o d ho
        cases hp : place ρ o with
        | some j =>
          rw [dPlace o j hp] at ho
          refine hnew o j (dPlace o j hp) ?_ d ho
          rw [objAt_putBack, if_pos (hρlt o (List.mem_of_getElem? (place_some hp))), hp]
        | none =>
          by_cases hno : n ≤ o
          · rw [dFar o hno] at ho
            refine hnew o _ (dFar o hno) ?_ d ho
            rw [objAt_putBack, if_neg (by omega)]
          · have hnp := place_none hp
            rw [dOld o (by omega) hnp] at ho
            obtain ⟨ob, c, e, g1, g2, g3, g4, g5, g6, g7, g8, g9, g10, g11⟩ := hs.store.live o d ho
            have hnotown : ¬ Own (D.pick ρ) d.blk := by
              rintro ⟨j, d', hj, hb⟩
              simp only [DM.pick] at hj
              split at hj
              · rename_i o' ho'
                have := hs.store.inj _ _ _ _ hj ho hb
                subst this
                exact hnp (List.mem_of_getElem? ho')
              · cases hj
            refine ⟨ob, c, e, by rw [objAt_putBack, if_pos (by omega), hp]; exact g1, g2, g3, g4, g5, Nat.lt_of_lt_of_le g6 h3.size, by rw [h3.block _ g6 hnotown]; exact g7, g8, g9, g10, fun i x hi => ?_⟩
            obtain ⟨k0, y, k1, k2⟩ := g11 i x hi
            exact ⟨k0, y, k1, rd_mono _ _ E k2⟩
      · intro o ob ho
        rw [objAt_putBack] at ho
        split at ho
        · split at ho
          · rename_i j hp
            simp only [Option.map_eq_some_iff] at ho
            obtain ⟨ob0, h, _⟩ := ho
            rw [dPlace o j hp]
            exact h2.alive j ob0 h
          · rename_i hp
            rw [dOld o (by assumption) (place_none hp)]
            exact hs.store.alive o ob ho
        · rename_i hlt
          simp only [Option.map_eq_some_iff] at ho
          obtain ⟨ob0, h, _⟩ := ho
          rw [dFar o (by omega)]
          exact h2.alive _ ob0 h
      · intro o o' d d' ho ho' hb
        rcases dFrom o d ho with ⟨j, hj, hbk⟩ | ⟨a1, a2, a3⟩ <;> rcases dFrom o' d' ho' with ⟨j', hj', hbk'⟩ | ⟨b1, b2, b3⟩
        · have := h2.inj j j' d d' hj hj' hb
          subst this
          rw [hbk] at hbk'; exact Option.some.inj hbk'
        · obtain ⟨_, _, _, _, _, _, _, g5, _⟩ := h2.live j d hj
          exact absurd (.inr ⟨o', d', b3, hb.symm, b2⟩) g5
        · obtain ⟨_, _, _, _, _, _, _, g5, _⟩ := h2.live j' d' hj'
          exact absurd (.inr ⟨o, d, a3, hb, a2⟩) g5
        · exact hs.store.inj o o' d d' a3 b3 hb
      · intro o ho
        have hlo : n + (σ'.length - ρ.length) ≤ o := by simpa [putBack] using ho
        rw [dFar o (by omega)]
        exact h2.far _ (by omega)
    rw [t2]
    refine hK D' _ w' ⟨rd_put (fun t => rd_mono _ _ E (hs.env t)) (fun d hd => by rw [hs.tm]; exact t3 d (t2.trans hd)) (hmapX h1), ?_, ?_, hst, ?_, ?_, fun o ho => (hs.kp o ho).trans (E.ds o)⟩ ?_
    · rw [← hs.tm]; cases x.dst <;> simp [Act.put]
    · rw [← hs.df]; cases x.dst <;> rfl
    · exact hs.gr.trans (h3.mono fun b _ ho => by obtain ⟨o, d, h, hb⟩ := hown b ho; rw [← hb]; exact hs.fr o d h)
    · intro o d ho
      rcases dFrom o d ho with ⟨j, hj, _⟩ | ⟨_, _, hd⟩
      · rcases h4 j d hj with h | h
        · obtain ⟨q, d', hq, hb⟩ := hown _ h
          rw [← hb]; exact hs.fr q d' hq
        · exact .inr (Nat.le_trans hs.gr.size h)
      · exact hs.fr o d hd
    · intro o ho hu _
      have hno : o ∉ ρ := fun h => by obtain ⟨d, hd⟩ := hρD o h; rw [hd] at hu; cases hu
      rw [dOld o ho hno]; exact hu
end
end Go.Ml
