/- append. -/
import Derived.Test.YteiefahbhljlgaaZzOps4
set_option linter.unusedSimpArgs false
namespace Go.Ml

section
variable {P : Program} {w : World} {D : DM} {M : Nat → Prop} {σ : Store}

/-- An object's block handed on to another object, its cells written. -/
theorem SRel.mov {w' : World} (h : SRel w D M σ) {o id : Nat} {d : Desc} (hD : D o = .live d) (hid : id < σ.length ∧ D id = .unborn) {c' : Array Value} (p : Set1 w w' d.blk c') {ob : Obj} {bas : Nat}
    (hsz : 0 < ob.sz) (hr : ∀ r ∈ ob.rows, r.length = ob.sz) (hfit : bas + ob.rows.length * ob.sz ≤ d.cap)
    (hrd : ∀ (i : Nat) (x : V), ob.rows.flatten[i]? = some x → x.leaf = true ∧ ∃ y, c'[bas + i]? = some y ∧ rd w D (XS M D) x y) :
    let D' := (D.put o .dead).put id (.live ⟨d.blk, bas, ob.sz, ob.rows.length, d.cap⟩)
    SRel w' D' M ((σ.set o none).set id (some ob)) ∧ Ext w D (XS M D) w' D' (XS M D') := by
  intro D'
  have hne : o ≠ id := by rintro rfl; rw [hD] at hid; cases hid.2
  have hb : XS M D d.blk := .inr ⟨o, d, hD, rfl⟩
  have hlen : o < σ.length := by
    rcases Nat.lt_or_ge o σ.length with k | k
    · exact k
    · rw [h.far o k] at hD; cases hD
  have D'id : D' id = .live ⟨d.blk, bas, ob.sz, ob.rows.length, d.cap⟩ := by simp [D', DM.put]
  have D'o : D' o = .dead := by simp [D', DM.put, hne]
  have D'q : ∀ q, q ≠ o → q ≠ id → D' q = D q := fun q h1 h2 => by simp [D', DM.put, h1, h2]
  have E : Ext w D (XS M D) w' D' (XS M D') := by
    refine ⟨by rw [p.size]; omega, fun b _ hx => p.old b (fun k => hx (k ▸ hb)), ?_, ?_⟩
    · rintro b hb' (hm | ⟨q, d', hq, rfl⟩)
      · exact .inl hm
      · by_cases h1 : q = id
        · subst h1; rw [D'id] at hq; cases hq; exact hb
        · by_cases h2 : q = o
          · subst h2; rw [D'o] at hq; cases hq
          · rw [D'q q h2 h1] at hq; exact .inr ⟨q, d', hq, rfl⟩
    · intro q
      by_cases h1 : q = id
      · subst h1; rw [hid.2]; trivial
      · by_cases h2 : q = o
        · subst h2; rw [D'o, hD]; exact .inr rfl
        · rw [D'q q h2 h1]; exact DSle.refl _
  have hat : ∀ q, objAt ((σ.set o none).set id (some ob)) q = if id = q then some ob else if o = q then none else objAt σ q := by
    intro q
    rw [objAt_set (by simpa using hid.1), objAt_set hlen]
  obtain ⟨obo, co, eo, g1, g2, g3, g4, g5, g6, g7, g8, g9, g10, g11⟩ := h.live o d hD
  refine ⟨⟨?_, ?_, ?_, ?_, fun b hb => by rw [p.size]; exact h.mlt b hb⟩, E⟩
  · intro q d' hq
    by_cases h1 : q = id
    · subst h1
      rw [D'id] at hq; cases hq
      obtain ⟨c0, e0, k1, k2, k3⟩ := p.heap
      rw [g7] at k1; cases k1
      refine ⟨ob, c', eo, by rw [hat]; simp, rfl, rfl, hsz, g5, by rw [p.size]; exact g6, k3, k2.trans g8, hfit, hr, fun i x hi => ?_⟩
      obtain ⟨hl, y, j1, j2⟩ := hrd i x hi
      exact ⟨hl, y, j1, rd_mono _ _ E j2⟩
    · by_cases h2 : q = o
      · subst h2; rw [D'o] at hq; cases hq
      · rw [D'q q h2 h1] at hq
        obtain ⟨ob', c, e, f1, f2, f3, f4, f5, f6, f7, f8, f9, f10, f11⟩ := h.live q d' hq
        have hbn : d'.blk ≠ d.blk := fun k => h2 (h.inj _ _ _ _ hq hD k)
        refine ⟨ob', c, e, by rw [hat, if_neg (fun k => h1 k.symm), if_neg (fun k => h2 k.symm)]; exact f1, f2, f3, f4, f5, by rw [p.size]; exact f6, by rw [p.old _ hbn]; exact f7, f8, f9, f10, fun i x hi => ?_⟩
        obtain ⟨hl, y, j1, j2⟩ := f11 i x hi
        exact ⟨hl, y, j1, rd_mono _ _ E j2⟩
  · intro q ob' hq
    rw [hat] at hq
    by_cases h1 : q = id
    · subst h1; exact ⟨_, D'id⟩
    · rw [if_neg (fun k => h1 k.symm)] at hq
      by_cases h2 : q = o
      · subst h2; simp at hq
      · rw [if_neg (fun k => h2 k.symm)] at hq
        rw [D'q q h2 h1]
        exact h.alive q ob' hq
  · intro q q' d1 d2 hq hq' hbb
    have blkOf : ∀ q d1, D' q = .live d1 → (q = id ∧ d1.blk = d.blk) ∨ (q ≠ id ∧ q ≠ o ∧ D q = .live d1) := by
      intro q d1 hq
      by_cases h1 : q = id
      · subst h1; rw [D'id] at hq; cases hq; exact .inl ⟨rfl, rfl⟩
      · by_cases h2 : q = o
        · subst h2; rw [D'o] at hq; cases hq
        · rw [D'q q h2 h1] at hq; exact .inr ⟨h1, h2, hq⟩
    rcases blkOf q d1 hq with ⟨a1, a2⟩ | ⟨a1, a2, a3⟩ <;> rcases blkOf q' d2 hq' with ⟨b1, b2⟩ | ⟨b1, b2, b3⟩
    · rw [a1, b1]
    · exact absurd (h.inj _ _ _ _ b3 hD (by rw [← hbb, a2])) b2
    · exact absurd (h.inj _ _ _ _ a3 hD (by rw [hbb, b2])) a2
    · exact h.inj _ _ _ _ a3 b3 hbb
  · intro q hq
    simp only [List.length_set] at hq
    rw [D'q q (by omega) (by omega)]
    exact h.far q hq

theorem next_le {need cap : Nat} (h : cap < need) : Builtin.nextslicecap need cap ≤ 2 * need + 192 := by
  unfold Builtin.nextslicecap
  have grow : ∀ (r c : Nat), c ≤ need + (need + 768) / 4 → Builtin.growBy need r c ≤ need + (need + 768) / 4 := by
    intro r
    induction r with
    | zero => intro c hc; simpa [Builtin.growBy] using hc
    | succ r ih =>
      intro c hc
      simp only [Builtin.growBy]
      split
      · exact hc
      · exact ih _ (by omega)
  split
  · omega
  · split
    · omega
    · have := grow 4 cap (by omega)
      omega

/-- The cells that a slice reads. -/
theorem load_rows {a : Option Addr} {rows : List (List V)} {sz : Nat} {cap : Nat} {X : Nat → Prop}
    (h : rows = [] ∨ ∃ b off, a = some ⟨b, off, none⟩ ∧ (∀ r ∈ rows, r.length = sz) ∧ ∀ (i : Nat) (y : V), rows.flatten[i]? = some y → y.leaf = true ∧ ∃ c, w.cell? ⟨b, off + i, none⟩ = some c ∧ rd w D X y c) :
    ∃ cs : List Value, (∀ w', (∀ a, w'.cell? a = w.cell? a) → (Builtin.firstCells sz rows.length (.slice a rows.length cap)).run P w' = .ok cs.toArray w') ∧ rdL w D X rows.flatten cs ∧ (rows ≠ [] → cs.length = rows.length * sz) ∧ (rows = [] → cs = []) := by
  rcases h with rfl | ⟨b, off, rfl, hl, hc⟩
  · refine ⟨[], fun w' _ => ?_, by simp [rdL], by simp, by simp⟩
    cases a with
    | none => simp [Builtin.firstCells]
    | some a =>
      have := run_loadCells_list (P := P) w' a [] (by simp)
      simpa [Builtin.firstCells] using this
  · have hex : ∀ i, ∃ c, i < rows.flatten.length → w.cell? ⟨b, off + i, none⟩ = some c ∧ ∀ y, rows.flatten[i]? = some y → rd w D X y c := by
      intro i
      by_cases hi : i < rows.flatten.length
      · obtain ⟨_, c, h1, h2⟩ := hc i rows.flatten[i] (by simp [hi])
        exact ⟨c, fun _ => ⟨h1, fun y hy => by rw [List.getElem?_eq_getElem hi] at hy; cases hy; exact h2⟩⟩
      · exact ⟨undef, fun k => absurd k hi⟩
    obtain ⟨f, hf⟩ := Classical.axiomOfChoice hex
    have hfl := flat_len hl
    refine ⟨(List.range (rows.length * sz)).map f, fun w' hw => ?_, ?_, by simp, fun h => by simp [h]⟩
    · simp only [Builtin.firstCells]
      exact run_loadCells w' _ _ f (fun j hj => by rw [addr_add, hw]; exact (hf j (by omega)).1)
    · have : ∀ (l : List V) (k : Nat), rows.flatten.drop k = l → rdL w D X l ((List.range' k l.length).map f) := by
        intro l
        induction l with
        | nil => intro k _; simp [rdL]
        | cons y l ih =>
          intro k hk
          have hlt : k < rows.flatten.length := by
            rcases Nat.lt_or_ge k rows.flatten.length with h | h
            · exact h
            · rw [List.drop_eq_nil_of_le h] at hk; cases hk
          have hget : rows.flatten[k]? = some y := by
            rw [← List.head?_drop, hk]; rfl
          simp only [List.length_cons, List.range'_succ, List.map_cons, rdL]
          refine ⟨_, _, rfl, (hf k hlt).2 y hget, ih (k + 1) ?_⟩
          rw [← List.tail_drop, hk]; rfl
      have := this rows.flatten 0 (by simp)
      rwa [← List.range_eq_range', hfl] at this

end
end Go.Ml
