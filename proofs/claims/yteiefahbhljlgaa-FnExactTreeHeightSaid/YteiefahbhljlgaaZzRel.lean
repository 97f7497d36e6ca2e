/- The abstract state against memory; what each effect does to both. -/
import Derived.Test.YteiefahbhljlgaaZzRd
import Derived.Laws.CopyRow
namespace Go.Ml

theorem rdCells_iff {w D X b} : ∀ (off : Nat) (xs : List V), rdCells w D X b off xs ↔ ∀ (i : Nat) (x : V), xs[i]? = some x → x.leaf = true ∧ ∃ c, w.cell? ⟨b, off + i, none⟩ = some c ∧ rd w D X x c
  | off, [] => by simp [rdCells]
  | off, y :: ys => by
    simp only [rdCells, rdCells_iff (off + 1) ys]
    constructor
    · rintro ⟨hl, h0, h1⟩ i x hi
      cases i with
      | zero => simp at hi; subst hi; exact ⟨hl, h0⟩
      | succ i =>
        have := h1 i x (by simpa using hi)
        rwa [show off + 1 + i = off + (i + 1) by omega] at this
    · intro h
      refine ⟨(h 0 y rfl).1, (h 0 y rfl).2, fun i x hi => ?_⟩
      have := h (i + 1) x (by simpa using hi)
      rwa [show off + (i + 1) = off + 1 + i by omega] at this

theorem rdRows_iff {w D X b sz} : ∀ (off : Nat) (rs : List (List V)), rdRows w D X b sz off rs ↔ (∀ r ∈ rs, r.length = sz) ∧ rdCells w D X b off rs.flatten
  | off, [] => by simp [rdRows, rdCells]
  | off, r :: rs => by
    simp only [rdRows, rdRows_iff (off + sz) rs, List.flatten_cons, rdCells_append, List.mem_cons, forall_eq_or_imp]
    constructor
    · rintro ⟨rfl, h1, h2, h3⟩; exact ⟨⟨rfl, h2⟩, h1, h3⟩
    · rintro ⟨⟨rfl, h2⟩, h1, h3⟩; exact ⟨rfl, h1, h2, h3⟩

def XS (M : Nat → Prop) (D : DM) : Nat → Prop := fun b => M b ∨ ∃ o d, D o = .live d ∧ d.blk = b

/-- The store of objects against memory. -/
structure SRel (w : World) (D : DM) (M : Nat → Prop) (σ : Store) : Prop where
  live : ∀ o d, D o = .live d → ∃ ob c e, objAt σ o = some ob ∧ d.sz = ob.sz ∧ d.n = ob.rows.length ∧ 0 < d.sz ∧ ¬ M d.blk ∧ d.blk < w.heap.size ∧
    w.heap[d.blk]? = some (.cells c e (0, 0)) ∧ c.size = d.cap ∧ d.bas + d.n * d.sz ≤ d.cap ∧ (∀ r ∈ ob.rows, r.length = ob.sz) ∧
    ∀ (i : Nat) (x : V), ob.rows.flatten[i]? = some x → x.leaf = true ∧ ∃ y, c[d.bas + i]? = some y ∧ rd w D (XS M D) x y
  alive : ∀ o ob, objAt σ o = some ob → ∃ d, D o = .live d
  inj : ∀ o o' d d', D o = .live d → D o' = .live d' → d.blk = d'.blk → o = o'
  far : ∀ o, σ.length ≤ o → D o = .unborn
  mlt : ∀ b, M b → b < w.heap.size

/-- Nothing has turned but the blocks `own`, and blocks that are new. -/
structure Gr (own : Nat → Prop) (w w' : World) : Prop where
  size : w.heap.size ≤ w'.heap.size
  os : w'.os = w.os
  tape : w'.tape = w.tape
  output : w'.output = w.output
  block : ∀ b, b < w.heap.size → ¬ own b → w'.heap[b]? = w.heap[b]?

theorem Gr.refl (own w) : Gr own w w := ⟨Nat.le_refl _, rfl, rfl, rfl, fun _ _ _ => rfl⟩
theorem Gr.trans {own w w1 w2} (h : Gr own w w1) (k : Gr (fun b => own b ∨ w.heap.size ≤ b) w1 w2) : Gr own w w2 :=
  ⟨Nat.le_trans h.size k.size, k.os.trans h.os, k.tape.trans h.tape, k.output.trans h.output,
    fun b hb ho => (k.block b (Nat.lt_of_lt_of_le hb h.size) (by rintro (h | h); exact ho h; omega)).trans (h.block b hb ho)⟩
theorem Gr.mono {own own' : Nat → Prop} {w w'} (h : Gr own w w') (hs : ∀ b, b < w.heap.size → own b → own' b) : Gr own' w w' :=
  ⟨h.size, h.os, h.tape, h.output, fun b hb ho => h.block b hb fun k => ho (hs b hb k)⟩

/-- What memory is behind: a world that only grew by one block of cells (and draws). -/
structure Push (w w' : World) (cs : Array Value) : Prop where
  heap : ∃ e, w'.heap = w.heap.push (.cells cs e)
  os : w'.os = w.os
  tape : w'.tape = w.tape
  output : w'.output = w.output

theorem Push.size {w w' cs} (h : Push w w' cs) : w'.heap.size = w.heap.size + 1 := by obtain ⟨e, h⟩ := h.heap; simp [h]
theorem Push.old {w w' cs} (h : Push w w' cs) {b : Nat} (hb : b < w.heap.size) : w'.heap[b]? = w.heap[b]? := by
  obtain ⟨e, h⟩ := h.heap
  rw [h, Array.getElem?_push]; rw [if_neg (by omega)]
theorem Push.new {w w' cs} (h : Push w w' cs) : ∃ e, w'.heap[w.heap.size]? = some (.cells cs e (0, 0)) := by
  obtain ⟨e, h⟩ := h.heap
  exact ⟨e, by rw [h, Array.getElem?_push]; simp⟩
theorem Push.gr {w w' cs} (h : Push w w' cs) (own) : Gr own w w' := ⟨by rw [h.size]; omega, h.os, h.tape, h.output, fun _ hb _ => h.old hb⟩

def DM.put (D : DM) (o : Nat) (x : DS) : DM := fun q => if q = o then x else D q

theorem objAt_set {σ : Store} {i o : Nat} {x : Option Obj} (h : i < σ.length) : objAt (σ.set i x) o = if i = o then x else objAt σ o := by
  unfold objAt
  rw [List.getElem?_set]
  split
  · subst_vars; simp
  · rfl

/-- A new object. -/
theorem SRel.new {w w' D M σ cs} (h : SRel w D M σ) (p : Push w w' cs) {id : Nat} (hid : id < σ.length) (hD : D id = .unborn) {ob : Obj} (hsz : 0 < ob.sz)
    (hr : ∀ r ∈ ob.rows, r.length = ob.sz) (hfit : ob.rows.length * ob.sz ≤ cs.size)
    (hrd : ∀ (i : Nat) (x : V), ob.rows.flatten[i]? = some x → x.leaf = true ∧ ∃ y, cs[i]? = some y ∧ rd w D (XS M D) x y) :
    let D' := D.put id (.live ⟨w.heap.size, 0, ob.sz, ob.rows.length, cs.size⟩)
    SRel w' D' M (σ.set id (some ob)) ∧ Ext w D (XS M D) w' D' (XS M D') := by
  intro D'
  have E : Ext w D (XS M D) w' D' (XS M D') := by
    refine ⟨by rw [p.size]; omega, fun b hb _ => p.old hb, ?_, ?_⟩
    · rintro b hb (hm | ⟨o, d, ho, rfl⟩)
      · exact .inl hm
      · simp only [D', DM.put] at ho
        split at ho
        · cases ho; simp at hb
        · exact .inr ⟨o, d, ho, rfl⟩
    · intro o
      simp only [D', DM.put]
      split
      · subst_vars; rw [hD]; trivial
      · exact DSle.refl _
  refine ⟨⟨?_, ?_, ?_, ?_, ?_⟩, E⟩
  · intro o d ho
    simp only [D', DM.put] at ho
    split at ho
    · rename_i heq; subst heq
      cases ho
      obtain ⟨e, he⟩ := p.new
      refine ⟨ob, cs, e, by rw [objAt_set hid]; simp, rfl, rfl, hsz, fun hm => by have := h.mlt _ hm; simp at this, by rw [p.size]; simp, he, rfl, by simpa using hfit, hr, fun i x hi => ?_⟩
      obtain ⟨hl, y, h1, h2⟩ := hrd i x hi
      exact ⟨hl, y, by simpa using h1, rd_mono _ _ E h2⟩
    · rename_i hne
      obtain ⟨ob', c, e, h1, h2, h3, h4, h5, h6, h7, h8, h9, h10, h11⟩ := h.live o d ho
      refine ⟨ob', c, e, by rw [objAt_set hid, if_neg (fun k => hne k.symm)]; exact h1, h2, h3, h4, h5, by rw [p.size]; omega, by rw [p.old h6]; exact h7, h8, h9, h10, fun i x hi => ?_⟩
      obtain ⟨hl, y, k1, k2⟩ := h11 i x hi
      exact ⟨hl, y, k1, rd_mono _ _ E k2⟩
  · intro o ob' ho
    rw [objAt_set hid] at ho
    simp only [D', DM.put]
    by_cases hio : o = id
    · simp [hio]
    · rw [if_neg (fun k => hio k.symm)] at ho; simp only [hio, if_false]; exact h.alive o ob' ho
  · intro o o' d d' ho ho' hb
    simp only [D', DM.put] at ho ho'
    split at ho <;> split at ho'
    · subst_vars; rfl
    · cases ho
      obtain ⟨_, _, _, _, _, _, _, _, k, _⟩ := h.live o' d' ho'
      simp at hb; omega
    · cases ho'
      obtain ⟨_, _, _, _, _, _, _, _, k, _⟩ := h.live o d ho
      simp at hb; omega
    · exact h.inj o o' d d' ho ho' hb
  · intro o ho
    simp only [List.length_set] at ho
    simp only [D', DM.put]
    rw [if_neg (by omega)]
    exact h.far o ho
  · intro b hb
    have := h.mlt b hb
    rw [p.size]; omega

/-- One block of cells set anew. -/
structure Set1 (w w' : World) (b : Nat) (c' : Array Value) : Prop where
  heap : ∃ c e, w.heap[b]? = some (.cells c e (0, 0)) ∧ c'.size = c.size ∧ w'.heap[b]? = some (.cells c' e (0, 0))
  old : ∀ k, k ≠ b → w'.heap[k]? = w.heap[k]?
  size : w'.heap.size = w.heap.size
  os : w'.os = w.os
  tape : w'.tape = w.tape
  output : w'.output = w.output

/-- A store into a row of an object. -/
theorem SRel.upd {w w' D M σ} (h : SRel w D M σ) {o : Nat} {d : Desc} (hD : D o = .live d) {c' : Array Value} (p : Set1 w w' d.blk c') {ob : Obj}
    (hsz : ob.sz = d.sz) (hn : ob.rows.length = d.n) (hr : ∀ r ∈ ob.rows, r.length = ob.sz)
    (hrd : ∀ (i : Nat) (x : V), ob.rows.flatten[i]? = some x → x.leaf = true ∧ ∃ y, c'[d.bas + i]? = some y ∧ rd w D (XS M D) x y) :
    SRel w' D M (σ.set o (some ob)) ∧ Ext w D (XS M D) w' D (XS M D) := by
  have hb : XS M D d.blk := .inr ⟨o, d, hD, rfl⟩
  have E : Ext w D (XS M D) w' D (XS M D) := ⟨by rw [p.size]; omega, fun b hb' hx => p.old b (fun k => hx (k ▸ hb)), fun _ _ h => h, fun _ => DSle.refl _⟩
  have hlen : o < σ.length := by
    rcases Nat.lt_or_ge o σ.length with k | k
    · exact k
    · rw [h.far o k] at hD; cases hD
  refine ⟨⟨?_, ?_, h.inj, fun o ho => h.far o (by simpa using ho), fun b hb => by rw [p.size]; exact h.mlt b hb⟩, E⟩
  · intro q d' hq
    obtain ⟨ob', c, e, h1, h2, h3, h4, h5, h6, h7, h8, h9, h10, h11⟩ := h.live q d' hq
    by_cases hqo : q = o
    · subst hqo
      rw [hD] at hq; cases hq
      obtain ⟨c0, e0, k1, k2, k3⟩ := p.heap
      rw [h7] at k1; cases k1
      refine ⟨ob, c', e, by rw [objAt_set hlen]; simp, hsz.symm, hn.symm, h4, h5, by rw [p.size]; exact h6, k3, k2.trans h8, h9, hr, fun i x hi => ?_⟩
      obtain ⟨hl, y, j1, j2⟩ := hrd i x hi
      exact ⟨hl, y, j1, rd_mono _ _ E j2⟩
    · have hne : d'.blk ≠ d.blk := fun k => hqo (h.inj _ _ _ _ hq hD k)
      refine ⟨ob', c, e, by rw [objAt_set hlen, if_neg (fun k => hqo k.symm)]; exact h1, h2, h3, h4, h5, by rw [p.size]; exact h6, by rw [p.old _ hne]; exact h7, h8, h9, h10, fun i x hi => ?_⟩
      obtain ⟨hl, y, j1, j2⟩ := h11 i x hi
      exact ⟨hl, y, j1, rd_mono _ _ E j2⟩
  · intro q ob' hq
    rw [objAt_set hlen] at hq
    split at hq
    · subst_vars; exact ⟨d, hD⟩
    · exact h.alive q ob' hq

/-- An object gone. -/
theorem SRel.kill {w D M σ} (h : SRel w D M σ) (o : Nat) (ho : o < σ.length) (hD : D o ≠ .unborn) :
    SRel w (D.put o .dead) M (σ.set o none) ∧ Ext w D (XS M D) w (D.put o .dead) (XS M (D.put o .dead)) := by
  have E : Ext w D (XS M D) w (D.put o .dead) (XS M (D.put o .dead)) := by
    refine ⟨Nat.le_refl _, fun _ _ _ => rfl, ?_, ?_⟩
    · rintro b hb (hm | ⟨q, d, hq, rfl⟩)
      · exact .inl hm
      · simp only [DM.put] at hq
        split at hq
        · cases hq
        · exact .inr ⟨q, d, hq, rfl⟩
    · intro q
      simp only [DM.put]
      split
      · subst_vars
        cases k : D q with
        | unborn => trivial
        | dead => rfl
        | live d => exact .inr rfl
      · exact DSle.refl _
  refine ⟨⟨?_, ?_, ?_, ?_, h.mlt⟩, E⟩
  · intro q d hq
    simp only [DM.put] at hq
    split at hq
    · cases hq
    · rename_i hne
      obtain ⟨ob', c, e, h1, h2, h3, h4, h5, h6, h7, h8, h9, h10, h11⟩ := h.live q d hq
      refine ⟨ob', c, e, by rw [objAt_set ho, if_neg (fun k => hne k.symm)]; exact h1, h2, h3, h4, h5, h6, h7, h8, h9, h10, fun i x hi => ?_⟩
      obtain ⟨hl, y, j1, j2⟩ := h11 i x hi
      exact ⟨hl, y, j1, rd_mono _ _ E j2⟩
  · intro q ob' hq
    rw [objAt_set ho] at hq
    split at hq
    · cases hq
    · rename_i hne
      obtain ⟨d, hd⟩ := h.alive q ob' hq
      exact ⟨d, by simp only [DM.put]; rw [if_neg (fun k => hne k.symm)]; exact hd⟩
  · intro q q' d d' hq hq' hb
    simp only [DM.put] at hq hq'
    split at hq
    · cases hq
    · split at hq'
      · cases hq'
      · exact h.inj q q' d d' hq hq' hb
  · intro q hq
    simp only [List.length_set] at hq
    simp only [DM.put]
    rw [if_neg (by omega)]
    exact h.far q hq

end Go.Ml
