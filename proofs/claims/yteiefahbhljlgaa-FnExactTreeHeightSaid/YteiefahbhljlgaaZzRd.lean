/- What a reading of a value outlives. -/
import Derived.Test.YteiefahbhljlgaaZzCore
import Derived.RowKit3
namespace Go.Ml

def DSle : DS → DS → Prop
  | .unborn, _ => True
  | .dead, x => x = .dead
  | .live d, x => x = .live d ∨ x = .dead

theorem DSle.refl (x : DS) : DSle x x := by cases x <;> simp [DSle]
theorem DSle.trans {x y z : DS} (h : DSle x y) (k : DSle y z) : DSle x z := by
  cases x <;> simp [DSle] at *
  · subst h; exact k
  · rcases h with h | h <;> subst h <;> simp at k
    · exact k
    · exact .inr k

/-- From (w, D, X) to (w', D', X'): what lies outside X has not turned. -/
structure Ext (w : World) (D : DM) (X : Nat → Prop) (w' : World) (D' : DM) (X' : Nat → Prop) : Prop where
  size : w.heap.size ≤ w'.heap.size
  same : ∀ b, b < w.heap.size → ¬ X b → w'.heap[b]? = w.heap[b]?
  less : ∀ b, b < w.heap.size → X' b → X b
  ds : ∀ o, DSle (D o) (D' o)

theorem Ext.none {w D X w' D' X'} (E : Ext w D X w' D' X') : Ext w DM.none X w' DM.none X' := ⟨E.size, E.same, E.less, fun _ => DSle.refl _⟩

theorem Ext.refl (w D X) : Ext w D X w D X := ⟨Nat.le_refl _, fun _ _ _ => rfl, fun _ _ h => h, fun _ => DSle.refl _⟩

theorem cellOf {w w' : World} {a : Addr} (h : w'.heap[a.block]? = w.heap[a.block]?) : w'.cell? a = w.cell? a := by simp [World.cell?, h]

theorem Ext.trans {w D X w1 D1 X1 w2 D2 X2} (h : Ext w D X w1 D1 X1) (k : Ext w1 D1 X1 w2 D2 X2) : Ext w D X w2 D2 X2 :=
  ⟨Nat.le_trans h.size k.size, fun b hb hx => (k.same b (Nat.lt_of_lt_of_le hb h.size) fun j => hx (h.less b hb j)).trans (h.same b hb hx),
    fun b hb j => h.less b hb (k.less b (Nat.lt_of_lt_of_le hb h.size) j), fun o => (h.ds o).trans (k.ds o)⟩

mutual
theorem rd_mono {w w' : World} {X X' : Nat → Prop} : ∀ {D D' : DM} (V : V) (v : Value), Ext w D X w' D' X' → rd w D X V v → rd w' D' X' V v
  | _, _, .any, _, _, _ => by simp [rd]
  | _, _, .one, _, _, h => by simpa [rd] using h
  | _, _, .int .., _, _, h => by simpa [rd] using h
  | _, _, .bool _, _, _, h => by simpa [rd] using h
  | _, _, .str _, _, _, h => by simpa [rd] using h
  | _, _, .nils, _, _, h => by simpa [rd] using h
  | _, _, .agg cs, v, E, h => by
    simp only [rd] at h ⊢
    obtain ⟨a, rfl, h⟩ := h
    exact ⟨a, rfl, rdL_mono cs _ E h⟩
  | _, _, .tup cs, v, E, h => by
    simp only [rd] at h ⊢
    obtain ⟨a, rfl, h⟩ := h
    exact ⟨a, rfl, rdL_mono cs _ E h⟩
  | _, _, .sl sz rows, v, E, h => by
    simp only [rd] at h ⊢
    obtain ⟨a, cap, rfl, hcap, h⟩ := h
    refine ⟨a, cap, rfl, hcap, h.imp id ?_⟩
    rintro ⟨b, off, rfl, hb, hx, h⟩
    refine ⟨b, off, rfl, Nat.lt_of_lt_of_le hb E.size, fun k => hx (E.less b hb k), rdRows_mono sz off rows E.none (fun o => ?_) h⟩
    exact cellOf (a := ⟨b, _, none⟩) (E.same b hb hx)
  | D, D', .msl o start len, v, E, h => by
    simp only [rd] at h ⊢
    have := E.ds o
    cases hD : D o with
    | unborn => simp [hD] at h
    | dead => rw [hD] at this h; simp only [DSle] at this; rw [this]; exact h
    | live d =>
      rw [hD] at this h
      rcases this with h' | h' <;> rw [h']
      · exact h
      · obtain ⟨_, a, cap, h, _⟩ := h; exact ⟨a, len, cap, h⟩
  | D, D', .ptr o row off, v, E, h => by
    simp only [rd] at h ⊢
    have := E.ds o
    cases hD : D o with
    | unborn => simp [hD] at h
    | dead => rw [hD] at this h; simp only [DSle] at this; rw [this]; exact h
    | live d =>
      rw [hD] at this h
      rcases this with h' | h' <;> rw [h']
      · exact h
      · exact ⟨_, h⟩
  | _, _, .fptr row off, v, E, h => by
    simp only [rd] at h ⊢
    obtain ⟨b, o, rfl, hb, hx, h⟩ := h
    exact ⟨b, o, rfl, Nat.lt_of_lt_of_le hb E.size, fun k => hx (E.less b hb k), rdCells_mono o row E.none (fun _ => cellOf (a := ⟨b, _, none⟩) (E.same b hb hx)) h⟩
theorem rdL_mono {w w' : World} {X X' : Nat → Prop} : ∀ {D D' : DM} (xs : List V) (ys : List Value), Ext w D X w' D' X' → rdL w D X xs ys → rdL w' D' X' xs ys
  | _, _, [], _, _, h => by simpa [rdL] using h
  | _, _, x :: xs, ys, E, h => by
    simp only [rdL] at h ⊢
    obtain ⟨y, ys', rfl, h1, h2⟩ := h
    exact ⟨y, ys', rfl, rd_mono x y E h1, rdL_mono xs ys' E h2⟩
theorem rdCells_mono {w w' : World} {X X' : Nat → Prop} {b : Nat} : ∀ {D D' : DM} (off : Nat) (xs : List V), Ext w D X w' D' X' →
    (∀ o, w'.cell? ⟨b, o, none⟩ = w.cell? ⟨b, o, none⟩) → rdCells w D X b off xs → rdCells w' D' X' b off xs
  | _, _, _, [], _, _, _ => by simp [rdCells]
  | _, _, off, x :: xs, E, hc, h => by
    simp only [rdCells] at h ⊢
    obtain ⟨hl, ⟨c, h1, h2⟩, h3⟩ := h
    exact ⟨hl, ⟨c, by rw [hc]; exact h1, rd_mono x c E h2⟩, rdCells_mono (off + 1) xs E hc h3⟩
theorem rdRows_mono {w w' : World} {X X' : Nat → Prop} {b : Nat} : ∀ {D D' : DM} (sz off : Nat) (rs : List (List V)), Ext w D X w' D' X' →
    (∀ o, w'.cell? ⟨b, o, none⟩ = w.cell? ⟨b, o, none⟩) → rdRows w D X b sz off rs → rdRows w' D' X' b sz off rs
  | _, _, _, _, [], _, _, _ => by simp [rdRows]
  | _, _, sz, off, r :: rs, E, hc, h => by
    simp only [rdRows] at h ⊢
    exact ⟨h.1, rdCells_mono off r E hc h.2.1, rdRows_mono sz (off + sz) rs E hc h.2.2⟩
end

/-! ### Places in rows -/

theorem rdCells_append {w D X b} : ∀ (off : Nat) (xs ys : List V), rdCells w D X b off (xs ++ ys) ↔ rdCells w D X b off xs ∧ rdCells w D X b (off + xs.length) ys
  | off, [], ys => by simp [rdCells]
  | off, x :: xs, ys => by
    simp only [List.cons_append, rdCells, List.length_cons, rdCells_append (off + 1) xs ys]
    rw [show off + 1 + xs.length = off + (xs.length + 1) by omega, and_assoc, and_assoc]

theorem rdCells_get {w D X b} : ∀ (off : Nat) (xs : List V), rdCells w D X b off xs → ∀ (i : Nat) (x : V), xs[i]? = some x →
    x.leaf = true ∧ ∃ c, w.cell? ⟨b, off + i, none⟩ = some c ∧ rd w D X x c
  | _, [], _, _, _, hi => by simp at hi
  | off, y :: ys, h, 0, x, hi => by
    simp only [rdCells] at h
    simp at hi; subst hi; exact ⟨h.1, h.2.1⟩
  | off, y :: ys, h, i + 1, x, hi => by
    simp only [rdCells] at h
    have := rdCells_get (off + 1) ys h.2.2 i x (by simpa using hi)
    rwa [show off + 1 + i = off + (i + 1) by omega] at this

theorem rdRows_get {w D X b sz} : ∀ (off : Nat) (rs : List (List V)), rdRows w D X b sz off rs → ∀ (i : Nat) (r : List V), rs[i]? = some r →
    r.length = sz ∧ rdCells w D X b (off + i * sz) r
  | _, [], _, _, _, hi => by simp at hi
  | off, y :: ys, h, 0, r, hi => by
    simp only [rdRows] at h
    simp at hi; subst hi; simpa using ⟨h.1, h.2.1⟩
  | off, y :: ys, h, i + 1, r, hi => by
    simp only [rdRows] at h
    have := rdRows_get (off + sz) ys h.2.2 i r (by simpa using hi)
    rwa [show off + sz + i * sz = off + (i + 1) * sz by rw [Nat.succ_mul]; omega] at this

theorem rdRows_drop {w D X b sz} : ∀ (n off : Nat) (rs : List (List V)), rdRows w D X b sz off rs → rdRows w D X b sz (off + n * sz) (rs.drop n)
  | 0, off, rs, h => by simpa using h
  | n + 1, off, [], _ => by simp [rdRows]
  | n + 1, off, r :: rs, h => by
    simp only [rdRows] at h
    have := rdRows_drop n (off + sz) rs h.2.2
    rwa [show off + sz + n * sz = off + (n + 1) * sz by rw [Nat.succ_mul]; omega] at this

theorem rdRows_take {w D X b sz} : ∀ (n off : Nat) (rs : List (List V)), rdRows w D X b sz off rs → rdRows w D X b sz off (rs.take n)
  | 0, _, _, _ => by simp [rdRows]
  | _ + 1, _, [], _ => by simp [rdRows]
  | n + 1, off, r :: rs, h => by
    simp only [rdRows, List.take_succ_cons] at h ⊢
    exact ⟨h.1, h.2.1, rdRows_take n (off + sz) rs h.2.2⟩

theorem rdRows_append {w D X b sz} : ∀ (off : Nat) (xs ys : List (List V)), rdRows w D X b sz off (xs ++ ys) ↔ rdRows w D X b sz off xs ∧ rdRows w D X b sz (off + xs.length * sz) ys
  | off, [], ys => by simp [rdRows]
  | off, x :: xs, ys => by
    simp only [List.cons_append, rdRows, List.length_cons, rdRows_append (off + sz) xs ys]
    rw [show off + sz + xs.length * sz = off + (xs.length + 1) * sz by rw [Nat.succ_mul]; omega]
    constructor
    · rintro ⟨a, b, c, d⟩; exact ⟨⟨a, b, c⟩, d⟩
    · rintro ⟨⟨a, b, c⟩, d⟩; exact ⟨a, b, c, d⟩

theorem rdL_length {w D X} : ∀ (xs : List V) (ys : List Value), rdL w D X xs ys → xs.length = ys.length
  | [], ys, h => by simp only [rdL] at h; simp [h]
  | x :: xs, ys, h => by
    simp only [rdL] at h
    obtain ⟨y, ys', rfl, _, h⟩ := h
    simp [rdL_length xs ys' h]

theorem rdL_get {w D X} : ∀ (xs : List V) (ys : List Value), rdL w D X xs ys → ∀ (i : Nat) (x : V), xs[i]? = some x → ∃ y, ys[i]? = some y ∧ rd w D X x y
  | [], _, _, _, _, hi => by simp at hi
  | x :: xs, ys, h, i, z, hi => by
    simp only [rdL] at h
    obtain ⟨y, ys', rfl, h1, h2⟩ := h
    cases i with
    | zero => simp at hi; subst hi; exact ⟨y, rfl, h1⟩
    | succ i => simpa using rdL_get xs ys' h2 i z (by simpa using hi)

theorem rdL_append {w D X} : ∀ (xs xs' : List V) (ys ys' : List Value), rdL w D X xs ys → rdL w D X xs' ys' → rdL w D X (xs ++ xs') (ys ++ ys')
  | [], xs', ys, ys', h, h' => by simp only [rdL] at h; subst h; simpa using h'
  | x :: xs, xs', ys, ys', h, h' => by
    simp only [rdL] at h
    obtain ⟨y, yt, rfl, h1, h2⟩ := h
    simp only [List.cons_append, rdL]
    exact ⟨y, yt ++ ys', rfl, h1, rdL_append xs xs' yt ys' h2 h'⟩

theorem rdL_take {w D X} : ∀ (n : Nat) (xs : List V) (ys : List Value), rdL w D X xs ys → rdL w D X (xs.take n) (ys.take n)
  | 0, _, _, _ => by simp [rdL]
  | _ + 1, [], _, h => by simp only [rdL] at h; subst h; simp [rdL]
  | n + 1, x :: xs, ys, h => by
    simp only [rdL] at h
    obtain ⟨y, yt, rfl, h1, h2⟩ := h
    simp only [List.take_succ_cons, rdL]
    exact ⟨y, yt.take n, rfl, h1, rdL_take n xs yt h2⟩

theorem rdL_drop {w D X} : ∀ (n : Nat) (xs : List V) (ys : List Value), rdL w D X xs ys → rdL w D X (xs.drop n) (ys.drop n)
  | 0, _, _, h => by simpa using h
  | _ + 1, [], _, h => by simp only [rdL] at h; subst h; simp [rdL]
  | n + 1, x :: xs, ys, h => by
    simp only [rdL] at h
    obtain ⟨y, yt, rfl, h1, h2⟩ := h
    simpa using rdL_drop n xs yt h2

end Go.Ml
