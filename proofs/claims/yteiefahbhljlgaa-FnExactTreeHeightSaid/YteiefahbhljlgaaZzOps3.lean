/- One operation of the model, run: slices. -/
import Derived.Test.YteiefahbhljlgaaZzOps2
set_option linter.unusedSimpArgs false
namespace Go.Ml

theorem splice_length {row cs : List V} {off : Nat} (h : off + cs.length ≤ row.length) : (splice row off cs).length = row.length := by
  simp [splice]; omega

theorem splice_append_left {a b cs : List V} {off : Nat} (h : off + cs.length ≤ a.length) : splice (a ++ b) off cs = splice a off cs ++ b := by
  unfold splice
  rw [List.take_append_of_le_length (by omega), List.drop_append_of_le_length (by omega)]
  simp

theorem splice_append_right {a b cs : List V} {off : Nat} : splice (a ++ b) (a.length + off) cs = a ++ splice b off cs := by
  unfold splice
  rw [List.take_append, List.take_of_length_le (by omega), List.drop_append, List.drop_eq_nil_of_le (by omega)]
  simp [Nat.add_assoc]

theorem flatten_splice {sz : Nat} : ∀ {rows : List (List V)}, (∀ r ∈ rows, r.length = sz) → ∀ {r : Nat} {row cs : List V} {off : Nat}, rows[r]? = some row → off + cs.length ≤ row.length →
    (rows.set r (splice row off cs)).flatten = splice rows.flatten (r * sz + off) cs
  | [], _, r, row, cs, off, h, _ => by simp at h
  | a :: rows, hr, 0, row, cs, off, h, hf => by
    simp at h; subst h
    simp only [List.set_cons_zero, List.flatten_cons, Nat.zero_mul, Nat.zero_add]
    rw [splice_append_left hf]
  | a :: rows, hr, r + 1, row, cs, off, h, hf => by
    have ha : a.length = sz := hr a (by simp)
    simp only [List.set_cons_succ, List.flatten_cons]
    rw [flatten_splice (fun r hr' => hr r (by simp [hr'])) (by simpa using h) hf]
    rw [show (r + 1) * sz + off = a.length + (r * sz + off) by rw [ha, Nat.succ_mul]; omega, splice_append_right]

theorem splice_all {row cs : List V} (h : cs.length = row.length) : splice row 0 cs = cs := by
  simp [splice, h]

theorem set_len {rows : List (List V)} {sz i : Nat} {x : List V} (hr : ∀ r ∈ rows, r.length = sz) (hx : x.length = sz) : ∀ r ∈ rows.set i x, r.length = sz := by
  intro r h
  rcases List.mem_or_eq_of_mem_set h with h | rfl
  · exact hr r h
  · exact hx

theorem flat_len {sz : Nat} : ∀ {l : List (List V)}, (∀ r ∈ l, r.length = sz) → l.flatten.length = l.length * sz
  | [], _ => by simp
  | a :: l, h => by
    have ih := flat_len (l := l) (fun r hr => h r (List.mem_cons_of_mem _ hr))
    simp only [List.flatten_cons, List.length_append, List.length_cons, h a (by simp), ih, Nat.succ_mul]
    omega

section
variable {P : Program} {w : World} {D : DM} {M : Nat → Prop} {σ : Store}

theorem fillRows_rd {X : Nat → Prop} {env : Nat → V} {a : Act} (he : ∀ t, rd w D X (env t) (a.tmps.getD t undef)) {sz : Nat} :
    ∀ (parts : List (Nat × Operand)) {ps : List (Nat × Src)} {rows rows' : List (List V)} {cells : Array Value}, trRows parts = some ps → fillRows env sz rows ps = some rows' →
      (∀ r ∈ rows, r.length = sz) → rdL w D X rows.flatten cells.toList →
      ∃ cells', Instr.fill (fun i => some (i * sz, sz)) cells (parts.map fun p => (p.1, a.eval p.2)) = some cells' ∧ rdL w D X rows'.flatten cells'.toList ∧ (∀ r ∈ rows', r.length = sz) ∧ rows'.length = rows.length
  | [], ps, rows, rows', cells, h, hf, hl, hr => by
    simp [trRows] at h; subst h
    simp [fillRows] at hf; subst hf
    exact ⟨cells, rfl, hr, hl, rfl⟩
  | (i, x) :: rest, ps, rows, rows', cells, h, hf, hl, hr => by
    simp only [trRows] at h
    cases h2 : trS x with
    | none => simp [h2] at h
    | some s =>
      cases h3 : trRows rest with
      | none => simp [h2, h3] at h
      | some r =>
        simp only [h2, h3, Option.some.injEq] at h
        subst h
        simp only [fillRows] at hf
        cases h5 : (s.ev env).cells? with
        | none => simp [h5] at hf
        | some cs =>
          simp only [h5] at hf
          split at hf
          · rename_i hc
            obtain ⟨k1, k2, k3⟩ := rd_cells h5 (rd_src he h2)
            have hlen := rdL_length _ _ hr
            have hrow : rows[i]? = some rows[i] := by simp [hc.2]
            have hrl : rows[i].length = sz := hl _ (by simp)
            have hfit : i * sz + sz ≤ cells.size := by
              rw [flat_len hl] at hlen
              have : (i + 1) * sz ≤ rows.length * sz := Nat.mul_le_mul_right _ hc.2
              rw [Nat.succ_mul] at this
              simp at hlen; omega
            obtain ⟨cells1, e1, e2⟩ := fill_step (place := fun i => some (i * sz, sz)) (cells := cells) (v := a.eval x) (rest := rest.map fun p => (p.1, a.eval p.2)) (i := i) rfl (by omega) hfit
            have hset : (rows.set i cs).flatten = splice rows.flatten (i * sz) cs := by
              have := flatten_splice hl (cs := cs) (off := 0) hrow (by omega)
              rwa [splice_all (by omega), Nat.add_zero] at this
            have hr1 : rdL w D X (rows.set i cs).flatten cells1.toList := by
              rw [hset, e2]; exact rdL_splice hr k1 _
            obtain ⟨cells', e3, e4, e5, e6⟩ := fillRows_rd he rest h3 hf (set_len hl hc.1) hr1
            exact ⟨cells', by simp only [List.map_cons]; rw [e1]; exact e3, e4, e5, by simpa using e6⟩
          · cases hf

theorem trElem_spec {t e : TypeId} {sz by_ : Nat} (h : trElem P t = some (e, sz, by_)) : ∃ i, P.underlying t = some (.slice e) ∧ P.info? e = some i ∧ i.size = sz ∧ i.bytes = by_ ∧ 0 < sz ∧ by_ ≤ 2 ^ 20 := by
  unfold trElem at h
  split at h
  · rename_i e' hu
    cases hi : P.info? e' with
    | none => simp [hi] at h
    | some i =>
      simp only [hi] at h
      split at h
      · simp only [Option.some.injEq, Prod.mk.injEq] at h
        obtain ⟨rfl, rfl, rfl⟩ := h
        rename_i hc
        exact ⟨i, hu, hi, rfl, rfl, hc.1, hc.2⟩
      · cases h
  · cases h

/-- n rows of zeros, as cells. -/
theorem rd_zeros {X : Nat → Prop} {z : List V} {zs : Array Value} (h : rdL w D X z zs.toList) (h0 : 0 < zs.size) : ∀ (n : Nat),
    rdL w D X (List.replicate n z).flatten (((Array.range (n * zs.size)).map (zs[· % zs.size]!)).toList)
  | 0 => by simp [rdL]
  | n + 1 => by
    have ih := rd_zeros h h0 n
    rw [List.replicate_succ', List.flatten_append]
    have : ((Array.range ((n + 1) * zs.size)).map (zs[· % zs.size]!)).toList = ((Array.range (n * zs.size)).map (zs[· % zs.size]!)).toList ++ zs.toList := by
      rw [Nat.succ_mul]
      simp only [Array.toList_map, Array.toList_range, List.range_add, List.map_append, List.map_map]
      congr 1
      apply List.ext_getElem?
      intro i
      by_cases hi : i < zs.size
      · simp [hi, Nat.mod_eq_of_lt hi]
      · simp [hi]
    rw [this]
    exact rdL_append _ _ _ _ ih (by simpa using h)

theorem run_buildSlice {t e : TypeId} {sz by_ ln : Nat} {z : List V} {parts : Array (Nat × Value)} (ht : trElem P t = some (e, sz, by_)) (hz : trZ P e = some z) (hlim : ln * sz ≤ 2 ^ 24)
    {cells : Array Value} (hf : ∀ zs : Array Value, (∃ i v, P.info? e = some i ∧ i.zero = some v ∧ zs = v.cells) → Instr.fill (fun i => some (i * sz, sz)) ((Array.range (ln * sz)).map (zs[· % zs.size]!)) parts.toList = some cells) :
    (Instr.buildSlice t ln parts).run P w = .ok (.slice (some ⟨w.heap.size, 0, none⟩) ln ln) (w.alloc (.cells cells e)) := by
  obtain ⟨i, hu, hi, h1, h2, h3, h4⟩ := trElem_spec ht
  obtain ⟨i', v, k1, k2, k3, k4, _, _⟩ := trZ_spec (w := w) (D := DM.none) (X := fun _ => True) hz
  rw [hi] at k1; cases k1
  have hff := hf v.cells ⟨i, v, hi, k2, rfl⟩
  unfold Instr.buildSlice
  simp only [Sem.run_bind, run_underlying hu, Result.andThen_ok, run_sizeOf' hi, h1, Sem.run_ite]
  rw [if_neg (by omega)]
  by_cases h0 : ln * sz = 0
  · have : ln = 0 := by rcases Nat.mul_eq_zero.1 h0 with h | h; exact h; omega
    subst this
    have hr0 : ∀ (f : Nat → Value), (Array.range (0 * sz)).map f = #[] := fun f => by apply Array.ext'; simp
    rw [hr0] at hff
    simp only [Nat.zero_mul, if_true, Sem.run_pure, Result.andThen_ok]
    have hr1 : ∀ (f : Nat → Value), (Array.range 0).map f = #[] := fun f => by apply Array.ext'; simp
    simp only [hr1, hff]
    simp [newRow]
  · simp only [Sem.run_pure, Result.andThen_ok, if_neg h0, Sem.run_bind, run_zeroValue' hi k2, hff]
    simp [newRow]
end
end Go.Ml
