/- One operation of the model, run: operations that make or write memory. -/
import Derived.Test.YteiefahbhljlgaaZzOps
set_option linter.unusedSimpArgs false
namespace Go.Ml

section
variable {P : Program} {w : World} {D : DM} {M : Nat → Prop} {σ : Store}

theorem push_alloc (w : World) (cs : Array Value) (e : TypeId) : Push w (w.alloc (.cells cs e)) cs := ⟨⟨e, rfl⟩, rfl, rfl, rfl⟩

theorem trZ_spec {t : TypeId} {z : List V} (h : trZ P t = some z) {X : Nat → Prop} : ∃ i v, P.info? t = some i ∧ i.zero = some v ∧ v.cells.size = i.size ∧ 0 < i.size ∧ rdL w D X z v.cells.toList ∧ z.length = i.size ∧ z.all V.leaf = true := by
  unfold trZ at h
  cases hi : P.info? t with
  | none => simp [hi] at h
  | some i =>
    cases hz : i.zero with
    | none => simp [hi, hz] at h
    | some v =>
      simp only [hi, hz] at h
      split at h
      · rename_i hc
        have := rdL_mapM (w := w) (D := D) (X := X) h
        refine ⟨i, v, rfl, hz, hc.1, hc.2, this, ?_, leaf_mapM h⟩
        rw [rdL_length _ _ this]; simpa using hc.1
      · cases h

theorem run_alloc {t : TypeId} {i : TypeInfo} {v : Value} (hi : P.info? t = some i) (hz : i.zero = some v) :
    (Instr.alloc t true (.tuple #[])).run P w = .ok (.pointer (some ⟨w.heap.size, 0, none⟩)) (w.alloc (.cells v.cells t)) := by
  simp [Instr.alloc, run_zeroValue' hi hz, newVar, newRow]

theorem run_box {t : TypeId} {v : Value} : (Instr.box t v).run P w = .ok (.pointer (some ⟨w.heap.size, 0, none⟩)) (w.alloc (.cells v.cells t)) := by
  simp [Instr.box, newVar, newRow]

theorem foldl_set (off : Nat) : ∀ (l : List Value) (j : Nat) (cs : Array Value), off + j + l.length ≤ cs.size →
    ((l.zipIdx j).foldl (fun (cs : Array Value) (p : Value × Nat) => cs.setIfInBounds (off + p.2) p.1) cs).toList = cs.toList.take (off + j) ++ l ++ cs.toList.drop (off + j + l.length)
  | [], j, cs, _ => by simp
  | v :: l, j, cs, h => by
    simp only [List.length_cons] at h
    simp only [List.zipIdx_cons, List.foldl_cons]
    rw [foldl_set off l (j + 1) _ (by simp; omega)]
    have := list_seg_step cs.toList (off + j) v l (by simp; omega)
    simpa [Array.toList_setIfInBounds, Nat.add_assoc] using this

theorem rdL_splice {X : Nat → Prop} {row cs : List V} {ys zs : List Value} (h1 : rdL w D X row ys) (h2 : rdL w D X cs zs) (off : Nat) :
    rdL w D X (splice row off cs) (ys.take off ++ zs ++ ys.drop (off + zs.length)) := by
  unfold splice
  rw [rdL_length _ _ h2]
  exact rdL_append _ _ _ _ (rdL_append _ _ _ _ (rdL_take off _ _ h1) h2) (rdL_drop _ _ _ h1)

/-- `Instr.fill` step by step. -/
theorem fill_step {place : Nat → Option (Nat × Nat)} {cells : Array Value} {i off size : Nat} {v : Value} {rest : List (Nat × Value)} (hp : place i = some (off, size))
    (hs : v.cells.size = size) (hf : off + size ≤ cells.size) :
    ∃ cells', Instr.fill place cells ((i, v) :: rest) = Instr.fill place cells' rest ∧ cells'.toList = cells.toList.take off ++ v.cells.toList ++ cells.toList.drop (off + v.cells.toList.length) := by
  refine ⟨v.cells.zipIdx.foldl (fun (cs : Array Value) (p : Value × Nat) => cs.setIfInBounds (off + p.2) p.1) cells, ?_, ?_⟩
  · simp only [Instr.fill, hp]
    rw [if_neg (by simp [hs]; omega)]
  · rw [← Array.foldl_toList]
    have := foldl_set off v.cells.toList 0 cells (by simp; omega)
    simpa using this

theorem fillRow_rd {X : Nat → Prop} {env : Nat → V} {a : Act} (he : ∀ t, rd w D X (env t) (a.tmps.getD t undef)) {fs : Array Field} {place : Nat → Option (Nat × Nat)}
    (hpl : ∀ i f n, fs[i]? = some f → P.info? f.type = some n → place i = some (f.offset, n.size)) :
    ∀ (parts : List (Nat × Operand)) {ps : List (Nat × Nat × Src)} {row row' : List V} {cells : Array Value}, trParts P fs parts = some ps → fillRow env row ps = some row' → rdL w D X row cells.toList →
      ∃ cells', Instr.fill place cells (parts.map fun p => (p.1, a.eval p.2)) = some cells' ∧ rdL w D X row' cells'.toList
  | [], ps, row, row', cells, h, hf, hr => by
    simp [trParts] at h; subst h
    simp [fillRow] at hf; subst hf
    exact ⟨cells, rfl, hr⟩
  | (i, x) :: rest, ps, row, row', cells, h, hf, hr => by
    simp only [trParts] at h
    cases h1 : fs[i]? with
    | none => simp [h1] at h
    | some f =>
      cases h2 : trS x with
      | none => simp [h1, h2] at h
      | some s =>
        cases h3 : trParts P fs rest with
        | none => simp [h1, h2, h3] at h
        | some r =>
          simp only [h1, h2, h3] at h
          cases h4 : P.info? f.type with
          | none => simp [h4] at h
          | some n =>
            simp only [h4, Option.some.injEq] at h
            subst h
            simp only [fillRow] at hf
            cases h5 : (s.ev env).cells? with
            | none => simp [h5] at hf
            | some cs =>
              simp only [h5] at hf
              split at hf
              · rename_i hc
                obtain ⟨k1, k2, k3⟩ := rd_cells h5 (rd_src he h2)
                have hlen := rdL_length _ _ hr
                obtain ⟨cells1, e1, e2⟩ := fill_step (place := place) (cells := cells) (v := a.eval x) (rest := rest.map fun p => (p.1, a.eval p.2)) (hpl i f n h1 h4) (by omega) (by simp at hlen; omega)
                have hr1 : rdL w D X (splice row f.offset cs) cells1.toList := by
                  rw [e2]; exact rdL_splice hr k1 _
                obtain ⟨cells', e3, e4⟩ := fillRow_rd he hpl rest h3 hf hr1
                exact ⟨cells', by simp only [List.map_cons]; rw [e1]; exact e3, e4⟩
              · cases hf

theorem run_store' {b o : Nat} {c : Array Value} {e t : TypeId} {i : TypeInfo} {v : Value} (hi : P.info? t = some i) (hn : i.size = v.cells.size) (hb : w.heap[b]? = some (.cells c e (0, 0)))
    (hfit : o + v.cells.size ≤ c.size) (h1 : ∀ y ∈ v.cells.toList, y.oneCell' = true) :
    ∃ w' c', (Instr.storeAt t (.pointer (some ⟨b, o, none⟩)) v).run P w = .ok () w' ∧ Set1 w w' b c' ∧ c'.toList = c.toList.take o ++ v.cells.toList ++ c.toList.drop (o + v.cells.toList.length) := by
  have hst := run_storeCells_at P b o e v.cells.toList 0 c w hb (by simpa using hfit) h1
  refine ⟨w.setRow b (c.toList.take o ++ v.cells.toList ++ c.toList.drop (o + v.cells.toList.length)).toArray, (c.toList.take o ++ v.cells.toList ++ c.toList.drop (o + v.cells.toList.length)).toArray, ?_, ?_, rfl⟩
  · simp only [Instr.storeAt, Instr.sureAddr, storeVar, Sem.run_bind, Sem.run_pure, Result.andThen_ok, run_sizeOf' hi, Sem.run_ite]
    rw [if_neg (by simp [hn])]
    simpa using hst
  · have hlt : b < w.heap.size := (Array.getElem?_eq_some_iff.1 hb).1
    refine ⟨⟨c, e, hb, ?_, setRow_heap w b c _ e _ hb⟩, fun k hk => ?_, ?_, rfl, rfl, rfl⟩
    · simp; omega
    · simp only [World.setRow, Array.getElem?_modify]
      rw [if_neg (by omega)]
    · simp [World.setRow]
end
end Go.Ml
