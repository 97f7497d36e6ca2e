/- Functions of the library, met by their contracts. -/
import Derived.Test.YthhglmiolbhcaaaGreatPart4
import Derived.Shelf.Sort.Plain
section
set_option linter.unusedSimpArgs false
set_option linter.unusedVariables false
namespace Go.Ml
open Go.Sort Go.Shelf
theorem flat1 (l : List Int) : (l.map fun z => [V.int .i64 z]).flatten = l.map fun z => V.int .i64 z := by
  induction l with
  | nil => rfl
  | cons x l ih => simp only [List.map_cons, List.flatten_cons, ih]; rfl
theorem outOk_sort {P : Program} {ρ : Ren} (L : Proofs.Lays.n191 P ρ) : OutOk P (ρ.f 191) .sortInts := by
  intro args σ r σ' h w M D vals hv hS
  obtain ⟨o, zs, rfl, h0, hb, ho, rfl, rfl⟩ := h
  obtain ⟨d, hd⟩ := hS.alive o _ ho
  obtain ⟨ob, c, e, h1, h2, h3, h4, h5, h6, h7, h8, h9, h10, h11⟩ := hS.live o d hd
  rw [ho] at h1
  cases h1
  simp only [] at h2 h3
  rw [List.length_map] at h3
  obtain ⟨y, ys, e1, hy, hys⟩ : ∃ y ys, vals.toList = y :: ys ∧ rd w D (XS M D) (.msl o 0 zs.length) y ∧ rdL w D (XS M D) [] ys := by simpa only [rdL] using hv
  have hys : ys = [] := by simpa only [rdL] using hys
  subst hys
  have hvals : vals = #[y] := by rw [← Array.toArray_toList (xs := vals), e1]
  subst hvals
  simp only [rd, hd] at hy
  obtain ⟨_, a, cap, rfl, hcap, ha⟩ := hy
  rcases ha with ⟨rfl, ha⟩ | ⟨ha, _⟩
  case inr => omega
  rw [h2] at ha
  have hoff : d.bas + 0 * d.sz = d.bas := by omega
  rw [hoff]
  have hcell : ∀ i, i < zs.length → c[d.bas + i]? = some (.int .i64 (zs.getD i 0)) := by
    intro i hi
    obtain ⟨_, y, k1, k2⟩ := h11 i (.int .i64 (zs.getD i 0)) (by
      rw [flat1, List.getElem?_map, List.getElem?_eq_getElem hi, List.getD_eq_getElem?_getD, List.getElem?_eq_getElem hi]; rfl)
    simp only [rd] at k2
    rw [k1, k2]
  have hH : Go.Sort.Holds (Value.int .i64) w d.blk d.bas zs.toArray := by
    intro j hj
    have hj' : j < zs.length := by simpa using hj
    refine ⟨?_, ?_⟩
    · simp only [World.cell?, h7]
      have := hcell j hj'
      rw [List.getD_eq_getElem?_getD, List.getElem?_eq_getElem hj'] at this
      rw [getElem!_pos zs.toArray j hj]
      simpa using this
    · simp only [World.frozen?, h7]
      simp
  refine (Proofs.Any.sort_Ints L d.blk d.bas cap zs w hH h6 (by omega)).mono ?_
  rintro e2 w' ⟨rfl, n, os, rfl⟩
  have hlen : (sortI zs).length = zs.length := by unfold sortI; exact List.length_mergeSort _
  have hheap1 : (Go.Sort.putRow (Value.int .i64) (Go.Sort.ahead w n) d.blk d.bas (sortI zs).toArray).heap = w.heap.modify d.blk (Go.Sort.onCells (Go.Sort.putCells (Value.int .i64) d.bas (sortI zs).toArray)) := rfl
  have hnew : (Go.Sort.putRow (Value.int .i64) (Go.Sort.ahead w n) d.blk d.bas (sortI zs).toArray).heap[d.blk]? = some (.cells (Go.Sort.putCells (Value.int .i64) d.bas (sortI zs).toArray c) e (0, 0)) := by
    rw [hheap1, Array.getElem?_modify, if_pos rfl, h7]; rfl
  have hold : ∀ k, k ≠ d.blk → (Go.Sort.putRow (Value.int .i64) (Go.Sort.ahead w n) d.blk d.bas (sortI zs).toArray).heap[k]? = w.heap[k]? := by
    intro k hk
    rw [hheap1, Array.getElem?_modify, if_neg (fun e => hk e.symm)]
  have p : Set1 w (Go.Sort.putRow (Value.int .i64) (Go.Sort.ahead w n) d.blk d.bas (sortI zs).toArray) d.blk (Go.Sort.putCells (Value.int .i64) d.bas (sortI zs).toArray c) :=
    ⟨⟨c, e, h7, by simp [Go.Sort.putCells], hnew⟩, hold, by rw [hheap1]; simp, rfl, rfl, rfl⟩
  have hu := hS.upd hd p (ob := ⟨1, (sortI zs).map fun z => [.int .i64 z]⟩) h2.symm (by simp only [List.length_map]; omega) (by
      intro r hr
      obtain ⟨z, _, rfl⟩ := List.mem_map.1 hr
      rfl) (by
      intro i x hi
      rw [flat1, List.getElem?_map] at hi
      obtain ⟨z, hz, rfl⟩ := Option.map_eq_some_iff.1 hi
      have hil := (List.getElem?_eq_some_iff.1 hz).1
      refine ⟨rfl, .int .i64 z, ?_, by simp only [rd]⟩
      have hic : d.bas + i < c.size := by
        rw [h8]
        have : d.n * d.sz = d.n := by rw [h2, Nat.mul_one]
        omega
      unfold Go.Sort.putCells
      rw [Array.getElem?_mapIdx, Array.getElem?_eq_getElem hic, Option.map_some, if_pos ⟨by omega, by simp; omega⟩]
      have : d.bas + i - d.bas = i := by omega
      rw [this, getElem!_pos (sortI zs).toArray i (by simpa using hil)]
      have := (List.getElem?_eq_some_iff.1 hz).2
      simp [this])
  obtain ⟨hu1, hE1⟩ := hu
  have hbk : ∀ b, b < (Go.Sort.putRow (Value.int .i64) (Go.Sort.ahead w n) d.blk d.bas (sortI zs).toArray).heap.size → (Go.Sort.grow (Go.Sort.putRow (Value.int .i64) (Go.Sort.ahead w n) d.blk d.bas (sortI zs).toArray) os).heap[b]? = (Go.Sort.putRow (Value.int .i64) (Go.Sort.ahead w n) d.blk d.bas (sortI zs).toArray).heap[b]? := by
    intro b hb
    unfold Go.Sort.grow
    exact Array.getElem?_append_left hb
  have hD : D.kill [] = D := by
    funext q; unfold DM.kill; simp
  have hk : ∀ τ : Store, killAll τ [] = τ := fun _ => rfl
  have hsz : (Go.Sort.putRow (Value.int .i64) (Go.Sort.ahead w n) d.blk d.bas (sortI zs).toArray).heap.size ≤ (Go.Sort.grow (Go.Sort.putRow (Value.int .i64) (Go.Sort.ahead w n) d.blk d.bas (sortI zs).toArray) os).heap.size := by unfold Go.Sort.grow; simp
  obtain ⟨k1, k2⟩ := hu1.killed [] hsz hbk
  rw [hD] at k1
  refine ⟨.tuple #[], D, rfl, by simp only [rd, rdL]; exact ⟨_, rfl, rfl⟩, k1, ⟨?_, rfl, rfl, rfl, fun b hb ho => ?_⟩, fun o d h => .inl ⟨o, d, h, rfl⟩, fun o _ => DSle.refl _⟩
  · exact Nat.le_trans (Nat.le_of_eq p.size.symm) hsz
  · exact (hbk b (by rw [p.size]; exact hb)).trans (hold b (fun e => ho ⟨o, d, hd, e.symm⟩))
end Go.Ml
end
