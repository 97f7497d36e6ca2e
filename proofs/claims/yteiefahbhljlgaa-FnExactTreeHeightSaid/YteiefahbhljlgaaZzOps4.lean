/- One operation of the model, run: make, slice, append. -/
import Derived.Test.YteiefahbhljlgaaZzOps3
import Derived.IntWalk
set_option linter.unusedSimpArgs false
namespace Go.Ml

section
variable {P : Program} {w : World} {D : DM} {M : Nat → Prop} {σ : Store}

theorem wrap_in {n : Int} (h : 0 ≤ n) (h' : n < 2 ^ 63) : IntKind.i64.wrap n = n := by
  have e1 : IntKind.i64.bits = 64 := rfl
  have e2 : IntKind.i64.signed = true := rfl
  simp only [IntKind.wrap, e1, e2, Bool.true_and]
  rw [Int.emod_eq_of_lt h (by omega)]
  simp
  omega

theorem run_make {t e : TypeId} {sz by_ : Nat} {z : List V} (ht : trElem P t = some (e, sz, by_)) (hz : trZ P e = some z) {n : Int} (h0 : 0 ≤ n) (h1 : n ≤ 2 ^ 47) (h2 : n * by_ ≤ 2 ^ 47) :
    ∃ cs, (Instr.makeSlice t (.int .i64 n) (.int .i64 n)).run P w = .ok (.slice (some ⟨w.heap.size, 0, none⟩) n.toNat n.toNat) (w.alloc (.cells cs e)) ∧
      rdL w D (XS M D) (List.replicate n.toNat z).flatten cs.toList ∧ cs.size = n.toNat * sz := by
  obtain ⟨i, hu, hi, e1, e2, h3, h4⟩ := trElem_spec ht
  obtain ⟨i', v, k1, k2, k3, k4, k5, k6⟩ := trZ_spec (w := w) (D := D) (X := XS M D) hz
  rw [hi] at k1; cases k1
  refine ⟨(Array.range (n.toNat * sz)).map (v.cells[· % v.cells.size]!), ?_, ?_, by simp⟩
  · have hw : IntKind.i64.wrap n = n := wrap_in h0 (by omega)
    have hb : (by_ : Int) * n ≤ 2 ^ 47 := by rw [Int.mul_comm]; exact h2
    unfold Instr.makeSlice
    simp only [Sem.run_bind, run_underlying hu, Result.andThen_ok, asInt, asIntOf, Sem.run_pure, run_typeInfo w hi, e2, hw, Sem.run_ite, run_askRoom, run_sizeOf' hi, e1]
    have c1 : (decide (n < 0) || decide ((by_ : Int) * n > 2 ^ 48)) = false := by simp; omega
    have c2 : (decide (n < 0)) = false := by simp; omega
    simp only [c1, c2, gt_iff_lt, Int.lt_irrefl, decide_false, Bool.or_false, Bool.false_or, Bool.false_eq_true, if_false, or_false, false_or]
    by_cases hn : n.toNat * sz = 0
    · have : n.toNat = 0 := by rcases Nat.mul_eq_zero.1 hn with h | h; exact h; omega
      have hn0 : n = 0 := by omega
      subst hn0
      have hr1 : ∀ (f : Nat → Value), (Array.range 0).map f = #[] := fun f => by apply Array.ext'; simp
      simp [newRow, hr1]
    · have hlt : ¬ n < 0 := by omega
      simp only [hn, hlt, if_false, Sem.run_bind, run_zeroValue' hi k2, Result.andThen_ok, Sem.run_pure]
      simp [newRow]
      intro hbig; exfalso; omega
  · have := rd_zeros k5 (by omega) n.toNat
    simpa only [k3, e1] using this

/-- The bounds of a slice expression. -/
theorem run_bounds {lo hi : Option V} {vlo vhi : Option Value} {n l h cap : Nat} {isS : Bool} {X : Nat → Prop} (hn : n ≤ cap)
    (hh : (match hi with | some x => asBound n x | none => some n) = some h) (hl : (match lo with | some x => asBound h x | none => some 0) = some l)
    (r1 : (lo = none ∧ vlo = none) ∨ ∃ x v, lo = some x ∧ vlo = some v ∧ rd w D X x v) (r2 : (hi = none ∧ vhi = none) ∨ ∃ x v, hi = some x ∧ vhi = some v ∧ rd w D X x v) :
    (Instr.sliceBounds isS n cap vlo vhi none).run P w = .ok (l, h, cap) w ∧ l ≤ h ∧ h ≤ n := by
  rcases r2 with ⟨rfl, rfl⟩ | ⟨x, v, rfl, rfl, hr⟩
  · simp only [Option.some.injEq] at hh; subst hh
    rcases r1 with ⟨rfl, rfl⟩ | ⟨x', v', rfl, rfl, hr'⟩
    · simp only [Option.some.injEq] at hl; subst hl
      exact ⟨by simp [Instr.sliceBounds], Nat.zero_le _, Nat.le_refl _⟩
    · have k := run_sliceBound (P := P) (code := .sliceB) hl hr' n (Nat.le_refl _)
      exact ⟨by simp [Instr.sliceBounds, k.1], k.2, Nat.le_refl _⟩
  · have j := run_sliceBound (P := P) (code := if isS then BoundsCode.sliceAcap else .sliceAlen) hh hr cap hn
    rcases r1 with ⟨rfl, rfl⟩ | ⟨x', v', rfl, rfl, hr'⟩
    · simp only [Option.some.injEq] at hl; subst hl
      exact ⟨by simp [Instr.sliceBounds, j.1], Nat.zero_le _, j.2⟩
    · have k := run_sliceBound (P := P) (code := .sliceB) hl hr' h (Nat.le_refl _)
      exact ⟨by simp [Instr.sliceBounds, j.1, k.1], k.2, j.2⟩

theorem run_slice_str {t : TypeId} (hu : P.underlying t = some .string) {s : List UInt8} {vlo vhi : Option Value} {l h : Nat}
    (hb : (Instr.sliceBounds false s.length s.length vlo vhi none).run P w = .ok (l, h, s.length) w) :
    (Instr.sliceAt t (.string ⟨s.toArray⟩) vlo vhi none).run P w = .ok (.string ⟨((s.take h).drop l).toArray⟩) w := by
  have hs : (⟨s.toArray⟩ : ByteArray).size = s.length := by simp [ByteArray.size]
  have e : (⟨s.toArray⟩ : ByteArray).extract l h = ⟨((s.take h).drop l).toArray⟩ := by
    rw [Lib.extract_eq]
    congr 2
    simp [List.drop_take]
  simp only [Instr.sliceAt, Sem.run_bind, run_underlying hu, Result.andThen_ok, Instr.slice, Option.isSome_none, Bool.false_eq_true, if_false, Sem.run_pure, hs, hb, e]

theorem run_slice_sl {t el : TypeId} {i : TypeInfo} (hu : P.underlying t = some (.slice el)) (hi : P.info? el = some i) {a : Option Addr} {n cap : Nat} {vlo vhi : Option Value} {l h : Nat}
    (hb : (Instr.sliceBounds true n cap vlo vhi none).run P w = .ok (l, h, cap) w) :
    (Instr.sliceAt t (.slice a n cap) vlo vhi none).run P w = .ok (.slice (if cap = l then a else a.map (·.add (l * i.size))) (h - l) (cap - l)) w := by
  simp only [Instr.sliceAt, Sem.run_bind, run_underlying hu, Result.andThen_ok, Instr.slice, hb, run_sizeOf' hi, Sem.run_pure]
end
end Go.Ml
