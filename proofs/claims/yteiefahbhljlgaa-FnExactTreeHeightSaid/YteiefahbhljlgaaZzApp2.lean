/- append, run. -/
import Derived.Test.YteiefahbhljlgaaZzApp
set_option linter.unusedSimpArgs false
namespace Go.Ml

section
variable {P : Program} {w : World} {D : DM} {M : Nat → Prop} {σ : Store}

/-- The operands read; whether zeros are appended (never). -/
theorem app_start {t u e e' : TypeId} {i : TypeInfo} (ht : P.underlying t = some (.slice e)) (hi : P.info? e = some i) (hu : P.underlying u = some (.slice e')) {base xa : Option Addr} {sLen sCap n xcap ty : Nat}
    {news : List Value} (hl : (Builtin.firstCells i.size n (.slice xa n xcap)).run P w = .ok news.toArray w)
    (hb : (sLen + n) * i.bytes ≤ 2 ^ 40) (hn : sLen + n ≤ 2 ^ 40) (hby : i.bytes ≤ 2 ^ 20) :
    (Builtin.append_ #[t, u] ty #[.slice base sLen sCap, .slice xa n xcap]).run P w =
      if sLen + n ≤ sCap then
        (match base with
          | some a => (storeCells (a.add (sLen * i.size)) news).run P w
          | none => .ok () w).andThen fun _ w' => .ok (.slice base (sLen + n) sCap) w'
      else ((Builtin.firstCells i.size sLen (.slice base sLen sCap)).run P w.drew).andThen fun old w1 =>
        ((Builtin.firstCells i.size n (.slice xa n xcap)).run P w1).andThen fun new w2 => ((zeroValue e).run P w2).andThen fun z w3 =>
          .ok (.slice (some ⟨w3.heap.size, 0, none⟩) (sLen + n) ((Question.appendCap (sLen + n) sCap e).cut (w.tape w.drawn (.appendCap (sLen + n) sCap e))))
            (w3.alloc (.cells (old ++ new ++ Builtin.zeroCells z.cells ((Question.appendCap (sLen + n) sCap e).cut (w.tape w.drawn (.appendCap (sLen + n) sCap e)) - (sLen + n))) e)) := by
  have hu' : ∀ k, some (TypeDesc.slice e') ≠ some (.int k) := by intro k; simp
  unfold Builtin.append_
  simp only [List.getElem?_toArray, List.getElem?_cons_zero, List.getElem?_cons_succ, Sem.run_bind, run_underlying ht, Result.andThen_ok, run_sizeOf' hi, run_underlying hu, Sem.run_pure,
    Bool.false_eq_true, if_false, Builtin.lenOf, Sem.run_ite, Bool.not_false, if_true, hl, run_typeInfo w hi]
  split
  · cases base with
    | none => simp
    | some a => simp
  · rename_i hgt
    have h1 : ¬ (((sLen + n : Nat) : Int) > IntKind.i64.max ∧ (False ∨ i.bytes = 0)) := by
      have : IntKind.i64.max = 9223372036854775807 := by decide
      rw [this]; omega
    have h2 : ¬ (Builtin.nextslicecap (sLen + n) sCap * i.bytes > 2 ^ 48) := by
      have h3 := next_le (need := sLen + n) (cap := sCap) (by omega)
      have h4 : Builtin.nextslicecap (sLen + n) sCap * i.bytes ≤ (2 * (sLen + n) + 192) * i.bytes := Nat.mul_le_mul_right _ h3
      have h5 : (2 * (sLen + n) + 192) * i.bytes = 2 * ((sLen + n) * i.bytes) + 192 * i.bytes := by rw [Nat.add_mul, Nat.mul_assoc]
      omega
    rw [if_neg h1, if_neg h2]
    simp only [run_choose, Question.forced, Bool.false_eq_true, if_false, Result.andThen_ok, run_askRoom, Sem.run_bind, newRow, World.drew_eq, run_typeInfo _ hi]
    cases (Builtin.firstCells i.size sLen (.slice base sLen sCap)).run P w.drew with
    | halt h w1 => rfl
    | ok old w1 =>
      simp only [Result.andThen_ok]
      cases (Builtin.firstCells i.size n (.slice xa n xcap)).run P w1 with
      | halt h w2 => rfl
      | ok new w2 =>
        simp only [Result.andThen_ok]
        cases (zeroValue e).run P w2 with
        | halt h w3 => rfl
        | ok z w3 =>
          simp only [Result.andThen_ok, Sem.run_map, run_newObj, Sem.run_bind, Sem.run_pure, World.alloc_eq]

/-- Room enough: no bound is wanted. -/
theorem app_room {t u e e' : TypeId} {i : TypeInfo} (ht : P.underlying t = some (.slice e)) (hi : P.info? e = some i) (hu : P.underlying u = some (.slice e')) {base xa : Option Addr} {sLen sCap n xcap ty : Nat}
    {news : List Value} (hl : (Builtin.firstCells i.size n (.slice xa n xcap)).run P w = .ok news.toArray w) (hle : sLen + n ≤ sCap) :
    (Builtin.append_ #[t, u] ty #[.slice base sLen sCap, .slice xa n xcap]).run P w =
        (match base with
          | some a => (storeCells (a.add (sLen * i.size)) news).run P w
          | none => .ok () w).andThen fun _ w' => .ok (.slice base (sLen + n) sCap) w' := by
  unfold Builtin.append_
  simp only [List.getElem?_toArray, List.getElem?_cons_zero, List.getElem?_cons_succ, Sem.run_bind, run_underlying ht, Result.andThen_ok, run_sizeOf' hi, run_underlying hu, Sem.run_pure,
    Bool.false_eq_true, if_false, Builtin.lenOf, Sem.run_ite, Bool.not_false, if_true, hl, if_pos hle]
  cases base with
  | none => simp
  | some a => simp
end
end Go.Ml
