/- One operation of the model, run: operations that leave the heap as it is. -/
import Derived.Test.YteiefahbhljlgaaZzInstr
import Derived.ChangeKeysEq
import Derived.Laws.Small
import Derived.Lib.Strings
set_option linter.unusedSimpArgs false
namespace Go.Ml

theorem run_isAgg' {P : Program} {t : TypeId} {d : TypeDesc} (h : P.underlying t = some d) (w : World) : (isAgg t).run P w = .ok (isAggD d) w := by
  simp only [isAgg, Sem.run_bind, run_underlying h, Result.andThen_ok]
  cases d <;> rfl

theorem run_sizeOf' {P : Program} {t : TypeId} {i : TypeInfo} (h : P.info? t = some i) (w : World) : (sizeOf t).run P w = .ok i.size w := by
  simp [sizeOf, run_typeInfo w h]

theorem run_zeroValue' {P : Program} {t : TypeId} {i : TypeInfo} {v : Value} (h : P.info? t = some i) (hz : i.zero = some v) (w : World) : (zeroValue t).run P w = .ok v w := by
  simp [zeroValue, run_typeInfo w h, hz]

section
variable {P : Program} {w : World} {D : DM} {M : Nat → Prop} {σ : Store}

theorem run_load_agg (hS : SRel w D M σ) {t : TypeId} {x : V} {v : Value} {row : List V} {off n : Nat} {b : Bool}
    (ht : trAgg P t = some (n, b)) (h : rowAt σ x = some (row, off)) (hr : rd w D (XS M D) x v) {y : V}
    (hy : (if b then (if off + n ≤ row.length then some (.agg ((row.drop off).take n)) else none) else row[off]?) = some y) :
    ∃ u, (Instr.loadAt t v).run P w = .ok u w ∧ rd w D (XS M D) y u := by
  obtain ⟨bl, o, rfl, hc⟩ := rowAt_rd hS h hr
  unfold trAgg at ht
  cases hi : P.info? t with
  | none => simp [hi] at ht
  | some i =>
    cases hu : P.underlying t with
    | none => simp [hi, hu] at ht
    | some d =>
      simp only [hi, hu] at ht
      split at ht
      · simp only [Option.some.injEq, Prod.mk.injEq] at ht
        obtain ⟨rfl, rfl⟩ := ht
        rename_i hcond
        cases hb : isAggD d with
        | true =>
          rw [hb] at hy
          simp only [if_true] at hy
          split at hy
          · rename_i hle
            simp only [Option.some.injEq] at hy; subst hy
            -- the cells
            have hex : ∀ j, j < i.size → ∃ c, w.cell? ((⟨bl, o + off, none⟩ : Addr).add j) = some c ∧ ∀ z, row[off + j]? = some z → rd w D (XS M D) z c := by
              intro j hj
              have : off + j < row.length := by omega
              obtain ⟨c, h1, h2⟩ := hc (off + j) row[off + j] (by simp [this])
              refine ⟨c, by rw [addr_add, Nat.add_assoc]; exact h1, fun z hz => ?_⟩
              rw [List.getElem?_eq_getElem this] at hz; cases hz; exact h2
            have hex' : ∀ j, ∃ c, j < i.size → w.cell? ((⟨bl, o + off, none⟩ : Addr).add j) = some c ∧ ∀ z, row[off + j]? = some z → rd w D (XS M D) z c := by
              intro j
              by_cases hj : j < i.size
              · obtain ⟨c, h⟩ := hex j hj; exact ⟨c, fun _ => h⟩
              · exact ⟨undef, fun k => absurd k hj⟩
            have hf := Classical.axiomOfChoice hex'
            obtain ⟨f, hf⟩ := hf
            refine ⟨.agg ((List.range i.size).map f).toArray, ?_, ?_⟩
            · simp only [Instr.loadAt, Instr.sureAddr, Sem.run_bind, Sem.run_pure, Result.andThen_ok, loadVar, run_isAgg' hu, hb, if_true, run_sizeOf' hi,
                run_loadCells w _ _ f (fun j hj => (hf j hj).1)]
            · simp only [rd]
              refine ⟨_, rfl, ?_⟩
              show rdL w D (XS M D) _ ((List.range i.size).map f)
              have : ∀ (k : Nat), ∀ (m : Nat), off + m + k ≤ row.length → m + k ≤ i.size → rdL w D (XS M D) ((row.drop (off + m)).take k) ((List.range' m k).map f) := by
                intro k
                induction k with
                | zero => intro m _ _; simp [rdL]
                | succ k ih =>
                  intro m h1 h2
                  have hlt : off + m < row.length := by omega
                  rw [List.drop_eq_getElem_cons hlt]
                  simp only [List.take_succ_cons, List.range'_succ, List.map_cons, rdL]
                  refine ⟨_, _, rfl, (hf m (by omega)).2 _ (by simp [hlt]), ?_⟩
                  have := ih (m + 1) (by omega) (by omega)
                  rwa [show off + (m + 1) = off + m + 1 by omega] at this
              have := this i.size 0 (by omega) (by omega)
              simpa [List.range_eq_range'] using this
          · cases hy
        | false =>
          rw [hb] at hy
          simp only [Bool.false_eq_true, if_false] at hy
          obtain ⟨c, h1, h2⟩ := hc off y hy
          exact ⟨c, by simp only [Instr.loadAt, Instr.sureAddr, Sem.run_bind, Sem.run_pure, Result.andThen_ok, loadVar, run_isAgg' hu, hb, Bool.false_eq_true, if_false, run_load, h1], h2⟩
      · cases ht

theorem run_field_addr {s : TypeId} {fs : Array Field} {f : Nat} {fd : Field} {i : TypeInfo} (hu : P.underlying s = some (.struct fs)) (hf : fs[f]? = some fd)
    (hi : P.info? fd.type = some i) (h0 : i.size ≠ 0) (b o : Nat) :
    (Instr.fieldAt s (.pointer (some ⟨b, o, none⟩)) f).run P w = .ok (.pointer (some ⟨b, o + fd.offset, none⟩)) w := by
  simp [Instr.fieldAt, run_underlying hu, hf, Instr.sureAddr, fieldPlace, run_sizeOf' hi, h0]

theorem run_index_slice {t e : TypeId} {i : TypeInfo} (hu : P.underlying t = some (.slice e)) (hi : P.info? e = some i) {b o len cap : Nat} {k : IntKind} {n : Int}
    (h : 0 ≤ n ∧ n < len) : (Instr.indexAt t (.slice (some ⟨b, o, none⟩) len cap) (.int k n)).run P w = .ok (.pointer (some ⟨b, o + n.toNat * i.size, none⟩)) w := by
  simp [Instr.indexAt, asIntOf, run_underlying hu, h, run_sizeOf' hi]

theorem run_index_arr {t e : TypeId} {i : TypeInfo} {cnt : Nat} (hu : P.underlying t = some (.array cnt e)) (hi : P.info? e = some i) {b o : Nat} {k : IntKind} {n : Int}
    (h : 0 ≤ n ∧ n < cnt) : (Instr.indexAt t (.pointer (some ⟨b, o, none⟩)) (.int k n)).run P w = .ok (.pointer (some ⟨b, o + n.toNat * i.size, none⟩)) w := by
  simp [Instr.indexAt, asIntOf, run_underlying hu, h, run_sizeOf' hi, Instr.sureAddr]

theorem run_bin {op : BinOp} {t : TypeId} {x y z : V} {u v : Value} {X : Nat → Prop} (hz : evBin op x y = some z) (hx : rd w D X x u) (hy : rd w D X y v) (ox oy : Operand) :
    ∃ r, (do eqGuard op t ox oy u v; binOp op t u v : Sem Value).run P w = .ok r w ∧ rd w D X z r := by
  unfold evBin at hz
  split at hz <;> first | (cases hz; done) | skip
  all_goals simp only [rd] at hx hy; subst hx hy
  all_goals try (split at hz <;> first | (cases hz; done) | skip)
  all_goals simp only [Option.some.injEq] at hz; subst hz
  all_goals try subst_vars
  all_goals simp only [rd, Sem.run_bind]
  · simp [eqGuard, binOp, Op.intArith]
  · simp [eqGuard, binOp, Op.intArith]
  · simp [eqGuard, binOp, Op.intArith]
  · rename_i h; obtain ⟨rfl, h⟩ := h; simp [eqGuard, binOp, Op.intDiv, h]
  · rename_i h; obtain ⟨rfl, h⟩ := h; simp [eqGuard, binOp, Op.intDiv, h]
  · simp [eqGuard, binOp, Op.intCmp]
  · simp [eqGuard, binOp, Op.intCmp]
  · simp [eqGuard, binOp, Op.intCmp]
  · simp [eqGuard, binOp, Op.intCmp]
  · simp [eqGuard, binOp, Op.intCmp]
  · simp [eqGuard, binOp, Op.intCmp]
  · simp [eqGuard, binOp, Op.stringOp]
  · simp [eqGuard, binOp, Op.stringOp]
  · rename_i a b h
    have e : (⟨a.toArray⟩ : ByteArray) ++ ⟨b.toArray⟩ = ⟨(a ++ b).toArray⟩ := by apply ByteArray.ext; simp
    simp only [eqGuard, binOp, Op.stringOp, ByteArray.size, List.size_toArray, Bool.not_or, Sem.run_pure, Sem.run_bind, Result.andThen_ok, e]
    have : ¬ (((a.length + b.length : Nat) : Int) > IntKind.i64.max) := by
      have : IntKind.i64.max = 9223372036854775807 := by decide
      rw [this]; omega
    simp [this]
    omega

theorem run_beq {t : TypeId} {a b ne : Bool} (hu : P.underlying t = some .bool) (ox oy : Operand) :
    (do eqGuard (if ne then .neq else .eql) t ox oy (.bool a) (.bool b); binOp (if ne then .neq else .eql) t (.bool a) (.bool b) : Sem Value).run P w =
      .ok (.bool (if ne then !(a == b) else a == b)) w := by
  cases ne <;> simp [eqGuard, binOp, run_equal_bool w t a b hu]

theorem run_un {op : UnOp} {x z : V} {u : Value} {X : Nat → Prop} (hz : evUn op x = some z) (hx : rd w D X x u) : ∃ r, (Op.unary op u).run P w = .ok r w ∧ rd w D X z r := by
  unfold evUn at hz
  split at hz <;> first | (cases hz; done) | skip
  all_goals simp only [rd] at hx; subst hx
  all_goals simp only [Option.some.injEq] at hz; subst hz
  · simp [Op.unary, Op.intArith, rd]
  · simp [Op.unary, rd]

theorem run_conv {src dst : TypeId} {ks k k' : IntKind} {n : Int} (hs : P.underlying src = some (.int ks)) (hd : P.underlying dst = some (.int k)) :
    (convert src dst (.int k' n)).run P w = .ok (.int k (k.wrap n)) w := by
  simp [convert, run_underlying hs, run_underlying hd, Conv.intToInt]

theorem run_len_str {t ty : TypeId} {s : ByteArray} (hu : P.underlying t = some .string) : (Builtin.len_ #[t] ty #[.string s]).run P w = .ok (.int .i64 s.size) w := by
  simp [Builtin.len_, run_underlying hu, goInt]

theorem run_len_sl {t ty e : TypeId} {a : Option Addr} {n c : Nat} (hu : P.underlying t = some (.slice e)) : (Builtin.len_ #[t] ty #[.slice a n c]).run P w = .ok (.int .i64 n) w := by
  simp [Builtin.len_, run_underlying hu, goInt]

theorem run_index_str {t : TypeId} {s : List UInt8} {k : IntKind} {n : Int} (hu : P.underlying t = some .string) (h : 0 ≤ n ∧ n < s.length) :
    (Instr.index t (.string ⟨s.toArray⟩) (.int k n)).run P w = .ok (.int .u8 (s.getD n.toNat 0).toNat) w := by
  have hlt : n.toNat < s.length := by omega
  have : (⟨s.toArray⟩ : ByteArray)[n.toNat]? = some s[n.toNat] := by
    rw [getElem?_pos (⟨s.toArray⟩ : ByteArray) n.toNat (by simpa [ByteArray.size] using hlt)]
    rfl
  simp [Instr.index, asIntOf, run_underlying hu, h.1, this, hlt]

theorem run_sliceBound {y : Nat} {x : V} {v : Value} {n : Nat} {X : Nat → Prop} {code : BoundsCode} (h : asBound y x = some n) (hr : rd w D X x v) (y' : Nat) (hy : y ≤ y') :
    (Instr.sliceBound v y' code).run P w = .ok n w ∧ n ≤ y := by
  unfold asBound at h
  split at h <;> first | (cases h; done) | skip
  simp only [rd] at hr; subst hr
  split at h
  · simp at h; subst h
    rename_i hb
    have : 0 ≤ (‹Int› : Int) ∧ (‹Int› : Int) ≤ y' := ⟨hb.1, by omega⟩
    refine ⟨?_, by omega⟩
    simp only [Instr.sliceBound, Sem.run_bind, asIntOf, Sem.run_pure, Result.andThen_ok]
    rw [Sem.run_ite, if_pos ⟨hb.1, by omega⟩]
    rfl
  · cases h
end
end Go.Ml
