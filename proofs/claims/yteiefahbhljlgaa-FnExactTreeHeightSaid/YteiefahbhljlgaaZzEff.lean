/- Every operation but a call: if the small language's operation has an effect, the model's runs and does it. -/
import Derived.Test.YteiefahbhljlgaaZzApp3
import Derived.Laws.BytesString
set_option linter.unusedSimpArgs false
namespace Go.Ml

/-- What the operation hands on: a value, or nothing. -/
def Gives (r : Next) (v : Value) : Prop := r = .value v ∨ (r = .skip ∧ v = undef)

section
variable {P : Program} {ν : Nat → Option Nat} {w : World} {D : DM} {M : Nat → Prop} {σ : Store}

def EffOk (P : Program) (o : Oper) (a : Act) (w : World) (D : DM) (M : Nat → Prop) (σ : Store) (id : Nat) (ef : Eff) : Prop :=
  ∃ r v w', (execOp a.eval o).run P w = .ok r w' ∧ Gives r v ∧ Done w D M id (ef.store σ id) (ef.dv id) v w'

theorem effOk_val {o : Oper} {a : Act} {id : Nat} {x : V} {v : Value} {s : Sem Value} (hS : SRel w D M σ) (he : execOp a.eval o = (do pure (.value (← s)))) (hrun : s.run P w = .ok v w)
    (h : rd w D (XS M D) x v) : EffOk P o a w D M σ id (.val x) :=
  ⟨.value v, v, w, by rw [he]; simp [hrun], .inl rfl, done_val hS h⟩

theorem effOk_of {o : Oper} {a : Act} {id : Nat} {ef : Eff} {v : Value} {w' : World} {s : Sem Value} (he : execOp a.eval o = (do pure (.value (← s)))) (hrun : s.run P w = .ok v w')
    (h : Done w D M id (ef.store σ id) (ef.dv id) v w') : EffOk P o a w D M σ id ef :=
  ⟨.value v, v, w', by rw [he]; simp [hrun], .inl rfl, h⟩

variable {env : Nat → V} {a : Act}

theorem fillRows_leaf {sz : Nat} : ∀ (ps : List (Nat × Src)) {rows rows' : List (List V)}, fillRows env sz rows ps = some rows' → (∀ r ∈ rows, ∀ x ∈ r, x.leaf = true) → ∀ x ∈ rows'.flatten, x.leaf = true
  | [], rows, rows', h, hl => by
    simp only [fillRows, Option.some.injEq] at h; subst h
    intro x hx
    obtain ⟨r, hr, hx⟩ := List.mem_flatten.1 hx
    exact hl r hr x hx
  | (i, s) :: ps, rows, rows', h, hl => by
    simp only [fillRows] at h
    split at h <;> first | (cases h; done) | skip
    rename_i cs hcs
    split at h <;> first | (cases h; done) | skip
    refine fillRows_leaf ps h ?_
    intro r hr
    rcases List.mem_or_eq_of_mem_set hr with h | rfl
    · exact hl r h
    · exact fun x hx => List.all_eq_true.1 (leaf_cells hcs) x hx

theorem bytesOf_spec : ∀ {rows : List (List V)} {bs : List UInt8}, bytesOf rows = some bs → ∃ ns : List Int, rows = ns.map (fun n => [V.int .u8 n]) ∧ bs = ns.map (fun n => UInt8.ofNat n.toNat) ∧ ∀ n ∈ ns, 0 ≤ n ∧ n < 256
  | [], bs, h => by simp only [bytesOf, Option.some.injEq] at h; subst h; exact ⟨[], rfl, rfl, by simp⟩
  | r :: rows, bs, h => by
    unfold bytesOf at h
    split at h <;> first | (cases h; done) | skip
    · rename_i e; cases e
    · rename_i n rest e
      cases e
      split at h <;> first | (cases h; done) | skip
      rename_i hn
      simp only [Option.map_eq_some_iff] at h
      obtain ⟨bs', h1, rfl⟩ := h
      obtain ⟨ns, e1, e2, e3⟩ := bytesOf_spec h1
      exact ⟨n :: ns, by simp [e1], by simp [e2], by intro m hm; rcases List.mem_cons.1 hm with rfl | hm; exact hn; exact e3 m hm⟩

theorem asIdx_spec {n k : Nat} {x : V} {v : Value} {X : Nat → Prop} (h : asIdx n x = some k) (hr : rd w D X x v) : ∃ kd i, v = .int kd i ∧ 0 ≤ i ∧ i < n ∧ i.toNat = k ∧ k < n := by
  unfold asIdx at h
  split at h <;> first | (cases h; done) | skip
  simp only [rd] at hr
  split at h
  · rename_i hc
    simp only [Option.some.injEq] at h
    exact ⟨_, _, hr, hc.1, hc.2, h, by omega⟩
  · cases h

theorem eff_ok (o : Oper) {i : I} {ef : Eff} {id : Nat} (htr : trI P ν o = some i) (hef : i.eff env σ = some ef) (hS : SRel w D M σ) (he : ∀ t, rd w D (XS M D) (env t) (a.tmps.getD t undef))
    (hid : i.makes = true → id < σ.length ∧ D id = .unborn) : EffOk P o a w D M σ id ef := by
  obtain ⟨dst, op, type, pos, after, guard⟩ := o
  cases op with
  | move x =>
    simp only [trI, Option.map_eq_some_iff] at htr
    obtain ⟨s, h1, rfl⟩ := htr
    simp only [I.eff, Option.some.injEq] at hef; subst hef
    exact ⟨_, _, w, rfl, .inl rfl, done_val hS (rd_src he h1)⟩
  | assign x =>
    simp only [trI, Option.map_eq_some_iff] at htr
    obtain ⟨s, h1, rfl⟩ := htr
    simp only [I.eff, Option.some.injEq] at hef; subst hef
    exact ⟨_, _, w, rfl, .inl rfl, done_val hS (rd_src he h1)⟩
  | pick c x y =>
    simp only [trI] at htr
    cases h1 : trS c with
    | none => simp [h1] at htr
    | some sc =>
      cases h2 : trS x with
      | none => simp [h1, h2] at htr
      | some sx =>
        cases h3 : trS y with
        | none => simp [h1, h2, h3] at htr
        | some sy =>
          simp only [h1, h2, h3, Option.some.injEq] at htr; subst htr
          simp only [I.eff] at hef
          have hc := rd_src he h1
          split at hef
          · rename_i t ht
            simp only [Option.some.injEq] at hef; subst hef
            rw [ht] at hc
            simp only [rd] at hc
            refine ⟨.value (if t then a.eval x else a.eval y), _, w, ?_, .inl rfl, done_val hS ?_⟩
            · simp only [execOp, hc, asBool, Sem.run_bind, Sem.run_pure, Result.andThen_ok]
            · cases t
              · exact rd_src he h3
              · exact rd_src he h2
          · cases hef
  | alloc t =>
    simp only [trI, Option.map_eq_some_iff] at htr
    obtain ⟨z, h1, rfl⟩ := htr
    simp only [I.eff, Option.some.injEq] at hef; subst hef
    obtain ⟨i, v, z1, z2, z3, z4, z5, z6, z7⟩ := trZ_spec (w := w) (D := D) (X := XS M D) h1
    refine effOk_of rfl (run_alloc z1 z2) ?_
    exact done_newP hS (hid rfl) (push_alloc _ _ _) (by omega) z7 z5
  | box t x =>
    simp only [trI, Option.map_eq_some_iff] at htr
    obtain ⟨s, h1, rfl⟩ := htr
    simp only [I.eff] at hef
    split at hef
    · rename_i c cs hcs
      simp only [Option.some.injEq] at hef; subst hef
      obtain ⟨k1, k2, k3⟩ := rd_cells hcs (rd_src he h1)
      refine effOk_of rfl run_box ?_
      exact done_newP hS (hid rfl) (push_alloc _ _ _) (by simp) (leaf_cells hcs) k1
    · cases hef
  | build t parts =>
    simp only [trI] at htr
    split at htr <;> first | (cases htr; done) | skip
    rename_i fs z hu hz
    split at htr <;> first | (cases htr; done) | skip
    rename_i hall
    simp only [Option.map_eq_some_iff] at htr
    obtain ⟨ps, h1, rfl⟩ := htr
    simp only [I.eff] at hef
    split at hef <;> first | (cases hef; done) | skip
    rename_i cs hcs
    simp only [Option.some.injEq] at hef; subst hef
    obtain ⟨i, v, z1, z2, z3, z4, z5, z6, z7⟩ := trZ_spec (w := w) (D := D) (X := XS M D) hz
    -- the fields' places
    let g : Field → Nat × Nat := fun f => (f.offset, P.cellsOf f.type)
    have hinfo : ∀ f ∈ fs, ∃ n, P.info? f.type = some n := by
      intro f hf
      have := Array.all_eq_true_iff_forall_mem.1 hall f hf
      exact Option.isSome_iff_exists.1 this
    have hmap : (fs.mapM fun f => do pure (f.offset, ← sizeOf f.type) : Sem (Array (Nat × Nat))).run P w = .ok (fs.map g) w := by
      have : ∀ (l : List Field), (∀ f ∈ l, ∃ n, P.info? f.type = some n) → (l.mapM fun f => do pure (f.offset, ← sizeOf f.type) : Sem (List (Nat × Nat))).run P w = .ok (l.map g) w := by
        intro l
        induction l with
        | nil => intro _; simp
        | cons f l ih =>
          intro hl
          obtain ⟨n, hn⟩ := hl f (by simp)
          simp only [List.mapM_cons, Sem.run_bind, run_sizeOf' hn, Result.andThen_ok, Sem.run_pure, ih (fun f hf => hl f (by simp [hf]))]
          simp [g, Program.cellsOf, hn]
      have h2 := this fs.toList (by simpa using hinfo)
      rw [← Array.toArray_toList (xs := fs)]
      rw [List.mapM_toArray, Sem.run_map, h2]
      simp only [Result.andThen_ok, Array.toArray_toList]
      congr 1
      apply Array.ext'
      simp
    obtain ⟨cells', e1, e2⟩ := fillRow_rd he (place := fun k => (fs.map g)[k]?) (fun k f n hk hn => by simp [hk, g, Program.cellsOf, hn]) parts.toList h1 hcs z5
    refine effOk_val hS (v := .agg cells') rfl ?_ (by simp only [rd]; exact ⟨cells', rfl, e2⟩)
    simp only [Instr.build, Sem.run_bind, run_zeroValue' z1 z2, Result.andThen_ok, run_underlying hu, hmap]
    have e1' : Instr.fill (fun x => (fs.map g)[x]?) v.cells (parts.map fun p => (p.1, a.eval p.2)).toList = some cells' := by simpa using e1
    rw [e1']
    rfl
  | buildSlice t ln parts =>
    simp only [trI] at htr
    split at htr <;> first | (cases htr; done) | skip
    rename_i e sz by_ ht
    split at htr <;> first | (cases htr; done) | skip
    rename_i z ps hz hps
    split at htr <;> first | (cases htr; done) | skip
    rename_i hc
    simp only [Option.some.injEq] at htr; subst htr
    obtain ⟨i, v, z1, z2, z3, z4, z5, z6, z7⟩ := trZ_spec (w := w) (D := D) (X := XS M D) hz
    simp only [I.eff] at hef
    split at hef <;> first | (cases hef; done) | skip
    rename_i rows hrows
    have hzs := rd_zeros z5 (by omega) ln
    have hsz : v.cells.size = sz := by omega
    obtain ⟨cells', e1, e2, e3, e4⟩ := fillRows_rd he parts.toList hps hrows (by intro r hr; rw [List.eq_of_mem_replicate hr]; exact hc.2) hzs
    have hrun := run_buildSlice (w := w) (ln := ln) (parts := parts.map fun p => (p.1, a.eval p.2)) ht hz hc.1 (cells := cells') (by
      rintro zs ⟨i', v', j1, j2, rfl⟩
      rw [z1] at j1; cases j1
      rw [z2] at j2; cases j2
      rw [hsz] at e1
      rw [hsz]
      simpa using e1)
    have hlen : rows.length = ln := by simpa using e4
    split at hef
    · rename_i h0
      simp only [Option.some.injEq] at hef; subst hef
      subst h0
      refine effOk_of rfl hrun ?_
      have p := push_alloc w cells' e
      have E : Ext w D (XS M D) (w.alloc (.cells cells' e)) D (XS M D) := ⟨by rw [p.size]; omega, fun b hb _ => p.old hb, fun _ _ h => h, fun _ => DSle.refl _⟩
      refine ⟨D, ?_, E, p.gr _, fun o d h => .inl ⟨o, d, h, rfl⟩, fun _ h _ => h, by simp [Eff.dv, rd]⟩
      refine ⟨fun o d ho => ?_, hS.alive, hS.inj, hS.far, fun b hb => by rw [p.size]; exact Nat.lt_succ_of_lt (hS.mlt b hb)⟩
      obtain ⟨ob, c, e0, f1, f2, f3, f4, f5, f6, f7, f8, f9, f10, f11⟩ := hS.live o d ho
      refine ⟨ob, c, e0, f1, f2, f3, f4, f5, by rw [p.size]; omega, by rw [p.old f6]; exact f7, f8, f9, f10, fun k x hk => ?_⟩
      obtain ⟨hl, y, k1, k2⟩ := f11 k x hk
      exact ⟨hl, y, k1, rd_mono _ _ E k2⟩
    · simp only [Option.some.injEq] at hef; subst hef
      refine effOk_of rfl hrun ?_
      have := done_newS hS (hid rfl) (push_alloc w cells' e) (sz := sz) (rows := rows) (cap := ln) (by omega) e3 (by omega) (by
        have := rdL_length _ _ e2
        rw [flat_len e3, hlen] at this
        simp at this; omega) (fun k x hk => by
        obtain ⟨y, k1, k2⟩ := rdL_get _ _ e2 k x hk
        exact ⟨fillRows_leaf _ hrows (by intro r hr q hq; rw [List.eq_of_mem_replicate hr] at hq; exact List.all_eq_true.1 z7 q hq) _ (List.mem_of_getElem? hk), y, by simpa using k1, k2⟩)
      rw [hlen] at this
      exact this
  | load t x =>
    simp only [trI] at htr
    split at htr <;> first | (cases htr; done) | skip
    rename_i n g s hg hs
    simp only [Option.some.injEq] at htr; subst htr
    simp only [I.eff] at hef
    split at hef <;> first | (cases hef; done) | skip
    rename_i row off hrow
    have hx := rd_src he hs
    have key : ∃ y, (if g then (if off + n ≤ row.length then some (V.agg ((row.drop off).take n)) else none) else row[off]?) = some y ∧ ef = .val y := by
      cases g with
      | true =>
        simp only [if_true] at hef ⊢
        split at hef <;> first | (cases hef; done) | skip
        rename_i hle
        exact ⟨_, by rw [if_pos hle], by simpa using hef.symm⟩
      | false =>
        simp only [Bool.false_eq_true, if_false] at hef ⊢
        split at hef <;> first | (cases hef; done) | skip
        rename_i y hy
        exact ⟨y, hy, by simpa using hef.symm⟩
    obtain ⟨y, hy, rfl⟩ := key
    obtain ⟨u, h1, h2⟩ := run_load_agg hS hg hrow hx hy
    exact effOk_val hS rfl h1 h2
  | store t x y =>
    simp only [trI] at htr
    split at htr <;> first | (cases htr; done) | skip
    rename_i i s r hi hs hr
    simp only [Option.some.injEq] at htr; subst htr
    simp only [I.eff] at hef
    have hx := rd_src he hs
    have hy := rd_src he hr
    split at hef <;> first | (cases hef; done) | skip
    rename_i o rw_ off cs e1 e2
    split at hef <;> first | (cases hef; done) | skip
    rename_i ob hob
    split at hef <;> first | (cases hef; done) | skip
    rename_i row hrow
    split at hef <;> first | (cases hef; done) | skip
    rename_i hc
    simp only [Option.some.injEq] at hef; subst hef
    rw [e1] at hx
    obtain ⟨d, hd⟩ := hS.alive o ob hob
    obtain ⟨ob', c, e0, f1, f2, f3, f4, f5, f6, f7, f8, f9, f10, f11⟩ := hS.live o d hd
    rw [hob] at f1; cases f1
    simp only [rd, hd] at hx
    obtain ⟨k1, k2, k3⟩ := rd_cells e2 hy
    have hrl : row.length = ob.sz := f10 row (List.mem_of_getElem? hrow)
    have hrlt : rw_ < ob.rows.length := (List.getElem?_eq_some_iff.1 hrow).1
    have hbound : rw_ * d.sz + d.sz ≤ d.n * d.sz := by
      have : (rw_ + 1) * d.sz ≤ d.n * d.sz := Nat.mul_le_mul_right _ (by omega)
      rwa [Nat.succ_mul] at this
    obtain ⟨w', c', g1, g2, g3⟩ := run_store' (w := w) (b := d.blk) (o := d.bas + rw_ * d.sz + off) (v := a.eval y) (t := t) hi (by omega) f7 (by rw [f8]; omega) k2
    refine ⟨.skip, undef, w', ?_, .inr ⟨rfl, rfl⟩, ?_⟩
    · simp only [execOp, Sem.run_bind, hx, g1, Result.andThen_ok, Sem.run_pure]
    · have hfl := flatten_splice f10 (cs := cs) hrow (off := off) (by omega)
      have hlenflat := flat_len f10
      have hu := hS.upd hd g2 (ob := ⟨ob.sz, ob.rows.set rw_ (splice row off cs)⟩) f2.symm (by simp; omega) (set_len f10 (by rw [splice_length (by omega)]; exact hrl)) (fun k z hk => by
        simp only [] at hk
        rw [hfl] at hk
        have hcl := rdL_length _ _ k1
        -- within the cells written, or an elder one
        have hsplit : ∀ k, (splice ob.rows.flatten (rw_ * ob.sz + off) cs)[k]? = if k < rw_ * ob.sz + off then ob.rows.flatten[k]? else if k < rw_ * ob.sz + off + cs.length then cs[k - (rw_ * ob.sz + off)]? else ob.rows.flatten[k]? := by
          intro k
          unfold splice
          have hl1 : (ob.rows.flatten.take (rw_ * ob.sz + off)).length = rw_ * ob.sz + off := by
            rw [List.length_take, hlenflat]
            rw [f2, f3] at hbound
            omega
          by_cases h1 : k < rw_ * ob.sz + off
          · rw [if_pos h1, List.append_assoc, List.getElem?_append_left (by omega), List.getElem?_take_of_lt h1]
          · rw [if_neg h1]
            by_cases h2 : k < rw_ * ob.sz + off + cs.length
            · rw [if_pos h2, List.append_assoc, List.getElem?_append_right (by omega), hl1, List.getElem?_append_left (by omega)]
            · rw [if_neg h2, List.append_assoc, List.getElem?_append_right (by omega), hl1, List.getElem?_append_right (by omega), List.getElem?_drop]
              congr 1; omega
        rw [hsplit] at hk
        have hc' : ∀ j, c'[j]? = if j < d.bas + rw_ * d.sz + off then c[j]? else if j < d.bas + rw_ * d.sz + off + cs.length then (a.eval y).cells[j - (d.bas + rw_ * d.sz + off)]? else c[j]? := by
          intro j
          have hll : (c.toList.take (d.bas + rw_ * d.sz + off)).length = d.bas + rw_ * d.sz + off := by simp; omega
          rw [← Array.getElem?_toList (xs := c'), g3]
          have hcl' : (a.eval y).cells.toList.length = cs.length := by rw [hcl]
          by_cases h1 : j < d.bas + rw_ * d.sz + off
          · rw [if_pos h1, List.append_assoc, List.getElem?_append_left (by omega), List.getElem?_take_of_lt h1]; simp
          · rw [if_neg h1]
            by_cases h2 : j < d.bas + rw_ * d.sz + off + cs.length
            · rw [if_pos h2, List.append_assoc, List.getElem?_append_right (by omega), hll, List.getElem?_append_left (by omega)]; simp
            · rw [if_neg h2, List.append_assoc, List.getElem?_append_right (by omega), hll, List.getElem?_append_right (by omega), List.getElem?_drop]
              rw [Array.getElem?_toList]; congr 1; omega
        rw [hc']
        split at hk
        · rename_i h1
          rw [if_pos (by rw [f2]; omega)]
          exact f11 k z hk
        · rename_i h1
          rw [if_neg (by rw [f2]; omega)]
          split at hk
          · rename_i h2
            rw [if_pos (by rw [f2]; omega)]
            refine ⟨List.all_eq_true.1 (leaf_cells e2) z (List.mem_of_getElem? hk), ?_⟩
            obtain ⟨y', j1, j2⟩ := rdL_get _ _ k1 _ z hk
            refine ⟨y', ?_, j2⟩
            rw [← Array.getElem?_toList, ← j1]; congr 1; rw [f2]; omega
          · rename_i h2
            rw [if_neg (by rw [f2]; omega)]
            exact f11 k z hk)
      exact ⟨D, hu.1, hu.2, ⟨by rw [g2.size]; exact Nat.le_refl _, g2.os, g2.tape, g2.output, fun b _ hb => g2.old b (fun k => hb (k ▸ ⟨o, d, hd, rfl⟩))⟩, fun q d' h => .inl ⟨q, d', h, rfl⟩, fun _ h _ => h, by simp [Eff.dv, rd]⟩
  | nilCheck x =>
    simp only [trI, Option.map_eq_some_iff] at htr
    obtain ⟨s, h1, rfl⟩ := htr
    have hx := rd_src he h1
    simp only [I.eff] at hef
    split at hef <;> first | (cases hef; done) | skip
    · rename_i o r off e1
      split at hef <;> first | (cases hef; done) | skip
      rename_i ob hob
      simp only [Option.some.injEq] at hef; subst hef
      rw [e1] at hx
      have hx' := hx
      simp only [rd] at hx
      obtain ⟨d, hD⟩ := hS.alive o ob hob
      · rw [hD] at hx; simp only [] at hx
        exact ⟨.value (a.eval x), _, w, by simp only [execOp, hx, Sem.run_pure], .inl rfl, done_val hS hx'⟩
    · rename_i row off e1
      simp only [Option.some.injEq] at hef; subst hef
      rw [e1] at hx
      have hx' := hx
      simp only [rd] at hx
      obtain ⟨b, o, hx, _⟩ := hx
      exact ⟨.value (a.eval x), _, w, by simp only [execOp, hx, Sem.run_pure], .inl rfl, done_val hS hx'⟩
  | binOp op t x y yt =>
    simp only [trI] at htr
    split at htr <;> first | (cases htr; done) | skip
    rename_i s r h1 h2
    have hx := rd_src he h1
    have hy := rd_src he h2
    split at htr <;> first | (cases htr; done) | skip
    · simp only [Option.some.injEq] at htr; subst htr
      simp only [I.eff] at hef
      split at hef <;> first | (cases hef; done) | skip
      rename_i v hv
      simp only [Option.some.injEq] at hef; subst hef
      obtain ⟨u, k1, k2⟩ := run_bin (P := P) (t := t) hv hx hy x y
      exact effOk_val hS rfl k1 k2
    · rename_i ne hcmp
      simp only [Option.some.injEq] at htr; subst htr
      simp only [I.eff] at hef
      split at hef <;> first | (cases hef; done) | skip
      rename_i p q e1 e2
      simp only [Option.some.injEq] at hef; subst hef
      rw [e1] at hx; rw [e2] at hy
      simp only [rd] at hx hy
      have hop : op = (if ne then .neq else .eql) ∧ P.underlying t = some .bool := by
        unfold trCmp at hcmp
        cases op <;> simp only [] at hcmp <;> first | (cases hcmp; done) | skip
        all_goals (split at hcmp <;> first | (cases hcmp; done) | skip)
        all_goals (cases hcmp; rename_i hu; exact ⟨rfl, hu⟩)
      obtain ⟨rfl, hu⟩ := hop
      have := run_beq (P := P) (w := w) (a := p) (b := q) (ne := ne) hu x y
      refine effOk_val hS (s := do eqGuard (if ne then .neq else .eql) t x y (a.eval x) (a.eval y); binOp (if ne then .neq else .eql) t (a.eval x) (a.eval y)) rfl (by rw [hx, hy]; exact this) (by simp only [rd])
  | unOp op t x =>
    simp only [trI, Option.map_eq_some_iff] at htr
    obtain ⟨s, h1, rfl⟩ := htr
    have hx := rd_src he h1
    simp only [I.eff] at hef
    split at hef <;> first | (cases hef; done) | skip
    rename_i v hv
    simp only [Option.some.injEq] at hef; subst hef
    obtain ⟨u, k1, k2⟩ := run_un (P := P) hv hx
    exact effOk_val hS rfl k1 k2
  | convert src dst x =>
    simp only [trI] at htr
    split at htr <;> first | (cases htr; done) | skip
    · rename_i ks k s hs hd h1
      simp only [Option.some.injEq] at htr; subst htr
      have hx := rd_src he h1
      simp only [I.eff] at hef
      split at hef <;> first | (cases hef; done) | skip
      rename_i k' n e1
      simp only [Option.some.injEq] at hef; subst hef
      rw [e1] at hx
      simp only [rd] at hx
      refine effOk_val hS (s := convert src dst (a.eval x)) rfl (by rw [hx]; exact run_conv hs hd) (by simp only [rd])
    · rename_i e s hs hd h1
      split at htr <;> first | (cases htr; done) | skip
      rename_i he8
      simp only [Option.some.injEq] at htr; subst htr
      have hx := rd_src he h1
      simp only [I.eff] at hef
      split at hef <;> first | (cases hef; done) | skip
      rename_i szr rows hrows
      split at hef <;> first | (cases hef; done) | skip
      rename_i bs hbs
      simp only [Option.some.injEq] at hef; subst hef
      obtain ⟨a0, cap, hv, hle, hrd⟩ := rowsOf_rd hS hrows hx
      obtain ⟨ns, rfl, rfl, hns⟩ := bytesOf_spec hbs
      refine effOk_val hS (s := convert src dst (a.eval x)) (v := .string ⟨(ns.map fun n => UInt8.ofNat n.toNat).toArray⟩) rfl ?_ (by simp only [rd])
      rw [hv, run_convert_bytes_string w src dst e _ _ _ hs he8 hd]
      rcases hrd with h | ⟨b, off, rfl, hl, hc⟩
      · simp only [List.map_eq_nil_iff] at h; subst h
        cases a0 with
        | none => simp [Conv.bytesToString]; rfl
        | some a0 =>
          have := run_bytesToString (P := P) w a0 0 cap [] (by simp [loadCells, loadCellsFrom])
          exact this
      · have hcells : ∀ j, j < ns.length → w.cell? ((⟨b, off, none⟩ : Addr).add j) = some (.int .u8 (ns.getD j 0)) := by
          intro j hj
          rw [addr_add]
          have hfl : ((ns.map fun n => [V.int .u8 n]).flatten)[j]? = some (V.int .u8 (ns.getD j 0)) := by
            have : ∀ (l : List Int), (l.map fun n => [V.int .u8 n]).flatten = l.map (V.int .u8) := by
              intro l
              induction l with
              | nil => rfl
              | cons n l ih => simp only [List.map_cons, List.flatten_cons, ih]; rfl
            rw [this]; simp [hj]
          obtain ⟨_, c, h1, h2⟩ := hc j _ hfl
          simp only [rd] at h2; subst h2; exact h1
        have hlc := run_loadCells (P := P) w ⟨b, off, none⟩ ns.length (fun j => .int .u8 (ns.getD j 0)) hcells
        have hmap : ((List.range ns.length).map fun j => Value.int .u8 (ns.getD j 0)) = ns.map (Value.int .u8) := by
          apply List.ext_getElem?
          intro j
          by_cases hj : j < ns.length
          · simp [hj]
          · simp [hj]
        rw [hmap] at hlc
        have := run_bytesToString (P := P) w ⟨b, off, none⟩ (ns.map fun n => [V.int .u8 n]).length cap ns (by simpa using hlc)
        rw [this]
        congr 2
        apply ByteArray.ext
        have hfold : ∀ (l : List Int) (r : ByteArray), (l.foldl (fun r n => r.push (UInt8.ofNat n.toNat)) r).data.toList = r.data.toList ++ l.map fun n => UInt8.ofNat n.toNat := by
          intro l
          induction l with
          | nil => intro r; simp
          | cons n l ih => intro r; rw [List.foldl_cons, ih]; simp [ByteArray.push]
        apply Array.ext'
        rw [hfold]
        show [] ++ _ = _
        simp
  | makeSlice t l c =>
    simp only [trI] at htr
    split at htr <;> first | (cases htr; done) | skip
    rename_i e sz by_ s ht h1
    split at htr <;> first | (cases htr; done) | skip
    rename_i z hz
    split at htr <;> first | (cases htr; done) | skip
    rename_i hc
    simp only [Option.some.injEq] at htr; subst htr
    have hx := rd_src he h1
    simp only [I.eff] at hef
    split at hef <;> first | (cases hef; done) | skip
    rename_i n e1
    split at hef <;> first | (cases hef; done) | skip
    rename_i hn
    simp only [Option.some.injEq] at hef; subst hef
    rw [e1] at hx
    simp only [rd] at hx
    have hcc : a.eval c = a.eval l := by
      have := hc.1
      unfold sameTmp at this
      split at this <;> first | (simp at this; done) | skip
      simp at this; subst this; rfl
    obtain ⟨cs, k1, k2, k3⟩ := run_make (w := w) (D := D) (M := M) ht hz hn.1 hn.2.1 hn.2.2
    obtain ⟨i, v, z1, z2, z3, z4, z5, z6, z7⟩ := trZ_spec (w := w) (D := D) (X := XS M D) hz
    refine effOk_of (s := Instr.makeSlice t (a.eval l) (a.eval c)) rfl (by rw [hcc, hx]; exact k1) ?_
    have := done_newS hS (hid rfl) (push_alloc w cs e) (sz := z.length) (rows := List.replicate n.toNat z) (cap := n.toNat) (by omega) (by intro r hr; rw [List.eq_of_mem_replicate hr]) (by simp) (by rw [k3, hc.2]; exact Nat.le_refl _) (fun k x hk => by
      obtain ⟨y, j1, j2⟩ := rdL_get _ _ k2 k x hk
      refine ⟨?_, y, by simpa using j1, j2⟩
      obtain ⟨r, hr, hx'⟩ := List.mem_flatten.1 (List.mem_of_getElem? hk)
      rw [List.eq_of_mem_replicate hr] at hx'
      exact List.all_eq_true.1 z7 x hx')
    simpa [Eff.store, Eff.dv] using this
  | slice t x lo hi mx =>
    cases mx with
    | some m => simp [trI] at htr
    | none =>
    simp only [trI] at htr
    split at htr <;> first | (cases htr; done) | skip
    rename_i s h1
    split at htr <;> first | (cases htr; done) | skip
    rename_i slo shi hlo hhi
    have hx := rd_src he h1
    -- the bounds' readings
    have r1 : (slo = none ∧ lo = none) ∨ ∃ q l, slo = some q ∧ lo = some l ∧ rd w D (XS M D) (q.ev env) (a.eval l) := by
      cases lo with
      | none => simp [trO] at hlo; exact .inl ⟨hlo.symm, rfl⟩
      | some l =>
        simp only [trO, Option.map_eq_some_iff] at hlo
        obtain ⟨q, h2, rfl⟩ := hlo
        exact .inr ⟨q, l, rfl, rfl, rd_src he h2⟩
    have r2 : (shi = none ∧ hi = none) ∨ ∃ q l, shi = some q ∧ hi = some l ∧ rd w D (XS M D) (q.ev env) (a.eval l) := by
      cases hi with
      | none => simp [trO] at hhi; exact .inl ⟨hhi.symm, rfl⟩
      | some l =>
        simp only [trO, Option.map_eq_some_iff] at hhi
        obtain ⟨q, h2, rfl⟩ := hhi
        exact .inr ⟨q, l, rfl, rfl, rd_src he h2⟩
    have bnd : ∀ {n cap h l : Nat} {isS : Bool}, n ≤ cap → hiB env n shi = some h → loB env h slo = some l →
        (Instr.sliceBounds isS n cap (lo.map a.eval) (hi.map a.eval) none).run P w = .ok (l, h, cap) w ∧ l ≤ h ∧ h ≤ n := by
      intro n cap h l isS hn e1 e2
      refine run_bounds (lo := slo.map (·.ev env)) (hi := shi.map (·.ev env)) (X := XS M D) (D := D) hn ?_ ?_ ?_ ?_
      · cases shi <;> simpa [hiB] using e1
      · cases slo <;> simpa [loB] using e2
      · rcases r1 with ⟨rfl, rfl⟩ | ⟨q, l', rfl, rfl, h⟩
        · exact .inl ⟨rfl, rfl⟩
        · exact .inr ⟨_, _, rfl, rfl, h⟩
      · rcases r2 with ⟨rfl, rfl⟩ | ⟨q, l', rfl, rfl, h⟩
        · exact .inl ⟨rfl, rfl⟩
        · exact .inr ⟨_, _, rfl, rfl, h⟩
    split at htr <;> first | (cases htr; done) | skip
    · rename_i hu
      simp only [Option.some.injEq] at htr; subst htr
      simp only [I.eff] at hef
      split at hef <;> first | (cases hef; done) | skip
      rename_i sl e1
      split at hef <;> first | (cases hef; done) | skip
      rename_i h eh
      split at hef <;> first | (cases hef; done) | skip
      rename_i l el
      simp only [Option.some.injEq] at hef; subst hef
      rw [e1] at hx
      simp only [rd] at hx
      obtain ⟨k1, k2, k3⟩ := bnd (isS := false) (Nat.le_refl _) eh el
      exact effOk_val hS (s := Instr.sliceAt t (a.eval x) (lo.map a.eval) (hi.map a.eval) none) rfl (by rw [hx]; exact run_slice_str hu k1) (by simp only [rd])
    · rename_i el hu
      split at htr <;> first | (cases htr; done) | skip
      rename_i i hi'
      split at htr <;> first | (cases htr; done) | skip
      rename_i h0
      simp only [Option.some.injEq] at htr; subst htr
      simp only [I.eff] at hef
      · split at hef <;> first | (cases hef; done) | skip
        rename_i n hn
        split at hef <;> first | (cases hef; done) | skip
        rename_i h eh
        split at hef <;> first | (cases hef; done) | skip
        rename_i l el'
        have hslice : ∀ {a0 : Option Addr} {cap : Nat}, n ≤ cap → a.eval x = .slice a0 n cap → (Instr.sliceAt t (a.eval x) (lo.map a.eval) (hi.map a.eval) none).run P w =
            .ok (.slice (if cap = l then a0 else a0.map (·.add (l * i.size))) (h - l) (cap - l)) w ∧ l ≤ h ∧ h ≤ n := by
          intro a0 cap hc hv
          obtain ⟨k1, k2, k3⟩ := bnd (isS := true) hc eh el'
          exact ⟨by rw [hv]; exact run_slice_sl hu hi' k1, k2, k3⟩
        split at hef <;> first | (cases hef; done) | skip
        · -- nil
          rename_i e1
          simp only [Option.some.injEq] at hef; subst hef
          rw [e1] at hx hn
          simp only [lenOf, Option.some.injEq] at hn; subst hn
          simp only [rd] at hx
          obtain ⟨a0, hx⟩ := hx
          obtain ⟨k1, k2, k3⟩ := hslice (Nat.le_refl _) hx
          have hh0 : h = 0 := by omega
          have hl0 : l = 0 := by omega
          subst hh0 hl0
          exact effOk_val hS (s := Instr.sliceAt t (a.eval x) (lo.map a.eval) (hi.map a.eval) none) rfl k1 (by simp only [rd]; exact ⟨_, rfl⟩)
        · -- frozen
          rename_i sz' rows e1
          split at hef <;> first | (cases hef; done) | skip
          rename_i hsz
          simp only [Option.some.injEq] at hef; subst hef
          rw [e1] at hx hn
          simp only [lenOf, Option.some.injEq] at hn; subst hn
          simp only [rd] at hx
          obtain ⟨a0, cap, hx, hle, hwh⟩ := hx
          obtain ⟨k1, k2, k3⟩ := hslice hle hx
          have hlen : ((rows.take h).drop l).length = h - l := by simp; omega
          refine effOk_val hS (s := Instr.sliceAt t (a.eval x) (lo.map a.eval) (hi.map a.eval) none) rfl k1 ?_
          simp only [rd]
          refine ⟨_, _, by rw [hlen], by rw [hlen]; omega, ?_⟩
          by_cases hemp : (rows.take h).drop l = []
          · exact .inl hemp
          · rcases hwh with rfl | ⟨b, off, rfl, hb, hX, hrows⟩
            · simp at hemp
            · have : ¬ cap = l := by
                intro hcl
                apply hemp
                apply List.eq_nil_of_length_eq_zero
                omega
              rw [if_neg this]
              refine .inr ⟨b, off + l * sz', by rw [hsz]; simp, hb, hX, ?_⟩
              exact rdRows_drop l off _ (rdRows_take h off _ hrows)
        · -- an object's
          rename_i o st ln e1
          split at hef <;> first | (cases hef; done) | skip
          rename_i ob hob
          split at hef <;> first | (cases hef; done) | skip
          rename_i hsz
          simp only [Option.some.injEq] at hef; subst hef
          rw [e1] at hx hn
          simp only [lenOf, hob, Option.map_some, Option.some.injEq] at hn; subst hn
          obtain ⟨d, hd⟩ := hS.alive o ob hob
          obtain ⟨ob', c, e0, f1, f2, _⟩ := hS.live o d hd
          rw [hob] at f1; cases f1
          simp only [rd, hd] at hx
          obtain ⟨hn, a0, cap, hx, hcap, hwh⟩ := hx
          obtain ⟨k1, k2, k3⟩ := hslice hcap hx
          refine effOk_val hS (s := Instr.sliceAt t (a.eval x) (lo.map a.eval) (hi.map a.eval) none) rfl k1 ?_
          simp only [rd, hd]
          refine ⟨by omega, _, _, rfl, by omega, ?_⟩
          by_cases hcl : cap = l
          · right; omega
          · rw [if_neg hcl]
            rcases hwh with ⟨rfl, hfit⟩ | ⟨rfl, rfl⟩
            · left
              refine ⟨by simp only [Option.map_some, addr_add]; rw [f2, hsz, Nat.add_mul, Nat.add_assoc], ?_⟩
              rw [show st + l + (cap - l) = st + cap by omega]; exact hfit
            · right; omega
  | fieldAddr t x f =>
    simp only [trI] at htr
    split at htr <;> first | (cases htr; done) | skip
    rename_i fs s hu h1
    split at htr <;> first | (cases htr; done) | skip
    rename_i fd hfd
    split at htr <;> first | (cases htr; done) | skip
    rename_i i hi
    split at htr <;> first | (cases htr; done) | skip
    rename_i h0
    simp only [Option.some.injEq] at htr; subst htr
    have hx := rd_src he h1
    simp only [I.eff] at hef
    split at hef <;> first | (cases hef; done) | skip
    · rename_i o r off e1
      split at hef <;> first | (cases hef; done) | skip
      rename_i ob hob
      simp only [Option.some.injEq] at hef; subst hef
      rw [e1] at hx
      simp only [rd] at hx
      obtain ⟨d, hD⟩ := hS.alive o ob hob
      · rw [hD] at hx; simp only [] at hx
        refine effOk_val hS (s := Instr.fieldAt t (a.eval x) f) rfl (by rw [hx]; exact run_field_addr hu hfd hi h0 _ _) (by simp only [rd, hD]; rw [Nat.add_assoc])
    · rename_i row off e1
      simp only [Option.some.injEq] at hef; subst hef
      rw [e1] at hx
      simp only [rd] at hx
      obtain ⟨b, o, hx, hb⟩ := hx
      refine effOk_val hS (s := Instr.fieldAt t (a.eval x) f) rfl (by rw [hx]; exact run_field_addr hu hfd hi h0 _ _) (by simp only [rd]; exact ⟨b, o, by rw [Nat.add_assoc], hb⟩)
  | indexAddr t x ix =>
    simp only [trI] at htr
    split at htr <;> first | (cases htr; done) | skip
    rename_i s r h1 h2
    have hx := rd_src he h1
    have hy := rd_src he h2
    split at htr <;> first | (cases htr; done) | skip
    · rename_i e hu
      split at htr <;> first | (cases htr; done) | skip
      rename_i n hi
      simp only [Option.some.injEq] at htr; subst htr
      simp only [I.eff] at hef
      split at hef <;> first | (cases hef; done) | skip
      · rename_i o st ln e1
        split at hef <;> first | (cases hef; done) | skip
        rename_i ob j hob hj
        split at hef <;> first | (cases hef; done) | skip
        rename_i hsz
        simp only [Option.some.injEq] at hef; subst hef
        rw [e1] at hx
        obtain ⟨d, hd⟩ := hS.alive o ob hob
        obtain ⟨ob', c, e0, f1, f2, _⟩ := hS.live o d hd
        rw [hob] at f1; cases f1
        simp only [rd, hd] at hx
        obtain ⟨hn, a0, cap, hx, hcap, hwh⟩ := hx
        obtain ⟨kd, m, hv, k1, k2, rfl, k3⟩ := asIdx_spec hj hy
        rcases hwh with ⟨rfl, _⟩ | ⟨rfl, rfl⟩
        · refine effOk_val hS (s := Instr.indexAt t (a.eval x) (a.eval ix)) rfl (by rw [hx, hv]; exact run_index_slice hu hi ⟨k1, k2⟩) ?_
          simp only [rd, hd]
          rw [f2, hsz, Nat.add_mul]; simp only [Nat.add_zero, Nat.add_assoc]
        · omega
      · rename_i sz' rows e1
        split at hef <;> first | (cases hef; done) | skip
        rename_i j hj
        split at hef <;> first | (cases hef; done) | skip
        rename_i hsz
        simp only [Option.some.injEq] at hef; subst hef
        subst hsz
        rw [e1] at hx
        simp only [rd] at hx
        obtain ⟨a0, cap, hx, hle, hwh⟩ := hx
        obtain ⟨kd, m, hv, k1, k2, rfl, k3⟩ := asIdx_spec hj hy
        rcases hwh with rfl | ⟨b, off, rfl, hb, hX, hrows⟩
        · simp at k3
        · refine effOk_val hS (s := Instr.indexAt t (a.eval x) (a.eval ix)) rfl (by rw [hx, hv]; exact run_index_slice hu hi ⟨k1, k2⟩) ?_
          simp only [rd]
          have hg : rows[m.toNat]? = some (rows.getD m.toNat []) := by simp [k3]
          exact ⟨b, off + m.toNat * n.size, by simp, hb, hX, (rdRows_get off rows hrows _ _ hg).2⟩
    · rename_i cnt e hu
      split at htr <;> first | (cases htr; done) | skip
      rename_i n hi
      simp only [Option.some.injEq] at htr; subst htr
      simp only [I.eff] at hef
      split at hef <;> first | (cases hef; done) | skip
      · rename_i o rr off j e1 hj
        split at hef <;> first | (cases hef; done) | skip
        rename_i ob hob
        simp only [Option.some.injEq] at hef; subst hef
        rw [e1] at hx
        obtain ⟨d, hd⟩ := hS.alive o ob hob
        simp only [rd, hd] at hx
        obtain ⟨kd, m, hv, k1, k2, rfl, k3⟩ := asIdx_spec hj hy
        refine effOk_val hS (s := Instr.indexAt t (a.eval x) (a.eval ix)) rfl (by rw [hx, hv]; exact run_index_arr hu hi ⟨k1, k2⟩) ?_
        simp only [rd, hd, Nat.add_assoc]
      · rename_i row off j e1 hj
        simp only [Option.some.injEq] at hef; subst hef
        rw [e1] at hx
        simp only [rd] at hx
        obtain ⟨b, o, hx, hb⟩ := hx
        obtain ⟨kd, m, hv, k1, k2, rfl, k3⟩ := asIdx_spec hj hy
        refine effOk_val hS (s := Instr.indexAt t (a.eval x) (a.eval ix)) rfl (by rw [hx, hv]; exact run_index_arr hu hi ⟨k1, k2⟩) ?_
        simp only [rd]
        exact ⟨b, o, by rw [Nat.add_assoc], hb⟩
  | index t x ix =>
    simp only [trI] at htr
    split at htr <;> first | (cases htr; done) | skip
    rename_i s r h1 h2 hu
    simp only [Option.some.injEq] at htr; subst htr
    have hx := rd_src he h1
    have hy := rd_src he h2
    simp only [I.eff] at hef
    split at hef <;> first | (cases hef; done) | skip
    rename_i l e1
    split at hef <;> first | (cases hef; done) | skip
    rename_i j hj
    simp only [Option.some.injEq] at hef; subst hef
    rw [e1] at hx
    simp only [rd] at hx
    obtain ⟨kd, n, hv, k1, k2, rfl, k3⟩ := asIdx_spec hj hy
    refine effOk_val hS (s := Instr.index t (a.eval x) (a.eval ix)) rfl (by rw [hx, hv]; exact run_index_str hu ⟨k1, k2⟩) (by simp only [rd])
  | extract x ix =>
    simp only [trI, Option.map_eq_some_iff] at htr
    obtain ⟨s, h1, rfl⟩ := htr
    have hx := rd_src he h1
    simp only [I.eff] at hef
    split at hef <;> first | (cases hef; done) | skip
    rename_i vs e1
    split at hef <;> first | (cases hef; done) | skip
    rename_i v hv
    simp only [Option.some.injEq] at hef; subst hef
    rw [e1] at hx
    simp only [rd] at hx
    obtain ⟨arr, hx, hl⟩ := hx
    obtain ⟨u, k1, k2⟩ := rdL_get _ _ hl ix v hv
    refine effOk_val hS (s := Instr.extract (a.eval x) ix) rfl (by rw [hx]; simp only [Instr.extract]; rw [← Array.getElem?_toList, k1]; rfl) k2
  | call c =>
    obtain ⟨callee, args, argTypes⟩ := c
    cases callee with
    | invoke r m => simp [trI] at htr
    | value f =>
      cases f with
      | func f =>
        simp only [trI] at htr
        split at htr <;> first | (cases htr; done) | skip
        split at htr <;> first | (cases htr; done) | skip
        simp only [Option.some.injEq] at htr; subst htr
        simp [I.eff] at hef
      | _ => simp [trI] at htr
    | builtin b =>
    cases b with
    | len =>
      simp only [trI] at htr
      split at htr <;> first | (cases htr; done) | skip
      rename_i x t hargs hat
      have hargs' : args = #[x] := by rw [← Array.toArray_toList (xs := args)]; rw [hargs]
      have hat' : argTypes = #[t] := by rw [← Array.toArray_toList (xs := argTypes)]; rw [hat]
      subst hargs' hat'
      split at htr <;> first | (cases htr; done) | skip
      · rename_i s h1 hu
        simp only [Option.some.injEq] at htr; subst htr
        have hx := rd_src he h1
        simp only [I.eff] at hef
        split at hef <;> first | (cases hef; done) | skip
        rename_i l hl
        simp only [Option.some.injEq] at hef; subst hef
        rw [hl] at hx
        simp only [rd] at hx
        have k := run_len_str (w := w) (ty := type) (s := ⟨l.toArray⟩) hu
        refine ⟨.value (.int .i64 l.length), _, w, ?_, .inl rfl, done_val hS rfl⟩
        simp [execOp, Go.resolve, invoke, builtin, hx, k, ByteArray.size]
      · rename_i s e h1 hu
        simp only [Option.some.injEq] at htr; subst htr
        have hx := rd_src he h1
        simp only [I.eff] at hef
        split at hef <;> first | (cases hef; done) | skip
        rename_i n hn
        simp only [Option.some.injEq] at hef; subst hef
        obtain ⟨a0, cap, hv, _⟩ := lenOf_rd hS hn hx
        have k := run_len_sl (w := w) (ty := type) (a := a0) (n := n) (c := cap) hu
        refine ⟨.value (.int .i64 n), _, w, ?_, .inl rfl, done_val hS rfl⟩
        simp [execOp, Go.resolve, invoke, builtin, hv, k]
    | append =>
      simp only [trI] at htr
      split at htr <;> first | (cases htr; done) | skip
      rename_i x y t u hargs hat
      have hargs' : args = #[x, y] := by rw [← Array.toArray_toList (xs := args)]; rw [hargs]
      have hat' : argTypes = #[t, u] := by rw [← Array.toArray_toList (xs := argTypes)]; rw [hat]
      subst hargs' hat'
      split at htr <;> first | (cases htr; done) | skip
      rename_i s r e sz by_ e' h1 h2 h3 h4
      split at htr <;> first | (cases htr; done) | skip
      rename_i hz
      simp only [Option.some.injEq] at htr; subst htr
      obtain ⟨v, w', k1, k2⟩ := app_ok (ty := type) hS (hid rfl) h3 hz h4 (rd_src he h1) (rd_src he h2) rfl rfl hef
      refine ⟨.value v, v, w', ?_, .inl rfl, k2⟩
      simp only [execOp, Go.resolve, invoke, builtin, Sem.run_bind, Sem.run_pure, Result.andThen_ok]
      simp [k1]
    | max =>
      simp only [trI] at htr
      split at htr <;> first | (cases htr; done) | skip
      rename_i x y hargs
      have hargs' : args = #[x, y] := by rw [← Array.toArray_toList (xs := args)]; rw [hargs]
      subst hargs'
      split at htr <;> first | (cases htr; done) | skip
      rename_i s r h1 h2
      simp only [Option.some.injEq] at htr; subst htr
      have hx := rd_src he h1
      have hy := rd_src he h2
      simp only [I.eff] at hef
      split at hef <;> first | (cases hef; done) | skip
      rename_i k p k' q e1 e2
      split at hef <;> first | (cases hef; done) | skip
      rename_i hk
      subst hk
      simp only [Option.some.injEq] at hef; subst hef
      rw [e1] at hx; rw [e2] at hy
      simp only [rd] at hx hy
      refine ⟨.value (.int k (if q > p then q else p)), _, w, ?_, .inl rfl, done_val hS rfl⟩
      simp [execOp, Go.resolve, invoke, builtin, hx, hy, Builtin.max_, Builtin.max2]
    | _ => simp [trI] at htr
  | _ => simp [trI] at htr
end
end Go.Ml
