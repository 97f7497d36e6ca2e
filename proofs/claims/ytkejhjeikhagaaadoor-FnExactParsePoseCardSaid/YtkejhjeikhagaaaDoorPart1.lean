/- Contracts of functions. -/
import Derived.Test.YtkejhjeikhagaaaDoorPart0
section
set_option linter.unusedSimpArgs false
namespace Go.Ml
def asIdxK (n : Nat) (v : V) (k : Nat → Prop) : Prop := match v with
  | .int _ i => (0 ≤ i ∧ i < n) ∧ k i.toNat
  | _ => False
def asBoundK (n : Nat) (v : V) (k : Nat → Prop) : Prop := match v with
  | .int _ i => (0 ≤ i ∧ i ≤ n) ∧ k i.toNat
  | _ => False
theorem asIdxK_spec {n : Nat} {v : V} {k : Nat → Prop} (h : asIdxK n v k) : ∃ j, asIdx n v = some j ∧ k j := by
  cases v <;> simp only [asIdxK] at h <;> first | exact h.elim | skip
  exact ⟨_, by simp only [asIdx]; rw [if_pos h.1], h.2⟩
theorem asBoundK_spec {n : Nat} {v : V} {k : Nat → Prop} (h : asBoundK n v k) : ∃ j, asBound n v = some j ∧ k j := by
  cases v <;> simp only [asBoundK] at h <;> first | exact h.elim | skip
  exact ⟨_, by simp only [asBound]; rw [if_pos h.1], h.2⟩
def optK {α : Type} (o : Option α) (k : α → Prop) : Prop := match o with
  | some a => k a
  | none => False
theorem optK_spec {α : Type} {o : Option α} {k : α → Prop} (h : optK o k) : ∃ a, o = some a ∧ k a := by
  cases o with
  | none => exact h.elim
  | some a => exact ⟨a, rfl, h⟩
def binK (op : BinOp) (x y : V) (k : V → Prop) : Prop := match op, x, y with
  | .add, .int q a, .int q' b => q = q' ∧ k (.int q (q.wrap (a + b)))
  | .sub, .int q a, .int q' b => q = q' ∧ k (.int q (q.wrap (a - b)))
  | .mul, .int q a, .int q' b => q = q' ∧ k (.int q (q.wrap (a * b)))
  | .quo, .int q a, .int q' b => (q = q' ∧ b ≠ 0) ∧ k (.int q (q.wrap (a.tdiv b)))
  | .rem, .int q a, .int q' b => (q = q' ∧ b ≠ 0) ∧ k (.int q (a.tmod b))
  | .eql, .int q a, .int q' b => q = q' ∧ k (.bool (a == b))
  | .neq, .int q a, .int q' b => q = q' ∧ k (.bool (a != b))
  | .lss, .int q a, .int q' b => q = q' ∧ k (.bool (decide (a < b)))
  | .leq, .int q a, .int q' b => q = q' ∧ k (.bool (decide (a ≤ b)))
  | .gtr, .int q a, .int q' b => q = q' ∧ k (.bool (decide (b < a)))
  | .geq, .int q a, .int q' b => q = q' ∧ k (.bool (decide (b ≤ a)))
  | .eql, .str a, .str b => k (.bool (a == b))
  | .neq, .str a, .str b => k (.bool (!(a == b)))
  | .add, .str a, .str b => a.length + b.length < 2 ^ 62 ∧ k (.str (a ++ b))
  | .shr, .int q a, .int _ b => 0 ≤ b ∧ k (.int q (a.fdiv (2 ^ (min b.toNat q.bits))))
  | .and, .int q a, .int q' b => q = q' ∧ k (.int q (bitsAnd q a b))
  | .xor, .int q a, .int q' b => q = q' ∧ k (.int q (bitsXor q a b))
  | _, _, _ => False
theorem binK_spec {op : BinOp} {x y : V} {k : V → Prop} (h : binK op x y k) : ∃ v, evBin op x y = some v ∧ k v := by
  unfold binK at h
  split at h <;> first | exact h.elim | skip
  all_goals first
    | exact ⟨_, by simp only [evBin]; rw [if_pos h.1], h.2⟩
    | exact ⟨_, by simp only [evBin], h⟩
def I.effK (env : Nat → V) (σ : Store) (i : I) (k : Eff → Prop) : Prop := match i with
  | .mov x => k (.val (x.ev env))
  | .pick c a b => match c.ev env with
    | .bool t => k (.val (if t then a.ev env else b.ev env))
    | _ => False
  | .alloc zero => k (.newP ⟨zero.length, [zero]⟩)
  | .box x => match (x.ev env).cells? with
    | some (c :: cs) => k (.newP ⟨(c :: cs).length, [c :: cs]⟩)
    | _ => False
  | .build zero parts => optK (fillRow env zero parts) fun cs => k (.val (.agg cs))
  | .mkSl sz zero ln parts => optK (fillRows env sz (List.replicate ln zero) parts) fun rows => if ln = 0 then k (.val .nils) else k (.newS ⟨sz, rows⟩ ln)
  | .make zero bytes x => match x.ev env with
    | .int .i64 n => (0 ≤ n ∧ n ≤ 2 ^ 47 ∧ n * bytes ≤ 2 ^ 47) ∧ k (.newS ⟨zero.length, List.replicate n.toNat zero⟩ n.toNat)
    | _ => False
  | .load n isAgg a => optK (rowAt σ (a.ev env)) fun p =>
      if isAgg then (p.2 + n ≤ p.1.length ∧ k (.val (.agg ((p.1.drop p.2).take n)))) else optK p.1[p.2]? fun v => k (.val v)
  | .store n a x => match a.ev env with
    | .ptr o r off => optK (x.ev env).cells? fun cs => optK (objAt σ o) fun ob => optK ob.rows[r]? fun row =>
        (cs.length = n ∧ off + n ≤ row.length) ∧ k (.upd o ⟨ob.sz, ob.rows.set r (splice row off cs)⟩)
    | _ => False
  | .fld d a => match a.ev env with
    | .ptr o r off => optK (objAt σ o) fun _ => k (.val (.ptr o r (off + d)))
    | .fptr row off => k (.val (.fptr row (off + d)))
    | _ => False
  | .idx sz x i => match x.ev env with
    | .msl o s l => optK (objAt σ o) fun ob => asIdxK l (i.ev env) fun j => ob.sz = sz ∧ k (.val (.ptr o (s + j) 0))
    | .sl sz' rows => asIdxK rows.length (i.ev env) fun j => sz' = sz ∧ k (.val (.fptr (rows.getD j []) 0))
    | _ => False
  | .idxA cnt sz x i => match x.ev env with
    | .ptr o r off => asIdxK cnt (i.ev env) fun j => optK (objAt σ o) fun _ => k (.val (.ptr o r (off + j * sz)))
    | .fptr row off => asIdxK cnt (i.ev env) fun j => k (.val (.fptr row (off + j * sz)))
    | _ => False
  | .idxS x i => match x.ev env with
    | .str s => asIdxK s.length (i.ev env) fun j => k (.val (.int .u8 (s.getD j 0).toNat))
    | _ => False
  | .len x => optK (lenOf σ (x.ev env)) fun n => k (.val (.int .i64 n))
  | .lenS x => match x.ev env with
    | .str s => k (.val (.int .i64 s.length))
    | _ => False
  | .bin op x y => binK op (x.ev env) (y.ev env) fun v => k (.val v)
  | .beq ne x y => match x.ev env, y.ev env with
    | .bool a, .bool b => k (.val (.bool (if ne then !(a == b) else a == b)))
    | _, _ => False
  | .un op x => match op, x.ev env with
    | .neg, .int q n => k (.val (.int q (q.wrap (0 - n))))
    | .not, .bool b => k (.val (.bool (!b)))
    | _, _ => False
  | .conv q x => match x.ev env with
    | .int _ n => k (.val (.int q (q.wrap n)))
    | _ => False
  | .app sz bytes x y => optK (rowsOf σ (x.ev env)) fun old => optK (rowsOf σ (y.ev env)) fun new =>
      (new.2 = [] → k (.val (x.ev env))) ∧ (new.2 ≠ [] → (new.1 = sz ∧ (old.2.length + new.2.length) * bytes ≤ 2 ^ 40 ∧ old.2.length + new.2.length ≤ 2 ^ 40) ∧
        match x.ev env with
        | .nils => k (.newS ⟨sz, new.2⟩ new.2.length)
        | .msl o _ _ => optK (objAt σ o) fun ob => ob.sz = sz ∧ k (.mov o ⟨sz, old.2 ++ new.2⟩ (old.2.length + new.2.length))
        | _ => False)
  | .max x y => match x.ev env, y.ev env with
    | .int q a, .int q' b => q = q' ∧ k (.val (.int q (if b > a then b else a)))
    | _, _ => False
  | .extr i x => match x.ev env with
    | .tup vs => optK vs[i]? fun v => k (.val v)
    | _ => False
  | .chk x => match x.ev env with
    | .ptr o r off => optK (objAt σ o) fun _ => k (.val (.ptr o r off))
    | .fptr row off => k (.val (.fptr row off))
    | _ => False
  | .sliceS x lo hi => match x.ev env with
    | .str s => (match hi with | some h => asBoundK s.length (h.ev env) | none => fun k => k s.length) fun h =>
        (match lo with | some l => asBoundK h (l.ev env) | none => fun k => k 0) fun l => k (.val (.str ((s.take h).drop l)))
    | _ => False
  | .slice sz x lo hi => optK (lenOf σ (x.ev env)) fun n => (match hi with | some h => asBoundK n (h.ev env) | none => fun k => k n) fun h =>
      (match lo with | some l => asBoundK h (l.ev env) | none => fun k => k 0) fun l => match x.ev env with
        | .nils => k (.val .nils)
        | .sl sz' rows => sz' = sz ∧ k (.val (.sl sz' ((rows.take h).drop l)))
        | .msl o s _ => optK (objAt σ o) fun ob => ob.sz = sz ∧ k (.val (.msl o (s + l) (h - l)))
        | _ => False
  | .idxV cnt x i => match x.ev env with
    | .agg cs => asIdxK cnt (i.ev env) fun j => optK cs[j]? fun v => k (.val v)
    | _ => False
  | i => optK (i.eff env σ) k
theorem hiK_spec {env : Nat → V} {n : Nat} {hi : Option Src} {k : Nat → Prop} (h : (match hi with | some h => asBoundK n (h.ev env) | none => fun k => k n) k) : ∃ j, hiB env n hi = some j ∧ k j := by
  cases hi with
  | none => exact ⟨n, rfl, h⟩
  | some x => exact asBoundK_spec h
theorem loK_spec {env : Nat → V} {n : Nat} {lo : Option Src} {k : Nat → Prop} (h : (match lo with | some h => asBoundK n (h.ev env) | none => fun k => k 0) k) : ∃ j, loB env n lo = some j ∧ k j := by
  cases lo with
  | none => exact ⟨0, rfl, h⟩
  | some x => exact asBoundK_spec h
theorem effK_spec {env : Nat → V} {σ : Store} {i : I} {k : Eff → Prop} (h : i.effK env σ k) : ∃ ef, i.eff env σ = some ef ∧ k ef := by
  cases i with
  | mov x => exact ⟨_, rfl, h⟩
  | pick c a b =>
    simp only [I.effK] at h
    split at h <;> first | exact h.elim | skip
    rename_i t e
    exact ⟨_, by simp only [I.eff, e], h⟩
  | alloc z => exact ⟨_, rfl, h⟩
  | box x =>
    simp only [I.effK] at h
    split at h <;> first | exact h.elim | skip
    rename_i c cs e
    exact ⟨_, by simp only [I.eff, e], h⟩
  | build z ps =>
    obtain ⟨cs, e, h⟩ := optK_spec h
    exact ⟨_, by simp only [I.eff, e], h⟩
  | mkSl sz z ln ps =>
    obtain ⟨rows, e, h⟩ := optK_spec h
    split at h
    · rename_i h0; exact ⟨_, by simp only [I.eff, e]; rw [if_pos h0], h⟩
    · rename_i h0; exact ⟨_, by simp only [I.eff, e]; rw [if_neg h0], h⟩
  | make z b x =>
    simp only [I.effK] at h
    split at h <;> first | exact h.elim | skip
    rename_i n e
    exact ⟨_, by simp only [I.eff, e]; rw [if_pos h.1], h.2⟩
  | load n g a =>
    obtain ⟨p, e, h⟩ := optK_spec h
    obtain ⟨row, off⟩ := p
    simp only [] at h
    cases g with
    | true =>
      simp only [if_true] at h
      exact ⟨_, by simp only [I.eff, e, if_true]; rw [if_pos h.1], h.2⟩
    | false =>
      simp only [Bool.false_eq_true, if_false] at h
      obtain ⟨v, e2, h⟩ := optK_spec h
      exact ⟨_, by simp only [I.eff, e, Bool.false_eq_true, if_false, e2], h⟩
  | store n a x =>
    simp only [I.effK] at h
    split at h <;> first | exact h.elim | skip
    rename_i o r off e
    obtain ⟨cs, e1, h⟩ := optK_spec h
    obtain ⟨ob, e2, h⟩ := optK_spec h
    obtain ⟨row, e3, h⟩ := optK_spec h
    exact ⟨_, by simp only [I.eff, e, e1, e2, e3]; rw [if_pos h.1], h.2⟩
  | fld d a =>
    simp only [I.effK] at h
    split at h <;> first | exact h.elim | skip
    · rename_i o r off e
      obtain ⟨ob, e2, h⟩ := optK_spec h
      exact ⟨_, by simp only [I.eff, e, e2], h⟩
    · rename_i row off e
      exact ⟨_, by simp only [I.eff, e], h⟩
  | idx sz x i =>
    simp only [I.effK] at h
    split at h <;> first | exact h.elim | skip
    · rename_i o s l e
      obtain ⟨ob, e2, h⟩ := optK_spec h
      obtain ⟨j, e3, h⟩ := asIdxK_spec h
      exact ⟨_, by simp only [I.eff, e, e2, e3]; rw [if_pos h.1], h.2⟩
    · rename_i sz' rows e
      obtain ⟨j, e3, h⟩ := asIdxK_spec h
      exact ⟨_, by simp only [I.eff, e, e3]; rw [if_pos h.1], h.2⟩
  | idxA c sz x i =>
    simp only [I.effK] at h
    split at h <;> first | exact h.elim | skip
    · rename_i o r off e
      obtain ⟨j, e3, h⟩ := asIdxK_spec h
      obtain ⟨ob, e2, h⟩ := optK_spec h
      exact ⟨_, by simp only [I.eff, e, e2, e3], h⟩
    · rename_i row off e
      obtain ⟨j, e3, h⟩ := asIdxK_spec h
      exact ⟨_, by simp only [I.eff, e, e3], h⟩
  | idxS x i =>
    simp only [I.effK] at h
    split at h <;> first | exact h.elim | skip
    rename_i s e
    obtain ⟨j, e3, h⟩ := asIdxK_spec h
    exact ⟨_, by simp only [I.eff, e, e3], h⟩
  | len x =>
    obtain ⟨n, e, h⟩ := optK_spec h
    exact ⟨_, by simp only [I.eff, e], h⟩
  | lenS x =>
    simp only [I.effK] at h
    split at h <;> first | exact h.elim | skip
    rename_i s e
    exact ⟨_, by simp only [I.eff, e], h⟩
  | bin op x y =>
    simp only [I.effK] at h
    obtain ⟨v, e, h⟩ := binK_spec h
    exact ⟨_, by simp only [I.eff, e], h⟩
  | beq ne x y =>
    simp only [I.effK] at h
    split at h <;> first | exact h.elim | skip
    rename_i p q e1 e2
    exact ⟨_, by simp only [I.eff, e1, e2], h⟩
  | un op x =>
    simp only [I.effK] at h
    split at h <;> first | exact h.elim | skip
    · rename_i q n e
      exact ⟨_, by simp only [I.eff, e, evUn], h⟩
    · rename_i b e
      exact ⟨_, by simp only [I.eff, e, evUn], h⟩
  | conv q x =>
    simp only [I.effK] at h
    split at h <;> first | exact h.elim | skip
    rename_i q' n e
    exact ⟨_, by simp only [I.eff, e], h⟩
  | app sz b x y =>
    obtain ⟨old, e1, h⟩ := optK_spec h
    obtain ⟨new, e2, h⟩ := optK_spec h
    obtain ⟨so, old⟩ := old
    obtain ⟨sn, new⟩ := new
    simp only [] at h
    by_cases hn : new = []
    · exact ⟨_, by simp only [I.eff, e1, e2]; rw [if_pos hn], h.1 hn⟩
    · obtain ⟨hc, h⟩ := h.2 hn
      split at h <;> first | exact h.elim | skip
      · rename_i e
        rw [e] at e1
        refine ⟨_, ?_, h⟩
        simp only [I.eff, e, e1, e2]; rw [if_neg hn, if_pos hc]
      · rename_i o s l e
        obtain ⟨ob, e3, h⟩ := optK_spec h
        rw [e] at e1
        refine ⟨_, ?_, h.2⟩
        simp only [I.eff, e, e1, e2, e3]; rw [if_neg hn, if_pos hc, if_pos h.1]
  | max x y =>
    simp only [I.effK] at h
    split at h <;> first | exact h.elim | skip
    rename_i q p q' r e1 e2
    exact ⟨_, by simp only [I.eff, e1, e2]; rw [if_pos h.1], h.2⟩
  | extr i x =>
    simp only [I.effK] at h
    split at h <;> first | exact h.elim | skip
    rename_i vs e
    obtain ⟨v, e2, h⟩ := optK_spec h
    exact ⟨_, by simp only [I.eff, e, e2], h⟩
  | chk x =>
    simp only [I.effK] at h
    split at h <;> first | exact h.elim | skip
    · rename_i o r off e
      obtain ⟨ob, e2, h⟩ := optK_spec h
      exact ⟨_, by simp only [I.eff, e, e2], h⟩
    · rename_i row off e
      exact ⟨_, by simp only [I.eff, e], h⟩
  | sliceS x lo hi =>
    simp only [I.effK] at h
    split at h <;> first | exact h.elim | skip
    rename_i s e
    obtain ⟨hh, e1, h⟩ := hiK_spec h
    obtain ⟨l, e2, h⟩ := loK_spec h
    exact ⟨_, by simp only [I.eff, e, e1, e2], h⟩
  | slice sz x lo hi =>
    obtain ⟨n, e0, h⟩ := optK_spec h
    obtain ⟨hh, e1, h⟩ := hiK_spec h
    obtain ⟨l, e2, h⟩ := loK_spec h
    split at h <;> first | exact h.elim | skip
    · rename_i e
      rw [e] at e0
      exact ⟨_, by simp only [I.eff, e, e0, e1, e2], h⟩
    · rename_i sz' rows e
      rw [e] at e0
      exact ⟨_, by simp only [I.eff, e, e0, e1, e2]; rw [if_pos h.1], h.2⟩
    · rename_i o s q e
      obtain ⟨ob, e3, h⟩ := optK_spec h
      rw [e] at e0
      exact ⟨_, by simp only [I.eff, e, e0, e1, e2, e3]; rw [if_pos h.1], h.2⟩
  | idxV cnt x i =>
    simp only [I.effK] at h
    split at h <;> first | exact h.elim | skip
    rename_i cs e
    obtain ⟨j, e2, h⟩ := asIdxK_spec h
    obtain ⟨v, e3, h⟩ := optK_spec h
    exact ⟨_, by simp only [I.eff, e, e2, e3], h⟩
  | _ => exact optK_spec h
def PF (T : Nat → Option Fn) (f : Nat) (args : List V) (r : V) : Prop := Run T (.fn f args []) (.fn r [])
def boolK (v : V) (k : Bool → Prop) : Prop := match v with
  | .bool b => k b
  | _ => False
theorem boolK_spec {v : V} {k : Bool → Prop} (h : boolK v k) : ∃ b, v = .bool b ∧ k b := by
  cases v <;> first | exact h.elim | exact ⟨_, rfl, h⟩
def gdK (want : Bool) (v : V) (k : Bool → Prop) : Prop := match v with
  | .bool b => k b
  | .tup [] => k (!want)
  | _ => False
theorem gdK_spec {want : Bool} {v : V} {k : Bool → Prop} (h : gdK want v k) : (v = .bool want ∧ k want) ∨ (OffV want v ∧ k (!want)) := by
  unfold gdK at h
  split at h
  · rename_i b
    by_cases e : b = want
    · subst e; exact .inl ⟨rfl, h⟩
    · have : b = !want := by cases b <;> cases want <;> simp_all
      subst this
      exact .inr ⟨.inr ⟨_, rfl, e⟩, h⟩
  · exact .inr ⟨.inl rfl, h⟩
  · exact h.elim
def gK (g : Option (Nat × Bool)) (env : Nat → V) (on off : Prop) : Prop := match g with
  | none => on
  | some (t, true) => gdK true (env t) fun b => if b = true then on else off
  | some (t, false) => gdK false (env t) fun b => if b = true then off else on
theorem gK_spec {g : Option (Nat × Bool)} {env : Nat → V} {on off : Prop} (h : gK g env on off) :
    ((∀ t want, g = some (t, want) → env t = .bool want) ∧ on) ∨ (∃ t want, g = some (t, want) ∧ OffV want (env t) ∧ off) := by
  cases g with
  | none => exact .inl ⟨fun _ _ h => (by cases h), h⟩
  | some p =>
    obtain ⟨t, want⟩ := p
    cases want with
    | true =>
      rcases gdK_spec h with ⟨e, h⟩ | ⟨e, h⟩
      · exact .inl ⟨fun _ _ h => (by cases h; exact e), (by simpa using h)⟩
      · exact .inr ⟨t, true, rfl, e, by simpa using h⟩
    | false =>
      rcases gdK_spec h with ⟨e, h⟩ | ⟨e, h⟩
      · exact .inl ⟨fun _ _ h => (by cases h; exact e), (by simpa using h)⟩
      · exact .inr ⟨t, false, rfl, e, by simpa using h⟩
def resK (env : Nat → V) (σ : Store) : List Src → (List V → Prop) → Prop
  | [], k => k []
  | s :: as, k => optK (resolve σ FD (s.ev env)) fun v => resK env σ as fun vs => k (v :: vs)
theorem resK_spec {env : Nat → V} {σ : Store} : ∀ {as : List Src} {k : List V → Prop}, resK env σ as k → ∃ vs, as.mapM (fun s => resolve σ FD (s.ev env)) = some vs ∧ k vs
  | [], k, h => ⟨[], rfl, h⟩
  | s :: as, k, h => by
    obtain ⟨v, e, h⟩ := optK_spec h
    obtain ⟨vs, e2, h⟩ := resK_spec h
    exact ⟨v :: vs, by simp [List.mapM_cons, e, e2], h⟩
def reachAll (env : Nat → V) (σ : Store) (as : List Src) : List Nat := as.flatMap fun s => reach σ FD (s.ev env)
def PFK (T : Nat → Option Fn) (f : Nat) (as : List V) (k : V → Prop) : Prop := ∃ r, PF T f as r ∧ k r
inductive CallRun (T : Nat → Option Fn) (f : Nat) (as : List Src) (dst : Option Nat) (st : St) : St → Prop
  | ref (ρ : List Nat) {r : V} {σ' : Store} (hn : ρ.Nodup) (hρ : ∀ o, o ∈ ρ → (objAt st.objs o).isSome = true) (h : Run T (.fn f (as.map fun s => mapV (place ρ) (s.ev st.env)) (gcS ρ st.objs)) (.fn r σ')) :
      CallRun T f as dst st { st with env := updO st.env dst (mapV (back ρ st.objs.length) r), objs := putBack ρ st.objs σ' }
  | own {as' : List V} {r : V} {σ' : Store} {R : List Nat} (ha : as.mapM (fun s => resolve st.objs FD (s.ev st.env)) = some as') (h : Run T (.fn f as' []) (.fn r σ'))
      (hR : R = if noFrz r && freshS σ' then [] else as.flatMap fun s => reach st.objs FD (s.ev st.env)) :
      CallRun T f as dst st { st with env := updO st.env dst (mapV (shiftN st.objs.length) r), objs := addS (killAll st.objs R) σ' }
  | idn {r : V} {σ' : Store} (h : Run T (.fn f (as.map fun s => s.ev st.env) st.objs) (.fn r σ')) (hl : st.objs.length ≤ σ'.length) (hb : st.objs.length ≤ st.base) :
      CallRun T f as dst st { st with env := updO st.env dst r, objs := σ' }
  | frz {as' : List V} {r : V} {R : List Nat} (ha : as.mapM (fun s => resolve st.objs FD (s.ev st.env)) = some as') (h : Run T (.fn f as' []) (.fn r []))
      (hR : R = if scalar SD r then [] else as.flatMap fun s => reach st.objs FD (s.ev st.env)) :
      CallRun T f as dst st { st with env := updO st.env dst r, objs := killAll st.objs R }
def RefK (T : Nat → Option Fn) (f : Nat) (as : List Src) (dst : Option Nat) (st : St) (k : St → Prop) : Prop := ∃ st', CallRun T f as dst st st' ∧ k st'
def dN : Option Nat → Nat
  | some n => n
  | none => 0
def opK (T : Nat → Option Fn) (rf : Nat → Nat → Bool) (o : OpI) (st : St) (k : St → Prop) : Prop :=
  gK o.g st.env (match o.i with
    | .call f as => if rf f (dN o.dst) = true then RefK T f as o.dst st k else resK st.env st.objs as fun as' => PFK T f as' fun r =>
        k { st with env := updO st.env o.dst r, objs := killAll st.objs (if scalar SD r then [] else reachAll st.env st.objs as) }
    | i => i.effK st.env st.objs fun ef => k (ef.go st o.dst (st.base + o.k)))
    (k { st with env := updO st.env o.dst (.tup []) })
theorem opK_spec {T : Nat → Option Fn} {rf : Nat → Nat → Bool} {o : OpI} {st : St} {k : St → Prop} (h : opK T rf o st k) : ∃ st', Run T (.op o st) (.code .normal st') ∧ k st' := by
  rcases gK_spec h with ⟨hg, h⟩ | ⟨t, want, hg, he, h⟩
  · split at h
    · rename_i f as hi
      split at h
      · obtain ⟨st', h1, h4⟩ := h
        refine ⟨st', ?_, h4⟩
        cases h1 with
        | ref ρ h1 h2 h3 => exact .callR ρ h1 h2 hg hi h3
        | own h1 h2 h3 => exact .callG hg hi h1 h2 h3
        | idn h1 h2 h3 => exact .callI hg hi h1 h2 h3
        | frz h1 h2 h3 => exact .callP hg hi h1 h2 h3
      · obtain ⟨vs, e, h⟩ := resK_spec h
        obtain ⟨r, h1, h⟩ := h
        exact ⟨_, .callP hg hi e h1 rfl, h⟩
    · obtain ⟨ef, e, h⟩ := effK_spec h
      exact ⟨_, .op hg e, h⟩
  · exact ⟨_, .off hg he, h⟩
def opsK (T : Nat → Option Fn) (rf : Nat → Nat → Bool) : List OpI → St → (St → Prop) → Prop
  | [], st, k => k st
  | o :: l, st, k => opK T rf o st fun st => opsK T rf l st k
theorem opsK_spec {T : Nat → Option Fn} {rf : Nat → Nat → Bool} : ∀ {l : List OpI} {st : St} {k : St → Prop}, opsK T rf l st k → ∃ st', Run T (.ops l st) (.code .normal st') ∧ k st'
  | [], st, k, h => ⟨st, .nil st, h⟩
  | o :: l, st, k, h => by
    obtain ⟨st1, h1, h⟩ := opK_spec h
    obtain ⟨st2, h2, h⟩ := opsK_spec h
    exact ⟨st2, .cons h1 h2, h⟩
def uni (a b : List Nat) : List Nat := b.foldl (fun s x => if s.contains x then s else x :: s) a
def befs : List OpI → List (List Nat) → List (List Nat)
  | [], acc => acc
  | o :: l, acc => befs l (acc ++ [o.aft.foldl (fun s e => uni s (acc.getD e [])) o.aft])
def okB (B : Nat → List Nat) (l : List OpI) : Nat → Bool
  | i => match l with
    | [] => true
    | o :: l => (B i).all (fun j => o.aft.contains j || o.aft.any fun e => (B e).contains j) && o.aft.all (fun e => decide (e < i)) && okB B l (i + 1)
theorem okB_spec {B : Nat → List Nat} : ∀ {l : List OpI} {n : Nat}, okB B l n = true → ∀ i o, l[i]? = some o → (∀ j, j ∈ B (n + i) → j ∈ o.aft ∨ ∃ e ∈ o.aft, j ∈ B e) ∧ ∀ e ∈ o.aft, e < n + i
  | [], n, _, i, o, h => by simp at h
  | x :: l, n, hk, i, o, h => by
    unfold okB at hk
    simp only [Bool.and_eq_true, List.all_eq_true] at hk
    obtain ⟨⟨h1, h2⟩, h3⟩ := hk
    cases i with
    | zero =>
      simp only [List.getElem?_cons_zero, Option.some.injEq] at h
      subst h
      refine ⟨fun j hj => ?_, fun e he => by simpa using h2 e he⟩
      have := h1 j hj
      simpa using this
    | succ i =>
      simp only [List.getElem?_cons_succ] at h
      have := okB_spec h3 i o h
      rw [show n + (i + 1) = n + 1 + i by omega]
      exact this
def befF (l : List OpI) : Nat → List Nat := let b := befs l []; fun i => b.getD i []
structure Acc where
  i : Nat
  R : List Nat
  W : List Nat
  n : Bool := false
def belowA (L : Nat) (a b : Acc) : Bool := !a.n || (!b.n && b.R.all (fun o => decide (o < L)) && b.W.all fun p => decide (p < L))
def apartA (L : Nat) (d e : OpI) (a b : Acc) : Bool :=
  !dstIn d.dst e.looks && !dstIn e.dst d.looks && !(d.dst.isSome && d.dst == e.dst) &&
    a.W.all (fun p => !b.R.contains p && b.W.all fun q => q != p) && b.W.all (fun q => !a.R.contains q) && belowA L a b && belowA L b a
def getO (l : List OpI) (i : Nat) : OpI := l.getD i ⟨none, none, 0, .alloc [], []⟩
def okA (L : Nat) (B : Nat → List Nat) (ops : List OpI) : List Acc → Bool
  | [] => true
  | a :: l => l.all (fun b => (B b.i).contains a.i || apartA L (getO ops a.i) (getO ops b.i) a b) && okA L B ops l
def OkA (L : Nat) (ops : List OpI) (l : List Acc) : Prop := okA L (befF ops) ops l.reverse = true
def OwnK (T : Nat → Option Fn) (f : Nat) (as : List Src) (dst : Option Nat) (st : St) (k : List Nat → List Nat → Bool → St → Prop) : Prop :=
  (∃ as' r σ', as.mapM (fun s => resolve st.objs FD (s.ev st.env)) = some as' ∧ Run T (.fn f as' []) (.fn r σ') ∧ (noFrz r && freshS σ') = true ∧
    k (reachAll st.env st.objs as) [] true { st with env := updO st.env dst (mapV (shiftN st.objs.length) r), objs := addS st.objs σ' }) ∨
  (∃ as' r, as.mapM (fun s => resolve st.objs FD (s.ev st.env)) = some as' ∧ Run T (.fn f as' []) (.fn r []) ∧ scalar SD r = false ∧
    k (reachAll st.env st.objs as) (reachAll st.env st.objs as) false { st with env := updO st.env dst r, objs := killAll st.objs (reachAll st.env st.objs as) }) ∨
  (∃ r σ', Run T (.fn f (as.map fun s => s.ev st.env) st.objs) (.fn r σ') ∧ st.objs.length ≤ σ'.length ∧ st.objs.length ≤ st.base ∧
    k (List.range st.objs.length) (List.range st.objs.length) true { st with env := updO st.env dst r, objs := σ' }) ∨
  ∃ ρ r v, ρ.Nodup ∧ (∀ o, o ∈ ρ → ∃ ob, objAt st.objs o = some ob ∧ ∀ g, mapO g ob = ob) ∧ Run T (.fn f (as.map fun s => mapV (place ρ) (s.ev st.env)) (gcS ρ st.objs)) (.fn r (gcS ρ st.objs)) ∧ (∀ n, mapV (back ρ n) r = v) ∧
    k ρ [] false { st with env := updO st.env dst v }
def numK (l : List Nat) (k : List Nat → Prop) : Prop := k l
def Eff.wr (id : Nat) : Eff → List Nat
  | .val _ => []
  | .newP _ => [id]
  | .newS _ _ => [id]
  | .upd o _ => [o]
  | .mov o _ _ => [o, id]
def anyK (T : Nat → Option Fn) (rf : Nat → Nat → Bool) (L : Nat) (ops : List OpI) : List OpI → Nat → List Acc → St → (St → Prop) → Prop
  | [], _, acc, st, k => OkA L ops acc ∧ k st
  | o :: l, i, acc, st, k => gK o.g st.env (match o.i with
    | .call f as => if rf f (dN o.dst) = true then OwnK T f as o.dst st fun R W n st => anyK T rf L ops l (i + 1) (⟨i, R, W, n⟩ :: acc) st k
        else resK st.env st.objs as fun as' => PFK T f as' fun r => numK (reachAll st.env st.objs as) fun R =>
        (R = [] ∨ scalar SD r = true) ∧ anyK T rf L ops l (i + 1) (⟨i, R, [], false⟩ :: acc) { st with env := updO st.env o.dst r } k
    | x => numK (x.reads st.env) fun R => x.effK st.env st.objs fun ef => numK (ef.wr (st.base + o.k)) fun W =>
        anyK T rf L ops l (i + 1) (⟨i, R, W, false⟩ :: acc) (ef.go st o.dst (st.base + o.k)) k)
    (anyK T rf L ops l (i + 1) (⟨i, [], [], false⟩ :: acc) { st with env := updO st.env o.dst (.tup []) } k)
def Fits1 (ops : List OpI) (p : Nat × Dat) (a : Acc) : Prop := a.i = p.1 ∧ getO ops a.i = p.2.x ∧ a.R = p.2.R ∧ a.W = p.2.W.map (·.1) ∧ a.n = p.2.N.isSome
theorem belowA_eq {L : Nat} {ops : List OpI} {p q : Nat × Dat} {a b : Acc} (h : Fits1 ops p a) (k : Fits1 ops q b) : belowA L a b = below L p.2 q.2 := by
  obtain ⟨h1, h2, h3, h4, h5⟩ := h
  obtain ⟨k1, k2, k3, k4, k5⟩ := k
  unfold belowA below
  rw [h5, k5, k3, k4, List.all_map]
  simp only [Option.not_isSome]
  rfl
theorem apartA_eq {L : Nat} {ops : List OpI} {p q : Nat × Dat} {a b : Acc} (h : Fits1 ops p a) (k : Fits1 ops q b) : apartA L (getO ops a.i) (getO ops b.i) a b = apart L p.2 q.2 := by
  have e1 := belowA_eq (L := L) h k
  have e2 := belowA_eq (L := L) k h
  obtain ⟨h1, h2, h3, h4, h5⟩ := h
  obtain ⟨k1, k2, k3, k4, k5⟩ := k
  unfold apartA apart
  rw [e1, e2, h2, k2, h3, k3, h4, k4]
  simp only [List.all_map]
  rfl
inductive AllFit (ops : List OpI) : List (Nat × Dat) → List Acc → Prop
  | nil : AllFit ops [] []
  | cons {p a l m} (h : Fits1 ops p a) (t : AllFit ops l m) : AllFit ops (p :: l) (a :: m)
theorem AllFit.all {ops : List OpI} {f : Nat × Dat → Bool} {g : Acc → Bool} : ∀ {l m}, AllFit ops l m → (∀ p a, Fits1 ops p a → f p = g a) → l.all f = m.all g
  | _, _, .nil, _ => rfl
  | _, _, .cons h t, hfg => by simp only [List.all_cons]; rw [hfg _ _ h, t.all hfg]
theorem okD_of {L : Nat} {B : Nat → List Nat} {ops : List OpI} : ∀ {l m}, AllFit ops l m → okA L B ops m = true → okD L B l = true
  | _, _, .nil, _ => rfl
  | _, _, .cons (p := p) (a := a) h t, hk => by
    simp only [okA, Bool.and_eq_true] at hk
    obtain ⟨i, d⟩ := p
    simp only [okD, Bool.and_eq_true]
    refine ⟨?_, okD_of t hk.2⟩
    rw [t.all fun q b hq => ?_]
    · exact hk.1
    · rw [apartA_eq h hq, hq.1, h.1]
theorem AllFit.append {ops : List OpI} : ∀ {l m l' m'}, AllFit ops l m → AllFit ops l' m' → AllFit ops (l ++ l') (m ++ m')
  | _, _, _, _, .nil, h => h
  | _, _, _, _, .cons h t, k => .cons h (t.append k)
theorem effWr (ef : Eff) (id : Nat) : ef.wr id = (ef.writes id).map (·.1) := by cases ef <;> rfl
theorem chain_snoc {T : Nat → Option Fn} {d : Dat} : ∀ (l : List Dat) (st : St), Chain T l st → Fp T d (goAll l st) → Chain T (l ++ [d]) st
  | [], _, _, h => ⟨h, trivial⟩
  | _ :: l, _, h, k => ⟨h.1, chain_snoc l _ h.2 k⟩
theorem goAll_snoc {d : Dat} : ∀ (l : List Dat) (st : St), goAll (l ++ [d]) st = d.go (goAll l st)
  | [], _ => rfl
  | _ :: l, _ => goAll_snoc l _
theorem anyK_spec {T : Nat → Option Fn} {rf : Nat → Nat → Bool} {L : Nat} {ops : List OpI} {st0 : St} : ∀ {l : List OpI} {i : Nat} {acc : List Acc} {st : St} {k : St → Prop} (ds : List (Nat × Dat)), anyK T rf L ops l i acc st k →
    i ≤ ops.length → ops.drop i = l → ds.length = i → ds.map (·.1) = List.range i → AllFit ops ds acc.reverse → Chain T (ds.map (·.2)) st0 → goAll (ds.map (·.2)) st0 = st →
    ∃ ds', ds'.map (·.1) = List.range ops.length ∧ (∃ acc', AllFit ops ds' acc' ∧ okA L (befF ops) ops acc' = true) ∧ Chain T (ds'.map (·.2)) st0 ∧ k (goAll (ds'.map (·.2)) st0)
  | [], i, acc, st, k, ds, h, hil, hd, hi, hr, hf, hc, hg => by
    have hl : ops.length = i := by
      have := congrArg List.length hd
      simp at this; omega
    exact ⟨ds, by rw [hr, hl], ⟨_, hf, h.1⟩, hc, by rw [hg]; exact h.2⟩
  | o :: l, i, acc, st, k, ds, h, _, hd, hi, hr, hf, hc, hg => by
    have hio : ops[i]? = some o := by
      have := congrArg (·[0]?) hd
      simpa using this
    have hd' : ops.drop (i + 1) = l := by
      rw [← List.drop_drop, hd]; rfl
    have hgo : getO ops i = o := by simp [getO, List.getD_eq_getElem?_getD, hio]
    have step : ∀ (d : Dat), d.x = o → ∀ (a : Acc), a.i = i → a.R = d.R → a.W = d.W.map (·.1) → a.n = d.N.isSome → Fp T d st → anyK T rf L ops l (i + 1) (a :: acc) (d.go st) k → _ := fun d hdx a ha hR hW hN hfp hk =>
      anyK_spec (ds ++ [(i, d)]) hk (List.getElem?_eq_some_iff.1 hio).1 hd' (by simp [hi]) (by simp [hr, List.range_succ]) (by
        rw [List.reverse_cons]
        exact hf.append (.cons ⟨ha, by rw [ha, hgo, hdx], hR, hW, hN⟩ .nil)) (by
        rw [List.map_append]; exact chain_snoc _ _ hc (by rw [hg]; exact hfp)) (by rw [List.map_append, List.map_cons, List.map_nil, goAll_snoc, hg])
    rcases gK_spec h with ⟨hgd, h⟩ | ⟨t, want, hgd, he, h⟩
    · split at h
      · rename_i f as hi2
        split at h
        · rcases h with ⟨vs, r, σ', e, h1, h2, h⟩ | ⟨vs, r, e, h1, h2, h⟩ | ⟨r, σ', h1, h2, h3, h⟩ | ⟨ρ, r, v, h1, h2, h3, h4, h⟩
          rotate_right
          · refine step ⟨o, ρ, v, [], none⟩ rfl ⟨i, ρ, [], false⟩ rfl rfl rfl rfl (fp_callN hgd hi2 h1 h2 h3 h4) ?_
            have e2 : (⟨o, ρ, v, [], none⟩ : Dat).go st = { st with env := updO st.env o.dst v } := by
              simp only [Dat.go, putW, List.foldl_nil, Option.getD_none, List.append_nil]
            rw [e2]; exact h
          rotate_right
          · refine step ⟨o, _, r, (List.range st.objs.length).map fun o => (o, objAt σ' o), some (σ'.drop st.objs.length)⟩ rfl ⟨i, _, List.range st.objs.length, true⟩ rfl rfl (by rw [List.map_map]; exact (List.map_id _).symm) rfl (fp_callW hgd hi2 h1 h2 h3) ?_
            have e2 : (⟨o, List.range st.objs.length, r, (List.range st.objs.length).map fun o => (o, objAt σ' o), some (σ'.drop st.objs.length)⟩ : Dat).go st = { st with env := updO st.env o.dst r, objs := σ' } := by
              simp only [Dat.go, Option.getD_some]
              congr 1
              exact putW_all h2
            rw [e2]; exact h
          rotate_left
          · refine step ⟨o, _, r, (as.flatMap fun s => reach st.objs FD (s.ev st.env)).map fun o => (o, none), none⟩ rfl ⟨i, _, as.flatMap fun s => reach st.objs FD (s.ev st.env), false⟩ rfl rfl (by rw [List.map_map]; exact (List.map_id _).symm) rfl (fp_callK hgd hi2 e h1 h2) ?_
            have e2 : (⟨o, as.flatMap fun s => reach st.objs FD (s.ev st.env), r, (as.flatMap fun s => reach st.objs FD (s.ev st.env)).map fun o => (o, none), none⟩ : Dat).go st =
                { st with env := updO st.env o.dst r, objs := killAll st.objs (as.flatMap fun s => reach st.objs FD (s.ev st.env)) } := by
              simp only [Dat.go, putW_kill, Option.getD_none, List.append_nil]
            rw [e2]; exact h
          refine step ⟨o, _, _, [], some _⟩ rfl ⟨i, _, [], true⟩ rfl rfl rfl rfl (fp_callG hgd hi2 e h1 h2) ?_
          have e2 : (⟨o, as.flatMap fun s => reach st.objs FD (s.ev st.env), mapV (shiftN st.objs.length) r, [], some (σ'.map (Option.map (mapO (shiftN st.objs.length))))⟩ : Dat).go st =
              { st with env := updO st.env o.dst (mapV (shiftN st.objs.length) r), objs := addS st.objs σ' } := by
            simp only [Dat.go, putW, List.foldl_nil, addS, Option.getD_some]
          rw [e2]; exact h
        · obtain ⟨vs, e, h⟩ := resK_spec h
          obtain ⟨r, h1, h⟩ := h
          obtain ⟨hR, h⟩ := h
          refine step ⟨o, _, r, [], none⟩ rfl ⟨i, _, [], false⟩ rfl rfl rfl rfl (fp_callP hgd hi2 e h1 hR.symm) ?_
          have e2 : (⟨o, as.flatMap fun s => reach st.objs FD (s.ev st.env), r, [], none⟩ : Dat).go st = { st with env := updO st.env o.dst r } := by
            simp only [Dat.go, putW, List.foldl_nil, Option.getD_none, List.append_nil]
          rw [e2]; exact h
      · unfold numK at h
        obtain ⟨ef, e, h⟩ := effK_spec h
        refine step ⟨o, o.i.reads st.env, ef.dv (st.base + o.k), ef.writes (st.base + o.k), none⟩ rfl ⟨i, _, _, false⟩ rfl rfl (effWr _ _) rfl (fp_eff hgd e) ?_
        have e2 : (⟨o, o.i.reads st.env, ef.dv (st.base + o.k), ef.writes (st.base + o.k), none⟩ : Dat).go st = ef.go st o.dst (st.base + o.k) := by
          simp only [Dat.go, Eff.go, putW_eff, Option.getD_none, List.append_nil]
        rw [e2]; exact h
    · refine step ⟨o, [], .tup [], [], none⟩ rfl ⟨i, [], [], false⟩ rfl rfl rfl rfl (fp_off hgd he) ?_
      have e2 : (⟨o, [], .tup [], [], none⟩ : Dat).go st = { st with env := updO st.env o.dst (.tup []) } := by
        simp only [Dat.go, putW, List.foldl_nil, Option.getD_none, List.append_nil]
      rw [e2]; exact h
theorem anyK_run {T : Nat → Option Fn} {rf : Nat → Nat → Bool} {ops : List OpI} {st : St} {k : St → Prop} (hb : okB (befF ops) ops 0 = true) (h : anyK T rf st.objs.length ops ops 0 [] st k) : ∃ st', Run T (.any ops [] st) (.code .normal st') ∧ k st' := by
  obtain ⟨ds, h1, ⟨acc, h2, h3⟩, h4, h5⟩ := anyK_spec (ops := ops) (st0 := st) [] h (Nat.zero_le _) rfl rfl rfl .nil trivial rfl
  have hB := okB_spec hb
  simp only [Nat.zero_add] at hB
  have hfit : ∀ {l m}, AllFit ops l m → ∀ p ∈ l, getO ops p.1 = p.2.x := by
    intro l m hf
    induction hf with
    | nil => intro p hp; cases hp
    | cons h t ih =>
      intro p hp
      rcases List.mem_cons.1 hp with rfl | hp
      · rw [← h.1]; exact h.2.1
      · exact ih p hp
  have hlt : ∀ p ∈ ds, p.1 < ops.length := by
    intro p hp
    have : p.1 ∈ ds.map (·.1) := List.mem_map_of_mem hp
    rw [h1] at this; exact List.mem_range.1 this
  refine ⟨_, run_any (B := befF ops) (fun i o j ho hj => (hB i o ho).1 j hj) ds.length ds [] st (Nat.le_refl _) rfl (okD_of h2 h3) (fun e he => by cases he) h4 ?_ ?_ ?_, h5⟩
  · rw [h1]; exact List.pairwise_lt_range
  · intro p hp
    have hp2 : ops[p.1]? = some p.2.x := by
      have := hfit h2 p hp
      unfold getO at this
      rw [List.getD_eq_getElem?_getD] at this
      rw [List.getElem?_eq_getElem (hlt p hp)] at this ⊢
      exact congrArg some this
    exact ⟨hp2, by simp, (hB p.1 p.2.x hp2).2⟩
  · intro i hi _
    have : i ∈ ds.map (·.1) := by rw [h1]; exact List.mem_range.2 hi
    obtain ⟨p, hp, e⟩ := List.mem_map.1 this
    exact ⟨p.2, by rw [← e]; exact hp⟩
end Go.Ml
end
section
set_option linter.unusedSimpArgs false
namespace Go.Ml
def valK (ef : Eff) (k : V → Prop) : Prop := match ef with
  | .val v => k v
  | _ => False
theorem valK_spec {ef : Eff} {k : V → Prop} (h : valK ef k) : ∃ v, ef = .val v ∧ k v := by
  cases ef <;> first | exact h.elim | exact ⟨_, rfl, h⟩
def any0K (T : Nat → Option Fn) : List OpI → St → (St → Prop) → Prop
  | [], st, k => k st
  | o :: l, st, k => gK o.g st.env (match o.i with
    | .call f as => resK st.env st.objs as fun as' => PFK T f as' fun r => numK (reachAll st.env st.objs as) fun R =>
        (R = [] ∨ scalar SD r = true) ∧ any0K T l { st with env := updO st.env o.dst r } k
    | x => x.effK st.env st.objs fun ef => valK ef fun v => any0K T l { st with env := updO st.env o.dst v } k)
    (any0K T l { st with env := updO st.env o.dst (.tup []) } k)
def noRf (rf : Nat → Nat → Bool) (l : List OpI) : Bool := l.all fun o => match o.i with
  | .call f _ => !rf f (dN o.dst)
  | _ => true
theorem any0K_spec {T : Nat → Option Fn} {ops : List OpI} {st0 : St} : ∀ {l : List OpI} {i : Nat} {acc : List Acc} {st : St} {k : St → Prop} (ds : List (Nat × Dat)), any0K T l st k →
    i ≤ ops.length → ops.drop i = l → ds.length = i → ds.map (·.1) = List.range i → AllFit ops ds acc.reverse → (∀ a ∈ acc, a.W = [] ∧ a.n = false) → Chain T (ds.map (·.2)) st0 → goAll (ds.map (·.2)) st0 = st →
    ∃ ds', ds'.map (·.1) = List.range ops.length ∧ (∃ acc', AllFit ops ds' acc' ∧ ∀ a ∈ acc', a.W = [] ∧ a.n = false) ∧ Chain T (ds'.map (·.2)) st0 ∧ k (goAll (ds'.map (·.2)) st0)
  | [], i, acc, st, k, ds, h, hil, hd, hi, hr, hf, hw, hc, hg => by
    have hl : ops.length = i := by
      have := congrArg List.length hd
      simp at this; omega
    exact ⟨ds, by rw [hr, hl], ⟨_, hf, by simpa using hw⟩, hc, by rw [hg]; exact h⟩
  | o :: l, i, acc, st, k, ds, h, _, hd, hi, hr, hf, hw, hc, hg => by
    have hio : ops[i]? = some o := by
      have := congrArg (·[0]?) hd
      simpa using this
    have hd' : ops.drop (i + 1) = l := by
      rw [← List.drop_drop, hd]; rfl
    have hgo : getO ops i = o := by simp [getO, List.getD_eq_getElem?_getD, hio]
    have step : ∀ (R : List Nat) (v : V), Fp T ⟨o, R, v, [], none⟩ st → any0K T l { st with env := updO st.env o.dst v } k → _ := fun R v hfp hk =>
      any0K_spec (acc := ⟨i, R, [], false⟩ :: acc) (ds ++ [(i, ⟨o, R, v, [], none⟩)]) hk (List.getElem?_eq_some_iff.1 hio).1 hd' (by simp [hi]) (by simp [hr, List.range_succ]) (by
        rw [List.reverse_cons]
        exact hf.append (.cons ⟨rfl, hgo, rfl, rfl, rfl⟩ .nil)) (by
        intro a ha
        rcases List.mem_cons.1 ha with rfl | ha
        · exact ⟨rfl, rfl⟩
        · exact hw a ha) (by
        rw [List.map_append]; exact chain_snoc _ _ hc (by rw [hg]; exact hfp)) (by rw [List.map_append, List.map_cons, List.map_nil, goAll_snoc, hg, go_val])
    rcases gK_spec h with ⟨hgd, h⟩ | ⟨t, want, hgd, he, h⟩
    · split at h
      · rename_i f as hi2
        obtain ⟨vs, e, h⟩ := resK_spec h
        obtain ⟨r, h1, h⟩ := h
        obtain ⟨hR, h⟩ := h
        exact step _ r (fp_callP hgd hi2 e h1 hR.symm) h
      · obtain ⟨ef, e, h⟩ := effK_spec h
        obtain ⟨v, rfl, h⟩ := valK_spec h
        exact step _ v (fp_eff hgd e) h
    · exact step [] (.tup []) (fp_off hgd he) h
def okA0 (ops : List OpI) : Bool := okA 0 (befF ops) ops ((List.range ops.length).map fun i => ⟨i, [], [], false⟩)
theorem okA_strip {L : Nat} {B : Nat → List Nat} {ops : List OpI} : ∀ {l : List Acc}, (∀ a ∈ l, a.W = [] ∧ a.n = false) → okA 0 B ops (l.map fun a => ⟨a.i, [], [], false⟩) = okA L B ops l
  | [], _ => rfl
  | a :: l, h => by
    simp only [List.map_cons, okA]
    rw [okA_strip fun b hb => h b (by simp [hb])]
    congr 1
    rw [List.all_map]
    have hall : ∀ (m : List Acc), (∀ b ∈ m, b.W = [] ∧ b.n = false) → (m.all ((fun b : Acc => (B b.i).contains a.i || apartA 0 (getO ops a.i) (getO ops b.i) ⟨a.i, [], [], false⟩ b) ∘ fun b => ⟨b.i, [], [], false⟩)) =
        m.all fun b => (B b.i).contains a.i || apartA L (getO ops a.i) (getO ops b.i) a b := by
      intro m
      induction m with
      | nil => intro _; rfl
      | cons b m ih =>
        intro hm
        simp only [List.all_cons]
        rw [ih fun c hc => hm c (by simp [hc])]
        congr 1
        simp only [Function.comp, apartA, belowA, (h a (by simp)).1, (hm b (by simp)).1, (h a (by simp)).2, (hm b (by simp)).2, List.all_nil, Bool.not_false, Bool.true_or]
    exact hall l fun b hb => h b (by simp [hb])
theorem any0K_any {T : Nat → Option Fn} {ops : List OpI} {st : St} {k : St → Prop} (L : Nat) (h0 : okA0 ops = true) (h : any0K T ops st k) :
    ∃ ds : List (Nat × Dat), ds.map (·.1) = List.range ops.length ∧ (∃ acc', AllFit ops ds acc' ∧ okA L (befF ops) ops acc' = true) ∧ Chain T (ds.map (·.2)) st ∧ k (goAll (ds.map (·.2)) st) := by
  obtain ⟨ds, h1, ⟨acc, h2, h3⟩, h4, h5⟩ := any0K_spec (ops := ops) (acc := []) (st0 := st) [] h (Nat.zero_le _) rfl rfl rfl .nil (by simp) trivial rfl
  refine ⟨ds, h1, ⟨acc, h2, ?_⟩, h4, h5⟩
  rw [← okA_strip h3]
  have : (acc.map fun a => (⟨a.i, [], [], false⟩ : Acc)) = (List.range ops.length).map fun i => ⟨i, [], [], false⟩ := by
    rw [← h1, List.map_map]
    clear h1 h3 h4 h5 h h0
    induction h2 with
    | nil => rfl
    | cons h t ih => simp only [List.map_cons, Function.comp, h.1, ih]
  rw [this]; exact h0
theorem run_ds {T : Nat → Option Fn} {ops : List OpI} {st : St} (hb : okB (befF ops) ops 0 = true) {ds : List (Nat × Dat)} (h1 : ds.map (·.1) = List.range ops.length)
    {acc : List Acc} (h2 : AllFit ops ds acc) (h3 : okA st.objs.length (befF ops) ops acc = true) (h4 : Chain T (ds.map (·.2)) st) : Run T (.any ops [] st) (.code .normal (goAll (ds.map (·.2)) st)) := by
  have hB := okB_spec hb
  simp only [Nat.zero_add] at hB
  have hfit : ∀ {l m}, AllFit ops l m → ∀ p ∈ l, getO ops p.1 = p.2.x := by
    intro l m hf
    induction hf with
    | nil => intro p hp; cases hp
    | cons h t ih =>
      intro p hp
      rcases List.mem_cons.1 hp with rfl | hp
      · rw [← h.1]; exact h.2.1
      · exact ih p hp
  have hlt : ∀ p ∈ ds, p.1 < ops.length := by
    intro p hp
    have : p.1 ∈ ds.map (·.1) := List.mem_map_of_mem hp
    rw [h1] at this; exact List.mem_range.1 this
  refine run_any (B := befF ops) (fun i o j ho hj => (hB i o ho).1 j hj) ds.length ds [] st (Nat.le_refl _) rfl (okD_of h2 h3) (fun e he => by cases he) h4 ?_ ?_ ?_
  · rw [h1]; exact List.pairwise_lt_range
  · intro p hp
    have hp2 : ops[p.1]? = some p.2.x := by
      have := hfit h2 p hp
      unfold getO at this
      rw [List.getD_eq_getElem?_getD] at this
      rw [List.getElem?_eq_getElem (hlt p hp)] at this ⊢
      exact congrArg some this
    exact ⟨hp2, by simp, (hB p.1 p.2.x hp2).2⟩
  · intro i hi _
    have : i ∈ ds.map (·.1) := by rw [h1]; exact List.mem_range.2 hi
    obtain ⟨p, hp, e⟩ := List.mem_map.1 this
    exact ⟨p.2, by rw [← e]; exact hp⟩
def noWr (l : List OpI) : Bool := l.all fun o => match o.i with
  | .store .. | .alloc _ | .box _ | .mkSl .. | .make .. | .app .. => false
  | _ => true
def C.okC : C → Bool
  | .reg d m l => okK m l && (!d || (okB (befF l) l 0 && (!noWr l || okA0 l)))
  | .seq a b => a.okC && b.okC
  | .cond _ a b => a.okC && b.okC
  | .block _ c => c.okC
  | .loop c => c.okC
  | _ => true
def padS (σ : Store) (m : Nat) : Store := σ ++ List.replicate m none
def St.in (st : St) (m : Nat) : St := { st with objs := padS st.objs m, base := st.objs.length, rds := [], muts := [] }
def seqK (e : Ex) (k q : Prop) : Prop := match e with
  | .normal => k
  | _ => q
def LoopK (T : Nat → Option Fn) (c : C) (Q : Ex → St → Prop) (st : St) : Prop := ∃ e st', Run T (.code (.loop c) st) (.code e st') ∧ Q e st'
def wp (T : Nat → Option Fn) (rf : Nat → Nat → Bool) : C → (Ex → St → Prop) → St → Prop
  | .skip, Q, st => Q .normal st
  | .reg d m l, Q, st => if d then (if noWr l && noRf rf l then any0K T l (st.in m) (Q .normal) else anyK T rf (st.in m).objs.length l l 0 [] (st.in m) (Q .normal)) else opsK T rf l (st.in m) (Q .normal)
  | .seq a b, Q, st => wp T rf a (fun e st => seqK e (wp T rf b Q st) (Q e st)) st
  | .cond x a b, Q, st => boolK (x.ev st.env) fun t => if t = true then wp T rf a Q st else wp T rf b Q st
  | .block id c, Q, st => wp T rf c (fun e st => Q (exIn id e) st) st
  | .loop c, Q, st => LoopK T c Q st
  | .exit id, Q, st => Q (.exit id) st
  | .ret, Q, st => Q .ret st
  | .lib _, _, _ => False
theorem wp_sound {T : Nat → Option Fn} {rf : Nat → Nat → Bool} : ∀ {c : C} {Q : Ex → St → Prop} {st : St}, c.okC = true → wp T rf c Q st → ∃ e st', Run T (.code c st) (.code e st') ∧ Q e st'
  | .skip, Q, st, _, h => ⟨_, _, .skip st, h⟩
  | .reg d m l, Q, st, hk, h => by
    simp only [C.okC, Bool.and_eq_true, Bool.or_eq_true, Bool.not_eq_true'] at hk
    obtain ⟨hk, hk2⟩ := hk
    unfold wp at h
    cases d with
    | false =>
      obtain ⟨st', h1, h2⟩ := opsK_spec (by simpa using h)
      exact ⟨_, _, .reg hk h1, h2⟩
    | true =>
      simp only [Bool.true_eq_false, false_or] at hk2
      simp only [if_true] at h
      split at h
      · rename_i hw
        simp only [Bool.and_eq_true] at hw
        rcases hk2.2 with h' | h'
        · rw [h'] at hw; cases hw.1
        obtain ⟨ds, h1, ⟨acc, h2, h3⟩, h4, h5⟩ := any0K_any (st.in m).objs.length h' h
        exact ⟨_, _, .regD hk (run_ds hk2.1 h1 h2 h3 h4), h5⟩
      · obtain ⟨st', h1, h2⟩ := anyK_run hk2.1 h
        exact ⟨_, _, .regD hk h1, h2⟩
  | .seq a b, Q, st, hk, h => by
    simp only [C.okC, Bool.and_eq_true] at hk
    obtain ⟨e, st1, h1, h2⟩ := wp_sound hk.1 (Q := fun e st => seqK e (wp T rf b Q st) (Q e st)) h
    cases e with
    | normal =>
      obtain ⟨e, st2, h3, h4⟩ := wp_sound hk.2 (Q := Q) h2
      exact ⟨e, st2, .seqN h1 h3, h4⟩
    | exit id => exact ⟨_, _, .seqE (by simp) h1, h2⟩
    | ret => exact ⟨_, _, .seqE (by simp) h1, h2⟩
  | .cond x a b, Q, st, hk, h => by
    simp only [C.okC, Bool.and_eq_true] at hk
    obtain ⟨t, e, h⟩ := boolK_spec h
    cases t with
    | true =>
      obtain ⟨e2, st2, h1, h2⟩ := wp_sound hk.1 (Q := Q) (by simpa using h)
      exact ⟨e2, st2, .cond e h1, h2⟩
    | false =>
      obtain ⟨e2, st2, h1, h2⟩ := wp_sound hk.2 (Q := Q) (by simpa using h)
      exact ⟨e2, st2, .cond e h1, h2⟩
  | .block id c, Q, st, hk, h => by
    obtain ⟨e, st1, h1, h2⟩ := wp_sound (c := c) (Q := fun e st => Q (exIn id e) st) hk h
    exact ⟨_, _, .block h1, h2⟩
  | .loop c, Q, st, _, h => h
  | .exit id, Q, st, _, h => ⟨_, _, .exit id st, h⟩
  | .ret, Q, st, _, h => ⟨_, _, .ret st, h⟩
  | .lib _, _, _, _, h => by simp [wp] at h
end Go.Ml
end
section
set_option linter.unusedSimpArgs false
set_option linter.unusedVariables false
namespace Go.Ml
def wr {α : Sort _} (a : α) : α := a
theorem nr {α : Sort _} {a b : α} (h : a = b) : a = b := h
theorem wr_eq {α : Sort _} (a : α) : wr a = a := nr rfl
def stoK (σ : Store) (k : Store → Prop) : Prop := k σ
theorem stoK_n (k : Store → Prop) : stoK [] k = k [] := nr rfl
theorem stoK_c (a : Option Obj) (σ : Store) (k : Store → Prop) : stoK (a :: σ) k = k (a :: σ) := nr rfl
@[congr] theorem stoK_cg {v v' : Store} {k : Store → Prop} (h : wr v = v') : stoK v k = stoK v' k := by rw [← h, wr_eq]
def natK (n : Nat) (k : Nat → Prop) : Prop := k n
theorem natK_eq (n : Nat) (k : Nat → Prop) : natK n k = k n := nr rfl
@[congr] theorem natK_cg {v v' : Nat} {k : Nat → Prop} (h : wr v = v') : natK v k = natK v' k := by rw [← h, wr_eq]
def brK (t : Bool) (a b : Prop) : Prop := if t = true then a else b
@[congr] theorem brK_cg {t t' : Bool} {a b : Prop} (h : wr t = t') : brK t a b = brK t' a b := by rw [← h, wr_eq]
theorem brK_t (a b : Prop) : brK true a b = a := by simp [brK]
theorem brK_f (a b : Prop) : brK false a b = b := by simp [brK]
theorem brK_not (t : Bool) (a b : Prop) : brK (!t) a b = brK t b a := by cases t <;> simp [brK]
theorem brK_dec {c : Prop} [Decidable c] {a b : Prop} (h1 : c → a) (h2 : ¬ c → b) : brK (decide c) a b := by
  unfold brK
  by_cases h : c
  · rw [if_pos (decide_eq_true h)]; exact h1 h
  · rw [if_neg (by simpa using h)]; exact h2 h
def mvK (v : V) (k : V → Prop) : Prop := k v
theorem mvK_eq (v : V) (k : V → Prop) : mvK v k = k v := nr rfl
@[congr] theorem mvK_cg {v v' : V} {k : V → Prop} (h : wr v = v') : mvK v k = mvK v' k := by rw [← h, wr_eq]
@[congr] theorem optK_cg {α : Type} {v v' : Option α} {k : α → Prop} (h : wr v = v') : optK v k = optK v' k := by rw [← h, wr_eq]
@[congr] theorem boolK_cg {v v' : V} {k : Bool → Prop} (h : wr v = v') : boolK v k = boolK v' k := by rw [← h, wr_eq]
@[congr] theorem gdK_cg {w : Bool} {v v' : V} {k : Bool → Prop} (h : wr v = v') : gdK w v k = gdK w v' k := by rw [← h, wr_eq]
@[congr] theorem numK_cg {v v' : List Nat} {k : List Nat → Prop} (h : wr v = v') : numK v k = numK v' k := by rw [← h, wr_eq]
@[congr] theorem asIdxK_cg {n n' : Nat} {v v' : V} {k : Nat → Prop} (h0 : wr n = n') (h : wr v = v') : asIdxK n v k = asIdxK n' v' k := by rw [← h0, ← h, wr_eq, wr_eq]
@[congr] theorem asBoundK_cg {n n' : Nat} {v v' : V} {k : Nat → Prop} (h0 : wr n = n') (h : wr v = v') : asBoundK n v k = asBoundK n' v' k := by rw [← h0, ← h, wr_eq, wr_eq]
@[congr] theorem binK_cg {op : BinOp} {x x' y y' : V} {k : V → Prop} (h0 : wr x = x') (h : wr y = y') : binK op x y k = binK op x' y' k := by rw [← h0, ← h, wr_eq, wr_eq]
@[congr] theorem PFK_cg {T : Nat → Option Fn} {f : Nat} {as as' : List V} {k : V → Prop} (h : wr as = as') : PFK T f as k = PFK T f as' k := by rw [← h, wr_eq]
@[congr] theorem RefK_cg {T : Nat → Option Fn} {f f' : Nat} {as : List Src} {d : Option Nat} {st : St} {k : St → Prop} (h : wr f = f') : RefK T f as d st k = RefK T f' as d st k := by rw [← h, wr_eq]
@[congr] theorem LoopK_cg {T T' : Nat → Option Fn} {c : C} {Q : Ex → St → Prop} {st : St} (h : wr T = T') : LoopK T c Q st = LoopK T' c Q st := by rw [← h, wr_eq]
@[congr] theorem OkA_cg {L : Nat} {ops : List OpI} {l l' : List Acc} (h : wr l = l') : OkA L ops l = OkA L ops l' := by rw [← h, wr_eq]
@[congr] theorem OwnK_cg {T : Nat → Option Fn} {f f' : Nat} {as : List Src} {d : Option Nat} {st : St} {k : List Nat → List Nat → Bool → St → Prop} (h : wr f = f') : OwnK T f as d st k = OwnK T f' as d st k := by rw [← h, wr_eq]
theorem optK_some {α : Type} (a : α) (k : α → Prop) : optK (some a) k = k a := nr rfl
theorem gdK_b (want b : Bool) (k : Bool → Prop) : gdK want (.bool b) k = k b := nr rfl
theorem gdK_u (want : Bool) (k : Bool → Prop) : gdK want (.tup []) k = k (!want) := nr rfl
theorem boolK_b (b : Bool) (k : Bool → Prop) : boolK (.bool b) k = k b := nr rfl
theorem numK_nil (k : List Nat → Prop) : numK [] k = k [] := nr rfl
theorem numK_cons (a : Nat) (l : List Nat) (k : List Nat → Prop) : numK (a :: l) k = k (a :: l) := nr rfl
theorem asIdxK_ok {n : Nat} {q : IntKind} {i : Int} {k : Nat → Prop} (h : 0 ≤ i ∧ i < n) : asIdxK n (.int q i) k = k i.toNat := by
  simp [asIdxK, h]
theorem asBoundK_ok {n : Nat} {q : IntKind} {i : Int} {k : Nat → Prop} (h : 0 ≤ i ∧ i ≤ n) : asBoundK n (.int q i) k = k i.toNat := by
  simp [asBoundK, h]
theorem w64 {n : Int} (h : -9223372036854775808 ≤ n ∧ n ≤ 9223372036854775807) : IntKind.i64.wrap n = n := IntWalk.i64_in n h
theorem w32u {n : Int} (h : 0 ≤ n ∧ n ≤ 4294967295) : IntKind.u32.wrap n = n := IntWalk.u32_in n h
theorem w64u {n : Int} (h : 0 ≤ n ∧ n ≤ 18446744073709551615) : IntKind.u64.wrap n = n := IntWalk.u64_in n h
theorem w8u {n : Int} (h : 0 ≤ n ∧ n ≤ 255) : IntKind.u8.wrap n = n := IntWalk.u8_in n h
theorem ev_t (n : Nat) (env : Nat → V) : Src.ev env (.t n) = env n := nr rfl
theorem ev_c (v : V) (env : Nat → V) : Src.ev env (.c v) = v := nr rfl
theorem updO_none (env : Nat → V) (v : V) : updO env none v = env := nr rfl
theorem updO_at (env : Nat → V) (t : Nat) (v : V) (s : Nat) : updO env (some t) v s = if s = t then v else env s := nr rfl
theorem upd_at (env : Nat → V) (t : Nat) (v : V) (s : Nat) : upd env t v s = if s = t then v else env s := nr rfl
theorem argE_0 (a : V) (l : List V) : argE (a :: l) 0 = a := nr rfl
theorem argE_s (a : V) (l : List V) (n : Nat) : argE (a :: l) (n + 1) = argE l n := nr rfl
theorem argE_n (n : Nat) : argE [] n = .any := nr rfl
theorem objAt_0 (a : Option Obj) (l : Store) : objAt (a :: l) 0 = a := nr rfl
theorem objAt_s (a : Option Obj) (l : Store) (n : Nat) : objAt (a :: l) (n + 1) = objAt l n := nr rfl
theorem objAt_n (n : Nat) : objAt [] n = none := nr rfl
theorem set_0 (a : Option Obj) (l : Store) (x : Option Obj) : List.set (a :: l) 0 x = x :: l := nr rfl
theorem set_s (a : Option Obj) (l : Store) (n : Nat) (x : Option Obj) : List.set (a :: l) (n + 1) x = a :: List.set l n x := nr rfl
theorem padS_0 (σ : Store) : padS σ 0 = σ := by simp [padS]
theorem padS_s (σ : Store) (n : Nat) : padS σ (n + 1) = padS (σ ++ [none]) n := by simp [padS, List.replicate_succ]
theorem enter_mk (args : List V) (σ : Store) : St.enter args σ = ⟨argE args, σ, σ.length, 0, [], []⟩ := nr rfl
theorem kill_nil (σ : Store) : killAll σ [] = σ := nr rfl
theorem kill_cons (σ : Store) (o : Nat) (l : List Nat) : killAll σ (o :: l) = killAll (σ.set o none) l := nr rfl
section
variable (T : Nat → Option Fn) (rf : Nat → Nat → Bool) (Q : Ex → St → Prop) (st : St) (k : St → Prop) (env : Nat → V) (σ : Store) (kp bs : Nat) (rs ms : List Nat)
def goK (st : St) (d : Option Nat) (id : Nat) (ef : Eff) (k : St → Prop) : Prop := k (ef.go st d id)
@[congr] theorem goK_cg {st : St} {d : Option Nat} {id id' : Nat} {ef : Eff} {k : St → Prop} (h : wr id = id') : goK st d id ef k = goK st d id' ef k := by rw [← h, wr_eq]
theorem goK_v (t id : Nat) (v : V) : goK ⟨env, σ, kp, bs, rs, ms⟩ (some t) id (.val v) k = k ⟨upd env t v, σ, kp, bs, rs, ms⟩ := nr rfl
theorem goK_v0 (id : Nat) (v : V) : goK ⟨env, σ, kp, bs, rs, ms⟩ none id (.val v) k = k ⟨env, σ, kp, bs, rs, ms⟩ := nr rfl
theorem goK_p (t id : Nat) (ob : Obj) : goK ⟨env, σ, kp, bs, rs, ms⟩ (some t) id (.newP ob) k = stoK (σ.set id (some ob)) fun σ => k ⟨upd env t (.ptr id 0 0), σ, kp, bs, rs, ms⟩ := nr rfl
theorem goK_s (t id : Nat) (ob : Obj) (n : Nat) : goK ⟨env, σ, kp, bs, rs, ms⟩ (some t) id (.newS ob n) k = stoK (σ.set id (some ob)) fun σ => k ⟨upd env t (.msl id 0 n), σ, kp, bs, rs, ms⟩ := nr rfl
theorem goK_u (id o : Nat) (ob : Obj) : goK ⟨env, σ, kp, bs, rs, ms⟩ none id (.upd o ob) k = stoK (σ.set o (some ob)) fun σ => k ⟨env, σ, kp, bs, rs, ms⟩ := nr rfl
theorem goK_m (t id o : Nat) (ob : Obj) (n : Nat) : goK ⟨env, σ, kp, bs, rs, ms⟩ (some t) id (.mov o ob n) k = stoK ((σ.set o none).set id (some ob)) fun σ => k ⟨upd env t (.msl id 0 n), σ, kp, bs, rs, ms⟩ := nr rfl
theorem wp_skip : wp T rf .skip Q st = Q .normal st := nr rfl
theorem wp_regF (m : Nat) (l : List OpI) : wp T rf (.reg false m l) Q ⟨env, σ, kp, bs, rs, ms⟩ = natK σ.length fun b => stoK (padS σ m) fun σ => opsK T rf l ⟨env, σ, kp, b, [], []⟩ (Q .normal) := nr rfl
theorem wp_regT (m : Nat) (l : List OpI) : wp T rf (.reg true m l) Q ⟨env, σ, kp, bs, rs, ms⟩ = natK σ.length fun b => stoK (padS σ m) fun σ => if (noWr l && noRf rf l) = true then any0K T l ⟨env, σ, kp, b, [], []⟩ (Q .normal) else natK σ.length fun L => anyK T rf L l l 0 [] ⟨env, σ, kp, b, [], []⟩ (Q .normal) := nr rfl
theorem wp_seq (a b : C) : wp T rf (.seq a b) Q st = wp T rf a (fun e st => seqK e (wp T rf b Q st) (Q e st)) st := nr rfl
theorem wp_cond (x : Src) (a b : C) : wp T rf (.cond x a b) Q st = boolK (x.ev st.env) fun t => if t = true then wp T rf a Q st else wp T rf b Q st := nr rfl
theorem wp_cond' (x : Src) (a b : C) : wp T rf (.cond x a b) Q ⟨env, σ, kp, bs, rs, ms⟩ = boolK (x.ev env) fun t => brK t (wp T rf a Q ⟨env, σ, kp, bs, rs, ms⟩) (wp T rf b Q ⟨env, σ, kp, bs, rs, ms⟩) := nr rfl
theorem wp_block (id : Nat) (c : C) : wp T rf (.block id c) Q st = wp T rf c (fun e st => Q (exIn id e) st) st := nr rfl
theorem wp_loop (c : C) : wp T rf (.loop c) Q st = LoopK T c Q st := nr rfl
theorem wp_exit (id : Nat) : wp T rf (.exit id) Q st = Q (.exit id) st := nr rfl
theorem wp_ret : wp T rf .ret Q st = Q .ret st := nr rfl
theorem seqK_n (a b : Prop) : seqK .normal a b = a := nr rfl
theorem seqK_e (id : Nat) (a b : Prop) : seqK (.exit id) a b = b := nr rfl
theorem seqK_r (a b : Prop) : seqK .ret a b = b := nr rfl
theorem exIn_n (id : Nat) : exIn id .normal = .normal := nr rfl
theorem exIn_r (id : Nat) : exIn id .ret = .ret := nr rfl
theorem exIn_e (id j : Nat) : exIn id (.exit j) = if j = id then .normal else .exit j := nr rfl
theorem opsK_n : opsK T rf [] st k = k st := nr rfl
theorem opsK_c (o : OpI) (l : List OpI) : opsK T rf (o :: l) st k = opK T rf o st fun st => opsK T rf l st k := nr rfl
theorem opK_mk (g : Option (Nat × Bool)) (d : Option Nat) (n : Nat) (i : I) (a : List Nat) : opK T rf ⟨g, d, n, i, a⟩ ⟨env, σ, kp, bs, rs, ms⟩ k = gK g env (match i with
    | .call f as => if rf f (dN d) = true then RefK T f as d ⟨env, σ, kp, bs, rs, ms⟩ k else resK env σ as fun as' => PFK T f as' fun r =>
        stoK (killAll σ (if scalar SD r then [] else reachAll env σ as)) fun σ => k ⟨updO env d r, σ, kp, bs, rs, ms⟩
    | i => natK (bs + n) fun id => i.effK env σ fun ef => goK ⟨env, σ, kp, bs, rs, ms⟩ d id ef k)
    (k ⟨updO env d (.tup []), σ, kp, bs, rs, ms⟩) := by cases i <;> rfl
theorem any0K_n : any0K T [] st k = k st := nr rfl
theorem any0K_c (g : Option (Nat × Bool)) (d : Option Nat) (n : Nat) (i : I) (a : List Nat) (l : List OpI) : any0K T (⟨g, d, n, i, a⟩ :: l) ⟨env, σ, kp, bs, rs, ms⟩ k = gK g env (match i with
    | .call f as => resK env σ as fun as' => PFK T f as' fun r => numK (reachAll env σ as) fun R =>
        (R = [] ∨ scalar SD r = true) ∧ any0K T l ⟨updO env d r, σ, kp, bs, rs, ms⟩ k
    | x => x.effK env σ fun ef => valK ef fun v => any0K T l ⟨updO env d v, σ, kp, bs, rs, ms⟩ k)
    (any0K T l ⟨updO env d (.tup []), σ, kp, bs, rs, ms⟩ k) := by cases i <;> rfl
theorem anyK_n (L : Nat) (ops : List OpI) (i : Nat) (acc : List Acc) : anyK T rf L ops [] i acc st k = (OkA L ops acc ∧ k st) := nr rfl
theorem anyK_c (L : Nat) (ops : List OpI) (g : Option (Nat × Bool)) (d : Option Nat) (n : Nat) (x : I) (a : List Nat) (l : List OpI) (i : Nat) (acc : List Acc) : anyK T rf L ops (⟨g, d, n, x, a⟩ :: l) i acc ⟨env, σ, kp, bs, rs, ms⟩ k = gK g env (match x with
    | .call f as => if rf f (dN d) = true then OwnK T f as d ⟨env, σ, kp, bs, rs, ms⟩ fun R W n st => natK (i + 1) fun j => anyK T rf L ops l j (⟨i, R, W, n⟩ :: acc) st k
        else resK env σ as fun as' => PFK T f as' fun r => numK (reachAll env σ as) fun R =>
        (R = [] ∨ scalar SD r = true) ∧ natK (i + 1) fun j => anyK T rf L ops l j (⟨i, R, [], false⟩ :: acc) ⟨updO env d r, σ, kp, bs, rs, ms⟩ k
    | x => numK (x.reads env) fun R => natK (bs + n) fun id => x.effK env σ fun ef => numK (ef.wr id) fun W => natK (i + 1) fun j =>
        goK ⟨env, σ, kp, bs, rs, ms⟩ d id ef fun st => anyK T rf L ops l j (⟨i, R, W, false⟩ :: acc) st k)
    (natK (i + 1) fun j => anyK T rf L ops l j (⟨i, [], [], false⟩ :: acc) ⟨updO env d (.tup []), σ, kp, bs, rs, ms⟩ k) := by cases x <;> rfl
end
theorem gK_0 (env : Nat → V) (a b : Prop) : gK none env a b = a := nr rfl
theorem gK_t (t : Nat) (env : Nat → V) (on off : Prop) : gK (some (t, true)) env on off = gdK true (env t) fun b => brK b on off := nr rfl
theorem gK_f (t : Nat) (env : Nat → V) (on off : Prop) : gK (some (t, false)) env on off = gdK false (env t) fun b => brK b off on := nr rfl
theorem valK_v (v : V) (k : V → Prop) : valK (.val v) k = k v := nr rfl
theorem wr_v (v : V) (id : Nat) : Eff.wr id (.val v) = [] := nr rfl
theorem wr_p (ob : Obj) (id : Nat) : Eff.wr id (.newP ob) = [id] := nr rfl
theorem wr_s (ob : Obj) (n : Nat) (id : Nat) : Eff.wr id (.newS ob n) = [id] := nr rfl
theorem wr_u (ob : Obj) (o : Nat) (id : Nat) : Eff.wr id (.upd o ob) = [o] := nr rfl
theorem wr_m (ob : Obj) (o n : Nat) (id : Nat) : Eff.wr id (.mov o ob n) = [o, id] := nr rfl
def cellsK (v : V) (k : List V → Prop) : Prop := optK v.cells? k
@[congr] theorem cellsK_cg {v v' : V} {k : List V → Prop} (h : wr v = v') : cellsK v k = cellsK v' k := by rw [← h, wr_eq]
theorem cellsK_int (q : IntKind) (n : Int) (k : List V → Prop) : cellsK (.int q n) k = k [.int q n] := nr rfl
theorem cellsK_bool (b : Bool) (k : List V → Prop) : cellsK (.bool b) k = k [.bool b] := nr rfl
theorem cellsK_str (s : List UInt8) (k : List V → Prop) : cellsK (.str s) k = k [.str s] := nr rfl
theorem cellsK_nils (k : List V → Prop) : cellsK .nils k = k [.nils] := nr rfl
theorem cellsK_one (k : List V → Prop) : cellsK .one k = k [.one] := nr rfl
theorem cellsK_sl (sz : Nat) (r : List (List V)) (k : List V → Prop) : cellsK (.sl sz r) k = k [.sl sz r] := nr rfl
theorem cellsK_msl (o s l : Nat) (k : List V → Prop) : cellsK (.msl o s l) k = k [.msl o s l] := nr rfl
theorem cellsK_ptr (o s l : Nat) (k : List V → Prop) : cellsK (.ptr o s l) k = k [.ptr o s l] := nr rfl
theorem cellsK_fptr (r : List V) (o : Nat) (k : List V → Prop) : cellsK (.fptr r o) k = k [.fptr r o] := nr rfl
theorem cellsK_agg (cs : List V) (k : List V → Prop) : cellsK (.agg cs) k = if cs.all V.leaf = true then k cs else False := by
  simp only [cellsK, V.cells?]; split <;> rfl
def refK (σ : Store) (v : V) (k : Nat → Nat → Nat → Prop) (kf : List V → Nat → Prop) : Prop := match v with
  | .ptr o r off => k o r off
  | .fptr row off => kf row off
  | _ => False
@[congr] theorem refK_cg {σ : Store} {v v' : V} {k : Nat → Nat → Nat → Prop} {kf : List V → Nat → Prop} (h : wr v = v') : refK σ v k kf = refK σ v' k kf := by rw [← h, wr_eq]
theorem refK_p (σ : Store) (o r off : Nat) (k : Nat → Nat → Nat → Prop) (kf : List V → Nat → Prop) : refK σ (.ptr o r off) k kf = k o r off := nr rfl
theorem refK_f (σ : Store) (r : List V) (off : Nat) (k : Nat → Nat → Nat → Prop) (kf : List V → Nat → Prop) : refK σ (.fptr r off) k kf = kf r off := nr rfl
def slK (v : V) (kn : Prop) (kf : Nat → List (List V) → Prop) (km : Nat → Nat → Nat → Prop) : Prop := match v with
  | .nils => kn
  | .sl sz rows => kf sz rows
  | .msl o s l => km o s l
  | _ => False
@[congr] theorem slK_cg {v v' : V} {kn : Prop} {kf : Nat → List (List V) → Prop} {km : Nat → Nat → Nat → Prop} (h : wr v = v') : slK v kn kf km = slK v' kn kf km := by rw [← h, wr_eq]
theorem slK_n (kn : Prop) (kf : Nat → List (List V) → Prop) (km : Nat → Nat → Nat → Prop) : slK .nils kn kf km = kn := nr rfl
theorem slK_f (sz : Nat) (r : List (List V)) (kn : Prop) (kf : Nat → List (List V) → Prop) (km : Nat → Nat → Nat → Prop) : slK (.sl sz r) kn kf km = kf sz r := nr rfl
theorem slK_m (o s l : Nat) (kn : Prop) (kf : Nat → List (List V) → Prop) (km : Nat → Nat → Nat → Prop) : slK (.msl o s l) kn kf km = km o s l := nr rfl
def intK (v : V) (k : IntKind → Int → Prop) : Prop := match v with
  | .int q n => k q n
  | _ => False
@[congr] theorem intK_cg {v v' : V} {k : IntKind → Int → Prop} (h : wr v = v') : intK v k = intK v' k := by rw [← h, wr_eq]
theorem intK_i (q : IntKind) (n : Int) (k : IntKind → Int → Prop) : intK (.int q n) k = k q n := nr rfl
def strK (v : V) (k : List UInt8 → Prop) : Prop := match v with
  | .str s => k s
  | _ => False
@[congr] theorem strK_cg {v v' : V} {k : List UInt8 → Prop} (h : wr v = v') : strK v k = strK v' k := by rw [← h, wr_eq]
theorem strK_s (s : List UInt8) (k : List UInt8 → Prop) : strK (.str s) k = k s := nr rfl
def tupK (v : V) (k : List V → Prop) : Prop := match v with
  | .tup s => k s
  | _ => False
@[congr] theorem tupK_cg {v v' : V} {k : List V → Prop} (h : wr v = v') : tupK v k = tupK v' k := by rw [← h, wr_eq]
def aggK (v : V) (k : List V → Prop) : Prop := match v with
  | .agg s => k s
  | _ => False
@[congr] theorem aggK_cg {v v' : V} {k : List V → Prop} (h : wr v = v') : aggK v k = aggK v' k := by rw [← h, wr_eq]
theorem aggK_a (s : List V) (k : List V → Prop) : aggK (.agg s) k = k s := nr rfl
theorem tupK_t (s : List V) (k : List V → Prop) : tupK (.tup s) k = k s := nr rfl
section
variable (env : Nat → V) (σ : Store) (k : Eff → Prop)
theorem e_mov (x : Src) : I.effK env σ (.mov x) k = mvK (x.ev env) fun v => k (.val v) := nr rfl
theorem e_pick (c a b : Src) : I.effK env σ (.pick c a b) k = boolK (c.ev env) fun t => brK t (mvK (a.ev env) fun v => k (.val v)) (mvK (b.ev env) fun v => k (.val v)) := by
  simp only [I.effK]; cases c.ev env with | bool t => cases t <;> rfl | _ => rfl
theorem e_alloc (z : List V) : I.effK env σ (.alloc z) k = k (.newP ⟨z.length, [z]⟩) := nr rfl
theorem e_box (x : Src) : I.effK env σ (.box x) k = cellsK (x.ev env) fun cs => match cs with | c :: cs => k (.newP ⟨(c :: cs).length, [c :: cs]⟩) | [] => False := by
  simp only [I.effK, cellsK]; cases (x.ev env).cells? with | none => rfl | some cs => cases cs <;> rfl
theorem e_build (z : List V) (ps : List (Nat × Nat × Src)) : I.effK env σ (.build z ps) k = optK (fillRow env z ps) fun cs => k (.val (.agg cs)) := nr rfl
theorem e_mkSl (sz : Nat) (z : List V) (ln : Nat) (ps : List (Nat × Src)) : I.effK env σ (.mkSl sz z ln ps) k =
    optK (fillRows env sz (List.replicate ln z) ps) fun rows => if ln = 0 then k (.val .nils) else k (.newS ⟨sz, rows⟩ ln) := nr rfl
theorem e_make (z : List V) (b : Nat) (x : Src) : I.effK env σ (.make z b x) k = intK (x.ev env) fun q n => match q with
    | .i64 => (0 ≤ n ∧ n ≤ 2 ^ 47 ∧ n * b ≤ 2 ^ 47) ∧ k (.newS ⟨z.length, List.replicate n.toNat z⟩ n.toNat) | _ => False := by
  simp only [I.effK]; cases x.ev env with | int q n => cases q <;> rfl | _ => rfl
theorem e_load1 (n : Nat) (a : Src) : I.effK env σ (.load n false a) k = optK (rowAt σ (a.ev env)) fun p => optK p.1[p.2]? fun v => mvK v fun v => k (.val v) := nr rfl
theorem e_loadn (n : Nat) (a : Src) : I.effK env σ (.load n true a) k = optK (rowAt σ (a.ev env)) fun p => p.2 + n ≤ p.1.length ∧ mvK (.agg ((p.1.drop p.2).take n)) fun v => k (.val v) := nr rfl
theorem e_store (n : Nat) (a x : Src) : I.effK env σ (.store n a x) k = refK σ (a.ev env) (fun o r off => cellsK (x.ev env) fun cs => optK (objAt σ o) fun ob => optK ob.rows[r]? fun row =>
        (cs.length = n ∧ off + n ≤ row.length) ∧ k (.upd o ⟨ob.sz, ob.rows.set r (splice row off cs)⟩)) fun _ _ => False := by
  simp only [I.effK]; cases a.ev env <;> rfl
theorem e_fld (d : Nat) (a : Src) : I.effK env σ (.fld d a) k = refK σ (a.ev env) (fun o r off => optK (objAt σ o) fun _ => mvK (.ptr o r (off + d)) fun v => k (.val v)) fun row off => mvK (.fptr row (off + d)) fun v => k (.val v) := by
  simp only [I.effK]; cases a.ev env <;> rfl
theorem e_idx (sz : Nat) (x i : Src) : I.effK env σ (.idx sz x i) k = slK (x.ev env) False (fun sz' rows => asIdxK rows.length (i.ev env) fun j => sz' = sz ∧ mvK (.fptr (rows.getD j []) 0) fun v => k (.val v))
    (fun o s l => optK (objAt σ o) fun ob => asIdxK l (i.ev env) fun j => ob.sz = sz ∧ mvK (.ptr o (s + j) 0) fun v => k (.val v)) := by
  simp only [I.effK]; cases x.ev env <;> rfl
theorem e_idxA (c sz : Nat) (x i : Src) : I.effK env σ (.idxA c sz x i) k = refK σ (x.ev env) (fun o r off => asIdxK c (i.ev env) fun j => optK (objAt σ o) fun _ => mvK (.ptr o r (off + j * sz)) fun v => k (.val v))
    fun row off => asIdxK c (i.ev env) fun j => mvK (.fptr row (off + j * sz)) fun v => k (.val v) := by
  simp only [I.effK]; cases x.ev env <;> rfl
theorem e_idxS (x i : Src) : I.effK env σ (.idxS x i) k = strK (x.ev env) fun s => asIdxK s.length (i.ev env) fun j => mvK (.int .u8 (s.getD j 0).toNat) fun v => k (.val v) := by
  simp only [I.effK]; cases x.ev env <;> rfl
theorem e_idxV (c : Nat) (x i : Src) : I.effK env σ (.idxV c x i) k = aggK (x.ev env) fun cs => asIdxK c (i.ev env) fun j => optK cs[j]? fun v => mvK v fun v => k (.val v) := by
  simp only [I.effK]; cases x.ev env <;> rfl
theorem e_len (x : Src) : I.effK env σ (.len x) k = optK (lenOf σ (x.ev env)) fun n => mvK (.int .i64 n) fun v => k (.val v) := nr rfl
theorem e_bstr (x : Src) : I.effK env σ (.bstr x) k = optK (rowsOf σ (x.ev env)) fun p => optK (bytesOf p.2) fun s => mvK (.str s) fun v => k (.val v) := by
  simp only [I.effK, I.eff]
  cases rowsOf σ (x.ev env) with
  | none => rfl
  | some p => obtain ⟨a, b⟩ := p; simp only [optK]; cases bytesOf b <;> rfl
theorem e_lenS (x : Src) : I.effK env σ (.lenS x) k = strK (x.ev env) fun s => mvK (.int .i64 s.length) fun v => k (.val v) := by
  simp only [I.effK]; cases x.ev env <;> rfl
theorem e_bin (op : BinOp) (x y : Src) : I.effK env σ (.bin op x y) k = binK op (x.ev env) (y.ev env) fun v => mvK v fun v => k (.val v) := nr rfl
theorem e_beq (ne : Bool) (x y : Src) : I.effK env σ (.beq ne x y) k = boolK (x.ev env) fun a => boolK (y.ev env) fun b => mvK (.bool (if ne = true then !(a == b) else a == b)) fun v => k (.val v) := by
  simp only [I.effK]; cases x.ev env <;> first | rfl | (cases y.ev env <;> rfl)
theorem e_aeq (ne : Bool) (x y : Src) : I.effK env σ (.aeq ne x y) k = aggK (x.ev env) fun as => aggK (y.ev env) fun bs => optK (eq3 as bs) fun b => mvK (.bool (if ne = true then !b else b)) fun v => k (.val v) := by
  simp only [I.effK, I.eff]
  cases x.ev env <;> first | rfl | skip
  cases y.ev env <;> first | rfl | skip
  rename_i as bs
  simp only [aggK]
  cases eq3 as bs <;> rfl
theorem eq3_i (a b c d e f : Int) : eq3 [.int .i64 a, .int .i64 b, .int .i64 c] [.int .i64 d, .int .i64 e, .int .i64 f] = some (a == d && b == e && c == f) := nr rfl
theorem e_not (x : Src) : I.effK env σ (.un .not x) k = boolK (x.ev env) fun a => mvK (.bool (!a)) fun v => k (.val v) := by
  simp only [I.effK]; cases x.ev env <;> rfl
theorem e_neg (x : Src) : I.effK env σ (.un .neg x) k = intK (x.ev env) fun q n => mvK (.int q (q.wrap (0 - n))) fun v => k (.val v) := by
  simp only [I.effK]; cases x.ev env <;> rfl
theorem e_conv (q : IntKind) (x : Src) : I.effK env σ (.conv q x) k = intK (x.ev env) fun _ n => mvK (.int q (q.wrap n)) fun v => k (.val v) := by
  simp only [I.effK]; cases x.ev env <;> rfl
theorem e_max (x y : Src) : I.effK env σ (.max x y) k = intK (x.ev env) fun q a => intK (y.ev env) fun q' b => q = q' ∧ mvK (.int q (if b > a then b else a)) fun v => k (.val v) := by
  simp only [I.effK]; cases x.ev env <;> first | rfl | (cases y.ev env <;> rfl)
theorem e_extr (i : Nat) (x : Src) : I.effK env σ (.extr i x) k = tupK (x.ev env) fun vs => optK vs[i]? fun v => mvK v fun v => k (.val v) := by
  simp only [I.effK]; cases x.ev env <;> rfl
theorem e_chk (x : Src) : I.effK env σ (.chk x) k = refK σ (x.ev env) (fun o r off => optK (objAt σ o) fun _ => k (.val (.ptr o r off))) fun row off => k (.val (.fptr row off)) := by
  simp only [I.effK]; cases x.ev env <;> rfl
theorem e_app (sz b : Nat) (x y : Src) : I.effK env σ (.app sz b x y) k = mvK (x.ev env) fun xv => optK (rowsOf σ xv) fun old => optK (rowsOf σ (y.ev env)) fun new =>
    (new.2 = [] → k (.val xv)) ∧ (new.2 ≠ [] → (new.1 = sz ∧ (old.2.length + new.2.length) * b ≤ 2 ^ 40 ∧ old.2.length + new.2.length ≤ 2 ^ 40) ∧
      slK xv (k (.newS ⟨sz, new.2⟩ new.2.length)) (fun _ _ => False) fun o _ _ => optK (objAt σ o) fun ob => ob.sz = sz ∧ k (.mov o ⟨sz, old.2 ++ new.2⟩ (old.2.length + new.2.length))) := by
  simp only [I.effK, mvK]; cases x.ev env <;> rfl
end
section
variable (k : V → Prop) (q : IntKind) (a b : Int)
theorem b_add : binK .add (.int q a) (.int q b) k = k (.int q (q.wrap (a + b))) := by simp [binK]
theorem b_sub : binK .sub (.int q a) (.int q b) k = k (.int q (q.wrap (a - b))) := by simp [binK]
theorem b_mul : binK .mul (.int q a) (.int q b) k = k (.int q (q.wrap (a * b))) := by simp [binK]
theorem b_quo {b : Int} (h : b ≠ 0) : binK .quo (.int q a) (.int q b) k = k (.int q (q.wrap (a.tdiv b))) := by simp [binK, h]
theorem b_rem {b : Int} (h : b ≠ 0) : binK .rem (.int q a) (.int q b) k = k (.int q (a.tmod b)) := by simp [binK, h]
theorem b_eql : binK .eql (.int q a) (.int q b) k = k (.bool (decide (a = b))) := by simp [binK]; rfl
theorem b_neq : binK .neq (.int q a) (.int q b) k = k (.bool (!decide (a = b))) := by simp [binK, bne]; rfl
theorem b_lss : binK .lss (.int q a) (.int q b) k = k (.bool (decide (a < b))) := by simp [binK]
theorem b_leq : binK .leq (.int q a) (.int q b) k = k (.bool (decide (a ≤ b))) := by simp [binK]
theorem b_gtr : binK .gtr (.int q a) (.int q b) k = k (.bool (decide (b < a))) := by simp [binK]
theorem b_geq : binK .geq (.int q a) (.int q b) k = k (.bool (decide (b ≤ a))) := by simp [binK]
theorem b_shr (q' : IntKind) (h : 0 ≤ b) : binK .shr (.int q a) (.int q' b) k = k (.int q (a.fdiv (2 ^ (min b.toNat q.bits)))) := by simp [binK, h]
theorem b_and : binK .and (.int q a) (.int q b) k = k (.int q (bitsAnd q a b)) := by simp [binK]
theorem b_xor : binK .xor (.int q a) (.int q b) k = k (.int q (bitsXor q a b)) := by simp [binK]
theorem b_eqls (s t : List UInt8) : binK .eql (.str s) (.str t) k = k (.bool (s == t)) := nr rfl
theorem b_neqs (s t : List UInt8) : binK .neq (.str s) (.str t) k = k (.bool (!(s == t))) := nr rfl
theorem b_adds {s t : List UInt8} (h : s.length + t.length < 4611686018427387904) : binK .add (.str s) (.str t) k = k (.str (s ++ t)) := by
  have : s.length + t.length < 2 ^ 62 := h
  simp [binK, this]
end
theorem rowAt_f (σ : Store) (row : List V) (off : Nat) : rowAt σ (.fptr row off) = some (row, off) := nr rfl
theorem rowAt_p (σ : Store) (o r off : Nat) : rowAt σ (.ptr o r off) = match objAt σ o with | some ob => (ob.rows[r]?).map (·, off) | none => none := nr rfl
theorem lenOf_n (σ : Store) : lenOf σ .nils = some 0 := nr rfl
theorem lenOf_f (σ : Store) (sz : Nat) (rows : List (List V)) : lenOf σ (.sl sz rows) = some rows.length := nr rfl
theorem lenOf_m (σ : Store) (o s l : Nat) : lenOf σ (.msl o s l) = (objAt σ o).map fun _ => l := nr rfl
theorem rowsOf_n (σ : Store) : rowsOf σ .nils = some (0, []) := nr rfl
theorem rowsOf_f (σ : Store) (sz : Nat) (rows : List (List V)) : rowsOf σ (.sl sz rows) = some (sz, rows) := nr rfl
theorem rowsOf_m (σ : Store) (o s l : Nat) : rowsOf σ (.msl o s l) = match objAt σ o with
    | some ob => if s + l ≤ ob.rows.length then some (ob.sz, (ob.rows.drop s).take l) else none
    | none => none := nr rfl
theorem resK_n (env : Nat → V) (σ : Store) (k : List V → Prop) : resK env σ [] k = k [] := nr rfl
theorem resK_c (env : Nat → V) (σ : Store) (s : Src) (as : List Src) (k : List V → Prop) : resK env σ (s :: as) k = mvK (s.ev env) fun v => optK (resolve σ FD v) fun v => resK env σ as fun vs => k (v :: vs) := nr rfl
def resC (σ : Store) : List V → Option (List V)
  | [] => some []
  | c :: cs => match resolve σ 11 c with
    | some d => match resC σ cs with
      | some ds => some (d :: ds)
      | none => none
    | none => none
theorem resC_eq (σ : Store) : ∀ cs, cs.mapM (resolve σ 11) = resC σ cs
  | [] => rfl
  | c :: cs => by
    simp only [List.mapM_cons, resC, resC_eq σ cs]
    cases resolve σ 11 c with
    | none => rfl
    | some d => cases resC σ cs <;> rfl
theorem r_int (σ : Store) (q : IntKind) (n : Int) : resolve σ FD (.int q n) = some (.int q n) := nr rfl
theorem r_bool (σ : Store) (b : Bool) : resolve σ FD (.bool b) = some (.bool b) := nr rfl
theorem r_str (σ : Store) (s : List UInt8) : resolve σ FD (.str s) = some (.str s) := nr rfl
theorem r_nils (σ : Store) : resolve σ FD .nils = some .nils := nr rfl
theorem r_one (σ : Store) : resolve σ FD .one = some .one := nr rfl
theorem r_sl (σ : Store) (sz : Nat) (r : List (List V)) : resolve σ FD (.sl sz r) = some (.sl sz r) := nr rfl
theorem r_fptr (σ : Store) (r : List V) (o : Nat) : resolve σ FD (.fptr r o) = some (.fptr r o) := nr rfl
theorem r_agg (σ : Store) (cs : List V) : resolve σ FD (.agg cs) = (resC σ cs).map .agg := by rw [← resC_eq]; rfl
theorem r_tup (σ : Store) (cs : List V) : resolve σ FD (.tup cs) = (resC σ cs).map .tup := by rw [← resC_eq]; rfl
theorem resC_n (σ : Store) : resC σ [] = some [] := nr rfl
theorem resC_c (σ : Store) (c : V) (cs : List V) : resC σ (c :: cs) = match resolve σ 11 c with
    | some d => match resC σ cs with
      | some ds => some (d :: ds)
      | none => none
    | none => none := nr rfl
theorem r1_int (σ : Store) (q : IntKind) (n : Int) : resolve σ 11 (.int q n) = some (.int q n) := nr rfl
theorem r1_bool (σ : Store) (b : Bool) : resolve σ 11 (.bool b) = some (.bool b) := nr rfl
theorem r1_str (σ : Store) (s : List UInt8) : resolve σ 11 (.str s) = some (.str s) := nr rfl
theorem r1_nils (σ : Store) : resolve σ 11 .nils = some .nils := nr rfl
theorem r1_one (σ : Store) : resolve σ 11 .one = some .one := nr rfl
theorem r1_sl (σ : Store) (sz : Nat) (r : List (List V)) : resolve σ 11 (.sl sz r) = some (.sl sz r) := nr rfl
theorem r1_fptr (σ : Store) (r : List V) (o : Nat) : resolve σ 11 (.fptr r o) = some (.fptr r o) := nr rfl
def V.still : V → Bool
  | .one | .int .. | .bool _ | .str _ | .nils | .sl .. | .fptr .. => true
  | _ => false
def stillR (rows : List (List V)) : Prop := ∀ r ∈ rows, ∀ v ∈ r, v.still = true
theorem res_still {σ : Store} {n : Nat} {v : V} (h : v.still = true) : resolve σ (n + 1) v = some v := by
  cases v <;> first | rfl | cases h
theorem mapM_still {σ : Store} {n : Nat} : ∀ {r : List V}, (∀ v ∈ r, v.still = true) → r.mapM (resolve σ (n + 1)) = some r
  | [], _ => rfl
  | v :: r, h => by
    rw [List.mapM_cons, res_still (h v (by simp)), mapM_still fun x hx => h x (by simp [hx])]; rfl
theorem mapM_stillR {σ : Store} {n : Nat} : ∀ {rows : List (List V)}, stillR rows → (rows.mapM fun (r : List V) => r.mapM (resolve σ (n + 1))) = some rows
  | [], _ => rfl
  | r :: rows, h => by
    rw [List.mapM_cons, mapM_still (h r (by simp)), mapM_stillR fun x hx => h x (by simp [hx])]; rfl
theorem stillR.part {rows : List (List V)} (h : stillR rows) (s l : Nat) : stillR ((rows.drop s).take l) := fun r hr => h r (List.mem_of_mem_drop (List.mem_of_mem_take hr))
theorem ra_n (env : Nat → V) (σ : Store) : reachAll env σ [] = [] := nr rfl
theorem ra_c (env : Nat → V) (σ : Store) (s : Src) (as : List Src) : reachAll env σ (s :: as) = reach σ FD (s.ev env) ++ reachAll env σ as := nr rfl
theorem reach_still {σ : Store} {n : Nat} {v : V} (h : v.still = true) : reach σ (n + 1) v = [] := by
  cases v <;> first | rfl | cases h
theorem h_int (σ : Store) (q : IntKind) (n : Int) : reach σ FD (.int q n) = [] := nr rfl
theorem h_bool (σ : Store) (b : Bool) : reach σ FD (.bool b) = [] := nr rfl
theorem h_str (σ : Store) (s : List UInt8) : reach σ FD (.str s) = [] := nr rfl
theorem h_nils (σ : Store) : reach σ FD .nils = [] := nr rfl
theorem h_sl (σ : Store) (sz : Nat) (r : List (List V)) : reach σ FD (.sl sz r) = [] := nr rfl
theorem h_fptr (σ : Store) (r : List V) (o : Nat) : reach σ FD (.fptr r o) = [] := nr rfl
def reachC (σ : Store) (cs : List V) : List Nat := cs.flatMap (reach σ 11)
theorem h_agg (σ : Store) (cs : List V) : reach σ FD (.agg cs) = reachC σ cs := nr rfl
theorem hC_n (σ : Store) : reachC σ [] = [] := nr rfl
theorem hC_c (σ : Store) (c : V) (cs : List V) : reachC σ (c :: cs) = reach σ 11 c ++ reachC σ cs := nr rfl
theorem h1_int (σ : Store) (q : IntKind) (n : Int) : reach σ 11 (.int q n) = [] := nr rfl
theorem h1_bool (σ : Store) (b : Bool) : reach σ 11 (.bool b) = [] := nr rfl
theorem h1_str (σ : Store) (s : List UInt8) : reach σ 11 (.str s) = [] := nr rfl
theorem h1_nils (σ : Store) : reach σ 11 .nils = [] := nr rfl
theorem h1_sl (σ : Store) (sz : Nat) (r : List (List V)) : reach σ 11 (.sl sz r) = [] := nr rfl
theorem h1_fptr (σ : Store) (r : List V) (o : Nat) : reach σ 11 (.fptr r o) = [] := nr rfl
theorem s_int (q : IntKind) (n : Int) : scalar SD (.int q n) = true := nr rfl
theorem s_bool (b : Bool) : scalar SD (.bool b) = true := nr rfl
theorem s_str (s : List UInt8) : scalar SD (.str s) = true := nr rfl
def outK : List Res → List V → St → (V → Prop) → Prop
  | [], acc, st, k => mvK (packRes acc.reverse) fun v => optK (resolve st.objs FD v) k
  | r :: rs, acc, st, k => optK (r.get st) fun v => mvK v fun v => outK rs (v :: acc) st k
theorem outK_spec {st : St} {k : V → Prop} : ∀ (rs : List Res) (acc : List V), outK rs acc st k → optK (rs.mapM (Res.get st)) fun vs => optK (resolve st.objs FD (packRes (acc.reverse ++ vs))) k
  | [], acc, h => by simpa [optK, outK, mvK] using h
  | r :: rs, acc, h => by
    obtain ⟨v, e, h⟩ := optK_spec h
    have := outK_spec rs (v :: acc) h
    obtain ⟨vs, e2, h⟩ := optK_spec this
    simp only [List.mapM_cons, e, e2]
    simpa [optK, wr] using h
def endK (rs : List Res) (e : Ex) (k : V → Prop) (st : St) : Prop := match e with
  | .normal => outK rs [] st k
  | .ret => outK rs [] st k
  | .exit _ => False
theorem endK_n (rs : List Res) (k : V → Prop) (st : St) : endK rs .normal k st = outK rs [] st k := nr rfl
theorem endK_r (rs : List Res) (k : V → Prop) (st : St) : endK rs .ret k st = outK rs [] st k := nr rfl
theorem outK_n (acc : List V) (st : St) (k : V → Prop) : outK [] acc st k = mvK (packRes acc.reverse) fun v => optK (resolve st.objs FD v) k := nr rfl
theorem outK_t (t : Nat) (rs : List Res) (acc : List V) (st : St) (k : V → Prop) : outK (.tmp t :: rs) acc st k = mvK (st.env t) fun v => outK rs (v :: acc) st k := nr rfl
theorem outK_c1 (t n : Nat) (rs : List Res) (acc : List V) (st : St) (k : V → Prop) : outK (.cell t n false :: rs) acc st k = optK (rowAt st.objs (st.env t)) fun p => optK p.1[p.2]? fun v => mvK v fun v => outK rs (v :: acc) st k := by
  simp only [outK, Res.get]
  cases rowAt st.objs (st.env t) <;> rfl
theorem pack1 (v : V) : packRes [v] = v := nr rfl
theorem pack2 (v w : V) : packRes [v, w] = .tup [v, w] := nr rfl
theorem pack3 (v w x : V) : packRes [v, w, x] = .tup [v, w, x] := nr rfl
theorem pf_end {T : Nat → Option Fn} {f : Nat} {F : Fn} {args : List V} {r : V} (rf : Nat → Nat → Bool) (hT : T f = some F) (hl : args.length = F.nargs) (hk : F.body.okC = true)
    (h : wp T rf F.body (fun e st => endK F.res e (· = r) st) (St.enter args [])) : PF T f args r := by
  obtain ⟨e, st', h1, h2⟩ := wp_sound hk h
  have h3 : (e = .normal ∨ e = .ret) ∧ outK F.res [] st' (· = r) := by
    cases e with
    | normal => exact ⟨.inl rfl, h2⟩
    | ret => exact ⟨.inr rfl, h2⟩
    | exit id => exact h2.elim
  obtain ⟨he, h3⟩ := h3
  have := outK_spec _ _ h3
  obtain ⟨rs, e1, h4⟩ := optK_spec this
  obtain ⟨r', e2, h5⟩ := optK_spec h4
  subst h5
  exact .frz (.fn hT hl h1 he e1) e2
theorem PFK_of {T : Nat → Option Fn} {f : Nat} {as : List V} {k : V → Prop} {r : V} (h : PF T f as r) (hk : k r) : PFK T f as k := ⟨r, h, hk⟩
def irows (l : List Int) : List (List V) := l.map fun x => [.int .i64 x]
abbrev ints (l : List Int) : V := .sl 1 (irows l)
theorem ir_len (l : List Int) : (irows l).length = l.length := by simp [irows]
theorem ir_getD {l : List Int} {j : Nat} (h : j < l.length) : (irows l).getD j [] = [.int .i64 (l.getD j 0)] := by
  simp [irows, List.getD_eq_getElem?_getD, List.getElem?_eq_getElem h]
theorem ir_get {l : List Int} {j : Nat} (h : j < l.length) : (irows l)[j]? = some [.int .i64 (l.getD j 0)] := by
  simp [irows, List.getD_eq_getElem?_getD, List.getElem?_eq_getElem h]
theorem ir_set (l : List Int) (j : Nat) (x : Int) : (irows l).set j [.int .i64 x] = irows (l.set j x) := by
  simp only [irows, List.map_set]
theorem ir_drop (l : List Int) (n : Nat) : (irows l).drop n = irows (l.drop n) := by simp [irows]
theorem ir_take (l : List Int) (n : Nat) : (irows l).take n = irows (l.take n) := by simp [irows]
theorem ir_still (l : List Int) : stillR (irows l) := by
  intro r hr v hv
  obtain ⟨x, _, rfl⟩ := List.mem_map.1 hr
  simp at hv; subst hv; rfl
def srows (l : List (List UInt8)) : List (List V) := l.map fun x => [.str x]
abbrev strs (l : List (List UInt8)) : V := .sl 1 (srows l)
theorem sr_len (l : List (List UInt8)) : (srows l).length = l.length := by simp [srows]
theorem sr_getD {l : List (List UInt8)} {j : Nat} (h : j < l.length) : (srows l).getD j [] = [.str (l.getD j [])] := by
  simp [srows, List.getD_eq_getElem?_getD, List.getElem?_eq_getElem h]
theorem sr_get {l : List (List UInt8)} {j : Nat} (h : j < l.length) : (srows l)[j]? = some [.str (l.getD j [])] := by
  simp [srows, List.getD_eq_getElem?_getD, List.getElem?_eq_getElem h]
theorem sr_drop (l : List (List UInt8)) (n : Nat) : (srows l).drop n = srows (l.drop n) := by simp [srows]
theorem sr_take (l : List (List UInt8)) (n : Nat) : (srows l).take n = srows (l.take n) := by simp [srows]
theorem sr_still (l : List (List UInt8)) : stillR (srows l) := by
  intro r hr v hv
  obtain ⟨x, _, rfl⟩ := List.mem_map.1 hr
  simp at hv; subst hv; rfl
theorem bytes1 {n : Int} (h : 0 ≤ n ∧ n < 256) : bytesOf [[.int .u8 n]] = some [UInt8.ofNat n.toNat] := by simp [bytesOf, h]
theorem splice1 (a b : V) : splice [a] 0 [b] = [b] := nr rfl
end Go.Ml
end
section
set_option linter.unusedSimpArgs false
namespace Go.Ml
theorem lax_leaf : ∀ {x y : V}, LaxV x y → y.leaf = true → x.leaf = true := by
  intro x y h hl
  cases x <;> first | rfl | skip
  · simp only [LaxV] at h; subst h; exact hl
  · simp only [LaxV] at h; obtain ⟨_, rfl, _⟩ := h; exact hl
  · simp only [LaxV] at h; obtain ⟨_, rfl, _⟩ := h; exact hl
theorem laxL_len : ∀ {xs ys : List V}, LaxL xs ys → xs.length = ys.length
  | [], ys, h => by simp only [LaxL] at h; subst h; rfl
  | x :: xs, ys, h => by
    simp only [LaxL] at h
    obtain ⟨y, ys', rfl, _, h2⟩ := h
    simp [laxL_len h2]
theorem laxR_len : ∀ {xs ys : List (List V)}, LaxR xs ys → xs.length = ys.length
  | [], ys, h => by simp only [LaxR] at h; subst h; rfl
  | x :: xs, ys, h => by
    simp only [LaxR] at h
    obtain ⟨y, ys', rfl, _, h2⟩ := h
    simp [laxR_len h2]
mutual
theorem rd_lax [Base] {w : World} : ∀ (D : DM) (X : Nat → Prop) (x y : V) (v : Value), LaxV x y → rd w D X y v → rd w D X x v
  | D, X, .sl sz rows, y, v, h, hr => by
    simp only [LaxV] at h
    rcases h with ⟨rfl, rfl | ⟨sz', rfl⟩⟩ | ⟨rows', rfl, h⟩
    · simp only [rd] at hr ⊢
      obtain ⟨a, rfl⟩ := hr
      exact ⟨a, 0, rfl, Nat.le_refl _, .inl (by trivial)⟩
    · simp only [rd] at hr ⊢
      obtain ⟨a, cap, rfl, h2, _⟩ := hr
      exact ⟨a, cap, rfl, h2, .inl (by trivial)⟩
    · simp only [rd] at hr ⊢
      obtain ⟨a, cap, rfl, h2, h3⟩ := hr
      have hl := laxR_len h
      refine ⟨a, cap, by rw [hl], by rw [hl]; exact h2, ?_⟩
      rcases h3 with h3 | ⟨b, off, h3, h4, h5, h6⟩
      · left; subst h3; exact List.eq_nil_of_length_eq_zero hl
      · exact .inr ⟨b, off, h3, h4, h5, rdRows_lax DM.none X b sz off rows rows' h h6⟩
  | D, X, .agg cs, y, v, h, hr => by
    simp only [LaxV] at h
    obtain ⟨cs', rfl, h⟩ := h
    simp only [rd] at hr ⊢
    obtain ⟨a, rfl, hr⟩ := hr
    exact ⟨a, rfl, rdL_lax D X cs cs' _ h hr⟩
  | D, X, .tup cs, y, v, h, hr => by
    simp only [LaxV] at h
    obtain ⟨cs', rfl, h⟩ := h
    simp only [rd] at hr ⊢
    obtain ⟨a, rfl, hr⟩ := hr
    exact ⟨a, rfl, rdL_lax D X cs cs' _ h hr⟩
  | D, X, .fptr row off, y, v, h, hr => by
    simp only [LaxV] at h
    obtain ⟨row', rfl, h⟩ := h
    simp only [rd] at hr ⊢
    obtain ⟨b, o, rfl, h1, h2, h3⟩ := hr
    exact ⟨b, o, rfl, h1, h2, rdCells_lax DM.none X b o row row' h h3⟩
  | _, _, .any, y, v, h, hr => by simp [rd]
  | _, _, .one, y, v, h, hr => by simp only [LaxV] at h; subst h; exact hr
  | _, _, .int .., y, v, h, hr => by simp only [LaxV] at h; subst h; exact hr
  | _, _, .bool _, y, v, h, hr => by simp only [LaxV] at h; subst h; exact hr
  | _, _, .str _, y, v, h, hr => by simp only [LaxV] at h; subst h; exact hr
  | _, _, .nils, y, v, h, hr => by simp only [LaxV] at h; subst h; exact hr
  | _, _, .msl .., y, v, h, hr => by simp only [LaxV] at h; subst h; exact hr
  | _, _, .ptr .., y, v, h, hr => by simp only [LaxV] at h; subst h; exact hr
termination_by structural _ _ x => x
theorem rdL_lax {w : World} : ∀ (D : DM) (X : Nat → Prop) (xs ys : List V) (vs : List Value), LaxL xs ys → rdL w D X ys vs → rdL w D X xs vs
  | D, X, [], ys, vs, h, hr => by simp only [LaxL] at h; subst h; exact hr
  | D, X, x :: xs, ys, vs, h, hr => by
    simp only [LaxL] at h
    obtain ⟨y, ys', rfl, h1, h2⟩ := h
    simp only [rdL] at hr ⊢
    obtain ⟨v, vs', rfl, k1, k2⟩ := hr
    exact ⟨v, vs', rfl, rd_lax D X x y v h1 k1, rdL_lax D X xs ys' vs' h2 k2⟩
termination_by structural _ _ x => x
theorem rdCells_lax [Base] {w : World} : ∀ (D : DM) (X : Nat → Prop) (b off : Nat) (xs ys : List V), LaxL xs ys → rdCells w D X b off ys → rdCells w D X b off xs
  | D, X, b, off, [], ys, h, hr => by simp [rdCells]
  | D, X, b, off, x :: xs, ys, h, hr => by
    simp only [LaxL] at h
    obtain ⟨y, ys', rfl, h1, h2⟩ := h
    simp only [rdCells] at hr ⊢
    obtain ⟨k0, ⟨c, k1, k2⟩, k3⟩ := hr
    exact ⟨lax_leaf h1 k0, ⟨c, k1, rd_lax D X x y c h1 k2⟩, rdCells_lax D X b (off + 1) xs ys' h2 k3⟩
termination_by structural _ _ _ _ x => x
theorem rdRows_lax [Base] {w : World} : ∀ (D : DM) (X : Nat → Prop) (b sz off : Nat) (xs ys : List (List V)), LaxR xs ys → rdRows w D X b sz off ys → rdRows w D X b sz off xs
  | D, X, b, sz, off, [], ys, h, hr => by simp [rdRows]
  | D, X, b, sz, off, x :: xs, ys, h, hr => by
    simp only [LaxR] at h
    obtain ⟨y, ys', rfl, h1, h2⟩ := h
    simp only [rdRows] at hr ⊢
    exact ⟨(laxL_len h1).trans hr.1, rdCells_lax D X b off x y h1 hr.2.1, rdRows_lax D X b sz (off + sz) xs ys' h2 hr.2.2⟩
termination_by structural _ _ _ _ _ x => x
end
mutual
theorem laxV_refl : ∀ (x : V), LaxV x x
  | .sl sz rows => by simp only [LaxV]; exact .inr ⟨rows, rfl, laxR_refl rows⟩
  | .agg cs => by simp only [LaxV]; exact ⟨cs, rfl, laxL_refl cs⟩
  | .tup cs => by simp only [LaxV]; exact ⟨cs, rfl, laxL_refl cs⟩
  | .fptr row off => by simp only [LaxV]; exact ⟨row, rfl, laxL_refl row⟩
  | .any => by simp [LaxV]
  | .one => by simp [LaxV]
  | .int .. => by simp [LaxV]
  | .bool _ => by simp [LaxV]
  | .str _ => by simp [LaxV]
  | .nils => by simp [LaxV]
  | .msl .. => by simp [LaxV]
  | .ptr .. => by simp [LaxV]
theorem laxL_refl : ∀ (xs : List V), LaxL xs xs
  | [] => by simp [LaxL]
  | x :: xs => by simp only [LaxL]; exact ⟨x, xs, rfl, laxV_refl x, laxL_refl xs⟩
theorem laxR_refl : ∀ (xs : List (List V)), LaxR xs xs
  | [] => by simp [LaxR]
  | x :: xs => by simp only [LaxR]; exact ⟨x, xs, rfl, laxL_refl x, laxR_refl xs⟩
end
def DM.win (D : DM) (W : Win) (kp : Nat) : DM := fun k => match W[k]? with
  | some (some (o, s, l)) => (match D o with
    | .live d => .live ⟨d.blk, d.bas + s * d.sz, d.sz, l, d.cap⟩
    | x => x)
  | some Option.none => if k < kp then (match D k with | .live _ => .unborn | x => x) else .unborn
  | Option.none => .unborn
section
variable {w : World} {D : DM} {M : Nat → Prop} {σ σ2 : Store} {W : Win} {kp : Nat}
theorem win_live {k : Nat} {d : Desc} (h : D.win W kp k = .live d) : ∃ o s l d0, W[k]? = some (some (o, s, l)) ∧ D o = .live d0 ∧ d = ⟨d0.blk, d0.bas + s * d0.sz, d0.sz, l, d0.cap⟩ := by
  unfold DM.win at h
  split at h
  · rename_i o s l e
    split at h
    · rename_i d0 e2
      cases h
      exact ⟨o, s, l, d0, e, e2, rfl⟩
    · rename_i hx; rw [h] at hx; exact absurd rfl (hx d)
  · split at h
    · split at h
      · cases h
      · rename_i hx; rw [h] at hx; exact absurd rfl (hx d)
    · cases h
  · cases h
theorem xs_win [Base] : ∀ b, XS M (D.win W kp) b → XS M D b := by
  rintro b (h | ⟨k, d, hk, rfl⟩)
  · exact .inl h
  · obtain ⟨o, s, l, d0, _, h2, rfl⟩ := win_live hk
    exact .inr ⟨o, d0, h2, rfl⟩
theorem can_leaf [Base] : ∀ {x y : V}, CanV W σ x y → x.leaf = true → y.leaf = true := by
  intro x y h hl
  cases x <;> simp only [V.leaf] at hl <;> first | (cases hl; done) | skip
  all_goals simp only [CanV] at h
  case one => subst h; rfl
  case int => subst h; rfl
  case bool => subst h; rfl
  case str => subst h; rfl
  case nils => rcases h with rfl | ⟨_, rfl⟩ <;> rfl
  case sl => exact lax_leaf h rfl
  case msl =>
    rcases h with ⟨k, s0, l0, _, _, _, rfl⟩ | ⟨_, _, sz, rfl⟩ | ⟨h, _⟩
    · rfl
    · rfl
    · exact resolve_leaf h rfl
  case ptr =>
    rcases h with ⟨k, s0, l0, _, _, _, rfl⟩ | ⟨h, _⟩
    · rfl
    · exact resolve_leaf h rfl
  case fptr => exact lax_leaf h rfl
theorem canL_len : ∀ {xs ys : List V}, CanL W σ xs ys → ys.length = xs.length
  | [], ys, h => by simp only [CanL] at h; subst h; rfl
  | x :: xs, ys, h => by
    simp only [CanL] at h
    obtain ⟨y, ys', rfl, _, h2⟩ := h
    simp [canL_len h2]
theorem canL_get : ∀ {xs ys : List V}, CanL W σ xs ys → ∀ (i : Nat) (y : V), ys[i]? = some y → ∃ x, xs[i]? = some x ∧ CanV W σ x y
  | [], ys, h, i, y, hi => by simp only [CanL] at h; subst h; simp at hi
  | x :: xs, ys, h, i, y, hi => by
    simp only [CanL] at h
    obtain ⟨z, zs, rfl, h1, h2⟩ := h
    cases i with
    | zero => simp at hi; subst hi; exact ⟨x, rfl, h1⟩
    | succ i => simpa using canL_get h2 i y (by simpa using hi)
theorem rd_noD {D D' : DM} {X X' : Nat → Prop} (hX : ∀ b, X' b → X b) {x : V} {v : Value} (hx : (∃ sz rows, x = .sl sz rows) ∨ ∃ row off, x = .fptr row off) (h : rd w D X x v) : rd w D' X' x v := by
  have E : Ext w DM.none X w DM.none X' := ⟨Nat.le_refl _, fun _ _ _ => rfl, fun b _ => hX b, fun _ => DSle.refl _⟩
  rcases hx with ⟨sz, rows, rfl⟩ | ⟨row, off, rfl⟩
  · have h' : rd w DM.none X (.sl sz rows) v := by simpa only [rd] using h
    have := rd_mono _ _ E h'
    simpa only [rd] using this
  · have h' : rd w DM.none X (.fptr row off) v := by simpa only [rd] using h
    have := rd_mono _ _ E h'
    simpa only [rd] using this
theorem res_msl {o s l n : Nat} {y : V} (h : resolve σ (n + 1) (.msl o s l) = some y) : ∃ sz rows, y = .sl sz rows := by
  simp only [resolve] at h
  split at h <;> first | (cases h; done) | skip
  split at h <;> first | (cases h; done) | skip
  simp only [Option.map_eq_some_iff] at h
  obtain ⟨_, _, rfl⟩ := h
  exact ⟨_, _, rfl⟩
theorem res_ptr {o r f n : Nat} {y : V} (h : resolve σ (n + 1) (.ptr o r f) = some y) : ∃ row off, y = .fptr row off := by
  simp only [resolve] at h
  split at h <;> first | (cases h; done) | skip
  split at h <;> first | (cases h; done) | skip
  simp only [Option.map_eq_some_iff] at h
  obtain ⟨_, _, rfl⟩ := h
  exact ⟨_, _, rfl⟩
theorem rd_frozen [Base] (hS : SRel w D M σ) {x y : V} {v : Value} (h : resolve σ FD x = some y) (hq : ∀ q, q ∈ reach σ FD x → ∀ (k s0 l0 : Nat), W[k]? ≠ some (some (q, s0, l0)))
    (hy : (∃ sz rows, y = .sl sz rows) ∨ ∃ row off, y = .fptr row off) (hr : rd w D (XS M D) x v) : rd w (D.win W kp) (XS M (D.win W kp)) y v := by
  have h1 := rd_resolve hS (R := reach σ FD x) FD x y v h (fun _ ho => ho) hr
  refine rd_noD (fun b hb => ?_) hy h1
  rcases hb with hb | ⟨k, d, hk, rfl⟩
  · exact .inl hb
  · obtain ⟨o, s, l, d0, e1, e2, rfl⟩ := win_live hk
    exact .inr ⟨o, d0, e2, rfl, fun ho => hq o ho k s l e1⟩
mutual
theorem rd_can [Base] (hS : SRel w D M σ) (hW : ∀ (k o s l : Nat), W[k]? = some (some (o, s, l)) → (objAt σ o).isSome = true) : ∀ (x y : V) (v : Value), CanV W σ x y → rd w D (XS M D) x v →
    rd w (D.win W kp) (XS M (D.win W kp)) y v
  | .msl o s l, y, v, h, hr => by
    simp only [CanV] at h
    rcases h with ⟨k, s0, l0, h1, h2, h3, rfl⟩ | ⟨rfl, ho, sz, rfl⟩ | ⟨h1, h2⟩
    · obtain ⟨ob, hob⟩ := Option.isSome_iff_exists.1 (hW k o s0 l0 h1)
      obtain ⟨d, hd⟩ := hS.alive o ob hob
      simp only [rd, hd] at hr
      obtain ⟨e1, a, cap, rfl, e2, e3⟩ := hr
      simp only [rd, DM.win, h1, hd]
      refine ⟨by omega, a, cap, rfl, e2, e3.imp ?_ id⟩
      rintro ⟨rfl, e4⟩
      have hm : s * d.sz = s0 * d.sz + (s - s0) * d.sz := by rw [← Nat.add_mul]; congr 1; omega
      refine ⟨by congr 2; omega, ?_⟩
      have : (s + cap) * d.sz = s0 * d.sz + (s - s0 + cap) * d.sz := by rw [← Nat.add_mul]; congr 1; omega
      omega
    · obtain ⟨ob, hob⟩ := Option.isSome_iff_exists.1 ho
      obtain ⟨d, hd⟩ := hS.alive o ob hob
      simp only [rd, hd] at hr ⊢
      obtain ⟨e1, a, cap, rfl, e2, e3⟩ := hr
      exact ⟨a, cap, rfl, Nat.zero_le _, .inl (by trivial)⟩
    · exact rd_frozen hS h1 h2 (.inl (res_msl (n := 11) h1)) hr
  | .ptr o r off, y, v, h, hr => by
    simp only [CanV] at h
    rcases h with ⟨k, s0, l0, h1, h2, h3, rfl⟩ | ⟨h1, h2⟩
    rotate_left
    · exact rd_frozen hS h1 h2 (.inr (res_ptr (n := 11) h1)) hr
    obtain ⟨ob, hob⟩ := Option.isSome_iff_exists.1 (hW k o s0 l0 h1)
    obtain ⟨d, hd⟩ := hS.alive o ob hob
    simp only [rd, hd] at hr
    subst hr
    simp only [rd, DM.win, h1, hd]
    have hm : r * d.sz = s0 * d.sz + (r - s0) * d.sz := by rw [← Nat.add_mul]; congr 1; omega
    congr 3; omega
  | .agg cs, y, v, h, hr => by
    simp only [CanV] at h
    obtain ⟨ds, rfl, h⟩ := h
    simp only [rd] at hr ⊢
    obtain ⟨a, rfl, hr⟩ := hr
    exact ⟨a, rfl, rdL_can hS hW cs ds _ h hr⟩
  | .tup cs, y, v, h, hr => by
    simp only [CanV] at h
    obtain ⟨ds, rfl, h⟩ := h
    simp only [rd] at hr ⊢
    obtain ⟨a, rfl, hr⟩ := hr
    exact ⟨a, rfl, rdL_can hS hW cs ds _ h hr⟩
  | .nils, y, v, h, hr => by
    simp only [CanV] at h
    simp only [rd] at hr
    obtain ⟨a, rfl⟩ := hr
    rcases h with rfl | ⟨sz, rfl⟩
    · simp only [rd]; exact ⟨a, rfl⟩
    · simp only [rd]; exact ⟨a, 0, rfl, Nat.le_refl _, .inl (by trivial)⟩
  | .sl sz rows, y, v, h, hr => by
    simp only [CanV] at h
    exact rd_lax _ _ _ _ _ h (rd_noD xs_win (.inl ⟨sz, rows, rfl⟩) hr)
  | .fptr row off, y, v, h, hr => by
    simp only [CanV] at h
    exact rd_lax _ _ _ _ _ h (rd_noD xs_win (.inr ⟨row, off, rfl⟩) hr)
  | .any, y, v, h, hr => by simp only [CanV] at h; subst h; simp [rd]
  | .one, y, v, h, hr => by simp only [CanV] at h; subst h; simpa only [rd] using hr
  | .int .., y, v, h, hr => by simp only [CanV] at h; subst h; simpa only [rd] using hr
  | .bool _, y, v, h, hr => by simp only [CanV] at h; subst h; simpa only [rd] using hr
  | .str _, y, v, h, hr => by simp only [CanV] at h; subst h; simpa only [rd] using hr
theorem rdL_can [Base] (hS : SRel w D M σ) (hW : ∀ (k o s l : Nat), W[k]? = some (some (o, s, l)) → (objAt σ o).isSome = true) : ∀ (xs ys : List V) (vs : List Value), CanL W σ xs ys → rdL w D (XS M D) xs vs →
    rdL w (D.win W kp) (XS M (D.win W kp)) ys vs
  | [], ys, vs, h, hr => by simp only [CanL] at h; subst h; simpa only [rdL] using hr
  | x :: xs, ys, vs, h, hr => by
    simp only [CanL] at h
    obtain ⟨y, ys', rfl, h1, h2⟩ := h
    simp only [rdL] at hr ⊢
    obtain ⟨v, vs', rfl, k1, k2⟩ := hr
    exact ⟨v, vs', rfl, rd_can hS hW x y v h1 k1, rdL_can hS hW xs ys' vs' h2 k2⟩
end
theorem SRel.re [Base] (hS : SRel w D M σ) (h : ReS W σ σ2) (_hkp : kp ≤ W.length) : SRel w (D.win W kp) M σ2 := by
  have hW : ∀ (k o s l : Nat), W[k]? = some (some (o, s, l)) → (objAt σ o).isSome = true := fun k o s l hk => by
    obtain ⟨ob, _, h1, _⟩ := h.win k o s l hk
    rw [h1]; rfl
  refine ⟨?_, ?_, ?_, ?_, hS.mlt, hS.tab.sub fun b hb => hb.imp id fun ⟨o, d, ho, hb⟩ => by
    obtain ⟨o', s, l, d0, e1, e2, rfl⟩ := win_live ho
    exact ⟨o', d0, e2, hb⟩⟩
  · intro k d hk
    obtain ⟨o, s, l, d0, e1, e2, rfl⟩ := win_live hk
    obtain ⟨ob, ob2, w1, w2, w3, w4, w5, w6⟩ := h.win k o s l e1
    obtain ⟨ob', c, e, h1, h2, h3, h4, h5, h6, h7, h8, h9, h10, h11⟩ := hS.live o d0 e2
    rw [w1] at h1; cases h1
    have hrow : ∀ i r2, ob2.rows[i]? = some r2 → ∃ r, ob.rows[s + i]? = some r ∧ CanL W σ r r2 := by
      intro i r2 hi
      have hlt : s + i < ob.rows.length := by have := (List.getElem?_eq_some_iff.1 hi).1; omega
      exact ⟨ob.rows[s + i], List.getElem?_eq_getElem hlt, w6 i _ r2 (List.getElem?_eq_getElem hlt) hi⟩
    have hlen2 : ∀ r ∈ ob2.rows, r.length = ob2.sz := by
      intro r2 hr2
      obtain ⟨i, hi⟩ := List.mem_iff_getElem?.1 hr2
      obtain ⟨r, hr, hc⟩ := hrow i r2 hi
      rw [canL_len hc, w4]; exact h10 r (List.mem_of_getElem? hr)
    refine ⟨ob2, c, e, w3, by simp only []; rw [w4]; exact h2, by simp only []; exact w5.symm, h4, h5, h6, h7, h8, ?_, hlen2, ?_⟩
    · simp only []
      have : d0.bas + s * d0.sz + l * d0.sz = d0.bas + (s + l) * d0.sz := by rw [Nat.add_mul]; omega
      rw [this]
      refine Nat.le_trans (Nat.add_le_add_left (Nat.mul_le_mul_right _ ?_) _) h9
      omega
    · intro i z hz
      have hpos : 0 < ob.sz := by rw [← h2]; exact h4
      have hilt := (List.getElem?_eq_some_iff.1 hz).1
      have hfl := flat_len hlen2
      have hq : i / ob.sz < ob2.rows.length := Nat.div_lt_of_lt_mul (by rw [Nat.mul_comm, ← w4]; omega)
      have hmod : i % ob.sz < ob2.rows[i / ob.sz].length := by rw [hlen2 _ (by simp), w4]; exact Nat.mod_lt _ hpos
      have hz' := flatten_get hlen2 (i := i / ob.sz) (j := i % ob.sz) (r := ob2.rows[i / ob.sz]) (x := ob2.rows[i / ob.sz][i % ob.sz]) (by simp [hq]) (by simp [hmod])
      have hi : i / ob.sz * ob2.sz + i % ob.sz = i := by rw [w4, Nat.mul_comm]; exact Nat.div_add_mod i ob.sz
      rw [hi, hz] at hz'
      obtain ⟨r, hr, hc⟩ := hrow (i / ob.sz) ob2.rows[i / ob.sz] (by simp [hq])
      obtain ⟨x, hx, hcx⟩ := canL_get hc (i % ob.sz) z (by rw [Option.some.inj hz']; simp [hmod])
      obtain ⟨hlf, cv, k1, k2⟩ := h11 _ x (flatten_get h10 hr hx)
      refine ⟨can_leaf hcx hlf, cv, ?_, rd_can hS hW x z cv hcx k2⟩
      rw [← k1]
      simp only []
      congr 1
      have hi2 : i = i / ob.sz * ob.sz + i % ob.sz := by rw [← w4]; rw [w4]; rw [w4] at hi; exact hi.symm
      rw [h2, Nat.add_mul]
      omega
  · intro k ob hk
    have hlt : k < W.length := by
      rw [← h.len]
      rcases Nat.lt_or_ge k σ2.length with h' | h'
      · exact h'
      · rw [objAt, List.getElem?_eq_none h'] at hk; cases hk
    cases hw : W[k] with
    | none =>
      have := h.hole k (by rw [List.getElem?_eq_getElem hlt, hw])
      rw [this] at hk; cases hk
    | some p =>
      obtain ⟨o, s, l⟩ := p
      have hk' : W[k]? = some (some (o, s, l)) := by rw [List.getElem?_eq_getElem hlt, hw]
      obtain ⟨ob0, _, w1, _⟩ := h.win k o s l hk'
      obtain ⟨d, hd⟩ := hS.alive o ob0 w1
      exact ⟨⟨d.blk, d.bas + s * d.sz, d.sz, l, d.cap⟩, by simp only [DM.win, hk', hd]⟩
  · intro k k' d d' hk hk' hb
    obtain ⟨o, s, l, d0, e1, e2, rfl⟩ := win_live hk
    obtain ⟨o', s', l', d0', e1', e2', rfl⟩ := win_live hk'
    have := hS.inj o o' d0 d0' e2 e2' hb
    subst this
    exact h.nd k k' o s l s' l' e1 e1'
  · intro k hk
    rw [h.len] at hk
    simp only [DM.win, List.getElem?_eq_none hk]
end
section
variable {P : Program} {ν : Nat → Option Nat} {nt : Nat} {M : Nat → Prop} {w0 : World} {D0 : DM} {st st2 : St} {D : DM} {a : Act} {w : World} {W : Win}
theorem ReS.some {σ σ2 : Store} (h : ReS W σ σ2) : ∀ (k o s l : Nat), W[k]? = some (some (o, s, l)) → (objAt σ o).isSome = true := fun k o s l hk => by
  obtain ⟨ob, _, h1, _⟩ := h.win k o s l hk
  rw [h1]; rfl
theorem SR.re [Base] (h : SR nt M w0 D0 st D a w) (hr : ReSt W st st2) : SR nt M w0 D0 st2 (D.win W st.keep) a w := by
  have hkp : st.keep ≤ W.length := by
    rcases Nat.lt_or_ge W.length st.keep with h' | h'
    · have : W[W.length]? = Option.none := by simp
      rcases hr.kp W.length h' with ⟨ob, _, h2⟩ | ⟨_, h2⟩ <;> rw [this] at h2 <;> cases h2
    · exact h'
  refine ⟨fun t => ?_, h.tm, h.df, h.store.re hr.objs hkp, h.gr, ?_, ?_⟩
  · rcases hr.env t with e | e
    · rw [e]; simp [rd]
    · exact rd_can h.store hr.objs.some _ _ _ e (h.env t)
  · intro k d hk
    obtain ⟨o, s, l, d0, _, e2, rfl⟩ := win_live hk
    exact h.fr o d0 e2
  · intro k hk
    rw [hr.keep] at hk
    have hle := h.kp k hk
    rcases hr.kp k hk with ⟨ob, h1, h2⟩ | ⟨h1, h2⟩
    · obtain ⟨d, hd⟩ := h.store.alive k ob h1
      obtain ⟨ob', c, e, g1, g2, g3, _⟩ := h.store.live k d hd
      rw [h1] at g1; cases g1
      have : D.win W st.keep k = D k := by
        simp only [DM.win, h2, hd, Nat.zero_mul, Nat.add_zero, ← g3]
      rw [this]; exact hle
    · have : D.win W st.keep k = D k := by
        simp only [DM.win, h2, if_pos hk]
        cases hd : D k with
        | live d =>
          obtain ⟨ob', c, e, g1, _⟩ := h.store.live k d hd
          rw [h1] at g1; cases g1
        | _ => rfl
      rw [this]; exact hle
theorem SR.forget [Base] (h : SR nt M w0 D0 st D a w) (he : ∀ t, st2.env t = .any ∨ LaxV (st2.env t) (st.env t)) (ho : st2.objs = st.objs) (hk : st2.keep = st.keep) : SR nt M w0 D0 st2 D a w := by
  refine ⟨fun t => ?_, h.tm, h.df, by rw [ho]; exact h.store, h.gr, h.fr, by rw [hk]; exact h.kp⟩
  rcases he t with e | e
  · rw [e]; simp [rd]
  · exact rd_lax _ _ _ _ _ e (h.env t)
end
end Go.Ml
end
section
set_option linter.unusedSimpArgs false
set_option linter.unusedVariables false
namespace Go.Ml
inductive Fg : St → St → Prop
  | env {st2 st : St} (he : ∀ t, st2.env t = .any ∨ LaxV (st2.env t) (st.env t)) (ho : st2.objs = st.objs) (hk : st2.keep = st.keep) : Fg st2 st
  | re {st2 st : St} (W : Win) (h : ReSt W st st2) : Fg st2 st
theorem Fg.run {T : Nat → Option Fn} {c : C} {st2 st : St} {o : Out} (h : Fg st2 st) (k : Run T (.code c st2) o) : Run T (.code c st) o := by
  cases h with
  | env he ho hk => exact .forget he ho hk k
  | re W h => exact .re W h k
theorem loop_rule1 {T : Nat → Option Fn} {rf : Nat → Nat → Bool} {c : C} {Q : Ex → St → Prop} {α : Type} (I : α → St) (P : α → Prop) (m : α → Nat) (hk : c.okC = true)
    (step : ∀ a, P a → wp T rf c (fun e st' => seqK e (∃ a', m a' < m a ∧ P a' ∧ Fg (I a') st') (Q e st')) (I a)) :
    ∀ (n : Nat) (a : α) (st : St), m a < n → P a → Fg (I a) st → LoopK T c Q st
  | 0, _, _, hn, _, _ => absurd hn (Nat.not_lt_zero _)
  | n + 1, a, st, hn, h, hf => by
    obtain ⟨e, st1, h1, h2⟩ := wp_sound hk (step a h)
    cases e with
    | normal =>
      obtain ⟨a', hlt, h3, h3'⟩ := h2
      obtain ⟨e, st2, h4, h5⟩ := loop_rule1 I P m hk step n a' _ (by omega) h3 h3'
      exact ⟨e, st2, hf.run (.loopN h1 h4), h5⟩
    | exit id => exact ⟨_, _, hf.run (.loopE (by simp) h1), h2⟩
    | ret => exact ⟨_, _, hf.run (.loopE (by simp) h1), h2⟩
theorem loop_at {T : Nat → Option Fn} (rf : Nat → Nat → Bool) {c : C} {Q : Ex → St → Prop} {α : Type} (I : α → St) (P : α → Prop) (m : α → Nat) (hk : c.okC = true) (a : α) {st : St} (h0 : P a) (hf : Fg (I a) st)
    (step : ∀ a, P a → wp T rf c (fun e st' => seqK e (∃ a', m a' < m a ∧ P a' ∧ Fg (I a') st') (Q e st')) (I a)) :
    LoopK T c Q st := loop_rule1 I P m hk step (m a + 1) a st (by omega) h0 hf
def EvV (v y : V) : Prop := v = .any ∨ LaxV v y
theorem EvV_any (y : V) : EvV .any y = True := eq_true (.inl rfl)
theorem EvV_refl (y : V) : EvV y y = True := eq_true (.inr (laxV_refl y))
theorem EvV_of {v y : V} (h : v = y) : EvV v y := h ▸ .inr (laxV_refl v)
theorem EvV_int {q : IntKind} {a b : Int} (h : a = b) : EvV (.int q a) (.int q b) := EvV_of (by rw [h])
theorem EvV_nil (sz : Nat) : EvV (.sl sz []) .nils := .inr (by simp [LaxV])
def EnvLe : List V → Nat → (Nat → V) → Prop
  | [], _, _ => True
  | v :: vs, i, env => EvV v (env i) ∧ EnvLe vs (i + 1) env
theorem EnvLe_n (i : Nat) (env : Nat → V) : EnvLe [] i env = True := nr rfl
theorem EnvLe_c (v : V) (vs : List V) (i : Nat) (env : Nat → V) : EnvLe (v :: vs) i env = (EvV v (env i) ∧ EnvLe vs (i + 1) env) := nr rfl
theorem EnvLe.at_ : ∀ {l : List V} {i : Nat} {env : Nat → V}, EnvLe l i env → ∀ t, argE l t = .any ∨ LaxV (argE l t) (env (i + t))
  | [], _, _, _, t => .inl rfl
  | v :: vs, i, env, h, 0 => h.1
  | v :: vs, i, env, h, t + 1 => by
    have := EnvLe.at_ h.2 t
    rw [show i + 1 + t = i + (t + 1) by omega] at this
    exact this
theorem Fg_env {l : List V} {env : Nat → V} {objs : Store} {kp b1 b2 : Nat} {r1 r2 m1 m2 : List Nat} (h : EnvLe l 0 env) : Fg ⟨argE l, objs, kp, b1, r1, m1⟩ ⟨env, objs, kp, b2, r2, m2⟩ :=
  .env (fun t => by have := h.at_ t; rwa [Nat.zero_add] at this) rfl rfl
theorem canV_still {W : Win} {σ : Store} {v : V} (h : v.still = true) : CanV W σ v v := by
  cases v <;> simp only [V.still] at h <;> first | (cases h; done) | skip
  all_goals simp only [CanV]
  · exact .inl (by trivial)
  · exact laxV_refl _
  · exact laxV_refl _
theorem canL_still {W : Win} {σ : Store} : ∀ {r : List V}, (∀ v ∈ r, v.still = true) → CanL W σ r r
  | [], _ => by simp [CanL]
  | v :: r, h => by
    simp only [CanL]
    exact ⟨v, r, rfl, canV_still (h v (by simp)), canL_still fun x hx => h x (by simp [hx])⟩
theorem reS_list {σ : Store} (l : List (Nat × Obj)) (hn : (l.map (·.1)).Nodup) (h : ∀ p ∈ l, objAt σ p.1 = some p.2 ∧ stillR p.2.rows) :
    ReS (l.map fun p => some (p.1, 0, p.2.rows.length)) σ (l.map fun p => some p.2) := by
  have hget : ∀ (k o s n : Nat), (l.map fun p => some (p.1, 0, p.2.rows.length))[k]? = some (some (o, s, n)) → ∃ p, l[k]? = some p ∧ o = p.1 ∧ s = 0 ∧ n = p.2.rows.length := by
    intro k o s n hk
    rw [List.getElem?_map, Option.map_eq_some_iff] at hk
    obtain ⟨p, h1, h2⟩ := hk
    simp only [Option.some.injEq, Prod.mk.injEq] at h2
    exact ⟨p, h1, h2.1.symm, h2.2.1.symm, h2.2.2.symm⟩
  refine ⟨by simp, ?_, ?_, ?_⟩
  · intro i j o s n s' n' hi hj
    obtain ⟨p, p1, p2, _⟩ := hget i o s n hi
    obtain ⟨q, q1, q2, _⟩ := hget j o s' n' hj
    have hi' := (List.getElem?_eq_some_iff.1 p1).1
    have hj' := (List.getElem?_eq_some_iff.1 q1).1
    have e1 := (List.getElem?_eq_some_iff.1 p1).2
    have e2 := (List.getElem?_eq_some_iff.1 q1).2
    refine (List.getElem_inj (h₀ := by simpa using hi') (h₁ := by simpa using hj') hn).1 ?_
    simp [e1, e2, ← p2, ← q2]
  · intro k o s n hk
    obtain ⟨p, p1, rfl, rfl, rfl⟩ := hget k o s n hk
    obtain ⟨h1, h2⟩ := h p (List.mem_of_getElem? p1)
    refine ⟨p.2, p.2, h1, by omega, by unfold objAt; rw [List.getElem?_map, p1]; rfl, rfl, rfl, fun i r r2 hr hr2 => ?_⟩
    rw [Nat.zero_add, hr2] at hr
    cases hr
    exact canL_still (h2 _ (List.mem_of_getElem? hr2))
  · intro k hk
    rw [List.getElem?_map, Option.map_eq_some_iff] at hk
    obtain ⟨p, _, h⟩ := hk
    cases h
def CanE (W : Win) (σ : Store) (v y : V) : Prop := v = .any ∨ CanV W σ y v
theorem CanE_any (W : Win) (σ : Store) (y : V) : CanE W σ .any y = True := eq_true (.inl rfl)
theorem CanE_int (W : Win) (σ : Store) (q : IntKind) (a b : Int) : CanE W σ (.int q a) (.int q b) = (a = b) := by simp [CanE, CanV]
theorem CanE_bool (W : Win) (σ : Store) (a b : Bool) : CanE W σ (.bool a) (.bool b) = (a = b) := by simp [CanE, CanV]
theorem CanE_still (W : Win) (σ : Store) {y : V} (h : y.still = true) : CanE W σ y y := .inr (canV_still h)
theorem CanE_sl (W : Win) (σ : Store) (sz : Nat) (rows : List (List V)) : CanE W σ (.sl sz rows) (.sl sz rows) = True := eq_true (CanE_still W σ rfl)
theorem CanE_str (W : Win) (σ : Store) (a : List UInt8) : CanE W σ (.str a) (.str a) = True := eq_true (CanE_still W σ rfl)
theorem CanE_nil (W : Win) (σ : Store) (sz : Nat) : CanE W σ (.sl sz []) .nils = True := eq_true (.inr (by simp only [CanV]; exact .inr ⟨sz, rfl⟩))
theorem CanE_nils (W : Win) (σ : Store) : CanE W σ .nils .nils = True := eq_true (CanE_still W σ rfl)
theorem CanE_msl {W : Win} {σ : Store} {k o l l' n : Nat} (h : W[k]? = some (some (o, 0, n))) (hl : l ≤ n) (e : l' = l) : CanE W σ (.msl k 0 l') (.msl o 0 l) :=
  .inr (by simp only [CanV]; exact .inl ⟨k, 0, n, h, Nat.le_refl _, by omega, by rw [e]⟩)
theorem CanE_ptr {W : Win} {σ : Store} {k o r off n : Nat} (h : W[k]? = some (some (o, 0, n))) (hl : r < n) : CanE W σ (.ptr k r off) (.ptr o r off) :=
  .inr (by simp only [CanV]; exact .inl ⟨k, 0, n, h, Nat.zero_le _, by omega, by simp⟩)
theorem CanE_frz {W : Win} {σ : Store} {o s l : Nat} {y : V} (h : resolve σ FD (.msl o s l) = some y) (hq : ∀ q, q ∈ reach σ FD (.msl o s l) → ∀ (k s0 l0 : Nat), W[k]? ≠ some (some (q, s0, l0))) : CanE W σ y (.msl o s l) :=
  .inr (by simp only [CanV]; exact .inr (.inr ⟨h, hq⟩))
theorem CanE_of {W : Win} {σ : Store} {x y : V} (h : y.still = true) (e : x = y) : CanE W σ x y := e ▸ CanE_still W σ (e ▸ h)
def EnvCan (W : Win) (σ : Store) : List V → Nat → (Nat → V) → Prop
  | [], _, _ => True
  | v :: vs, i, env => CanE W σ v (env i) ∧ EnvCan W σ vs (i + 1) env
theorem EnvCan_n (W : Win) (σ : Store) (i : Nat) (env : Nat → V) : EnvCan W σ [] i env = True := nr rfl
theorem EnvCan_c (W : Win) (σ : Store) (v : V) (vs : List V) (i : Nat) (env : Nat → V) : EnvCan W σ (v :: vs) i env = (CanE W σ v (env i) ∧ EnvCan W σ vs (i + 1) env) := nr rfl
theorem EnvCan.at_ {W : Win} {σ : Store} : ∀ {l : List V} {i : Nat} {env : Nat → V}, EnvCan W σ l i env → ∀ t, argE l t = .any ∨ CanV W σ (env (i + t)) (argE l t)
  | [], _, _, _, t => .inl rfl
  | v :: vs, i, env, h, 0 => h.1
  | v :: vs, i, env, h, t + 1 => by
    have := EnvCan.at_ h.2 t
    rw [show i + 1 + t = i + (t + 1) by omega] at this
    exact this
theorem Fg_re (l : List (Nat × Obj)) {vs : List V} {env : Nat → V} {σ σ2 : Store} {b1 b2 : Nat} {r1 r2 m1 m2 : List Nat} (hn : (l.map (·.1)).Nodup)
    (h : ∀ p ∈ l, objAt σ p.1 = some p.2 ∧ stillR p.2.rows) (ho : σ2 = l.map fun p => some p.2)
    (he : EnvCan (l.map fun p => some (p.1, 0, p.2.rows.length)) σ vs 0 env) : Fg ⟨argE vs, σ2, 0, b1, r1, m1⟩ ⟨env, σ, 0, b2, r2, m2⟩ := by
  subst ho
  exact .re _ ⟨reS_list l hn h, rfl, fun i hi => absurd hi (Nat.not_lt_zero _), fun t => by have := he.at_ t; rwa [Nat.zero_add] at this⟩
theorem outK_c2 (t n : Nat) (rs : List Res) (acc : List V) (st : St) (k : V → Prop) : outK (.cell t n true :: rs) acc st k = optK (rowAt st.objs (st.env t)) fun p => if p.2 + n ≤ p.1.length then mvK (.agg ((p.1.drop p.2).take n)) fun v => outK rs (v :: acc) st k else False := by
  simp only [outK, Res.get]
  cases e : rowAt st.objs (st.env t) with
  | none => rfl
  | some p =>
    by_cases h : p.2 + n ≤ p.1.length
    · simp only [optK, if_true, mvK, wr_eq, if_pos h]
    · simp only [optK, if_true, mvK, wr_eq, if_neg h]
theorem ifO_pos {c : Prop} [Decidable c] {α : Type} {a b : Option α} (h : c) : (if c then a else b) = a := by rw [if_pos h]
def fillsK (env : Nat → V) (sz : Nat) : List (List V) → List (Nat × Src) → (List (List V) → Prop) → Prop
  | rows, [], k => k rows
  | rows, (i, s) :: rest, k => cellsK (s.ev env) fun cs => (cs.length = sz ∧ i < rows.length) ∧ fillsK env sz (rows.set i cs) rest k
@[congr] theorem fillsK_cg {env : Nat → V} {sz : Nat} {r r' : List (List V)} {ps : List (Nat × Src)} {k : List (List V) → Prop} (h : wr r = r') : fillsK env sz r ps k = fillsK env sz r' ps k := by rw [← h, wr_eq]
theorem fillsK_n (env : Nat → V) (sz : Nat) (rows : List (List V)) (k : List (List V) → Prop) : fillsK env sz rows [] k = k rows := nr rfl
theorem fillsK_c (env : Nat → V) (sz : Nat) (r : List V) (rows : List (List V)) (i : Nat) (s : Src) (rest : List (Nat × Src)) (k : List (List V) → Prop) :
    fillsK env sz (r :: rows) ((i, s) :: rest) k = cellsK (s.ev env) fun cs => (cs.length = sz ∧ i < (r :: rows).length) ∧ fillsK env sz ((r :: rows).set i cs) rest k := nr rfl
theorem fillsK_eq {env : Nat → V} {sz : Nat} : ∀ {ps : List (Nat × Src)} {rows : List (List V)} {k : List (List V) → Prop}, optK (fillRows env sz rows ps) k = fillsK env sz rows ps k
  | [], rows, k => rfl
  | (i, s) :: rest, rows, k => by
    simp only [fillRows, fillsK, cellsK]
    cases h : (s.ev env).cells? with
    | none => rfl
    | some cs =>
      simp only [optK]
      by_cases hc : cs.length = sz ∧ i < rows.length
      · rw [if_pos hc]
        simp only [hc, and_self, true_and]
        exact fillsK_eq
      · rw [if_neg hc]
        simp only [hc, false_and]
theorem e_mkSl' (env : Nat → V) (σ : Store) (k : Eff → Prop) (sz : Nat) (z : List V) (n : Nat) (ps : List (Nat × Src)) : I.effK env σ (.mkSl sz z (n + 1) ps) k = fillsK env sz (List.replicate (n + 1) z) ps fun rows => k (.newS ⟨sz, rows⟩ (n + 1)) := by
  rw [e_mkSl, fillsK_eq]
  congr 1
theorem e_mkSl0 (env : Nat → V) (σ : Store) (k : Eff → Prop) (sz : Nat) (z : List V) : I.effK env σ (.mkSl sz z 0 []) k = k (.val .nils) := nr rfl
def fillK (env : Nat → V) : List V → List (Nat × Nat × Src) → (List V → Prop) → Prop
  | row, [], k => k row
  | row, (off, n, s) :: rest, k => cellsK (s.ev env) fun cs => (cs.length = n ∧ off + n ≤ row.length) ∧ fillK env (splice row off cs) rest k
@[congr] theorem fillK_cg {env : Nat → V} {r r' : List V} {ps : List (Nat × Nat × Src)} {k : List V → Prop} (h : wr r = r') : fillK env r ps k = fillK env r' ps k := by rw [← h, wr_eq]
theorem fillK_n (env : Nat → V) (row : List V) (k : List V → Prop) : fillK env row [] k = k row := nr rfl
theorem fillK_c (env : Nat → V) (c : V) (row : List V) (off n : Nat) (s : Src) (rest : List (Nat × Nat × Src)) (k : List V → Prop) :
    fillK env (c :: row) ((off, n, s) :: rest) k = cellsK (s.ev env) fun cs => (cs.length = n ∧ off + n ≤ (c :: row).length) ∧ fillK env (splice (c :: row) off cs) rest k := nr rfl
theorem fillK_eq {env : Nat → V} : ∀ {ps : List (Nat × Nat × Src)} {row : List V} {k : List V → Prop}, optK (fillRow env row ps) k = fillK env row ps k
  | [], row, k => rfl
  | (off, n, s) :: rest, row, k => by
    simp only [fillRow, fillK, cellsK]
    cases h : (s.ev env).cells? with
    | none => rfl
    | some cs =>
      simp only [optK]
      by_cases hc : cs.length = n ∧ off + n ≤ row.length
      · rw [if_pos hc]
        simp only [hc, and_self, true_and]
        exact fillK_eq
      · rw [if_neg hc]
        simp only [hc, false_and]
theorem e_build' (env : Nat → V) (σ : Store) (k : Eff → Prop) (z : List V) (ps : List (Nat × Nat × Src)) : I.effK env σ (.build z ps) k = fillK env z ps fun cs => mvK (.agg cs) fun v => k (.val v) := by
  rw [e_build, fillK_eq]; rfl
def hiKK : Option Src → (Nat → V) → Nat → (Nat → Prop) → Prop
  | none, _, n, k => natK n k
  | some h, env, n, k => asBoundK n (h.ev env) k
def loKK : Option Src → (Nat → V) → Nat → (Nat → Prop) → Prop
  | none, _, _, k => k 0
  | some h, env, n, k => asBoundK n (h.ev env) k
theorem hiKK_n (env : Nat → V) (n : Nat) (k : Nat → Prop) : hiKK none env n k = natK n k := nr rfl
theorem hiKK_s (h : Src) (env : Nat → V) (n : Nat) (k : Nat → Prop) : hiKK (some h) env n k = asBoundK n (h.ev env) k := nr rfl
theorem loKK_n (env : Nat → V) (n : Nat) (k : Nat → Prop) : loKK none env n k = k 0 := nr rfl
theorem loKK_s (h : Src) (env : Nat → V) (n : Nat) (k : Nat → Prop) : loKK (some h) env n k = asBoundK n (h.ev env) k := nr rfl
@[congr] theorem hiKK_cg {o : Option Src} {env : Nat → V} {n n' : Nat} {k : Nat → Prop} (h : wr n = n') : hiKK o env n k = hiKK o env n' k := by rw [← h, wr_eq]
@[congr] theorem loKK_cg {o : Option Src} {env : Nat → V} {n n' : Nat} {k : Nat → Prop} (h : wr n = n') : loKK o env n k = loKK o env n' k := by rw [← h, wr_eq]
theorem e_slice (env : Nat → V) (σ : Store) (k : Eff → Prop) (sz : Nat) (x : Src) (lo hi : Option Src) : I.effK env σ (.slice sz x lo hi) k =
    optK (lenOf σ (x.ev env)) fun n => hiKK hi env n fun h => loKK lo env h fun l => slK (x.ev env) (mvK .nils fun v => k (.val v)) (fun sz' rows => sz' = sz ∧ mvK (.sl sz' ((rows.take h).drop l)) fun v => k (.val v))
      (fun o s _ => optK (objAt σ o) fun ob => ob.sz = sz ∧ mvK (.msl o (s + l) (h - l)) fun v => k (.val v)) := by
  simp only [I.effK]
  congr 1
  funext n
  cases hi <;> cases lo <;> simp only [hiKK, loKK, natK, mvK] <;> (cases x.ev env <;> rfl)
theorem e_sliceS (env : Nat → V) (σ : Store) (k : Eff → Prop) (x : Src) (lo hi : Option Src) : I.effK env σ (.sliceS x lo hi) k =
    strK (x.ev env) fun s => hiKK hi env s.length fun h => loKK lo env h fun l => mvK (.str ((s.take h).drop l)) fun v => k (.val v) := by
  simp only [I.effK]
  cases x.ev env <;> first | rfl | (cases hi <;> cases lo <;> rfl)
end Go.Ml
end
section
set_option linter.unusedSimpArgs false
set_option linter.unusedVariables false
namespace Go.Ml
def val : List Int → Nat
  | [] => 0
  | d :: l => d.toNat + 1000000000 * val l
def mk (n : Nat) : List Int := if h : n = 0 then [] else ((n % 1000000000 : Nat) : Int) :: mk (n / 1000000000)
termination_by n
decreasing_by omega
end Go.Ml
end
section
set_option linter.unusedSimpArgs false
set_option linter.unusedVariables false
namespace Go.Ml
structure R where
  neg : Bool
  mag : List Int
  den : List Int
  deriving DecidableEq
instance : Inhabited R := ⟨⟨false, [], []⟩⟩
def fits (q : Rat) : Bool := decide (q.num.natAbs < 1000000000 ^ 24) && decide (q.den < 1000000000 ^ 24)
abbrev Q := Option Rat
def norm (q : Rat) : Q := if fits q = true then some q else none
def Q.raw : Q → R
  | none => ⟨false, [], []⟩
  | some q => ⟨decide (q.num < 0), mk q.num.natAbs, mk q.den⟩
def Q.ok : Q → Prop
  | none => True
  | some q => fits q = true
def addQ : Q → Q → Q
  | some a, some b => norm (a + b)
  | _, _ => none
def sgn (n : Int) : Int := if n < 0 then -1 else if n = 0 then 0 else 1
def signQ : Q → Int
  | some a => sgn a.num
  | none => 0
def intQ (n : Int) : Q := some (n : Rat)
def natOk (a : List Int) : Bool := decide (a.length ≤ 60) && a.all (fun d => decide (0 ≤ d) && decide (d < 1000000000)) && (a.isEmpty || decide (a.getD (a.length - 1) 0 ≠ 0))
def R.ok (r : R) : Bool := natOk r.mag && (!(r.neg && r.mag.isEmpty)) && natOk r.den && !r.den.isEmpty && decide (r.mag.length ≤ 24) && decide (r.den.length ≤ 24) &&
  decide (Nat.gcd (val r.mag) (val r.den) = 1)
def R.q (r : R) : Q := if r.ok = true then some (mkRat (if r.neg then -(val r.mag : Int) else val r.mag) (val r.den)) else none
end Go.Ml
end
section
set_option linter.unusedSimpArgs false
set_option linter.unusedVariables false
namespace Go.Ml
abbrev iv (n : Int) : V := .int .i64 n
structure Lk where
  a : Int
  b : Int
  w : R
  dx : R
  dy : R
  deriving Inhabited, DecidableEq
structure Pt where
  x : R
  y : R
  deriving Inhabited, DecidableEq
structure Pa where
  node : Int
  share : R
  dx : R
  dy : R
  deriving Inhabited, DecidableEq
structure Cd where
  node : Int
  total : R
  ps : List Pa
  deriving Inhabited, DecidableEq
structure Tn where
  node : Int
  up : Int
  own : List Lk
  cond : Cd
  msgs : List Lk
  energy : R
  deriving Inhabited, DecidableEq
structure Po where
  turn : Int
  x : Int
  y : Int
  deriving Inhabited, DecidableEq
structure Bi where
  neg : Bool
  mag : List Int
  deriving Inhabited, DecidableEq
abbrev R.num (r : R) : Bi := ⟨r.neg, r.mag⟩
abbrev Bi.cells (z : Bi) : List V := [.bool z.neg, ints z.mag]
abbrev R.cells (r : R) : List V := [.bool r.neg, ints r.mag, ints r.den]
abbrev Lk.cells (l : Lk) : List V := [iv l.a, iv l.b, .bool l.w.neg, ints l.w.mag, ints l.w.den, .bool l.dx.neg, ints l.dx.mag, ints l.dx.den, .bool l.dy.neg, ints l.dy.mag, ints l.dy.den]
abbrev Pt.cells (p : Pt) : List V := [.bool p.x.neg, ints p.x.mag, ints p.x.den, .bool p.y.neg, ints p.y.mag, ints p.y.den]
abbrev Pa.cells (p : Pa) : List V := [iv p.node, .bool p.share.neg, ints p.share.mag, ints p.share.den, .bool p.dx.neg, ints p.dx.mag, ints p.dx.den, .bool p.dy.neg, ints p.dy.mag, ints p.dy.den]
abbrev pasV (l : List Pa) : V := .sl 10 (l.map Pa.cells)
abbrev lksV (l : List Lk) : V := .sl 11 (l.map Lk.cells)
abbrev ratsV (l : List R) : V := .sl 3 (l.map R.cells)
abbrev Cd.cells (c : Cd) : List V := [iv c.node, .bool c.total.neg, ints c.total.mag, ints c.total.den, pasV c.ps]
abbrev Tn.cells (t : Tn) : List V := [iv t.node, iv t.up, lksV t.own, iv t.cond.node, .bool t.cond.total.neg, ints t.cond.total.mag, ints t.cond.total.den, pasV t.cond.ps, lksV t.msgs,
  .bool t.energy.neg, ints t.energy.mag, ints t.energy.den]
abbrev Po.cells (p : Po) : List V := [iv p.turn, iv p.x, iv p.y]
abbrev poV (p : Po) : V := .agg p.cells
theorem R.ext' {p q : R} (h1 : p.neg = q.neg) (h2 : p.mag = q.mag) (h3 : p.den = q.den) : p = q := by cases p; cases q; simp_all
theorem Pt.ext' {p q : Pt} (h1 : p.x = q.x) (h2 : p.y = q.y) : p = q := by cases p; cases q; simp_all
theorem Lk.ext' {p q : Lk} (h1 : p.a = q.a) (h2 : p.b = q.b) (h3 : p.w = q.w) (h4 : p.dx = q.dx) (h5 : p.dy = q.dy) : p = q := by cases p; cases q; simp_all
theorem Pa.ext' {p q : Pa} (h1 : p.node = q.node) (h2 : p.share = q.share) (h3 : p.dx = q.dx) (h4 : p.dy = q.dy) : p = q := by cases p; cases q; simp_all
theorem Cd.ext' {p q : Cd} (h1 : p.node = q.node) (h2 : p.total = q.total) (h3 : p.ps = q.ps) : p = q := by cases p; cases q; simp_all
theorem Tn.ext' {p q : Tn} (h1 : p.node = q.node) (h2 : p.up = q.up) (h3 : p.own = q.own) (h4 : p.cond = q.cond) (h5 : p.msgs = q.msgs) (h6 : p.energy = q.energy) : p = q := by cases p; cases q; simp_all
def szr (left : Int) (n : Nat) : Int := if left < n then -1 else left - n
def szL {α : Type} (f : α → Nat) (l : List α) : Nat := l.length + (l.map f).sum
def R.sz (r : R) : Nat := r.mag.length + r.den.length
def Lk.sz (l : Lk) : Nat := l.w.sz + l.dx.sz + l.dy.sz
def Pt.sz (p : Pt) : Nat := p.x.sz + p.y.sz
def Pa.sz (p : Pa) : Nat := p.share.sz + p.dx.sz + p.dy.sz
def Cd.sz (c : Cd) : Nat := c.total.sz + szL Pa.sz c.ps
def Tn.sz (t : Tn) : Nat := szL Lk.sz t.own + t.cond.sz + szL Lk.sz t.msgs + t.energy.sz
def R.wf (r : R) : Prop := r.mag.length ≤ 9223372036854775807 ∧ r.den.length ≤ 9223372036854775807
def Lk.wf (l : Lk) : Prop := l.w.wf ∧ l.dx.wf ∧ l.dy.wf
def Pt.wf (p : Pt) : Prop := p.x.wf ∧ p.y.wf
def Pa.wf (p : Pa) : Prop := p.share.wf ∧ p.dx.wf ∧ p.dy.wf
def wfL {α : Type} (f : α → Prop) (l : List α) : Prop := l.length ≤ 9223372036854775807 ∧ ∀ x ∈ l, f x
def Cd.wf (c : Cd) : Prop := c.total.wf ∧ wfL Pa.wf c.ps
def Tn.wf (t : Tn) : Prop := wfL Lk.wf t.own ∧ t.cond.wf ∧ wfL Lk.wf t.msgs ∧ t.energy.wf
theorem wfL.at_ {α : Type} [Inhabited α] {f : α → Prop} {l : List α} (h : wfL f l) {i : Nat} (hi : i < l.length) : f (l.getD i default) := by
  refine h.2 _ ?_
  simp [List.getD_eq_getElem?_getD, List.getElem?_eq_getElem hi]
theorem map_set {α : Type} (f : α → List V) (l : List α) (i : Nat) (z : α) : (l.map f).set i (f z) = (l.set i z).map f := by simp [List.map_set]
theorem still_map {α : Type} {f : α → List V} {l : List α} (h : ∀ x ∈ l, ∀ v ∈ f x, v.still = true) : stillR (l.map f) := by
  intro r hr v hv
  obtain ⟨x, hx, rfl⟩ := List.mem_map.1 hr
  exact h x hx v hv
end Go.Ml
namespace Go.Ml
end Go.Ml
end
section
set_option linter.unusedSimpArgs false
set_option linter.unusedVariables false
namespace Go.Ml
def resO (σ : Store) (s l : Nat) (o : Option Obj) : Option V := match o with
  | some ob => if s + l ≤ ob.rows.length then (((ob.rows.drop s).take l).mapM fun (r : List V) => r.mapM (resolve σ 11)).map (.sl ob.sz) else none
  | none => none
def resO1 (σ : Store) (s l : Nat) (o : Option Obj) : Option V := match o with
  | some ob => if s + l ≤ ob.rows.length then (((ob.rows.drop s).take l).mapM fun (r : List V) => r.mapM (resolve σ 10)).map (.sl ob.sz) else none
  | none => none
theorem r_mslO (σ : Store) (o s l : Nat) : resolve σ FD (.msl o s l) = resO σ s l (objAt σ o) := nr rfl
theorem r1_mslO (σ : Store) (o s l : Nat) : resolve σ 11 (.msl o s l) = resO1 σ s l (objAt σ o) := nr rfl
@[congr] theorem resO_cg {σ : Store} {s l : Nat} {o o' : Option Obj} (h : wr o = o') : resO σ s l o = resO σ s l o' := by rw [← h, wr_eq]
@[congr] theorem resO1_cg {σ : Store} {s l : Nat} {o o' : Option Obj} (h : wr o = o') : resO1 σ s l o = resO1 σ s l o' := by rw [← h, wr_eq]
theorem resO_st {σ : Store} {s l n : Nat} {rows : List (List V)} (hs : stillR rows) (h : s + l ≤ rows.length) : resO σ s l (some ⟨n, rows⟩) = some (.sl n ((rows.drop s).take l)) := by
  unfold resO
  simp only []
  rw [if_pos h, mapM_stillR (n := 10) (hs.part s l)]; rfl
theorem resO1_st {σ : Store} {s l n : Nat} {rows : List (List V)} (hs : stillR rows) (h : s + l ≤ rows.length) : resO1 σ s l (some ⟨n, rows⟩) = some (.sl n ((rows.drop s).take l)) := by
  unfold resO1
  simp only []
  rw [if_pos h, mapM_stillR (n := 9) (hs.part s l)]; rfl
theorem resO_i {σ : Store} {s l n : Nat} {xs : List Int} (h : s + l ≤ xs.length) : resO σ s l (some ⟨n, irows xs⟩) = some (.sl n (irows ((xs.drop s).take l))) := by
  rw [resO_st (ir_still xs) (by rw [ir_len]; exact h), ir_drop, ir_take]
theorem resO1_i {σ : Store} {s l n : Nat} {xs : List Int} (h : s + l ≤ xs.length) : resO1 σ s l (some ⟨n, irows xs⟩) = some (.sl n (irows ((xs.drop s).take l))) := by
  rw [resO1_st (ir_still xs) (by rw [ir_len]; exact h), ir_drop, ir_take]
theorem resO_s {σ : Store} {s l n : Nat} {xs : List (List UInt8)} (h : s + l ≤ xs.length) : resO σ s l (some ⟨n, srows xs⟩) = some (.sl n (srows ((xs.drop s).take l))) := by
  rw [resO_st (sr_still xs) (by rw [sr_len]; exact h), sr_drop, sr_take]
theorem map_drop_take {α : Type} (f : α → List V) (L : List α) (s l : Nat) : ((L.map f).drop s).take l = ((L.drop s).take l).map f := by simp [List.map_drop, List.map_take]
theorem st_R (L : List R) : stillR (L.map R.cells) := still_map (by intro x _ v hv; simp at hv; rcases hv with rfl | rfl | rfl <;> rfl)
theorem st_Pt (L : List Pt) : stillR (L.map Pt.cells) := still_map (by intro x _ v hv; simp at hv; rcases hv with rfl | rfl | rfl | rfl | rfl | rfl <;> rfl)
theorem st_Lk (L : List Lk) : stillR (L.map Lk.cells) := still_map (by intro x _ v hv; simp at hv; rcases hv with rfl | rfl | rfl | rfl | rfl | rfl | rfl | rfl | rfl | rfl | rfl <;> rfl)
theorem st_Pa (L : List Pa) : stillR (L.map Pa.cells) := still_map (by intro x _ v hv; simp at hv; rcases hv with rfl | rfl | rfl | rfl | rfl | rfl | rfl | rfl | rfl | rfl <;> rfl)
theorem st_Cd (L : List Cd) : stillR (L.map Cd.cells) := still_map (by intro x _ v hv; simp at hv; rcases hv with rfl | rfl | rfl | rfl | rfl <;> rfl)
theorem st_Rs (L : List (List R)) : stillR (L.map fun r => [ratsV r]) := still_map (by intro x _ v hv; simp at hv; subst hv; rfl)
theorem resO_R {σ : Store} {s l n : Nat} {L : List R} (h : s + l ≤ L.length) : resO σ s l (some ⟨n, L.map R.cells⟩) = some (.sl n (((L.drop s).take l).map R.cells)) := by rw [resO_st (st_R L) (by simpa using h), map_drop_take]
theorem resO_Pt {σ : Store} {s l n : Nat} {L : List Pt} (h : s + l ≤ L.length) : resO σ s l (some ⟨n, L.map Pt.cells⟩) = some (.sl n (((L.drop s).take l).map Pt.cells)) := by rw [resO_st (st_Pt L) (by simpa using h), map_drop_take]
theorem resO_Lk {σ : Store} {s l n : Nat} {L : List Lk} (h : s + l ≤ L.length) : resO σ s l (some ⟨n, L.map Lk.cells⟩) = some (.sl n (((L.drop s).take l).map Lk.cells)) := by rw [resO_st (st_Lk L) (by simpa using h), map_drop_take]
theorem resO_Pa {σ : Store} {s l n : Nat} {L : List Pa} (h : s + l ≤ L.length) : resO σ s l (some ⟨n, L.map Pa.cells⟩) = some (.sl n (((L.drop s).take l).map Pa.cells)) := by rw [resO_st (st_Pa L) (by simpa using h), map_drop_take]
theorem resO1_Pa {σ : Store} {s l n : Nat} {L : List Pa} (h : s + l ≤ L.length) : resO1 σ s l (some ⟨n, L.map Pa.cells⟩) = some (.sl n (((L.drop s).take l).map Pa.cells)) := by rw [resO1_st (st_Pa L) (by simpa using h), map_drop_take]
theorem resO_Cd {σ : Store} {s l n : Nat} {L : List Cd} (h : s + l ≤ L.length) : resO σ s l (some ⟨n, L.map Cd.cells⟩) = some (.sl n (((L.drop s).take l).map Cd.cells)) := by rw [resO_st (st_Cd L) (by simpa using h), map_drop_take]
theorem resO_Rs {σ : Store} {s l n : Nat} {L : List (List R)} (h : s + l ≤ L.length) : resO σ s l (some ⟨n, L.map fun r => [ratsV r]⟩) = some (.sl n (((L.drop s).take l).map fun r => [ratsV r])) := by rw [resO_st (st_Rs L) (by simpa using h), map_drop_take]
def reachRs (σ : Store) (rows : List (List V)) : List Nat := rows.flatMap fun (r : List V) => r.flatMap (reach σ 11)
def reachO (σ : Store) (o : Option Obj) : List Nat := match o with
  | some ob => reachRs σ ob.rows
  | none => []
theorem h_mslO (σ : Store) (o s l : Nat) : reach σ FD (.msl o s l) = o :: reachO σ (objAt σ o) := nr rfl
@[congr] theorem reachO_cg {σ : Store} {o o' : Option Obj} (h : wr o = o') : reachO σ o = reachO σ o' := by rw [← h, wr_eq]
theorem reachO_s (σ : Store) (n : Nat) (rows : List (List V)) : reachO σ (some ⟨n, rows⟩) = reachRs σ rows := nr rfl
theorem reachO_n (σ : Store) : reachO σ none = [] := nr rfl
theorem reachRs_st {σ : Store} {rows : List (List V)} (h : stillR rows) : reachRs σ rows = [] := by
  unfold reachRs
  rw [List.flatMap_eq_nil_iff]
  intro r hr
  rw [List.flatMap_eq_nil_iff]
  intro v hv
  exact reach_still (n := 10) (h r hr v hv)
theorem reachRs_i (σ : Store) (xs : List Int) : reachRs σ (irows xs) = [] := reachRs_st (ir_still xs)
theorem reachRs_s (σ : Store) (xs : List (List UInt8)) : reachRs σ (srows xs) = [] := reachRs_st (sr_still xs)
theorem reachRs_R (σ : Store) (L : List R) : reachRs σ (L.map R.cells) = [] := reachRs_st (st_R L)
theorem reachRs_Pt (σ : Store) (L : List Pt) : reachRs σ (L.map Pt.cells) = [] := reachRs_st (st_Pt L)
theorem reachRs_Lk (σ : Store) (L : List Lk) : reachRs σ (L.map Lk.cells) = [] := reachRs_st (st_Lk L)
theorem reachRs_Pa (σ : Store) (L : List Pa) : reachRs σ (L.map Pa.cells) = [] := reachRs_st (st_Pa L)
theorem reachRs_Cd (σ : Store) (L : List Cd) : reachRs σ (L.map Cd.cells) = [] := reachRs_st (st_Cd L)
theorem reachRs_Rs (σ : Store) (L : List (List R)) : reachRs σ (L.map fun r => [ratsV r]) = [] := reachRs_st (st_Rs L)
theorem s_sl (sz : Nat) (r : List (List V)) : scalar SD (.sl sz r) = false := nr rfl
theorem s_nils : scalar SD .nils = true := nr rfl
def scalC (n : Nat) (cs : List V) : Bool := cs.all (scalar n)
theorem s_agg (cs : List V) : scalar SD (.agg cs) = scalC 3 cs := nr rfl
theorem s_tup (cs : List V) : scalar SD (.tup cs) = scalC 3 cs := nr rfl
theorem scalC_n (n : Nat) : scalC n [] = true := nr rfl
theorem scalC_c (n : Nat) (c : V) (cs : List V) : scalC n (c :: cs) = (scalar n c && scalC n cs) := nr rfl
theorem s3_int (q : IntKind) (n : Int) : scalar 3 (.int q n) = true := nr rfl
theorem s3_bool (b : Bool) : scalar 3 (.bool b) = true := nr rfl
theorem s3_str (s : List UInt8) : scalar 3 (.str s) = true := nr rfl
theorem s3_nils : scalar 3 .nils = true := nr rfl
theorem s3_sl (sz : Nat) (r : List (List V)) : scalar 3 (.sl sz r) = false := nr rfl
theorem s3_agg (cs : List V) : scalar 3 (.agg cs) = scalC 2 cs := nr rfl
theorem s2_int (q : IntKind) (n : Int) : scalar 2 (.int q n) = true := nr rfl
theorem s2_bool (b : Bool) : scalar 2 (.bool b) = true := nr rfl
theorem s2_str (s : List UInt8) : scalar 2 (.str s) = true := nr rfl
theorem s2_nils : scalar 2 .nils = true := nr rfl
theorem s2_sl (sz : Nat) (r : List (List V)) : scalar 2 (.sl sz r) = false := nr rfl
theorem w64d {t b : Int} (h : 0 ≤ t ∧ t ≤ 9223372036854775807 ∧ 0 < b) : IntKind.i64.wrap (t.tdiv b) = t.tdiv b := by
  rw [Int.tdiv_eq_ediv_of_nonneg h.1]
  have h1 : 0 ≤ t / b := Int.ediv_nonneg h.1 (by omega)
  have h2 : t / b ≤ t := Int.ediv_le_self _ h.1
  exact w64 (by omega)
theorem take_all {α : Type} {l : List α} {n : Nat} (h : l.length ≤ n) : l.take n = l := List.take_of_length_le h
theorem rdi_mov (env : Nat → V) (x : Src) : I.reads env (.mov x) = [] := by simp [I.reads, I.mems]
theorem rdi_box (env : Nat → V) (x : Src) : I.reads env (.box x) = [] := by simp [I.reads, I.mems]
theorem rdi_lenS (env : Nat → V) (x : Src) : I.reads env (.lenS x) = [] := by simp [I.reads, I.mems]
theorem rdi_len (env : Nat → V) (x : Src) : I.reads env (.len x) = refs1 (x.ev env) := by simp [I.reads, I.mems]
theorem rdi_chk (env : Nat → V) (x : Src) : I.reads env (.chk x) = refs1 (x.ev env) := by simp [I.reads, I.mems]
theorem rdi_fld (env : Nat → V) (d : Nat) (x : Src) : I.reads env (.fld d x) = refs1 (x.ev env) := by simp [I.reads, I.mems]
theorem rdi_un (env : Nat → V) (d : UnOp) (x : Src) : I.reads env (.un d x) = [] := by simp [I.reads, I.mems]
theorem rdi_conv (env : Nat → V) (d : IntKind) (x : Src) : I.reads env (.conv d x) = [] := by simp [I.reads, I.mems]
theorem rdi_extr (env : Nat → V) (d : Nat) (x : Src) : I.reads env (.extr d x) = [] := by simp [I.reads, I.mems]
theorem rdi_load (env : Nat → V) (n : Nat) (b : Bool) (x : Src) : I.reads env (.load n b x) = refs1 (x.ev env) := by simp [I.reads, I.mems]
theorem rdi_make (env : Nat → V) (z : List V) (n : Nat) (x : Src) : I.reads env (.make z n x) = [] := by simp [I.reads, I.mems]
theorem rdi_alloc (env : Nat → V) (z : List V) : I.reads env (.alloc z) = [] := by simp [I.reads, I.mems]
theorem rdi_pick (env : Nat → V) (x y z : Src) : I.reads env (.pick x y z) = [] := by simp [I.reads, I.mems]
theorem rdi_store (env : Nat → V) (n : Nat) (x y : Src) : I.reads env (.store n x y) = refs1 (x.ev env) := by simp [I.reads, I.mems]
theorem rdi_idx (env : Nat → V) (n : Nat) (x y : Src) : I.reads env (.idx n x y) = refs1 (x.ev env) := by simp [I.reads, I.mems]
theorem rdi_idxA (env : Nat → V) (m n : Nat) (x y : Src) : I.reads env (.idxA m n x y) = refs1 (x.ev env) := by simp [I.reads, I.mems]
theorem rdi_idxS (env : Nat → V) (x y : Src) : I.reads env (.idxS x y) = [] := by simp [I.reads, I.mems]
theorem rdi_bstr (env : Nat → V) (x : Src) : I.reads env (.bstr x) = refs1 (x.ev env) := by simp [I.reads, I.mems]
theorem rdi_slice (env : Nat → V) (n : Nat) (x : Src) (l h : Option Src) : I.reads env (.slice n x l h) = refs1 (x.ev env) := by simp [I.reads, I.mems]
theorem rdi_sliceS (env : Nat → V) (x : Src) (l h : Option Src) : I.reads env (.sliceS x l h) = [] := by simp [I.reads, I.mems]
theorem rdi_idxV (env : Nat → V) (m : Nat) (x y : Src) : I.reads env (.idxV m x y) = [] := by simp [I.reads, I.mems]
theorem rdi_bin (env : Nat → V) (n : BinOp) (x y : Src) : I.reads env (.bin n x y) = [] := by simp [I.reads, I.mems]
theorem rdi_aeq (env : Nat → V) (n : Bool) (x y : Src) : I.reads env (.aeq n x y) = [] := by simp [I.reads, I.mems]
theorem rdi_beq (env : Nat → V) (n : Bool) (x y : Src) : I.reads env (.beq n x y) = [] := by simp [I.reads, I.mems]
theorem rdi_app (env : Nat → V) (m n : Nat) (x y : Src) : I.reads env (.app m n x y) = refs1 (x.ev env) ++ refs1 (y.ev env) := by simp [I.reads, I.mems]
theorem rdi_max (env : Nat → V) (x y : Src) : I.reads env (.max x y) = [] := by simp [I.reads, I.mems]
theorem rdi_bn (env : Nat → V) (z : List V) : I.reads env (.build z []) = [] := by simp [I.reads, I.mems]
theorem rdi_bc (env : Nat → V) (z : List V) (a b : Nat) (x : Src) (l : List (Nat × Nat × Src)) : I.reads env (.build z ((a, b, x) :: l)) = [] := by simp [I.reads, I.mems]
theorem rdi_sn (env : Nat → V) (sz : Nat) (z : List V) (n : Nat) : I.reads env (.mkSl sz z n []) = [] := by simp [I.reads, I.mems]
theorem rdi_sc (env : Nat → V) (sz : Nat) (z : List V) (n a : Nat) (x : Src) (l : List (Nat × Src)) : I.reads env (.mkSl sz z n ((a, x) :: l)) = [] := by simp [I.reads, I.mems]
theorem rf1_int (q : IntKind) (n : Int) : refs1 (.int q n) = [] := nr rfl
theorem rf1_bool (b : Bool) : refs1 (.bool b) = [] := nr rfl
theorem rf1_str (b : List UInt8) : refs1 (.str b) = [] := nr rfl
theorem rf1_nils  : refs1 .nils = [] := nr rfl
theorem rf1_one  : refs1 .one = [] := nr rfl
theorem rf1_any  : refs1 .any = [] := nr rfl
theorem rf1_sl (n : Nat) (r : List (List V)) : refs1 (.sl n r) = [] := nr rfl
theorem rf1_fptr (r : List V) (n : Nat) : refs1 (.fptr r n) = [] := nr rfl
theorem rf1_agg (r : List V) : refs1 (.agg r) = [] := nr rfl
theorem rf1_tup (r : List V) : refs1 (.tup r) = [] := nr rfl
theorem rf1_ptr (o r k : Nat) : refs1 (.ptr o r k) = [o] := nr rfl
theorem rf1_msl (o r k : Nat) : refs1 (.msl o r k) = [o] := nr rfl
end Go.Ml
end
section
set_option linter.unusedSimpArgs false
set_option linter.unusedVariables false
set_option linter.defProp false
namespace Go.Ml
def EVp := (And.intro (And.intro (And.intro (And.intro (And.intro (And.intro @Go.Ml.wr_eq.{1} @Go.Ml.brK_t) (And.intro @Go.Ml.brK_f (And.intro @Go.Ml.wp_skip 
  @Go.Ml.wp_regF))) (And.intro (And.intro @Go.Ml.wp_regT (And.intro @Go.Ml.wp_seq @Go.Ml.wp_cond')) (And.intro @Go.Ml.wp_block (And.intro @Go.Ml.wp_loop 
  @Go.Ml.wp_exit)))) (And.intro (And.intro (And.intro @Go.Ml.wp_ret @Go.Ml.seqK_n) (And.intro @Go.Ml.seqK_e (And.intro @Go.Ml.seqK_r @Go.Ml.opsK_n))) (And.intro 
  (And.intro @Go.Ml.opsK_c (And.intro @Go.Ml.opK_mk @Go.Ml.any0K_n)) (And.intro @Go.Ml.any0K_c (And.intro @Go.Ml.anyK_n @Go.Ml.anyK_c))))) (And.intro (And.intro 
  (And.intro (And.intro @Go.Ml.gK_0 @Go.Ml.gK_t) (And.intro @Go.Ml.gK_f (And.intro @Go.Ml.valK_v @Go.Ml.goK_v))) (And.intro (And.intro @Go.Ml.goK_v0 (And.intro 
  @Go.Ml.goK_p @Go.Ml.goK_s)) (And.intro @Go.Ml.goK_u (And.intro @Go.Ml.goK_m @Go.Ml.enter_mk)))) (And.intro (And.intro (And.intro @Go.Ml.e_mov @Go.Ml.e_pick) 
  (And.intro @Go.Ml.e_alloc (And.intro @Go.Ml.e_box @Go.Ml.e_build'))) (And.intro (And.intro @Go.Ml.e_mkSl' (And.intro @Go.Ml.e_mkSl0 @Go.Ml.fillsK_n)) (And.intro 
  @Go.Ml.fillsK_c (And.intro @Go.Ml.fillK_n @Go.Ml.fillK_c)))))) (And.intro (And.intro (And.intro (And.intro (And.intro @Go.Ml.e_make @Go.Ml.e_load1) (And.intro 
  @Go.Ml.e_loadn (And.intro @Go.Ml.e_store @Go.Ml.e_fld))) (And.intro (And.intro @Go.Ml.e_idx (And.intro @Go.Ml.e_idxA @Go.Ml.e_idxS)) (And.intro @Go.Ml.e_idxV 
  (And.intro @Go.Ml.e_len @Go.Ml.e_bstr)))) (And.intro (And.intro (And.intro @Go.Ml.e_lenS @Go.Ml.e_bin) (And.intro @Go.Ml.e_beq (And.intro @Go.Ml.e_aeq 
  @Go.Ml.e_not))) (And.intro (And.intro @Go.Ml.e_neg (And.intro @Go.Ml.e_conv @Go.Ml.e_max)) (And.intro @Go.Ml.e_extr (And.intro @Go.Ml.e_chk @Go.Ml.e_slice))))) 
  (And.intro (And.intro (And.intro (And.intro @Go.Ml.e_sliceS @Go.Ml.hiKK_n) (And.intro @Go.Ml.hiKK_s (And.intro @Go.Ml.loKK_n @Go.Ml.loKK_s))) (And.intro 
  (And.intro @Go.Ml.e_app (And.intro @Go.Ml.resK_n @Go.Ml.resK_c)) (And.intro @Go.Ml.endK_n (And.intro @Go.Ml.endK_r @Go.Ml.outK_n)))) (And.intro (And.intro 
  (And.intro @Go.Ml.outK_t @Go.Ml.outK_c1) (And.intro @Go.Ml.outK_c2 (And.intro @Go.Ml.ev_t @Go.Ml.ev_c))) (And.intro (And.intro @Go.Ml.updO_at (And.intro 
  @Go.Ml.updO_none @Go.Ml.upd_at)) (And.intro @Go.Ml.argE_0 (And.intro @Go.Ml.argE_s @Go.Ml.argE_n)))))))
def EVq := (And.intro (And.intro (And.intro (And.intro (And.intro (And.intro (And.intro (And.intro @Go.Ml.brK_not @Go.Ml.brK_t) (And.intro @Go.Ml.brK_f @Go.Ml.stoK_n)) 
  (And.intro (And.intro @Go.Ml.stoK_c @Go.Ml.natK_eq) (And.intro @Go.Ml.mvK_eq (And.intro @Go.Ml.optK_some @Go.Ml.boolK_b)))) (And.intro (And.intro (And.intro 
  @Go.Ml.gdK_b @Go.Ml.gdK_u) (And.intro @Go.Ml.numK_nil @Go.Ml.numK_cons)) (And.intro (And.intro @Go.Ml.asIdxK_ok @Go.Ml.asBoundK_ok) (And.intro @Go.Ml.cellsK_int 
  (And.intro @Go.Ml.cellsK_bool @Go.Ml.cellsK_str))))) (And.intro (And.intro (And.intro (And.intro @Go.Ml.cellsK_nils @Go.Ml.cellsK_one) (And.intro 
  @Go.Ml.cellsK_sl @Go.Ml.cellsK_msl)) (And.intro (And.intro @Go.Ml.cellsK_ptr @Go.Ml.cellsK_fptr) (And.intro @Go.Ml.cellsK_agg (And.intro @Go.Ml.refK_p 
  @Go.Ml.refK_f)))) (And.intro (And.intro (And.intro @Go.Ml.slK_n @Go.Ml.slK_f) (And.intro @Go.Ml.slK_m (And.intro @Go.Ml.intK_i @Go.Ml.strK_s))) (And.intro 
  (And.intro @Go.Ml.tupK_t @Go.Ml.aggK_a) (And.intro @Go.Ml.b_shr (And.intro @Go.Ml.b_and @Go.Ml.b_xor)))))) (And.intro (And.intro (And.intro (And.intro 
  (And.intro @Go.Ml.b_add @Go.Ml.b_sub) (And.intro @Go.Ml.b_mul @Go.Ml.b_quo)) (And.intro (And.intro @Go.Ml.b_rem @Go.Ml.b_eql) (And.intro @Go.Ml.b_neq (And.intro 
  @Go.Ml.b_lss @Go.Ml.b_leq)))) (And.intro (And.intro (And.intro @Go.Ml.b_gtr @Go.Ml.b_geq) (And.intro @Go.Ml.b_eqls @Go.Ml.b_neqs)) (And.intro (And.intro 
  @Go.Ml.b_adds @Go.Ml.eq3_i) (And.intro @Go.Ml.w64 (And.intro @Go.Ml.rowAt_f @Go.Ml.rowAt_p))))) (And.intro (And.intro (And.intro (And.intro @Go.Ml.lenOf_n 
  @Go.Ml.lenOf_f) (And.intro @Go.Ml.lenOf_m @Go.Ml.rowsOf_n)) (And.intro (And.intro @Go.Ml.rowsOf_f @Go.Ml.rowsOf_m) (And.intro @Go.Ml.r_int (And.intro 
  @Go.Ml.r_bool @Go.Ml.r_str)))) (And.intro (And.intro (And.intro @Go.Ml.r_nils @Go.Ml.r_one) (And.intro @Go.Ml.r_sl (And.intro @Go.Ml.r_fptr @Go.Ml.r_agg))) 
  (And.intro (And.intro @Go.Ml.r_tup @Go.Ml.resC_n) (And.intro @Go.Ml.resC_c (And.intro @Go.Ml.r1_int @Go.Ml.r1_bool))))))) (And.intro (And.intro (And.intro 
  (And.intro (And.intro (And.intro @Go.Ml.r1_str @Go.Ml.r1_nils) (And.intro @Go.Ml.r1_one @Go.Ml.r1_sl)) (And.intro (And.intro @Go.Ml.r1_fptr @Go.Ml.ra_n) 
  (And.intro @Go.Ml.ra_c (And.intro @Go.Ml.h_int @Go.Ml.h_bool)))) (And.intro (And.intro (And.intro @Go.Ml.h_str @Go.Ml.h_nils) (And.intro @Go.Ml.h_sl 
  @Go.Ml.h_fptr)) (And.intro (And.intro @Go.Ml.h_agg @Go.Ml.hC_n) (And.intro @Go.Ml.hC_c (And.intro @Go.Ml.h1_int @Go.Ml.h1_bool))))) (And.intro (And.intro 
  (And.intro (And.intro @Go.Ml.h1_str @Go.Ml.h1_nils) (And.intro @Go.Ml.h1_sl @Go.Ml.h1_fptr)) (And.intro (And.intro @Go.Ml.s_int @Go.Ml.s_bool) (And.intro 
  @Go.Ml.s_str (And.intro @Go.Ml.pack1 @Go.Ml.pack2)))) (And.intro (And.intro (And.intro @Go.Ml.pack3 @Go.Ml.objAt_0) (And.intro @Go.Ml.objAt_s (And.intro 
  @Go.Ml.objAt_n @Go.Ml.set_0))) (And.intro (And.intro @Go.Ml.set_s @Go.Ml.padS_0) (And.intro @Go.Ml.padS_s (And.intro @Go.Ml.kill_nil @Go.Ml.kill_cons)))))) 
  (And.intro (And.intro (And.intro (And.intro (And.intro @Go.Ml.exIn_n @Go.Ml.exIn_r) (And.intro @Go.Ml.exIn_e @Go.Ml.wr_v)) (And.intro (And.intro @Go.Ml.wr_p 
  @Go.Ml.wr_s) (And.intro @Go.Ml.wr_u (And.intro @Go.Ml.wr_m @Go.Ml.bytes1)))) (And.intro (And.intro (And.intro @Go.Ml.sr_len @Go.Ml.sr_getD) (And.intro 
  @Go.Ml.sr_get (And.intro @Go.Ml.ir_len @Go.Ml.ir_getD))) (And.intro (And.intro @Go.Ml.ir_get @Go.Ml.ir_set) (And.intro @Go.Ml.splice1 (And.intro @Go.Ml.rdi_mov 
  @Go.Ml.rdi_box))))) (And.intro (And.intro (And.intro (And.intro @Go.Ml.rdi_bstr @Go.Ml.rdi_slice) (And.intro @Go.Ml.rdi_sliceS @Go.Ml.rdi_lenS)) (And.intro 
  (And.intro @Go.Ml.rdi_len @Go.Ml.rdi_chk) (And.intro @Go.Ml.rdi_fld (And.intro @Go.Ml.rdi_un @Go.Ml.rdi_conv)))) (And.intro (And.intro (And.intro 
  @Go.Ml.rdi_extr @Go.Ml.rdi_load) (And.intro @Go.Ml.rdi_make (And.intro @Go.Ml.rdi_alloc @Go.Ml.rdi_pick))) (And.intro (And.intro @Go.Ml.rdi_store 
  @Go.Ml.rdi_idx) (And.intro @Go.Ml.rdi_idxA (And.intro @Go.Ml.rdi_idxS @Go.Ml.rdi_idxV)))))))) (And.intro (And.intro (And.intro (And.intro (And.intro (And.intro 
  (And.intro @Go.Ml.rdi_bin @Go.Ml.rdi_beq) (And.intro @Go.Ml.rdi_aeq @Go.Ml.rdi_app)) (And.intro (And.intro @Go.Ml.rdi_max @Go.Ml.rdi_bn) (And.intro 
  @Go.Ml.rdi_bc (And.intro @Go.Ml.rdi_sn @Go.Ml.rdi_sc)))) (And.intro (And.intro (And.intro @Go.Ml.rf1_int @Go.Ml.rf1_bool) (And.intro @Go.Ml.rf1_str 
  @Go.Ml.rf1_nils)) (And.intro (And.intro @Go.Ml.rf1_one @Go.Ml.rf1_any) (And.intro @Go.Ml.rf1_sl (And.intro @Go.Ml.rf1_fptr @Go.Ml.rf1_agg))))) (And.intro 
  (And.intro (And.intro (And.intro @Go.Ml.rf1_tup @Go.Ml.rf1_ptr) (And.intro @Go.Ml.rf1_msl @Int.toNat_zero)) (And.intro (And.intro @Int.toNat_one @Go.Ml.w64d) 
  (And.intro @Bool.false_and (And.intro @Bool.true_and @Bool.and_false)))) (And.intro (And.intro (And.intro @Go.Ml.r_mslO @Go.Ml.r1_mslO) (And.intro @Go.Ml.resO_i 
  (And.intro @Go.Ml.resO1_i @Go.Ml.resO_s))) (And.intro (And.intro @Go.Ml.resO_R @Go.Ml.resO_Pt) (And.intro @Go.Ml.resO_Lk (And.intro @Go.Ml.resO_Pa 
  @Go.Ml.resO1_Pa)))))) (And.intro (And.intro (And.intro (And.intro (And.intro @Go.Ml.resO_Cd @Go.Ml.resO_Rs) (And.intro @Go.Ml.h_mslO @Go.Ml.reachO_s)) 
  (And.intro (And.intro @Go.Ml.reachO_n @Go.Ml.reachRs_i) (And.intro @Go.Ml.reachRs_s (And.intro @Go.Ml.reachRs_R @Go.Ml.reachRs_Pt)))) (And.intro (And.intro 
  (And.intro @Go.Ml.reachRs_Lk @Go.Ml.reachRs_Pa) (And.intro @Go.Ml.reachRs_Cd @Go.Ml.reachRs_Rs)) (And.intro (And.intro @Go.Ml.s_sl @Go.Ml.s_nils) (And.intro 
  @Go.Ml.s_agg (And.intro @Go.Ml.s_tup @Go.Ml.scalC_n))))) (And.intro (And.intro (And.intro (And.intro @Go.Ml.scalC_c @Go.Ml.s3_int) (And.intro @Go.Ml.s3_bool 
  @Go.Ml.s3_str)) (And.intro (And.intro @Go.Ml.s3_nils @Go.Ml.s3_sl) (And.intro @Go.Ml.s3_agg (And.intro @Go.Ml.s2_int @Go.Ml.s2_bool)))) (And.intro (And.intro 
  (And.intro @Go.Ml.s2_str @Go.Ml.s2_nils) (And.intro @Go.Ml.s2_sl (And.intro @Go.Ml.take_all @Go.Ml.ifO_pos))) (And.intro (And.intro @Nat.le_refl 
  @List.replicate_succ.{0}) (And.intro @List.replicate_zero.{0} (And.intro @List.take_length.{0} @Go.Ml.w64u))))))) (And.intro (And.intro (And.intro (And.intro 
  (And.intro (And.intro @Go.Ml.w8u @Go.Ml.w32u) (And.intro @Go.Ml.ir_take @Go.Ml.ir_drop)) (And.intro (And.intro @Nat.sub_zero @implies_true.{0}) (And.intro 
  @false_implies (And.intro @true_implies @List.length_map.{0, 0})))) (And.intro (And.intro (And.intro @true_or @or_true) (And.intro @Bool.beq_eq_decide_eq.{0} 
  @List.set_cons_zero.{0})) (And.intro (And.intro @List.set_cons_succ.{0} @Go.Ml.EnvLe_n) (And.intro @Go.Ml.EnvLe_c (And.intro @Go.Ml.EvV_any @Go.Ml.EvV_refl))))) 
  (And.intro (And.intro (And.intro (And.intro @Go.Ml.EnvCan_n @Go.Ml.EnvCan_c) (And.intro @Go.Ml.CanE_any @Go.Ml.CanE_sl)) (And.intro (And.intro @Go.Ml.CanE_int 
  @Go.Ml.CanE_bool) (And.intro @Go.Ml.CanE_str (And.intro @Go.Ml.CanE_nil @Go.Ml.CanE_nils)))) (And.intro (And.intro (And.intro @List.reverse_cons.{0} 
  @List.reverse_nil.{0}) (And.intro @List.nil_append.{0} (And.intro @List.cons_append.{0} @List.append_nil.{0}))) (And.intro (And.intro @List.length_cons.{0} 
  @List.length_nil.{0}) (And.intro @List.getElem?_cons_zero.{0} (And.intro @List.getElem?_cons_succ.{0} @Nat.zero_add)))))) (And.intro (And.intro (And.intro 
  (And.intro (And.intro @Nat.add_zero @ite_self.{1}) (And.intro @ite_true.{1} @ite_false.{1})) (And.intro (And.intro @if_true.{1} @if_false.{1}) (And.intro 
  @eq_self.{1} (And.intro @and_true @true_and)))) (And.intro (And.intro (And.intro @and_self @Bool.not_true) (And.intro @Bool.not_false (And.intro 
  @Bool.true_eq_false @Bool.false_eq_true))) (And.intro (And.intro @Bool.not_eq_true' @decide_eq_true_eq) (And.intro @decide_eq_false_iff_not (And.intro 
  @Bool.not_eq_eq_eq_not @Option.map_some.{0, 0}))))) (And.intro (And.intro (And.intro (And.intro @Option.map_none.{0, 0} @Int.toNat_natCast) (And.intro 
  @List.drop_zero.{0} @List.drop_succ_cons.{0})) (And.intro (And.intro @List.take_succ_cons.{0} @List.take_zero.{0}) (And.intro @List.all_cons.{0} (And.intro 
  @List.all_nil.{0} @Bool.and_true)))) (And.intro (And.intro (And.intro @Bool.and_self @Go.Ml.Ex.exit.injEq) (And.intro @not_false_eq_true (And.intro 
  @not_true_eq_false @decide_true))) (And.intro (And.intro @decide_false @ite_not.{1}) (And.intro @decide_not (And.intro @Bool.not_not @ne_eq.{1})))))))))
theorem ev {P Q : Prop} (h : Q) (e : P = Q := by conv => lhs; simp (maxSteps := 1000000) (disch := first | omega | assumption | (simp; done) | (simp; omega)) only [↓EVp, EVq, splice, Nat.reduceAdd, Nat.reduceEqDiff, Nat.reduceMul, Nat.reduceLT, Nat.reduceLeDiff, reduceIte, V.leaf, noWr, noRf, reduceCtorEq]) : P := Eq.mpr (e) h
theorem ev1 {P Q A1 : Prop} (x1 : A1) (h : Q) (e : A1 → P = Q := by intro x1; conv => lhs; simp (maxSteps := 1000000) (disch := first | omega | assumption | (simp; done) | (simp; omega)) only [↓EVp, EVq, splice, Nat.reduceAdd, Nat.reduceEqDiff, Nat.reduceMul, Nat.reduceLT, Nat.reduceLeDiff, reduceIte, V.leaf, noWr, noRf, reduceCtorEq, x1]) : P := Eq.mpr (e x1) h
theorem ev2 {P Q A1 A2 : Prop} (x1 : A1) (x2 : A2) (h : Q) (e : A1 → A2 → P = Q := by intro x1 x2; conv => lhs; simp (maxSteps := 1000000) (disch := first | omega | assumption | (simp; done) | (simp; omega)) only [↓EVp, EVq, splice, Nat.reduceAdd, Nat.reduceEqDiff, Nat.reduceMul, Nat.reduceLT, Nat.reduceLeDiff, reduceIte, V.leaf, noWr, noRf, reduceCtorEq, x1, x2]) : P := Eq.mpr (e x1 x2) h
theorem ev3 {P Q A1 A2 A3 : Prop} (x1 : A1) (x2 : A2) (x3 : A3) (h : Q) (e : A1 → A2 → A3 → P = Q := by intro x1 x2 x3; conv => lhs; simp (maxSteps := 1000000) (disch := first | omega | assumption | (simp; done) | (simp; omega)) only [↓EVp, EVq, splice, Nat.reduceAdd, Nat.reduceEqDiff, Nat.reduceMul, Nat.reduceLT, Nat.reduceLeDiff, reduceIte, V.leaf, noWr, noRf, reduceCtorEq, x1, x2, x3]) : P := Eq.mpr (e x1 x2 x3) h
abbrev oN (d : Nat) (i : I) : OpI := ⟨none, some d, 0, i, []⟩
abbrev oS (i : I) : OpI := ⟨none, none, 0, i, []⟩
abbrev oG (g : Nat) (b : Bool) (d : Nat) (i : I) : OpI := ⟨some (g, b), some d, 0, i, []⟩
abbrev oK (d k : Nat) (i : I) : OpI := ⟨none, some d, k, i, []⟩
abbrev oA (d k : Nat) (i : I) (a : List Nat) : OpI := ⟨none, some d, k, i, a⟩
abbrev oH (g : Nat) (b : Bool) (d k : Nat) (i : I) (a : List Nat) : OpI := ⟨some (g, b), some d, k, i, a⟩
abbrev oV (n : Nat) : I := .mov (.t n)
abbrev cI (n : Int) : Src := .c (.int .i64 n)
end Go.Ml
end
section
set_option linter.unusedSimpArgs false
namespace Go.Ml
mutual
theorem rd_noFrz {w : World} {D : DM} {X X' : Nat → Prop} : ∀ (x : V) (v : Value), noFrz x = true → rd w D X x v → rd w D X' x v
  | .sl sz rows, v, h, hr => by
    simp only [noFrz, List.isEmpty_iff] at h
    subst h
    simp only [rd] at hr ⊢
    obtain ⟨a, cap, h1, h2, _⟩ := hr
    exact ⟨a, cap, h1, h2, .inl (by trivial)⟩
  | .agg cs, v, h, hr => by
    simp only [noFrz] at h
    simp only [rd] at hr ⊢
    obtain ⟨a, rfl, hr⟩ := hr
    exact ⟨a, rfl, rdL_noFrz cs _ h hr⟩
  | .tup cs, v, h, hr => by
    simp only [noFrz] at h
    simp only [rd] at hr ⊢
    obtain ⟨a, rfl, hr⟩ := hr
    exact ⟨a, rfl, rdL_noFrz cs _ h hr⟩
  | .fptr .., v, h, hr => by simp [noFrz] at h
  | .any, _, _, _ => by simp [rd]
  | .one, v, h, hr => by simpa only [rd] using hr
  | .int .., v, h, hr => by simpa only [rd] using hr
  | .bool _, v, h, hr => by simpa only [rd] using hr
  | .str _, v, h, hr => by simpa only [rd] using hr
  | .nils, v, h, hr => by simpa only [rd] using hr
  | .msl .., v, h, hr => by simpa only [rd] using hr
  | .ptr .., v, h, hr => by simpa only [rd] using hr
theorem rdL_noFrz {w : World} {D : DM} {X X' : Nat → Prop} : ∀ (xs : List V) (vs : List Value), noFrz.allNoFrz xs = true → rdL w D X xs vs → rdL w D X' xs vs
  | [], vs, _, hr => by simpa only [rdL] using hr
  | x :: xs, vs, h, hr => by
    simp only [noFrz.allNoFrz, Bool.and_eq_true] at h
    simp only [rdL] at hr ⊢
    obtain ⟨v, vs', rfl, k1, k2⟩ := hr
    exact ⟨v, vs', rfl, rd_noFrz x v h.1 k1, rdL_noFrz xs vs' h.2 k2⟩
end
mutual
theorem noFrz_map {g : Nat → Option Nat} : ∀ (x : V), noFrz x = true → noFrz (mapV g x) = true
  | .sl sz rows, h => by simpa only [mapV] using h
  | .agg cs, h => by simp only [noFrz, mapV] at h ⊢; exact allNoFrz_map cs h
  | .tup cs, h => by simp only [noFrz, mapV] at h ⊢; exact allNoFrz_map cs h
  | .fptr .., h => by simp [noFrz] at h
  | .msl o s l, _ => by simp only [mapV]; split <;> rfl
  | .ptr o s l, _ => by simp only [mapV]; split <;> rfl
  | .any, _ => rfl
  | .one, _ => rfl
  | .int .., _ => rfl
  | .bool _, _ => rfl
  | .str _, _ => rfl
  | .nils, _ => rfl
theorem allNoFrz_map {g : Nat → Option Nat} : ∀ (xs : List V), noFrz.allNoFrz xs = true → noFrz.allNoFrz (mapV.mapL g xs) = true
  | [], _ => rfl
  | x :: xs, h => by
    simp only [noFrz.allNoFrz, Bool.and_eq_true, mapV.mapL] at h ⊢
    exact ⟨noFrz_map x h.1, allNoFrz_map xs h.2⟩
end
theorem objAt_addS {σ σ' : Store} {o : Nat} : objAt (addS σ σ') o = if o < σ.length then objAt σ o else (objAt σ' (o - σ.length)).map (mapO (shiftN σ.length)) := by
  unfold addS objAt
  by_cases h : o < σ.length
  · rw [if_pos h, List.getElem?_append_left h]
  · rw [if_neg h, List.getElem?_append_right (by omega), List.getElem?_map]
    cases σ'[o - σ.length]? <;> rfl
section
variable {P : Program} {ν : Nat → Option Nat} {nt : Nat} {M : Nat → Prop} {w0 : World} {D0 : DM} {st : St} {D : DM} {a : Act} {w : World}
theorem opOk_callG [Base] {x : OpI} {f : Nat} {as : List Src} {as' : List V} {r : V} {σ' : Store} {R : List Nat} (hg : ∀ g want, x.g = some (g, want) → st.env g = .bool want) (hi : x.i = .call f as)
    (ha : as.mapM (fun s => resolve st.objs FD (s.ev st.env)) = some as') (ih : FnOk P ν f as' [] r σ')
    (hR : R = if noFrz r && freshS σ' then [] else as.flatMap fun s => reach st.objs FD (s.ev st.env)) :
    OpOk P ν x st { st with env := updO st.env x.dst (mapV (shiftN st.objs.length) r), objs := addS (killAll st.objs R) σ' } := by
  have hlk : (killAll st.objs R).length = st.objs.length := len_kill R _
  refine ⟨rfl, rfl, by simp [addS, hlk], ?_⟩
  intro ops dr nt m k o htr M w0 D0 D a w hs _ K Q hK
  obtain ⟨t1, t2, t3, t4⟩ := trOp_spec htr
  rw [if_pos ((wanted_iff hs t4).1 hg)]
  rw [hi] at t1
  obtain ⟨fid, xs, c1, c2, c3⟩ := run_call_op t1
  have hrd := trArgs_rd hs.store hs.env xs c2 ha (R := as.flatMap fun s => reach st.objs FD (s.ev st.env)) (fun o h => h)
  let X' : Nat → Prop := fun b => M b ∨ ∃ o d, D o = .live d ∧ d.blk = b ∧ o ∉ as.flatMap fun s => reach st.objs FD (s.ev st.env)
  have hX : ∀ b, XS X' DM.none b → X' b := by
    rintro b (h | ⟨o, d, h, _⟩)
    · exact h
    · simp [DM.none] at h
  have hlt : ∀ b, X' b → b < w.heap.size := by
    rintro b (h | ⟨o, d, h, rfl, _⟩)
    · exact hs.store.mlt b h
    · obtain ⟨_, _, _, _, _, _, _, _, h6, _⟩ := hs.store.live o d h
      exact h6
  have hcall := ih fid c1 w X' DM.none (xs.map a.eval).toArray (by simpa using rdL_mono' hrd hX)
    ⟨fun o d h => by simp [DM.none] at h, fun o ob h => by simp [objAt] at h, fun o o' d d' h => by simp [DM.none] at h, fun _ _ => rfl, hlt, hs.store.tab.sub fun b hb => (hX b hb).imp id fun ⟨o, d, h, k, _⟩ => ⟨o, d, h, k⟩⟩
  refine enter_wp (c3 a w) (R := fun v w' => ∃ Dc, rd w' Dc (XS X' Dc) r v ∧ SRel w' Dc X' σ' ∧ Gr (Own DM.none) w w' ∧ ∀ o d, Dc o = .live d → w.heap.size ≤ d.blk) (hcall.mono ?_) ?_
  · rintro e w' ⟨v, D', rfl, h1, h2, h3, h4, _⟩
    refine ⟨v, rfl, D', h1, h2, h3, fun o d ho => ?_⟩
    rcases h4 o d ho with ⟨_, _, h, _⟩ | h
    · simp [DM.none] at h
    · exact h
  · rintro v w' ⟨Dc, h1, h2, h3, h4⟩
    have hsame : ∀ b, b < w.heap.size → w'.heap[b]? = w.heap[b]? := fun b hb => h3.block b hb (by rintro ⟨o, d, h, _⟩; simp [DM.none] at h)
    let n := st.objs.length
    let D' : DM := fun o => if o < n then D.kill R o else Dc (o - n)
    have dOld : ∀ o, o < n → D' o = D.kill R o := fun o h => by simp only [D', if_pos h]
    have dNew : ∀ j, D' (n + j) = Dc j := fun j => by simp only [D']; rw [if_neg (by omega)]; congr 1; omega
    have dFrom : ∀ o d, D' o = .live d → (o < n ∧ o ∉ R ∧ D o = .live d) ∨ (n ≤ o ∧ Dc (o - n) = .live d) := by
      intro o d ho
      by_cases hon : o < n
      · rw [dOld o hon] at ho
        obtain ⟨k1, k2⟩ := kill_live ho
        exact .inl ⟨hon, k2, k1⟩
      · simp only [D', if_neg hon] at ho
        exact .inr ⟨by omega, ho⟩
    have E : Ext w D (XS M D) w' D' (XS M D') := by
      refine ⟨h3.size, fun b hb _ => hsame b hb, ?_, ?_⟩
      · rintro b hb (h | ⟨o, d, ho, rfl⟩)
        · exact .inl h
        · rcases dFrom o d ho with ⟨_, _, k⟩ | ⟨_, k⟩
          · exact .inr ⟨o, d, k, rfl⟩
          · have := h4 _ d k; omega
      · intro o
        by_cases hon : o < n
        · rw [dOld o hon]; exact kill_le D R o
        · rw [hs.store.far o (by omega)]; trivial
    have hmapX : ∀ {x : V} {v : Value}, ((noFrz r && freshS σ') = true → noFrz x = true) → rd w' Dc (XS X' Dc) x v → rd w' D' (XS M D') (mapV (shiftN n) x) v := by
      intro x v hx hr
      have h := rd_map (D' := D') (g := shiftN n) (fun j j' hj => by simp only [shiftN, Option.some.injEq] at hj; subst hj; rw [dNew]; exact DSle.refl _) x v hr
      by_cases hf : (noFrz r && freshS σ') = true
      · exact rd_noFrz _ _ (noFrz_map _ (hx hf)) h
      · rw [if_neg hf] at hR
        refine rd_mono _ _ ⟨Nat.le_refl _, fun _ _ _ => rfl, fun b _ hb => ?_, fun _ => DSle.refl _⟩ h
        rcases hb with hb | ⟨o, d, ho, rfl⟩
        · exact .inl (.inl hb)
        · rcases dFrom o d ho with ⟨_, k2, k⟩ | ⟨_, k⟩
          · exact .inl (.inr ⟨o, d, k, rfl, by rw [← hR]; exact k2⟩)
          · exact .inr ⟨_, d, k, rfl⟩
    have hcell : ∀ {j : Nat} {ob : Obj}, objAt σ' j = some ob → ∀ x ∈ ob.rows.flatten, ((noFrz r && freshS σ') = true → noFrz x = true) := by
      intro j ob hj x hx hf
      simp only [Bool.and_eq_true, freshS, List.all_eq_true] at hf
      have hmem : some ob ∈ σ' := by
        unfold objAt at hj
        cases hc : σ'[j]? with
        | none => rw [hc] at hj; cases hj
        | some z => rw [hc] at hj; simp at hj; subst hj; exact List.mem_of_getElem? hc
      obtain ⟨rw', hr1, hr2⟩ := List.mem_flatten.1 hx
      have := hf.2 _ hmem
      simp only [List.all_eq_true] at this
      exact this rw' hr1 x hr2
    have hst : SRel w' D' M (addS (killAll st.objs R) σ') := by
      refine ⟨?_, ?_, ?_, ?_, fun b hb => Nat.lt_of_lt_of_le (hs.store.mlt b hb) h3.size, hs.store.tab.ext E⟩
      · intro o d ho
        rcases dFrom o d ho with ⟨k1, k2, k⟩ | ⟨k1, k⟩
        · obtain ⟨ob, c, e, g1, g2, g3, g4, g5, g6, g7, g8, g9, g10, g11⟩ := hs.store.live o d k
          refine ⟨ob, c, e, by rw [objAt_addS, hlk, if_pos k1, objAt_kill, if_neg k2]; exact g1, g2, g3, g4, g5, Nat.lt_of_lt_of_le g6 h3.size, by rw [hsame _ g6]; exact g7, g8, g9, g10, fun i x hi => ?_⟩
          obtain ⟨k0, y, j1, j2⟩ := g11 i x hi
          exact ⟨k0, y, j1, rd_mono _ _ E j2⟩
        · obtain ⟨ob, c, e, g1, g2, g3, g4, g5, g6, g7, g8, g9, g10, g11⟩ := h2.live _ d k
          refine ⟨mapO (shiftN n) ob, c, e, by rw [objAt_addS, hlk, if_neg (by omega), g1]; rfl, g2, by simp [mapO, g3], g4, fun hm => g5 (.inl hm), g6, g7, g8, g9, ?_, fun i x hi => ?_⟩
          · intro rr hrr
            simp only [mapO, List.mem_map] at hrr
            obtain ⟨r0, hr0, rfl⟩ := hrr
            simpa [mapO] using g10 r0 hr0
          · rw [flatten_mapO, List.getElem?_map, Option.map_eq_some_iff] at hi
            obtain ⟨x0, hx0, rfl⟩ := hi
            obtain ⟨k0, y, j1, j2⟩ := g11 i x0 hx0
            exact ⟨leaf_map k0, y, j1, hmapX (hcell g1 x0 (List.mem_of_getElem? hx0)) j2⟩
      · intro o ob ho
        rw [objAt_addS, hlk] at ho
        split at ho
        · rename_i hon
          rw [objAt_kill] at ho
          split at ho
          · cases ho
          · rename_i hR'
            obtain ⟨d, hd⟩ := hs.store.alive o ob ho
            exact ⟨d, by rw [dOld o hon]; simp only [DM.kill, if_neg hR']; exact hd⟩
        · rename_i hon
          simp only [Option.map_eq_some_iff] at ho
          obtain ⟨ob0, ho, _⟩ := ho
          obtain ⟨d, hd⟩ := h2.alive _ ob0 ho
          refine ⟨d, ?_⟩
          show (if o < n then _ else _) = _
          rw [if_neg hon]; exact hd
      · intro o o' d d' ho ho' hb
        rcases dFrom o d ho with ⟨a1, a2, a3⟩ | ⟨a1, a3⟩ <;> rcases dFrom o' d' ho' with ⟨b1, b2, b3⟩ | ⟨b1, b3⟩
        · exact hs.store.inj o o' d d' a3 b3 hb
        · obtain ⟨_, _, _, _, _, _, _, _, g6, _⟩ := hs.store.live o d a3
          have := h4 _ d' b3; omega
        · obtain ⟨_, _, _, _, _, _, _, _, g6, _⟩ := hs.store.live o' d' b3
          have := h4 _ d a3; omega
        · have := h2.inj _ _ d d' a3 b3 hb
          omega
      · intro o ho
        have hlo : n + σ'.length ≤ o := by simpa [addS, hlk] using ho
        simp only [D']
        rw [if_neg (by omega)]
        exact h2.far _ (by omega)
    rw [t2]
    refine hK D' _ w' ⟨rd_put (fun t => rd_mono _ _ E (hs.env t)) (fun d hd => by rw [hs.tm]; exact t3 d (t2.trans hd)) (hmapX (fun hf => by simp only [Bool.and_eq_true] at hf; exact hf.1) h1), ?_, ?_, hst, ?_, ?_, fun o ho => (hs.kp o ho).trans (E.ds o)⟩ ?_
    · rw [← hs.tm]; cases x.dst <;> simp [Act.put]
    · rw [← hs.df]; cases x.dst <;> rfl
    · exact hs.gr.trans (h3.mono fun b _ ⟨o, d, h, _⟩ => by simp [DM.none] at h)
    · intro o d ho
      rcases dFrom o d ho with ⟨_, _, k⟩ | ⟨_, k⟩
      · exact hs.fr o d k
      · exact .inr (Nat.le_trans hs.gr.size (h4 _ d k))
    · intro o _ ho hu _
      rw [dOld o ho]
      simp only [DM.kill, hu]; split <;> rfl
theorem trArgs_id {X : Nat → Prop} {env : Nat → V} (he : ∀ t, rd w D X (env t) (a.tmps.getD t undef)) :
    ∀ (xs : List Operand) {as : List Src}, trArgs xs = some as → rdL w D X (as.map fun s => s.ev env) (xs.map a.eval)
  | [], as, h => by simp only [trArgs, Option.some.injEq] at h; subst h; simp [rdL]
  | x :: xs, as, h => by
    simp only [trArgs] at h
    split at h <;> first | (cases h; done) | skip
    rename_i s r h1 h2
    simp only [Option.some.injEq] at h; subst h
    simp only [List.map_cons, rdL]
    exact ⟨_, _, rfl, rd_src he h1, trArgs_id he xs h2⟩
theorem opOk_callI [Base] {x : OpI} {f : Nat} {as : List Src} {r : V} {σ' : Store} (hg : ∀ g want, x.g = some (g, want) → st.env g = .bool want) (hi : x.i = .call f as)
    (ih : FnOk P ν f (as.map fun s => s.ev st.env) st.objs r σ') (hl : st.objs.length ≤ σ'.length) (hb : st.objs.length ≤ st.base) :
    OpOk P ν x st { st with env := updO st.env x.dst r, objs := σ' } := by
  refine ⟨rfl, rfl, hl, ?_⟩
  intro ops dr nt m k o htr M w0 D0 D a w hs _ K Q hK
  obtain ⟨t1, t2, t3, t4⟩ := trOp_spec htr
  rw [if_pos ((wanted_iff hs t4).1 hg)]
  rw [hi] at t1
  obtain ⟨fid, xs, c1, c2, c3⟩ := run_call_op t1
  have hcall := ih fid c1 w M D (xs.map a.eval).toArray (by simpa using trArgs_id hs.env xs c2) hs.store
  refine enter_wp (c3 a w) (R := fun v w' => ∃ D', rd w' D' (XS M D') r v ∧ SRel w' D' M σ' ∧ Gr (Own D) w w' ∧ (∀ o d, D' o = .live d → Own D d.blk ∨ w.heap.size ≤ d.blk) ∧ ∀ j, j < st.objs.length → DSle (D j) (D' j)) (hcall.mono ?_) ?_
  · rintro e w' ⟨v, D', rfl, h1, h2, h3, h4, h5⟩
    exact ⟨v, rfl, D', h1, h2, h3, h4, h5⟩
  · rintro v w' ⟨D', h1, h2, h3, h4, h5⟩
    have E : Ext w D (XS M D) w' D' (XS M D') := by
      refine ⟨h3.size, fun b hb hx => h3.block b hb (fun ho => hx (.inr ho)), ?_, ?_⟩
      · rintro b hb (h | ⟨o, d, ho, rfl⟩)
        · exact .inl h
        · rcases h4 o d ho with h | h
          · exact .inr h
          · omega
      · intro o
        rcases Nat.lt_or_ge o st.objs.length with h | h
        · exact h5 o h
        · rw [hs.store.far o h]; trivial
    rw [t2]
    refine hK D' _ w' ⟨rd_put (fun t => rd_mono _ _ E (hs.env t)) (fun d hd => by rw [hs.tm]; exact t3 d (t2.trans hd)) h1, ?_, ?_, h2, ?_, ?_, fun o ho => (hs.kp o ho).trans (E.ds o)⟩ ?_
    · rw [← hs.tm]; cases x.dst <;> simp [Act.put]
    · rw [← hs.df]; cases x.dst <;> rfl
    · exact hs.gr.trans (h3.mono fun b _ ho => by obtain ⟨o, d, h, hb⟩ := ho; rw [← hb]; exact hs.fr o d h)
    · intro o d ho
      rcases h4 o d ho with ⟨q, d', hq, hb⟩ | h
      · rw [← hb]; exact hs.fr q d' hq
      · exact .inr (Nat.le_trans hs.gr.size h)
    · intro o h1 h2 _ _
      omega
theorem fnOk_reF [Base] {W : Win} {f : Nat} {args args2 : List V} {σ' σ2 : Store} {r r2 : V} (ha : LaxL args args2) (hs : ReS W σ' σ2) (hr : CanV W σ' r r2) (ih : FnOk P ν f args [] r σ') : FnOk P ν f args2 [] r2 σ2 := by
  intro fid hf w M D vals h1 h2
  refine (ih fid hf w M D vals (rdL_lax _ _ _ _ _ ha h1) h2).mono ?_
  rintro e w' ⟨v, D', rfl, k1, k2, k3, k4, k5⟩
  refine ⟨v, D'.win W 0, rfl, rd_can k2 hs.some _ _ _ hr k1, k2.re hs (Nat.zero_le _), k3, ?_, fun o ho => by simp at ho⟩
  intro k d hk
  obtain ⟨o, s, l, d0, _, e2, rfl⟩ := win_live hk
  exact k4 o d0 e2
theorem fnOk_laxF [Base] {f : Nat} {args args2 : List V} {σ σ' : Store} {r r2 : V} (ha : LaxL args args2) (hr : LaxV r2 r) (ih : FnOk P ν f args σ r σ') : FnOk P ν f args2 σ r2 σ' := by
  intro fid hf w M D vals h1 h2
  refine (ih fid hf w M D vals (rdL_lax _ _ _ _ _ ha h1) h2).mono ?_
  rintro e w' ⟨v, D', rfl, k1, k2⟩
  exact ⟨v, D', rfl, rd_lax _ _ _ _ _ hr k1, k2⟩
end
end Go.Ml
end
section
set_option linter.unusedSimpArgs false
namespace Go.Ml
def OutOk [Base] (P : Program) (fid : Nat) (o : OutF) : Prop :=
  ∀ args σ r σ', o.sem args σ r σ' → ∀ w M D (vals : Array Value), rdL w D (XS M D) args vals.toList → SRel w D M σ → Calls P fid vals w (Post M D w σ.length r σ')
def Fits [Base] (P : Program) (ν : Nat → Option Nat) (T : Nat → Option Fn) : Prop :=
  ∀ fid f F, ν fid = some f → T f = some F → (∃ fn, P.funcs[fid]? = some fn ∧ trFn P ν fn = some F) ∨ ∃ o, F.body = .lib o ∧ OutOk P fid o
theorem no_lib {T : Nat → Option Fn} {j : Job} {x : Out} (h : Run T j x) : ∀ o st, j ≠ .code (.lib o) st := by
  induction h with
  | gc ρ hn hρ h ih => intro o st e; cases e; exact ih o _ rfl
  | forget he ho hk h ih => intro o st e; cases e; exact ih o _ rfl
  | re W h h' ih => intro o st e; cases e; exact ih o _ rfl
  | _ => intro o st e; cases e
theorem trC_lib {P : Program} {ν : Nat → Option Nat} {nt : Nat} {o : OutF} : ∀ c : Code, trC P ν nt c ≠ some (.lib o) := by
  intro c h
  unfold trC at h
  cases c <;> simp at h
  all_goals (try (split at h <;> simp at h))
theorem trFn_lib [Base] {P : Program} {ν : Nat → Option Nat} {fn : Func} {F : Fn} {o : OutF} (h : trFn P ν fn = some F) (hb : F.body = .lib o) : False := by
  unfold trFn at h
  split at h <;> first | (cases h; done) | skip
  split at h <;> first | (cases h; done) | skip
  rename_i b rs' hb' hrs'
  split at h <;> first | (cases h; done) | skip
  simp only [Option.some.injEq] at h
  subst h
  simp only [] at hb
  subst hb
  exact trC_lib _ hb'
section
variable {P : Program} {ν : Nat → Option Nat} {T : Nat → Option Fn}
theorem okK_cons {m : Nat} {x : OpI} {l : List OpI} (h : okK m (x :: l) = true) : okK m l = true ∧ ∀ y ∈ l, y.i.makes = true → y.k ≠ x.k ∧ y.k < m := by
  have hm : ∀ (l : List OpI), okK m l = true → ∀ y ∈ l, y.i.makes = true → y.k < m := by
    intro l
    induction l with
    | nil => intro _ y hy; cases hy
    | cons z l ih =>
      intro h y hy hmk
      simp only [okK, Bool.and_eq_true] at h
      rcases List.mem_cons.1 hy with rfl | hy
      · have := h.1
        rw [if_pos hmk] at this
        simp only [Bool.and_eq_true, decide_eq_true_eq] at this
        exact this.1
      · exact ih h.2 y hy hmk
  simp only [okK, Bool.and_eq_true] at h
  refine ⟨h.2, fun y hy hmk => ⟨?_, hm l h.2 y hy hmk⟩⟩
  by_cases hx : x.i.makes = true
  · have := h.1
    rw [if_pos hx] at this
    simp only [Bool.and_eq_true, decide_eq_true_eq, List.all_eq_true] at this
    have := this.2 y hy
    simpa [hmk] using this
  · have := h.1
    rw [if_neg hx] at this
    simp only [beq_iff_eq] at this
    have := hm l h.2 y hy hmk
    omega
theorem okK_lt {m : Nat} : ∀ (l : List OpI), okK m l = true → ∀ x ∈ l, x.i.makes = true → x.k < m
  | [], _, y, hy, _ => by cases hy
  | z :: l, h, y, hy, hmk => by
    simp only [okK, Bool.and_eq_true] at h
    rcases List.mem_cons.1 hy with rfl | hy
    · have := h.1
      rw [if_pos hmk] at this
      simp only [Bool.and_eq_true, decide_eq_true_eq] at this
      exact this.1
    · exact okK_lt l h.2 y hy hmk
theorem okK_ne [Base] {m : Nat} : ∀ (l : List OpI), okK m l = true → ∀ (i j : Nat) (x y : OpI), l[i]? = some x → l[j]? = some y → i ≠ j → x.i.makes = true → x.k ≠ y.k
  | [], _, i, j, x, y, hx, _, _, _ => by simp at hx
  | z :: l, h, i, j, x, y, hx, hy, hij, hmk => by
    obtain ⟨k1, k2⟩ := okK_cons h
    cases i with
    | zero =>
      simp at hx; subst hx
      cases j with
      | zero => exact absurd rfl hij
      | succ j =>
        have hy' : y ∈ l := List.mem_of_getElem? (by simpa using hy)
        by_cases hmy : y.i.makes = true
        · exact fun e => (k2 y hy' hmy).1 e.symm
        · -- one that makes none has the number m
          have hm : ∀ (l : List OpI), okK m l = true → ∀ y ∈ l, y.i.makes ≠ true → y.k = m := by
            intro l
            induction l with
            | nil => intro _ y hy; cases hy
            | cons z l ih =>
              intro h y hy hn
              simp only [okK, Bool.and_eq_true] at h
              rcases List.mem_cons.1 hy with rfl | hy
              · have := h.1
                rw [if_neg hn] at this
                simpa using this
              · exact ih h.2 y hy hn
          have := hm l k1 y hy' hmy
          have h3 := okK_lt _ h z (by simp) hmk
          omega
    | succ i =>
      have hx' : x ∈ l := List.mem_of_getElem? (by simpa using hx)
      cases j with
      | zero =>
        simp at hy; subst hy
        exact (k2 x hx' hmk).1
      | succ j => exact okK_ne l k1 i j x y (by simpa using hx) (by simpa using hy) (by omega) hmk
theorem opsOk_cons [Base] {o : OpI} {l : List OpI} {st st1 st2 : St} (h1 : OpOk P ν o st st1) (h2 : OpsOk P ν l st1 st2) : OpsOk P ν (o :: l) st st2 := by
  obtain ⟨a1, a2, a3, a4⟩ := h1
  obtain ⟨b1, b2, b3, b4⟩ := h2
  refine ⟨b1.trans a1, b2.trans a2, Nat.le_trans a3 b3, ?_⟩
  intro ops dr nt m k rest htr hk M w0 D0 D a w hs hid Q hQ
  cases rest with
  | nil => simp [trOps] at htr
  | cons r rest =>
    simp only [trOps] at htr
    split at htr <;> first | (cases htr; done) | skip
    rename_i x hx
    split at htr <;> first | (cases htr; done) | skip
    rename_i l' hl'
    simp only [Option.some.injEq, List.cons.injEq] at htr
    obtain ⟨rfl, rfl⟩ := htr
    obtain ⟨k1, k2⟩ := okK_cons hk
    have key := a4 ops dr nt m k r hx M w0 D0 D a w hs (hid x (by simp)) (wpList P ops Q rest) Q (fun D' a' w' hs' hun => by
      refine b4 ops dr nt m _ rest hl' k1 M w0 D0 D' a' w' hs' (fun y hy hmk => ?_) Q hQ
      rw [a1]
      obtain ⟨e1, e2⟩ := hid y (by simp [hy]) hmk
      exact ⟨Nat.lt_of_lt_of_le e1 a3, hun _ (Nat.le_add_right _ _) e1 e2 (fun h => (k2 y hy hmk).1 (by omega))⟩)
    unfold wpList
    split
    · rename_i hw; rw [if_pos hw] at key; exact .inl key
    · rename_i hw; rw [if_neg hw] at key; exact key
theorem trC_inv {nt : Nat} {cc : Code} {c : C} (h : trC P ν nt cc = some c) : match c with
    | .skip => cc = .skip
    | .reg d m l => ∃ id ops, cc = .region id ops d ∧ trOps P ν ops d nt m 0 ops.toList = some l
    | .seq x y => ∃ a b, cc = .seq a b ∧ trC P ν nt a = some x ∧ trC P ν nt b = some y
    | .cond s x y => ∃ o a b, cc = .cond o a b ∧ trS o = some s ∧ trC P ν nt a = some x ∧ trC P ν nt b = some y
    | .block id x => ∃ a, cc = .block id a ∧ trC P ν nt a = some x
    | .loop x => ∃ a, cc = .loop a ∧ trC P ν nt a = some x
    | .exit id => cc = .exit id
    | .ret => cc = .ret
    | .lib _ => False := by
  cases cc with
  | skip => simp only [trC, Option.some.injEq] at h; subst h; rfl
  | region id ops d =>
    simp only [trC, Option.map_eq_some_iff] at h
    obtain ⟨l, h1, rfl⟩ := h
    exact ⟨id, ops, rfl, h1⟩
  | seq a b =>
    simp only [trC] at h
    split at h <;> first | (cases h; done) | skip
    rename_i x y h1 h2
    simp only [Option.some.injEq] at h; subst h
    exact ⟨a, b, rfl, h1, h2⟩
  | cond o a b =>
    simp only [trC] at h
    split at h <;> first | (cases h; done) | skip
    rename_i s x y h1 h2 h3
    simp only [Option.some.injEq] at h; subst h
    exact ⟨o, a, b, rfl, h1, h2, h3⟩
  | block id a =>
    simp only [trC, Option.map_eq_some_iff] at h
    obtain ⟨x, h1, rfl⟩ := h
    exact ⟨a, rfl, h1⟩
  | loop a =>
    simp only [trC, Option.map_eq_some_iff] at h
    obtain ⟨x, h1, rfl⟩ := h
    exact ⟨a, rfl, h1⟩
  | exit id => simp only [trC, Option.some.injEq] at h; subst h; rfl
  | ret => simp only [trC, Option.some.injEq] at h; subst h; rfl
  | _ => simp [trC] at h
theorem loop_of [Base] {c : C} {e : Ex} {st st' : St} (hk : st'.keep = st.keep) (h : LoopOk P ν c e st st') : CodeOk P ν (.loop c) e st st' := by
  refine ⟨hk, ?_⟩
  intro nt cc htr M w0 D0 D a w hs Q hQ
  obtain ⟨cb, rfl, hb⟩ := trC_inv htr
  intro b k cs
  obtain ⟨x, a', w', q, harr⟩ := h nt cb hb M w0 D0 D a w hs Q hQ b k cs
  exact ⟨x, a', w', q, .of_steps (.one step_loop) harr⟩
theorem exOf_ne {e : Ex} (h : e ≠ .normal) : exOf e ≠ .normal := by cases e <;> simp [exOf] at h ⊢
theorem then_of {next : Act → World → Prop} {Q : Exit → Act → World → Prop} {e : Ex} (h : e ≠ .normal) {a : Act} {w : World} (hq : Q (exOf e) a w) : Exit.then next Q (exOf e) a w := by
  cases e <;> first | (simp at h; done) | exact hq
def getRes (tmps : Array Value) : ResultVar → Sem Value
  | .tmp t => pure (tmps.getD t undef)
  | .cell q t => do loadVar t (← asAddr (tmps.getD q undef))
theorem results_eq (fn : Func) (tmps : Array Value) : results fn tmps = (do let vs ← fn.results.mapM (getRes tmps); pure (if h : vs.size = 1 then vs[0] else .tuple vs)) := rfl
theorem fnOk_lib [Base] (hT : Fits P ν T) {f : Nat} {args : List V} {σ : Store} {F : Fn} {o : OutF} {r : V} {σ' : Store} (hf : T f = some F) (hb : F.body = .lib o) (h : o.sem args σ r σ') : FnOk P ν f args σ r σ' := by
  intro fid hfid w M D vals hv hS
  rcases hT fid f F hfid hf with ⟨fn, hfn, htr⟩ | ⟨o', e, hO⟩
  · exact (trFn_lib htr hb).elim
  · rw [hb] at e
    cases e
    exact hO args σ r σ' h w M D vals hv hS
theorem fnOk_fn [Base] (hT : Fits P ν T) {f : Nat} {args : List V} {σ : Store} {F : Fn} {e : Ex} {st' : St} {rs : List V} (hf : T f = some F) (hl : args.length = F.nargs) (hnl : ∀ o, F.body ≠ .lib o)
    (ih : CodeOk P ν F.body e (St.enter args σ) st') (he : e = .normal ∨ e = .ret) (hr : F.res.mapM (Res.get st') = some rs) : FnOk P ν f args σ (packRes rs) st'.objs := by
  intro fid hfid w M D vals hv hS
  rcases hT fid f F hfid hf with ⟨fn, hfn, htr⟩ | ⟨o, e, _⟩
  case inr => exact (hnl o e).elim
  unfold trFn at htr
  split at htr <;> first | (cases htr; done) | skip
  rename_i body hbody
  split at htr <;> first | (cases htr; done) | skip
  rename_i b rs' hb hrs'
  split at htr <;> first | (cases htr; done) | skip
  rename_i hle
  simp only [Option.some.injEq] at htr; subst htr
  have hvl : vals.size = args.length := by simpa using (rdL_length _ _ hv).symm
  refine calls_of_wp hfn hbody ?_
  have hs0 : SR fn.ntmps M w D (St.enter args σ) D { tmps := vals ++ Array.replicate (fn.ntmps - vals.size) undef, defers := [] } w := by
    refine ⟨?_, ?_, rfl, hS, Gr.refl _ _, fun o d h => .inl ⟨o, d, h, rfl⟩, fun o _ => DSle.refl _⟩
    · intro t
      simp only [St.enter]
      by_cases ht : t < args.length
      · obtain ⟨y, h1, h2⟩ := rdL_get _ _ hv t args[t] (by simp [ht])
        have e1 : argE args t = args[t] := by simp [argE, ht]
        rw [e1]
        have e2 : (vals ++ Array.replicate (fn.ntmps - vals.size) undef).getD t undef = y := by
          rw [Array.getD_eq_getD_getElem?, Array.getElem?_append_left (by omega)]
          rw [← Array.getElem?_toList, h1]; rfl
        rw [e2]; exact h2
      · have e1 : argE args t = .any := by simp [argE, List.getD, List.getElem?_eq_none (Nat.le_of_not_lt ht)]
        rw [e1]; simp only [rd]
    · simp only [Array.size_append, Array.size_replicate]; simp only [] at hl; omega
  refine ih.2 fn.ntmps body hb M w D D _ w hs0 _ ?_
  intro D' a' w' hs'
  have hres : ∃ v, (results fn a'.tmps).run P w' = .ok v w' ∧ rd w' D' (XS M D') (packRes rs) v := by
    have hlist : ∀ (vars : List ResultVar) (rl : List Res) (vl : List V), vars.mapM (trRes P) = some rl → rl.mapM (Res.get st') = some vl →
        ∃ ys : List Value, (vars.mapM (getRes a'.tmps)).run P w' = .ok ys w' ∧ rdL w' D' (XS M D') vl ys := by
      intro vars
      induction vars with
      | nil => intro rl vl h1 h2; simp at h1; subst h1; simp at h2; subst h2; exact ⟨[], by simp, by simp [rdL]⟩
      | cons x vars ihv =>
        intro rl vl h1 h2
        simp only [List.mapM_cons, Option.pure_def, Option.bind_eq_bind, Option.bind_eq_some_iff, Option.some.injEq] at h1
        obtain ⟨r, hr1, rl', hr2, rfl⟩ := h1
        simp only [List.mapM_cons, Option.pure_def, Option.bind_eq_bind, Option.bind_eq_some_iff, Option.some.injEq] at h2
        obtain ⟨z, hz1, vl', hz2, rfl⟩ := h2
        obtain ⟨ys, k1, k2⟩ := ihv rl' vl' hr2 hz2
        cases x with
        | tmp t =>
          simp only [trRes, Option.some.injEq] at hr1; subst hr1
          simp only [Res.get, Option.some.injEq] at hz1; subst hz1
          refine ⟨a'.tmps.getD t undef :: ys, ?_, by simp only [rdL]; exact ⟨_, _, rfl, hs'.env t, k2⟩⟩
          have hg : (getRes a'.tmps (.tmp t)).run P w' = .ok (a'.tmps.getD t undef) w' := rfl
          simp only [List.mapM_cons, Sem.run_bind, Sem.run_pure, Result.andThen_ok, k1, hg]
        | cell q t =>
          simp only [trRes, Option.map_eq_some_iff] at hr1
          obtain ⟨⟨n, g⟩, hg, rfl⟩ := hr1
          simp only [Res.get] at hz1
          split at hz1 <;> first | (cases hz1; done) | skip
          rename_i row off hrow
          obtain ⟨u, j1, j2⟩ := run_load_agg hs'.store hg hrow (hs'.env q) hz1
          obtain ⟨bl, oo, hptr, _⟩ := rowAt_rd hs'.store hrow (hs'.env q)
          refine ⟨u :: ys, ?_, by simp only [rdL]; exact ⟨_, _, rfl, j2, k2⟩⟩
          have j1' : (loadVar t ⟨bl, oo + off, none⟩).run P w' = .ok u w' := by
            rw [hptr] at j1
            simpa [Instr.loadAt, Instr.sureAddr] using j1
          have hg : (getRes a'.tmps (.cell q t)).run P w' = .ok u w' := by
            simp only [getRes, hptr, asAddr, Sem.run_bind, Sem.run_pure, Result.andThen_ok, j1']
          simp only [List.mapM_cons, Sem.run_bind, Sem.run_pure, Result.andThen_ok, k1, hg]
    obtain ⟨ys, k1, k2⟩ := hlist fn.results.toList rs' rs hrs' hr
    refine ⟨if h : ys.toArray.size = 1 then ys.toArray[0] else .tuple ys.toArray, ?_, ?_⟩
    · have : (fn.results.mapM (getRes a'.tmps)).run P w' = .ok ys.toArray w' := by
        rw [← Array.toArray_toList (xs := fn.results), List.mapM_toArray, Sem.run_map, k1]; rfl
      rw [results_eq]
      simp only [Sem.run_bind, this, Result.andThen_ok, Sem.run_pure]
    · have hlen := rdL_length _ _ k2
      have gen : ∀ (rs : List V) (ys : List Value), rdL w' D' (XS M D') rs ys → rs.length = ys.length → rd w' D' (XS M D') (packRes rs) (if h : ys.toArray.size = 1 then ys.toArray[0] else .tuple ys.toArray) := by
        intro rs ys h hl
        cases rs with
        | nil =>
          cases ys with
          | nil => simp only [packRes]; rw [dif_neg (by simp)]; simp only [rd]; exact ⟨_, rfl, h⟩
          | cons y ys => simp at hl
        | cons x xs =>
          cases ys with
          | nil => simp at hl
          | cons y ys =>
            cases xs with
            | nil =>
              cases ys with
              | nil =>
                simp only [rdL] at h
                obtain ⟨y', ys', h0, h1, h2⟩ := h
                cases h0
                simpa [packRes] using h1
              | cons y' ys => simp at hl
            | cons x' xs =>
              cases ys with
              | nil => simp at hl
              | cons y' ys =>
                simp only [packRes]
                rw [dif_neg (by simp)]
                simp only [rd]
                exact ⟨_, rfl, h⟩
      exact gen rs ys k2 hlen
  obtain ⟨v, hv1, hv2⟩ := hres
  have hfin : bodyPost P fn (Post M D w σ.length (packRes rs) st'.objs) .ret a' w' :=
    ⟨hs'.df, v, hv1, v, D', rfl, hv2, hs'.store, hs'.gr, hs'.fr, fun o ho => hs'.kp o (by rw [ih.1]; exact ho)⟩
  rcases he with rfl | rfl <;> exact hfin
theorem trOps_get {ops : Array Oper} {dr : Bool} {nt m : Nat} : ∀ {k : Nat} {rest : List Oper} {l : List OpI}, trOps P ν ops dr nt m k rest = some l →
    l.length = rest.length ∧ ∀ (i : Nat) (x : OpI), l[i]? = some x → ∃ o k', rest[i]? = some o ∧ trOp P ν ops dr nt m k' o = some x
  | k, [], l, h => by simp only [trOps, Option.some.injEq] at h; subst h; simp
  | k, o :: rest, l, h => by
    simp only [trOps] at h
    split at h <;> first | (cases h; done) | skip
    rename_i x hx
    split at h <;> first | (cases h; done) | skip
    rename_i l' hl'
    simp only [Option.some.injEq] at h; subst h
    obtain ⟨e1, e2⟩ := trOps_get hl'
    refine ⟨by simp [e1], fun i y hi => ?_⟩
    cases i with
    | zero => simp at hi; subst hi; exact ⟨o, k, rfl, hx⟩
    | succ i => simpa using e2 i y (by simpa using hi)
theorem trOp_aft {ops : Array Oper} {nt m k : Nat} {o : Oper} {x : OpI} (h : trOp P ν ops true nt m k o = some x) : x.aft = trAft o := by
  unfold trOp at h
  split at h <;> first | (cases h; done) | skip
  split at h <;> first | (cases h; done) | skip
  simp only [Option.some.injEq] at h; subst h
  rfl
theorem ready_iff [Base] {ops : Array Oper} {nt m : Nat} {l : List OpI} (h : trOps P ν ops true nt m 0 ops.toList = some l) {done : List Nat} {listed : Array Bool} (hs : listed.size = ops.size)
    (hl : ∀ i, listed.getD i false = true ↔ i ∈ done) {i : Nat} : i ∈ Region.ready .any ops listed ↔ readyB l done i = true := by
  obtain ⟨e1, e2⟩ := trOps_get h
  rw [mem_ready]
  have hlt : ∀ {i : Nat}, i < ops.size → (listed.getD i true = false ↔ i ∉ done) := by
    intro i hi
    have : listed.getD i true = listed.getD i false := by
      rw [Array.getD_eq_getD_getElem?, Array.getD_eq_getD_getElem?, Array.getElem?_eq_getElem (by omega)]; rfl
    rw [this]
    constructor
    · intro h1 h2; rw [(hl i).2 h2] at h1; cases h1
    · intro h1
      cases hb : listed.getD i false with
      | false => rfl
      | true => exact absurd ((hl i).1 hb) h1
  constructor
  · rintro ⟨h1, o, ho, h2⟩
    have hi := (Array.getElem?_eq_some_iff.1 ho).1
    have hil : i < l.length := by rw [e1]; simpa using hi
    obtain ⟨o', k', ho', hx⟩ := e2 i l[i] (by simp [hil])
    have : o' = o := by rw [Array.getElem?_toList] at ho'; rw [ho] at ho'; exact (Option.some.inj ho').symm
    subst this
    unfold readyB
    rw [List.getElem?_eq_getElem hil]
    simp only [Bool.and_eq_true, Bool.not_eq_true', List.all_eq_true]
    refine ⟨?_, ?_⟩
    · have := (hlt hi).1 h1
      simpa using this
    · intro e he
      rw [trOp_aft hx] at he
      simp only [trAft, List.mem_map, List.mem_filter] at he
      obtain ⟨ed, ⟨h3, h4⟩, rfl⟩ := he
      have := h2 ed (by simpa using h3) h4
      simpa using (hl _).1 this
  · intro hr
    unfold readyB at hr
    split at hr <;> first | (cases hr; done) | skip
    rename_i x hx
    simp only [Bool.and_eq_true, Bool.not_eq_true', List.all_eq_true] at hr
    obtain ⟨o, k', ho, htr⟩ := e2 i x hx
    have ho' : ops[i]? = some o := by rwa [Array.getElem?_toList] at ho
    have hi := (Array.getElem?_eq_some_iff.1 ho').1
    refine ⟨(hlt hi).2 (by simpa using hr.1), o, ho', ?_⟩
    intro e he hb
    refine (hl _).2 ?_
    have := hr.2 e.on (by rw [trOp_aft htr]; simp only [trAft, List.mem_map, List.mem_filter]; exact ⟨e, ⟨by simpa using he, hb⟩, rfl⟩)
    simpa using this
theorem sound [Base] (hm : P.follows .mixedOrders = true) (hT : Fits P ν T) {j : Job} {o : Out} (h : Run T j o) : Sound P ν j o := by
  induction h with
  | skip st =>
    refine ⟨⟨rfl, ?_⟩, fun x h => by cases h⟩
    intro nt cc htr M w0 D0 D a w hs Q hQ
    have hc : cc = .skip := trC_inv htr
    subst hc
    exact Go.wp_skip (hQ D a w hs)
  | @reg m l st st' hk h ih =>
    obtain ⟨_, i1, i2, i3, i4⟩ := ih
    refine ⟨⟨i2, ?_⟩, fun x h => by cases h⟩
    intro nt cc htr M w0 D0 D a w hs Q hQ
    obtain ⟨id, ops, rfl, hops⟩ := trC_inv htr
    refine wp_region_list ?_
    refine i4 ops false nt m 0 ops.toList hops hk M w0 D0 D a w ⟨hs.env, hs.tm, hs.df, hs.mem m, hs.gr, hs.fr, hs.kp⟩ (fun x hx hmk => ?_) Q (fun D' a' w' h => hQ D' a' w' h)
    have hkm : x.k < m := by
      have : ∀ (l : List OpI), okK m l = true → ∀ x ∈ l, x.i.makes = true → x.k < m := by
        intro l
        induction l with
        | nil => intro _ y hy; cases hy
        | cons z l ih =>
          intro h y hy hmk
          simp only [okK, Bool.and_eq_true] at h
          rcases List.mem_cons.1 hy with rfl | hy
          · have := h.1
            rw [if_pos hmk] at this
            simp only [Bool.and_eq_true, decide_eq_true_eq] at this
            exact this.1
          · exact ih h.2 y hy hmk
      exact this l hk x hx hmk
    simp only [List.length_append, List.length_replicate]
    exact ⟨by omega, hs.store.far _ (by omega)⟩
  | @regD m l st st' hk h ih =>
    obtain ⟨_, i1, i2, i3, i4⟩ := ih
    refine ⟨⟨i2, ?_⟩, fun x h => by cases h⟩
    intro nt cc htr M w0 D0 D a w hs Q hQ
    obtain ⟨id, ops, rfl, hops⟩ := trC_inv htr
    refine wp_region_any hm ?_
    have hsd : SR nt M w0 D0 st D a { w with drawn := w.drawn + 1 } := by
      have hE : Ext w D (XS M D) { w with drawn := w.drawn + 1 } D (XS M D) := ⟨Nat.le_refl _, fun _ _ _ => rfl, fun _ _ h => h, fun _ => DSle.refl _⟩
      refine ⟨fun t => rd_mono _ _ hE (hs.env t), hs.tm, hs.df, ?_, ⟨hs.gr.size, hs.gr.os, hs.gr.tape, hs.gr.output, hs.gr.block⟩, hs.fr, hs.kp⟩
      refine ⟨fun o d ho => ?_, hs.store.alive, hs.store.inj, hs.store.far, hs.store.mlt, hs.store.tab.ext hE⟩
      obtain ⟨ob, c, e, g1, g2, g3, g4, g5, g6, g7, g8, g9, g10, g11⟩ := hs.store.live o d ho
      refine ⟨ob, c, e, g1, g2, g3, g4, g5, g6, g7, g8, g9, g10, fun i x hi => ?_⟩
      obtain ⟨k0, y, k1, k2⟩ := g11 i x hi
      exact ⟨k0, y, k1, rd_mono _ _ hE k2⟩
    refine i4 ops nt m hops hk M w0 D0 D a _ ⟨hsd.env, hsd.tm, hsd.df, hsd.mem m, hsd.gr, hsd.fr, hsd.kp⟩ (fun i x hx _ hmk => ?_) Q (fun D' a' w' h => hQ D' a' w' h) _ _ (by simp) (fun i => ?_) ?_
    · have hkm : x.k < m := okK_lt l hk x (List.mem_of_getElem? hx) hmk
      simp only [List.length_append, List.length_replicate]
      exact ⟨by omega, hsd.store.far _ (by omega)⟩
    · simp only [Array.getD_eq_getD_getElem?, Array.getElem?_replicate]
      split <;> simp
    · simp
  | @anyN l done st h =>
    refine ⟨rfl, rfl, rfl, Nat.le_refl _, ?_⟩
    intro ops nt m htr hk M w0 D0 D a w hs hid Q hQ fuel listed h1 h2 h3
    refine wpAny_done ?_ (hQ D a w hs) fuel
    apply List.eq_nil_iff_forall_not_mem.2
    intro i hi
    rw [ready_iff htr h1 h2, h i] at hi
    cases hi
  | @anyC l done st st' i0 h0 f h h' ih ih' =>
    obtain ⟨_, b1, b2, b3, _⟩ := ih' i0 h0
    obtain ⟨x0, hx0⟩ : ∃ x0, l[i0]? = some x0 := by
      unfold readyB at h0
      split at h0 <;> first | (cases h0; done) | skip
      exact ⟨_, by assumption⟩
    obtain ⟨_, a1, a2, a3, _⟩ := ih i0 x0 hx0 h0
    refine ⟨rfl, b1.trans a1, b2.trans a2, Nat.le_trans a3 b3, ?_⟩
    intro ops nt m htr hk M w0 D0 D a w hs hid Q hQ fuel listed h1 h2 h3
    have hready : ∀ i, i ∈ Region.ready .any ops listed ↔ readyB l done i = true := fun i => ready_iff htr h1 h2
    have hpos : fuel ≠ 0 := by
      rintro rfl
      have hi := (hready i0).2 h0
      have := (mem_ready.1 hi).1
      obtain ⟨_, o, ho, _⟩ := mem_ready.1 hi
      have hlt := (Array.getElem?_eq_some_iff.1 ho).1
      have hmem : false ∈ listed.toList := by
        have : listed[i0]'(by omega) = false := by
          rw [Array.getD_eq_getD_getElem?, Array.getElem?_eq_getElem (by omega)] at this
          simpa using this
        rw [← this]; simp
      have := List.count_pos_iff.2 hmem
      omega
    obtain ⟨fuel, rfl⟩ := Nat.exists_eq_succ_of_ne_zero hpos
    refine ⟨fun hnil => ?_, fun i hi => ?_⟩
    · have := (hready i0).2 h0
      rw [hnil] at this; cases this
    · have hr := (hready i).1 hi
      obtain ⟨e1, e2⟩ := trOps_get htr
      obtain ⟨_, o, ho, _⟩ := mem_ready.1 hi
      have hlt := (Array.getElem?_eq_some_iff.1 ho).1
      have hil : i < l.length := by rw [e1]; simpa using hlt
      obtain ⟨o', k', ho', hx⟩ := e2 i l[i] (by simp [hil])
      have : o' = o := by rw [Array.getElem?_toList] at ho'; rw [ho] at ho'; exact (Option.some.inj ho').symm
      subst this
      have hli : l[i]? = some l[i] := by simp [hil]
      have hnd : i ∉ done := by
        unfold readyB at hr
        rw [hli] at hr
        simp only [Bool.and_eq_true, Bool.not_eq_true'] at hr
        simpa using hr.1
      obtain ⟨_, c1, c2, c3, c4⟩ := ih i l[i] hli hr
      obtain ⟨_, d1, d2, d3, d4⟩ := ih' i hr
      have key := c4 ops true nt m k' o' hx M w0 D0 D a w hs (fun hmk => hid i l[i] hli hnd hmk) (wpAny P .any ops Q fuel (listed.setIfInBounds i true)) Q (fun D' a' w' hs' hun => by
        refine d4 ops nt m htr hk M w0 D0 D' a' w' hs' (fun j y hy hj hmk => ?_) Q hQ fuel _ (by simpa using h1) (fun j => ?_) ?_
        · simp only [List.mem_cons, not_or] at hj
          rw [c1]
          obtain ⟨g1, g2⟩ := hid j y hy hj.2 hmk
          refine ⟨Nat.lt_of_lt_of_le g1 c3, hun _ (Nat.le_add_right _ _) g1 g2 ?_⟩
          intro he
          have hne := okK_ne l hk j i y l[i] hy hli hj.1 hmk
          omega
        · rw [Array.getD_eq_getD_getElem?, Array.getElem?_setIfInBounds]
          by_cases hij : i = j
          · subst hij
            simp [h1, hlt]
          · rw [if_neg hij, ← Array.getD_eq_getD_getElem?, h2 j]
            simp only [List.mem_cons]
            constructor
            · exact .inr
            · rintro (h | h)
              · exact absurd h.symm hij
              · exact h
        · have hfi : listed[i]'(by omega) = false := by
            have := (mem_ready.1 hi).1
            rw [Array.getD_eq_getD_getElem?, Array.getElem?_eq_getElem (by omega)] at this
            simpa using this
          rw [Array.toList_setIfInBounds, List.count_set (by simpa using (by omega : i < listed.size))]
          have h4 : listed.toList[i]'(by simpa using (by omega : i < listed.size)) = false := by simpa using hfi
          have h5 : 0 < listed.toList.count false := List.count_pos_iff.2 (by rw [← h4]; exact List.getElem_mem _)
          simp only [h4, beq_self_eq_true, if_true]
          have : (true == false) = false := rfl
          simp only [this, Bool.false_eq_true, if_false]
          omega)
      unfold wpOp
      simp only [ho]
      split
      · rename_i hw; rw [if_pos hw] at key; exact .inl key
      · rename_i hw; rw [if_neg hw] at key; exact key
  | @seqN a b st st1 o h h' ih ih' =>
    cases o with
    | fn r σ => trivial
    | code e st2 =>
    obtain ⟨⟨i1, i2⟩, _⟩ := ih
    obtain ⟨⟨j1, j2⟩, _⟩ := ih'
    refine ⟨⟨j1.trans i1, ?_⟩, fun x h => by cases h⟩
    intro nt cc htr M w0 D0 D a w hs Q hQ
    obtain ⟨ca, cb, rfl, ha, hb⟩ := trC_inv htr
    refine Go.wp_seq (i2 nt ca ha M w0 D0 D a w hs _ fun D' a' w' hs' => ?_)
    exact j2 nt cb hb M w0 D0 D' a' w' hs' Q hQ
  | @seqE a b st e st1 he h ih =>
    obtain ⟨⟨i1, i2⟩, _⟩ := ih
    refine ⟨⟨i1, ?_⟩, fun x h => by cases h⟩
    intro nt cc htr M w0 D0 D a w hs Q hQ
    obtain ⟨ca, cb, rfl, ha, hb⟩ := trC_inv htr
    exact Go.wp_seq (i2 nt ca ha M w0 D0 D a w hs _ fun D' a' w' hs' => then_of he (hQ D' a' w' hs'))
  | @cond x a b st t o hx h ih =>
    cases o with
    | fn r σ => trivial
    | code e st2 =>
    obtain ⟨⟨i1, i2⟩, _⟩ := ih
    refine ⟨⟨i1, ?_⟩, fun x h => by cases h⟩
    intro nt cc htr M w0 D0 D a w hs Q hQ
    obtain ⟨oc, ca, cb, rfl, h1, ha, hb⟩ := trC_inv htr
    have hv := rd_src hs.env h1
    rw [hx] at hv
    simp only [rd] at hv
    refine Go.wp_cond hv (i2 nt _ ?_ M w0 D0 D _ w hs Q hQ)
    cases t
    · exact hb
    · exact ha
  | @block id c st e st1 h ih =>
    obtain ⟨⟨i1, i2⟩, _⟩ := ih
    refine ⟨⟨i1, ?_⟩, fun x h => by cases h⟩
    intro nt cc htr M w0 D0 D a w hs Q hQ
    obtain ⟨ca, rfl, ha⟩ := trC_inv htr
    refine Go.wp_block (i2 nt ca ha M w0 D0 D a w hs _ fun D' a' w' hs' => ?_)
    have := hQ D' a' w' hs'
    cases e with
    | normal => exact this
    | ret => exact this
    | exit id' =>
      simp only [exOf, exIn, Exit.inBlock] at this ⊢
      by_cases hid : id' = id
      · simp only [hid, if_true] at this ⊢; exact this
      · simp only [hid, if_false] at this ⊢; exact this
  | @loopN c st st1 o h h' ih ih' =>
    cases o with
    | fn r σ => trivial
    | code e st2 =>
    obtain ⟨⟨i1, i2⟩, _⟩ := ih
    obtain ⟨⟨j1, _⟩, j2⟩ := ih'
    have key : LoopOk P ν c e st st2 := by
      intro nt cc htr M w0 D0 D a w hs Q hQ b k cs
      obtain ⟨x, a1, w1, ⟨D1, hx, hs1⟩, harr⟩ := i2 nt cc htr M w0 D0 D a w hs (fun x a' w' => ∃ D', x = .normal ∧ SR nt M w0 D0 st1 D' a' w') (fun D' a' w' h => ⟨D', rfl, h⟩) b (.inLoop cc :: k) cs
      subst hx
      obtain ⟨x2, a2, w2, q2, harr2⟩ := j2 c rfl nt cc htr M w0 D0 D1 a1 w1 hs1 Q hQ b k cs
      exact ⟨x2, a2, w2, q2, .of_steps (Steps.trans harr (.one step_inLoop)) harr2⟩
    exact ⟨loop_of (j1.trans i1) key, fun x hx => by cases hx; exact key⟩
  | @loopE c st e st1 he h ih =>
    obtain ⟨⟨i1, i2⟩, _⟩ := ih
    have key : LoopOk P ν c e st st1 := by
      intro nt cc htr M w0 D0 D a w hs Q hQ b k cs
      obtain ⟨x, a1, w1, ⟨D1, hx, hs1⟩, harr⟩ := i2 nt cc htr M w0 D0 D a w hs (fun x a' w' => ∃ D', x = exOf e ∧ SR nt M w0 D0 st1 D' a' w') (fun D' a' w' h => ⟨D', rfl, h⟩) b (.inLoop cc :: k) cs
      subst hx
      exact ⟨_, a1, w1, hQ D1 a1 w1 hs1, .pass (x := .inLoop cc) rfl (fun _ _ => .inl (exOf_ne he)) harr⟩
    exact ⟨loop_of i1 key, fun x hx => by cases hx; exact key⟩
  | exit id st =>
    refine ⟨⟨rfl, ?_⟩, fun x h => by cases h⟩
    intro nt cc htr M w0 D0 D a w hs Q hQ
    have hc : cc = .exit id := trC_inv htr
    subst hc
    exact Go.wp_exit (hQ D a w hs)
  | ret st =>
    refine ⟨⟨rfl, ?_⟩, fun x h => by cases h⟩
    intro nt cc htr M w0 D0 D a w hs Q hQ
    have hc : cc = .ret := trC_inv htr
    subst hc
    exact Go.wp_ret (hQ D a w hs)
  | @gc c st o ρ hn hρ h ih =>
    cases o with
    | fn r σ => trivial
    | code e st2 =>
    obtain ⟨⟨i1, i2⟩, i3⟩ := ih
    refine ⟨⟨i1, ?_⟩, ?_⟩
    · intro nt cc htr M w0 D0 D a w hs Q hQ
      exact i2 nt cc htr M w0 D0 _ a w (hs.gc hn hρ) Q hQ
    · intro x hx nt cc htr M w0 D0 D a w hs Q hQ
      exact i3 x hx nt cc htr M w0 D0 _ a w (hs.gc hn hρ) Q hQ
  | nil st =>
    refine ⟨rfl, rfl, rfl, Nat.le_refl _, ?_⟩
    intro ops dr nt m k rest htr hk M w0 D0 D a w hs hid Q hQ
    cases rest with
    | nil => exact hQ D a w hs
    | cons r rest =>
      simp only [trOps] at htr
      split at htr <;> first | (cases htr; done) | skip
      split at htr <;> first | (cases htr; done) | skip
  | @cons o l st st1 out h h' ih ih' =>
    cases out with
    | fn r σ => trivial
    | code e st2 => exact ⟨ih'.1, opsOk_cons ih.2 ih'.2⟩
  | off hg he => exact ⟨rfl, opOk_off hg he⟩
  | op hg h => exact ⟨rfl, opOk_op hg h⟩
  | callP hg hi ha h hR ih => exact ⟨rfl, opOk_callP hg hi ha ih hR⟩
  | callR ρ hn hρ hg hi h ih => exact ⟨rfl, opOk_callR hn hρ hg hi ih⟩
  | callG hg hi ha h hR ih => exact ⟨rfl, opOk_callG hg hi ha ih hR⟩
  | callI hg hi h hl hb ih => exact ⟨rfl, opOk_callI hg hi ih hl hb⟩
  | @fn f args σ F e st' rs hf hl h he hr ih => exact fnOk_fn hT hf hl (fun o e => no_lib h o (St.enter args σ) (by rw [e])) ih.1 he hr
  | lib hf hb h => exact fnOk_lib hT hf hb h
  | frz h hr ih => exact fnOk_frz hr ih
  | gcF ρ hn hρ h ih => exact fnOk_gcF hn hρ ih
  | @forget c st st2 o he ho hk h' ih =>
    cases o with
    | fn r σ => trivial
    | code e st3 =>
    obtain ⟨⟨i1, i2⟩, i3⟩ := ih
    refine ⟨⟨i1.trans hk, ?_⟩, ?_⟩
    · intro nt cc htr M w0 D0 D a w hs Q hQ
      exact i2 nt cc htr M w0 D0 _ a w (hs.forget he ho hk) Q hQ
    · intro x hx nt cc htr M w0 D0 D a w hs Q hQ
      exact i3 x hx nt cc htr M w0 D0 _ a w (hs.forget he ho hk) Q hQ
  | @re c st st2 o W h h' ih =>
    cases o with
    | fn r σ => trivial
    | code e st3 =>
    obtain ⟨⟨i1, i2⟩, i3⟩ := ih
    refine ⟨⟨i1.trans h.keep, ?_⟩, ?_⟩
    · intro nt cc htr M w0 D0 D a w hs Q hQ
      exact i2 nt cc htr M w0 D0 _ a w (hs.re h) Q hQ
    · intro x hx nt cc htr M w0 D0 D a w hs Q hQ
      exact i3 x hx nt cc htr M w0 D0 _ a w (hs.re h) Q hQ
  | reF W ha h hs hr ih => exact fnOk_reF ha hs hr ih
  | laxF ha h hr ih => exact fnOk_laxF ha hr ih
end
end Go.Ml
end
section
set_option linter.unusedSimpArgs false
set_option linter.unusedVariables false
namespace Go.Ml
open Go.ChangeShapes Go.WideShapes Go.ChangeAt Go.RowKit
def nuOf : List (Nat × Nat × Fn) → Nat → Option Nat
  | [], _ => none
  | x :: l, i => if x.1 = i then some x.2.1 else nuOf l i
def tbOf : List (Nat × Nat × Fn) → Nat → Option Fn
  | [], _ => none
  | x :: l, k => if x.2.1 = k then some x.2.2 else tbOf l k
theorem nuOf_mem : ∀ {l : List (Nat × Nat × Fn)} {i k : Nat}, nuOf l i = some k → ∃ x ∈ l, x.1 = i ∧ x.2.1 = k
  | [], _, _, h => by simp [nuOf] at h
  | x :: l, i, k, h => by
    simp only [nuOf] at h
    split at h
    · rename_i e; exact ⟨x, by simp, e, by simpa using h⟩
    · obtain ⟨y, hy, e⟩ := nuOf_mem h; exact ⟨y, by simp [hy], e⟩
theorem tbOf_mem : ∀ {l : List (Nat × Nat × Fn)} {k : Nat} {F : Fn}, tbOf l k = some F → ∃ x ∈ l, x.2.1 = k ∧ x.2.2 = F
  | [], _, _, h => by simp [tbOf] at h
  | x :: l, i, k, h => by
    simp only [tbOf] at h
    split at h
    · rename_i e; exact ⟨x, by simp, e, by simpa using h⟩
    · obtain ⟨y, hy, e⟩ := tbOf_mem h; exact ⟨y, by simp [hy], e⟩
theorem eq_of_nodup_map {α β : Type} {f : α → β} : ∀ {l : List α}, (l.map f).Nodup → ∀ {x y}, x ∈ l → y ∈ l → f x = f y → x = y
  | [], _, _, _, h, _, _ => by cases h
  | a :: l, hn, x, y, hx, hy, e => by
    simp only [List.map_cons, List.nodup_cons] at hn
    rcases List.mem_cons.1 hx with rfl | hx' <;> rcases List.mem_cons.1 hy with rfl | hy'
    · rfl
    · exact absurd (e ▸ List.mem_map_of_mem hy') hn.1
    · exact absurd (e ▸ List.mem_map_of_mem hx') hn.1
    · exact eq_of_nodup_map hn.2 hx' hy' e
theorem fits_of [Base] {P : Program} {l : List (Nat × Nat × Fn)} (hnd : (l.map (·.2.1)).Nodup) (h : ∀ x ∈ l, (∃ fn, P.funcs[x.1]? = some fn ∧ trFn P (nuOf l) fn = some x.2.2) ∨ ∃ o, x.2.2.body = .lib o ∧ OutOk P x.1 o) : Fits P (nuOf l) (tbOf l) := by
  intro fid f F h1 h2
  obtain ⟨x, hx, e1, e2⟩ := nuOf_mem h1
  obtain ⟨y, hy, e3, e4⟩ := tbOf_mem h2
  have : x = y := eq_of_nodup_map hnd hx hy (e2.trans e3.symm)
  subst this
  rw [← e1, ← e4]
  exact h x hx
theorem calls_of [Base] {P : Program} {l : List (Nat × Nat × Fn)} (hm : P.follows .mixedOrders = true) (hT : Fits P (nuOf l) (tbOf l)) {f fid : Nat} {args : List V} {r : V} (h : PF (tbOf l) f args r) (hf : nuOf l fid = some f)
    {w : World} (hw : Base.w0.heap.size ≤ w.heap.size ∧ ∀ b, b < Base.w0.heap.size → w.heap[b]? = Base.w0.heap[b]?) {vals : Array Value} (hr : rdL w DM.none (fun _ => False) args vals.toList) :
    Calls P fid vals w fun e w' => (∃ v D X, e = .returned v ∧ rd w' D X r v) ∧ Below w.heap.size w w' := by
  have hs := sound hm hT h
  have hX : XS (fun _ => False) DM.none = fun _ => False := by
    funext b; simp [XS, DM.none]
  refine (hs fid hf w (fun _ => False) DM.none vals (by rw [hX]; exact hr) ⟨?_, ?_, ?_, ?_, ?_, fun b hb => ⟨Nat.lt_of_lt_of_le hb hw.1, by rw [hX]; exact id, hw.2 b hb⟩⟩).mono fun e w' hp => ?_
  · intro o d h; cases h
  · intro o ob h; simp [objAt] at h
  · intro o o' d d' h; cases h
  · intro o _; rfl
  · intro b h; exact h.elim
  · obtain ⟨v, D', e1, e2, e3, e4, _⟩ := hp
    refine ⟨⟨v, D', _, e1, e2⟩, ⟨e4.os, e4.tape, e4.output, e4.size, fun k hk => e4.block k hk ?_⟩⟩
    rintro ⟨o, d, h, _⟩; cases h
theorem calls_true [Base] {P : Program} {l : List (Nat × Nat × Fn)} (hm : P.follows .mixedOrders = true) (hT : Fits P (nuOf l) (tbOf l)) {f fid : Nat} {args : List V} (h : PF (tbOf l) f args (.bool true)) (hf : nuOf l fid = some f)
    {w : World} (hw : Base.w0.heap.size ≤ w.heap.size ∧ ∀ b, b < Base.w0.heap.size → w.heap[b]? = Base.w0.heap[b]?) {vals : Array Value} (hr : rdL w DM.none (fun _ => False) args vals.toList) :
    Calls P fid vals w fun e w' => e = .returned (.bool true) ∧ Below w.heap.size w w' :=
  (calls_of hm hT h hf hw hr).mono fun e w' hp => by
    obtain ⟨⟨v, D, X, rfl, e2⟩, hb⟩ := hp
    have : v = .bool true := by simpa [rd] using e2
    exact ⟨by rw [this], hb⟩
end Go.Ml
end
section
set_option linter.unusedSimpArgs false
set_option linter.unusedVariables false
namespace Go.Ml
open Go.ChangeShapes Go.WideShapes Go.ChangeAt Go.RowKit
inductive Lf where
  | int (k : IntKind)
  | bool
  | str
  | sl (row : List Lf)
mutual
def Mt : Lf → V → Prop
  | .int k, v => ∃ n, v = .int k n ∧ (Lit.int k n).wf = true
  | .bool, v => ∃ b, v = .bool b
  | .str, v => ∃ s, v = .str s ∧ s.length ≤ maxLen
  | .sl row, v => ∃ rows : List (List V), v = .sl row.length rows ∧ rows.length ≤ maxLen ∧ ∀ r ∈ rows, MtL row r
def MtL : List Lf → List V → Prop
  | [], vs => vs = []
  | l :: ls, vs => ∃ v vs', vs = v :: vs' ∧ Mt l v ∧ MtL ls vs'
end
def shFs (P : Program) (sh : TypeId → Option (List Lf)) : List Field → Nat → Option (List Lf)
  | [], _ => some []
  | f :: fs, off => match sh f.type, shFs P sh fs (off + P.cellsOf f.type) with
    | some r, some rs => if f.offset = off ∧ r.length = P.cellsOf f.type then some (r ++ rs) else none
    | _, _ => none
def shapeOf (P : Program) : Nat → TypeId → Option (List Lf)
  | 0, _ => none
  | n + 1, t => match P.underlying t with
    | some (.int k) => some [.int k]
    | some .bool => some [.bool]
    | some .string => some [.str]
    | some (.slice e) => match shapeOf P n e with
      | some r => if r.length = P.cellsOf e ∧ 0 < r.length then some [.sl r] else none
      | none => none
    | some (.struct fs) => match shFs P (shapeOf P n) fs.toList 0 with
      | some r => if r.length = P.cellsOf t then some r else none
      | none => none
    | _ => none
theorem mtL_append {l1 l2 : List Lf} {v1 v2 : List V} (h1 : MtL l1 v1) (h2 : MtL l2 v2) : MtL (l1 ++ l2) (v1 ++ v2) := by
  induction l1 generalizing v1 with
  | nil => simp only [MtL] at h1; subst h1; simpa using h2
  | cons l l1 ih =>
    simp only [MtL] at h1
    obtain ⟨v, vs, rfl, a, b⟩ := h1
    simp only [List.cons_append, MtL]
    exact ⟨v, vs ++ v2, rfl, a, ih b⟩
theorem mtL_len {l : List Lf} {v : List V} (h : MtL l v) : v.length = l.length := by
  induction l generalizing v with
  | nil => simp only [MtL] at h; subst h; rfl
  | cons x l ih =>
    simp only [MtL] at h
    obtain ⟨v, vs, rfl, a, b⟩ := h
    simp [ih b]
theorem mt_leaf : ∀ {l : Lf} {v : V}, Mt l v → v.leaf = true := by
  intro l v h
  cases l <;> simp only [Mt] at h
  · obtain ⟨n, rfl, _⟩ := h; rfl
  · obtain ⟨b, rfl⟩ := h; rfl
  · obtain ⟨s, rfl, _⟩ := h; rfl
  · obtain ⟨rows, rfl, _⟩ := h; rfl
theorem mtL_leaf {l : List Lf} {v : List V} (h : MtL l v) : ∀ x ∈ v, x.leaf = true := by
  induction l generalizing v with
  | nil => simp only [MtL] at h; subst h; intro x hx; cases hx
  | cons y l ih =>
    simp only [MtL] at h
    obtain ⟨v, vs, rfl, a, b⟩ := h
    intro x hx
    rcases List.mem_cons.1 hx with rfl | hx
    · exact mt_leaf a
    · exact ih b x hx
theorem rdRows_of {w : World} {D : DM} {X : Nat → Prop} {b sz : Nat} : ∀ (off : Nat) (rows : List (List V)),
    (∀ i r, rows[i]? = some r → r.length = sz ∧ rdCells w D X b (off + i * sz) r) → rdRows w D X b sz off rows
  | _, [], _ => by simp [rdRows]
  | off, r :: rows, h => by
    simp only [rdRows]
    have h0 := h 0 r rfl
    refine ⟨h0.1, by simpa using h0.2, rdRows_of (off + sz) rows fun i r' hi => ?_⟩
    have := h (i + 1) r' (by simpa using hi)
    rwa [show off + (i + 1) * sz = off + sz + i * sz by rw [Nat.succ_mul]; omega] at this
theorem rdCells_of_rdL {w : World} {D : DM} {X : Nat → Prop} {b : Nat} : ∀ (off : Nat) (vs : List V) (cs : List Value), rdL w D X vs cs → (∀ x ∈ vs, x.leaf = true) →
    (∀ i, i < cs.length → w.cell? ⟨b, off + i, none⟩ = cs[i]?) → rdCells w D X b off vs
  | _, [], _, _, _, _ => by simp [rdCells]
  | off, v :: vs, cs, h, hl, hc => by
    simp only [rdL] at h
    obtain ⟨y, ys, rfl, h1, h2⟩ := h
    simp only [rdCells]
    refine ⟨hl v (by simp), ⟨y, by simpa using hc 0 (by simp), h1⟩, rdCells_of_rdL (off + 1) vs ys h2 (fun x hx => hl x (by simp [hx])) fun i hi => ?_⟩
    have := hc (i + 1) (by simpa using hi)
    rw [show off + 1 + i = off + (i + 1) by omega, this]
    simp
section
variable {H : Type} {enc : TypeId × Value → H} {P : Program} {w : World}
theorem shape_rd : ∀ (n : Nat) {t : TypeId} {L : List Lf} {fuel : Nat} {cs : List Value} {x : DataW H × List MemPlace}, shapeOf P n t = some L →
    DataW.trod enc P w 0 (fun _ => true) true fuel t cs = some x → ∃ vs, MtL L vs ∧ rdL w DM.none (fun _ => False) vs cs
  | 0, t, L, fuel, cs, x, h, _ => by simp [shapeOf] at h
  | n + 1, t, L, fuel, cs, x, h, hx => by
    cases fuel with
    | zero => simp [DataW.trod] at hx
    | succ fuel =>
    simp only [shapeOf] at h
    split at h
    · rename_i k hu
      simp only [Option.some.injEq] at h; subst h
      obtain ⟨m, rfl, _, hw⟩ := DataW.trod_int hu hx
      exact ⟨[.int k m], by simp [MtL, Mt, hw], by simp [rdL, rd]⟩
    · rename_i hu
      simp only [Option.some.injEq] at h; subst h
      rw [DataW.trod_step] at hx
      unfold DataW.trodStep at hx
      rw [hu] at hx
      split at hx <;> simp_all
      rename_i b
      exact ⟨[.bool b], by simp [MtL, Mt], by simp [rdL, rd]⟩
    · rename_i hu
      simp only [Option.some.injEq] at h; subst h
      rw [DataW.trod_step] at hx
      unfold DataW.trodStep at hx
      rw [hu] at hx
      split at hx <;> simp_all
      rename_i s
      exact ⟨[.str s.data.toList], by simp [MtL, Mt]; exact hx.1, by simp [rdL, rd]⟩
    · rename_i e hu
      split at h <;> first | (cases h; done) | skip
      rename_i r hr
      split at h <;> first | (cases h; done) | skip
      rename_i hsz
      simp only [Option.some.injEq] at h; subst h
      rcases DataW.trod_slice hu hx with ⟨rfl, _⟩ | ⟨a, len, cap, elems, rest, m, _, rfl, _, hb, hl, hm, hlen, hel, _, _⟩
      · exact ⟨[.sl r.length []], by simp [MtL, Mt], by simp only [rdL, rd]; exact ⟨_, [], rfl, ⟨none, 0, rfl, Nat.le_refl _, .inl (by trivial)⟩, rfl⟩⟩
      · have hel' : ∀ i, i < len → ∃ cs', w.cells? 0 (a.add (i * P.cellsOf e)) (P.cellsOf e) = some cs' ∧ ∃ vs, MtL r vs ∧ rdL w DM.none (fun _ => False) vs cs' := by
          intro i hi
          have h1 := hel i hi
          have h2 : elems[i]? = some (elems[i]'(by omega)) := List.getElem?_eq_getElem (by omega)
          rw [h2, Option.bind_eq_some_iff] at h1
          obtain ⟨cs', k1, k2⟩ := h1
          exact ⟨cs', k1, shape_rd n hr k2⟩
        have hch : ∀ i, ∃ p : List Value × List V, i < len → w.cells? 0 (a.add (i * P.cellsOf e)) (P.cellsOf e) = some p.1 ∧ MtL r p.2 ∧ rdL w DM.none (fun _ => False) p.2 p.1 := by
          intro i
          by_cases hi : i < len
          · obtain ⟨cs', k1, vs, k2, k3⟩ := hel' i hi
            exact ⟨(cs', vs), fun _ => ⟨k1, k2, k3⟩⟩
          · exact ⟨([], []), fun h => absurd h hi⟩
        obtain ⟨f, hf⟩ := Classical.axiomOfChoice hch
        have hrow : ∀ i vs, ((List.range len).map fun i => (f i).2)[i]? = some vs → i < len ∧ vs = (f i).2 := by
          intro i vs hi
          rw [List.getElem?_map, Option.map_eq_some_iff] at hi
          obtain ⟨j, h1, h2⟩ := hi
          obtain ⟨h3, h4⟩ := List.getElem?_eq_some_iff.1 h1
          rw [List.getElem_range] at h4
          subst h4
          exact ⟨by simpa using h3, h2.symm⟩
        refine ⟨[.sl r.length ((List.range len).map fun i => (f i).2)], ?_, ?_⟩
        · simp only [MtL, Mt]
          refine ⟨_, [], rfl, ⟨_, rfl, by simp; exact Nat.le_trans hl hm, fun rr hrr => ?_⟩, rfl⟩
          obtain ⟨i, hi⟩ := List.mem_iff_getElem?.1 hrr
          obtain ⟨h1, rfl⟩ := hrow i rr hi
          exact (hf i h1).2.1
        · simp only [rdL, rd]
          refine ⟨_, [], rfl, ⟨some a, cap, by simp, by simpa using hl, ?_⟩, rfl⟩
          by_cases h0 : len = 0
          · left; subst h0; rfl
          · right
            obtain ⟨b, off, spot⟩ := a
            have hspot : spot = none := by
              obtain ⟨_, _, hc⟩ := World.cells?_some (hf 0 (by omega)).1
              have hlen0 := (World.cells?_some (hf 0 (by omega)).1).2.1
              have hc0 := hc 0 (by omega)
              have hlt0 : 0 < (f 0).1.length := by omega
              rw [List.getElem?_eq_getElem hlt0] at hc0
              simpa [Addr.add] using World.cell?_spot hc0
            subst hspot
            have hb' : b < w.heap.size := by
              have := World.cells?_block (hf 0 (by omega)).1 (by omega)
              simpa [Addr.add] using this
            refine ⟨b, off, rfl, hb', fun h => h, rdRows_of _ _ fun i rr hi => ?_⟩
            obtain ⟨h1, rfl⟩ := hrow i rr hi
            obtain ⟨g1, g2, g3⟩ := hf i h1
            obtain ⟨_, hl2, hc⟩ := World.cells?_some g1
            refine ⟨mtL_len g2, rdCells_of_rdL _ _ _ g3 (mtL_leaf g2) fun j hj => ?_⟩
            have := hc j (by omega)
            rw [← this, hsz.1]
            congr 1
            simp only [addr_add]
    · rename_i fs hu
      split at h <;> first | (cases h; done) | skip
      rename_i r hr
      split at h <;> first | (cases h; done) | skip
      rename_i hsz
      simp only [Option.some.injEq] at h; subst h
      rw [DataW.trod_step] at hx
      unfold DataW.trodStep at hx
      rw [hu] at hx
      simp only [] at hx
      split at hx <;> first | (cases hx; done) | skip
      rename_i hlen
      rw [Option.map_eq_some_iff] at hx
      obtain ⟨xs, hxs, _⟩ := hx
      have key : ∀ (fl : List Field) (off : Nat) (r : List Lf) (xs : List (DataW H × List MemPlace)), shFs P (shapeOf P n) fl off = some r →
          (fl.mapM fun f => DataW.trod enc P w 0 (fun _ => true) true fuel f.type ((cs.drop f.offset).take (P.cellsOf f.type))) = some xs →
          ∃ vs, MtL r vs ∧ rdL w DM.none (fun _ => False) vs ((cs.drop off).take r.length) := by
        intro fl
        induction fl with
        | nil =>
          intro off r xs h _
          simp only [shFs, Option.some.injEq] at h; subst h
          exact ⟨[], by simp [MtL], by simp [rdL]⟩
        | cons f fl ih =>
          intro off r xs h hm
          simp only [shFs] at h
          split at h <;> first | (cases h; done) | skip
          rename_i r1 rs h1 h2
          split at h <;> first | (cases h; done) | skip
          rename_i hc
          simp only [Option.some.injEq] at h; subst h
          simp only [List.mapM_cons, Option.pure_def, Option.bind_eq_bind, Option.bind_eq_some_iff, Option.some.injEq] at hm
          obtain ⟨y, hy, ys, hys, rfl⟩ := hm
          obtain ⟨v1, a1, a2⟩ := shape_rd n h1 hy
          obtain ⟨v2, b1, b2⟩ := ih _ rs ys h2 hys
          refine ⟨v1 ++ v2, mtL_append a1 b1, ?_⟩
          have e : (cs.drop off).take (r1 ++ rs).length = (cs.drop off).take r1.length ++ (cs.drop (off + P.cellsOf f.type)).take rs.length := by
            rw [List.length_append, List.take_add, List.drop_drop, hc.2]
          rw [e]
          rw [hc.1, ← hc.2] at a2
          exact rdL_append _ _ _ _ a2 b2
      obtain ⟨vs, a1, a2⟩ := key fs.toList 0 r xs hr hxs
      refine ⟨vs, a1, ?_⟩
      rw [List.drop_zero, List.take_of_length_le (by omega)] at a2
      exact a2
    · cases h
theorem shape_in (n : Nat) {t : TypeId} {L : List Lf} {v : Value} {d : DataW H} {ps : List MemPlace} (hs : shapeOf P n t = some L) (h : DataW.Trod enc P w 0 (fun _ => true) true t v d ps) :
    ∃ vs, MtL L vs ∧ rdL w DM.none (fun _ => False) vs v.cells.toList := by
  obtain ⟨fuel, hf⟩ := h
  exact shape_rd n hs hf
end
end Go.Ml
namespace Go.Ml
open Go.ChangeShapes Go.WideShapes Go.ChangeAt Go.RowKit
def argV (g : Bool) (vs : List V) : V := if g = true then .agg vs else vs.headD .any
def ArgsMt : List (Bool × List Lf) → List V → Prop
  | [], vs => vs = []
  | s :: ss, vs => ∃ cs rest, vs = argV s.1 cs :: rest ∧ MtL s.2 cs ∧ ArgsMt ss rest
def argOk (P : Program) (t : TypeId) (s : Bool × List Lf) : Bool :=
  match P.underlying t with
  | some (.struct _) => s.1
  | some (.int _) | some .bool | some .string | some (.slice _) => !s.1
  | _ => false
def argsOk (P : Program) : List TypeId → List (Bool × List Lf) → Prop
  | [], ss => ss = []
  | t :: ts, ss => ∃ s rest, ss = s :: rest ∧ shapeOf P 20 t = some s.2 ∧ argOk P t s = true ∧ argsOk P ts rest
theorem args_in {H : Type} {enc : TypeId × Value → H} {P : Program} {w : World} {r : Reach} {b : Nat} : ∀ {ts : List TypeId} {ss : List (Bool × List Lf)} {vs : List Value} {ds : List (DataW H)} {ps : List MemPlace},
    argsOk P ts ss → (∀ (j : Nat) t v, ts[j]? = some t → vs[j]? = some v → Value.okWide P w r b t v) → DataW.TrodAll enc P w 0 (fun _ => true) true ts vs ds ps →
    ∃ Vs, ArgsMt ss Vs ∧ rdL w DM.none (fun _ => False) Vs vs
  | [], ss, [], ds, ps, h, _, _ => by simp only [argsOk] at h; subst h; exact ⟨[], rfl, by simp [rdL]⟩
  | [], _, _ :: _, ds, ps, _, _, ht => by cases ds <;> exact ht.elim
  | _ :: _, _, [], ds, ps, _, _, ht => by cases ds <;> exact ht.elim
  | t :: ts, ss, v :: vs, [], ps, _, _, ht => ht.elim
  | t :: ts, ss, v :: vs, d :: ds, ps, h, hw, ht => by
    simp only [argsOk] at h
    obtain ⟨s, rest, rfl, h1, h2, h3⟩ := h
    obtain ⟨p, q, k1, k2, _⟩ := ht
    obtain ⟨Vs, a1, a2⟩ := args_in h3 (fun j t' v' hj hv => hw (j + 1) t' v' (by simpa using hj) (by simpa using hv)) k2
    obtain ⟨cs, c1, c2⟩ := shape_in 20 h1 k1
    have hok := hw 0 t v rfl rfl
    refine ⟨argV s.1 cs :: Vs, ⟨cs, Vs, rfl, c1, a1⟩, ?_⟩
    simp only [rdL]
    refine ⟨v, vs, rfl, ?_, a2⟩
    unfold argOk at h2
    have one : (∀ cs', v ≠ .agg cs') → s.1 = false → s.2.length = 1 → rd w DM.none (fun _ => False) (argV s.1 cs) v := by
      intro hv hs hl
      have hvc : v.cells.toList = [v] := by cases v <;> first | rfl | (exact absurd rfl (hv _))
      rw [hvc] at c2
      have := mtL_len c1
      rw [hl] at this
      cases cs with
      | nil => simp at this
      | cons x xs =>
        simp only [rdL] at c2
        obtain ⟨y, ys, e, e2, _⟩ := c2
        simp only [List.cons.injEq] at e
        rw [hs]
        simp only [argV, Bool.false_eq_true, if_false, List.headD_cons]
        rw [e.1]; exact e2
    unfold shapeOf at h1
    split at h2
    · rename_i fs hu
      rw [h2]
      simp only [Value.okWide, hu] at hok
      obtain ⟨cs', rfl, _⟩ := hok
      simp only [argV, if_true, rd]
      exact ⟨cs', rfl, c2⟩
    · rename_i k hu
      rw [hu] at h1
      simp only [Option.some.injEq] at h1
      obtain ⟨n, rfl⟩ := okWide_int hu hok
      exact one (by intro cs' e; cases e) (by simpa using h2) (by rw [← h1]; rfl)
    · rename_i hu
      rw [hu] at h1
      simp only [Option.some.injEq] at h1
      obtain ⟨n, rfl⟩ := okWide_bool hu hok
      exact one (by intro cs' e; cases e) (by simpa using h2) (by rw [← h1]; rfl)
    · rename_i hu
      rw [hu] at h1
      simp only [Option.some.injEq] at h1
      obtain ⟨n, rfl⟩ := okWide_string hu hok
      exact one (by intro cs' e; cases e) (by simpa using h2) (by rw [← h1]; rfl)
    · rename_i e hu
      rw [hu] at h1
      simp only [] at h1
      obtain ⟨a0, l0, c0, rfl⟩ := okWide_slice hu hok
      refine one (by intro cs' e; cases e) (by simpa using h2) ?_
      split at h1 <;> first | (cases h1; done) | skip
      split at h1 <;> first | (cases h1; done) | skip
      simp only [Option.some.injEq] at h1
      rw [← h1]; rfl
    · cases h2
theorem trodAll_below {H : Type} {enc : TypeId × Value → H} {P : Program} (hl : laidOutB P = true) {W W' : World} (hb : Below W.heap.size W W') : ∀ {ts : List TypeId} {vs : List Value} {ds : List (DataW H)} {ps : List MemPlace},
    (ts.all fun t => P.readableRec t && decide (t < P.types.size)) = true → DataW.TrodAll enc P W 0 (fun _ => true) true ts vs ds ps → (∀ x ∈ ps, x.block < W.heap.size) →
    DataW.TrodAll enc P W' 0 (fun b => decide (b < W.heap.size)) true ts vs ds ps
  | [], [], [], ps, _, h, _ => h
  | [], _ :: _, ds, ps, _, ht, _ => by cases ds <;> exact ht.elim
  | [], [], _ :: _, ps, _, ht, _ => ht.elim
  | _ :: _, [], ds, ps, _, ht, _ => by cases ds <;> exact ht.elim
  | t :: ts, v :: vs, [], ps, _, ht, _ => ht.elim
  | t :: ts, v :: vs, d :: ds, ps, h, ht, hlt => by
    simp only [List.all_cons, Bool.and_eq_true, decide_eq_true_eq] at h
    obtain ⟨p, q, k1, k2, rfl⟩ := ht
    exact ⟨p, q, Below.trod hl h.1.1 h.1.2 k1 hb fun x hx => hlt x (by simp [hx]), trodAll_below hl hb (by simpa using h.2) k2 fun x hx => hlt x (by simp [hx]), rfl⟩
end Go.Ml
end
section
set_option linter.unusedSimpArgs false
set_option linter.unusedVariables false
namespace Go.Ml
open Go.Lib
theorem dD_lt {u : Nat} (h : u < 10) : decDigits u = [UInt8.ofNat (48 + u)] := by rw [decDigits, dif_pos h]
theorem dD_ge {u : Nat} (h : ¬ u < 10) : decDigits u = decDigits (u / 10) ++ [UInt8.ofNat (48 + u % 10)] := by rw [decDigits, dif_neg h]
theorem it_nn {n : Int} (h : 0 ≤ n) : itoa n = decDigits n.toNat := by unfold itoa; rw [if_neg (by omega)]
theorem it_nat (u : Nat) : itoa (u : Int) = decDigits u := by rw [it_nn (by omega)]; rfl
theorem it_neg {u : Nat} (h : 1 ≤ u) : itoa (-(u : Int)) = 45 :: decDigits u := by
  unfold itoa; rw [if_pos (by omega)]; congr 2; omega
theorem td10 (m : Nat) : (m : Int).tdiv 10 = ((m / 10 : Nat) : Int) := rfl
theorem tm10 (m : Nat) : (m : Int).tmod 10 = ((m % 10 : Nat) : Int) := rfl
theorem tdn10 (u : Nat) : (-(u : Int)).tdiv 10 = -((u / 10 : Nat) : Int) := by rw [Int.neg_tdiv]; rfl
theorem tmn10 (u : Nat) : (-(u : Int)).tmod 10 = -((u % 10 : Nat) : Int) := by rw [Int.neg_tmod]; rfl
theorem dD_len : ∀ (k u : Nat), u < 10 ^ (k + 1) → (decDigits u).length ≤ k + 1
  | 0, u, h => by rw [dD_lt (by simpa using h)]; simp
  | k + 1, u, h => by
    by_cases hu : u < 10
    · rw [dD_lt hu]; simp
    · rw [dD_ge hu]
      have := dD_len k (u / 10) (Nat.div_lt_of_lt_mul (by rw [Nat.pow_succ] at h; omega))
      simp; omega
theorem dD_pos (u : Nat) : 1 ≤ (decDigits u).length := by
  by_cases hu : u < 10
  · rw [dD_lt hu]; simp
  · rw [dD_ge hu]; simp
theorem it_len {n : Int} (h0 : -9223372036854775808 ≤ n) (h1 : n ≤ 9223372036854775807) : (itoa n).length ≤ 20 := by
  unfold itoa
  split
  · have := dD_len 18 n.natAbs (by omega)
    simp; omega
  · have := dD_len 18 n.toNat (by omega)
    omega
theorem dD_dig : ∀ (k u : Nat), u < 10 ^ (k + 1) → ∀ b ∈ decDigits u, 48 ≤ b.toNat ∧ b.toNat ≤ 57
  | k, u, h, b, hb => by
    by_cases hu : u < 10
    · rw [dD_lt hu] at hb
      simp at hb; subst hb
      simp [UInt8.toNat_ofNat']; omega
    · rw [dD_ge hu] at hb
      simp only [List.mem_append, List.mem_singleton] at hb
      rcases hb with hb | rfl
      · cases k with
        | zero => simp at h; omega
        | succ k => exact dD_dig k (u / 10) (Nat.div_lt_of_lt_mul (by rw [Nat.pow_succ] at h; omega)) b hb
      · simp [UInt8.toNat_ofNat']; omega
end Go.Ml
end
section
set_option linter.unusedSimpArgs false
set_option linter.unusedVariables false
set_option maxRecDepth 100000
set_option maxHeartbeats 4000000
namespace Go.Ml
open Lib
def F_spec_FormatInt : Fn := ⟨1, 44, [.tmp 2], (.seq (.reg false 0 [oN 2 (.mov (.c (.str [])))]) (.seq (.seq (.reg false 0 [oN 4 (oV 0), oN 5 (.bin .lss (.t 4) (cI 0))]) (.cond (.t 5) (.seq (.seq (.reg false 0 [oN 6 (oV 0), oN 7 (.bin .quo (.t 6) (cI 10)), oN 8 (.bin .eql (.t 7) (cI 0))]) (.cond (.t 8) (.seq (.reg false 1 [oK 9 1 (oV 0), oK 10 1 (.bin .sub (cI 48) (.t 9)), oK 11 1 (.conv .u8 (.t 10)), oN 12 (.mkSl 1 [.int .u8 0] 1 [(0, (.t 11))]), oK 13 1 (.bstr (.t 12)), oK 14 1 (.bin .add (.c (.str [45])) (.t 13)), oK 2 1 (oV 14)]) .ret) .skip)) (.seq (.reg true 1 [oK 15 1 (oV 0), oA 16 1 (.bin .quo (.t 15) (cI 10)) [0], oA 17 1 (.call 167 [(.t 16)]) [1], oK 18 1 (oV 0), oA 19 1 (.bin .rem (.t 18) (cI 10)) [3], oA 20 1 (.bin .sub (cI 48) (.t 19)) [4], oA 21 1 (.conv .u8 (.t 20)) [5], oA 22 0 (.mkSl 1 [.int .u8 0] 1 [(0, (.t 21))]) [6], oA 23 1 (.bstr (.t 22)) [7], oA 24 1 (.bin .add (.t 17) (.t 23)) [2, 8], oA 2 1 (oV 24) [9, 2, 0, 1, 2, 3, 4, 5, 6, 7, 8, 9]]) .ret)) .skip)) (.seq (.reg false 0 [oN 3 (.mov (.c (.str [])))]) (.seq (.block 0 (.loop (.seq (.seq (.reg false 0 [oN 25 (oV 0), oN 26 (.bin .gtr (.t 25) (cI 9))]) (.cond (.t 26) .skip (.exit 0))) (.block 1 (.seq (.reg false 1 [oK 27 1 (oV 0), oK 28 1 (.bin .rem (.t 27) (cI 10)), oK 29 1 (.bin .add (cI 48) (.t 28)), oK 30 1 (.conv .u8 (.t 29)), oN 31 (.mkSl 1 [.int .u8 0] 1 [(0, (.t 30))]), oK 32 1 (.bstr (.t 31)), oK 33 1 (oV 3), oK 34 1 (.bin .add (.t 32) (.t 33)), oK 3 1 (oV 34)]) (.reg false 0 [oN 35 (oV 0), oN 36 (.bin .quo (.t 35) (cI 10)), oN 0 (oV 36)])))))) (.seq (.reg false 1 [oK 37 1 (oV 0), oK 38 1 (.bin .add (cI 48) (.t 37)), oK 39 1 (.conv .u8 (.t 38)), oN 40 (.mkSl 1 [.int .u8 0] 1 [(0, (.t 39))]), oK 41 1 (.bstr (.t 40)), oK 42 1 (oV 3), oK 43 1 (.bin .add (.t 41) (.t 42)), oK 2 1 (oV 43)]) .ret)))))⟩
structure D_spec_FormatInt (T : Nat → Option Fn) : Prop where
  hT : T 167 = some F_spec_FormatInt
def F_strconv_Itoa : Fn := ⟨1, 1, [], .lib .itoa⟩
structure D_strconv_Itoa (T : Nat → Option Fn) : Prop where
  hT : T 404 = some F_strconv_Itoa
def F_impl_FormatInt : Fn := ⟨1, 5, [.tmp 2], (.seq (.reg false 0 [oN 2 (.mov (.c (.str [])))]) (.seq (.reg false 0 [oN 3 (oV 0), oN 4 (.call 404 [(.t 3)]), oN 2 (oV 4)]) .ret))⟩
structure D_impl_FormatInt (T : Nat → Option Fn) : Prop where
  hT : T 169 = some F_impl_FormatInt
  d_strconv_Itoa : D_strconv_Itoa T
theorem c_Itoa {T : Nat → Option Fn} (h : D_strconv_Itoa T) {n : Int} (hn : -9223372036854775808 ≤ n ∧ n ≤ 9223372036854775807) : PF T 404 [iv n] (.str (itoa n)) :=
  Run.lib h.hT rfl ⟨n, rfl, hn.1, hn.2, rfl, rfl⟩
theorem c_iFormatInt {T : Nat → Option Fn} (h : D_impl_FormatInt T) {n : Int} (hn : -9223372036854775808 ≤ n ∧ n ≤ 9223372036854775807) : PF T 169 [iv n] (.str (itoa n)) := by
  refine pf_end (fun _ _ => false) h.hT rfl rfl ?_
  dsimp only [F_impl_FormatInt, oN, oS, oG, oK, oA, oH, oV, cI]
  (refine ev ?_; try with_reducible exact True.intro)
  refine PFK_of (c_Itoa h.d_strconv_Itoa hn) ?_
  (refine ev ?_; try with_reducible exact True.intro)
theorem c_sFmtNeg {T : Nat → Option Fn} (h : D_spec_FormatInt T) (u : Nat) : 1 ≤ u → u ≤ 9223372036854775808 → PF T 167 [iv (-(u : Int))] (.str (45 :: decDigits u)) := by
  induction u using Nat.strongRecOn with
  | _ u ih =>
    intro h1 h2
    have hneg : (-(u : Int) < 0) := by omega
    by_cases hu : u < 10
    · have hz : (-((u / 10 : Nat) : Int) = 0) := by omega
      have e1 : UInt8.ofNat (48 - -(u : Int)).toNat = UInt8.ofNat (48 + u) := by congr 1; omega
      rw [dD_lt hu]
      refine pf_end (fun _ _ => false) h.hT rfl rfl ?_
      dsimp only [F_spec_FormatInt, oN, oS, oG, oK, oA, oH, oV, cI]
      (refine ev ?_; try with_reducible exact True.intro)
      (refine ev3 @hneg @tdn10 @hz ?_; try with_reducible exact True.intro)
      rw [e1]
    · have hz : ¬ (-((u / 10 : Nat) : Int) = 0) := by omega
      have e1 : UInt8.ofNat (48 - -((u % 10 : Nat) : Int)).toNat = UInt8.ofNat (48 + u % 10) := by congr 1; omega
      have hl := dD_len 19 (u / 10) (by omega)
      rw [dD_ge hu]
      refine pf_end (fun _ _ => false) h.hT rfl rfl ?_
      dsimp only [F_spec_FormatInt, oN, oS, oG, oK, oA, oH, oV, cI]
      (refine ev ?_; try with_reducible exact True.intro)
      (refine ev3 @hneg @tdn10 @hz ?_; try with_reducible exact True.intro)
      refine PFK_of (ih (u / 10) (by omega) (by omega) (by omega)) ?_
      (refine ev1 @tmn10 ?_; try with_reducible exact True.intro)
      rw [e1]
      refine ⟨by unfold OkA; decide +kernel, ?_⟩
      rfl
theorem c_sFmtPos {T : Nat → Option Fn} (h : D_spec_FormatInt T) (u : Nat) (h2 : u ≤ 9223372036854775807) : PF T 167 [iv (u : Int)] (.str (decDigits u)) := by
  have hneg : ¬ ((u : Int) < 0) := by omega
  refine pf_end (fun _ _ => false) h.hT rfl rfl ?_
  dsimp only [F_spec_FormatInt, oN, oS, oG, oK, oA, oH, oV, cI]
  (refine ev ?_; try with_reducible exact True.intro)
  (refine ev1 @hneg ?_; try with_reducible exact True.intro)
  refine loop_at (fun _ _ => false) (α := Nat × List UInt8) (fun q => ⟨argE [iv (q.1 : Nat), .any, .str [], .str q.2], [], 0, 0, [], []⟩) (fun q => q.1 ≤ u ∧ decDigits u = decDigits q.1 ++ q.2) (fun q => q.1) rfl (u, []) ?_ ?_ ?_
  · exact ⟨Nat.le_refl _, by simp⟩
  · first | ((refine Fg_env ?_) <;> (try (refine ev ?_; try with_reducible exact True.intro)) <;> (repeat' (first | refine ⟨?_, ?_⟩ | exact EvV_int (by omega) | exact EvV_of (by simp) | exact EvV_nil _)); done) | ((refine Fg_re [] (by simp) (by intro p hp; cases hp) rfl ?_) <;> (try (refine ev ?_; try with_reducible exact True.intro)) <;> (repeat' (first | exact True.intro | omega | exact CanE_ptr rfl (by simp) | refine ⟨?_, ?_⟩ | exact of_eq_true (CanE_nil _ _ _) | exact CanE_of rfl (by simp; done) | exact CanE_of rfl rfl | (refine CanE_msl rfl ?_ rfl; simp [irows]; done) | (refine CanE_msl rfl ?_ rfl; simp [irows]; omega) | (refine CanE_frz ?_ ?_; (focus ((refine ev ?_; try with_reducible exact True.intro); done)); (intro q hq k s0 l0; simp; done)))); done)
  · rintro ⟨m, s⟩ ⟨hm, hs⟩
    dsimp only at hm hs ⊢
    have hl : s.length ≤ 20 := by
      have h1 := congrArg List.length hs
      have h2 := dD_len 19 u (by omega)
      rw [List.length_append] at h1; omega
    (refine ev ?_; try with_reducible exact True.intro)
    by_cases hc : (9 : Int) < (m : Nat)
    · have e1 : UInt8.ofNat ((48 : Int) + ((m % 10 : Nat) : Int)).toNat = UInt8.ofNat (48 + m % 10) := by congr 1
      (refine ev3 @hc @tm10 @td10 ?_; try with_reducible exact True.intro)
      refine ⟨(m / 10, UInt8.ofNat (48 + m % 10) :: s), by dsimp only; omega, ⟨by dsimp only; omega, ?_⟩, ?_⟩
      · dsimp only
        rw [hs, dD_ge (by omega : ¬ m < 10), List.append_assoc]; rfl
      · rw [← e1]
        (refine Fg_re [] (by simp) (by intro p hp; cases hp) rfl ?_) <;> (try (refine ev ?_; try with_reducible exact True.intro)) <;> (repeat' (first | exact True.intro | omega | exact CanE_ptr rfl (by simp) | refine ⟨?_, ?_⟩ | exact of_eq_true (CanE_nil _ _ _) | exact CanE_of rfl (by simp; done) | exact CanE_of rfl rfl | (refine CanE_msl rfl ?_ rfl; simp [irows]; done) | (refine CanE_msl rfl ?_ rfl; simp [irows]; omega) | (refine CanE_frz ?_ ?_; (focus ((refine ev ?_; try with_reducible exact True.intro); done)); (intro q hq k s0 l0; simp; done))))
    · have e1 : UInt8.ofNat ((48 : Int) + ((m : Nat) : Int)).toNat = UInt8.ofNat (48 + m) := by congr 1
      (refine ev1 @hc ?_; try with_reducible exact True.intro)
      rw [e1, hs, dD_lt (by omega)]
      rfl
theorem c_sFormatInt {T : Nat → Option Fn} (h : D_spec_FormatInt T) {n : Int} (hn : -9223372036854775808 ≤ n ∧ n ≤ 9223372036854775807) : PF T 167 [iv n] (.str (itoa n)) := by
  by_cases h0 : n < 0
  · obtain ⟨u, rfl⟩ : ∃ u : Nat, n = -(u : Int) := ⟨n.natAbs, by omega⟩
    rw [it_neg (by omega)]
    exact c_sFmtNeg h u (by omega) (by omega)
  · obtain ⟨u, rfl⟩ : ∃ u : Nat, n = (u : Int) := ⟨n.natAbs, by omega⟩
    rw [it_nat]
    exact c_sFmtPos h u (by omega)
end Go.Ml
end
section
set_option linter.unusedSimpArgs false
set_option linter.unusedVariables false
namespace Go.Ml
def slV : Nat → V
  | 0 => .nils
  | n + 1 => .msl 0 0 (n + 1)
def slS (n : Nat) : List (List V) → Store
  | [] => []
  | r :: rs => [some ⟨n, r :: rs⟩]
theorem slV_0 : slV 0 = .nils := nr rfl
theorem slV_s (n : Nat) : slV (n + 1) = .msl 0 0 (n + 1) := nr rfl
theorem slS_snoc (n : Nat) (rows : List (List V)) (r : List V) : slS n (rows ++ [r]) = [some ⟨n, rows ++ [r]⟩] := by cases rows <;> rfl
theorem Fg_push {vs : List V} {env : Nat → V} {σ : Store} {b1 b2 n k : Nat} {r1 r2 m1 m2 : List Nat} {rows : List (List V)} {r : List V} (hs : stillR (rows ++ [r]))
    (h : objAt σ k = some ⟨n, rows ++ [r]⟩) (he : EnvCan [some (k, 0, rows.length + 1)] σ vs 0 env) : Fg ⟨argE vs, slS n (rows ++ [r]), 0, b1, r1, m1⟩ ⟨env, σ, 0, b2, r2, m2⟩ := by
  rw [slS_snoc]
  refine Fg_re [(k, ⟨n, rows ++ [r]⟩)] (by simp) ?_ rfl (by simpa using he)
  intro p hp
  simp only [List.mem_cons, List.not_mem_nil, or_false] at hp
  subst hp
  exact ⟨h, hs⟩
theorem CanE_push {σ : Store} {k l n m : Nat} (hl : l ≤ m) (e : n = l) (h0 : 0 < n) : CanE [some (k, 0, m)] σ (slV n) (.msl k 0 l) := by
  subst e
  obtain ⟨j, rfl⟩ : ∃ j, n = j + 1 := ⟨n - 1, by omega⟩
  rw [slV_s]
  exact CanE_msl rfl hl rfl
theorem pf_endL {T : Nat → Option Fn} {f : Nat} {F : Fn} {args : List V} {r : V} (rf : Nat → Nat → Bool) (hT : T f = some F) (hl : args.length = F.nargs) (hk : F.body.okC = true)
    (h : wp T rf F.body (fun e st => endK F.res e (LaxV r) st) (St.enter args [])) : PF T f args r := by
  obtain ⟨e, st', h1, h2⟩ := wp_sound hk h
  have h3 : (e = .normal ∨ e = .ret) ∧ outK F.res [] st' (LaxV r) := by
    cases e with
    | normal => exact ⟨.inl rfl, h2⟩
    | ret => exact ⟨.inr rfl, h2⟩
    | exit id => exact h2.elim
  obtain ⟨he, h3⟩ := h3
  have := outK_spec _ _ h3
  obtain ⟨rs, e1, h4⟩ := optK_spec this
  obtain ⟨r', e2, h5⟩ := optK_spec h4
  exact .laxF (laxL_refl _) (.frz (.fn hT hl h1 he e1) e2) h5
theorem irows_nil : irows [] = [] := rfl
theorem irows_cons (x : Int) (l : List Int) : irows (x :: l) = [V.int .i64 x] :: irows l := rfl
end Go.Ml
end
section
set_option linter.unusedSimpArgs false
set_option linter.unusedVariables false
set_option maxRecDepth 100000
set_option maxHeartbeats 4000000
namespace Go.Ml
def F_spec_l01In : Fn := ⟨3, 15, [.tmp 6], (.seq (.reg false 0 [oN 6 (.mov (.c (.bool false)))]) (.seq (.reg false 0 [oN 7 (oV 0), oN 8 (oV 1), oN 9 (.bin .geq (.t 7) (.t 8)), oN 10 (oV 9), oG 10 true 11 (oV 0), oG 10 true 12 (oV 2), oG 10 true 13 (.bin .leq (.t 11) (.t 12)), oN 14 (.pick (.t 10) (.t 13) (.c (.bool false))), oN 6 (oV 14)]) .ret))⟩
structure D_spec_l01In (T : Nat → Option Fn) : Prop where
  hT : T 35 = some F_spec_l01In
theorem c_l01In {T : Nat → Option Fn} (h : D_spec_l01In T) {a b c : Int} : PF T 35 [iv a, iv b, iv c] (.bool (decide (b ≤ a) && decide (a ≤ c))) := by
  refine pf_end (fun _ _ => false) h.hT rfl rfl ?_
  dsimp only [F_spec_l01In, oN, oS, oG, oK, oA, oH, oV, cI]
  (refine ev ?_; try with_reducible exact True.intro)
  by_cases h1 : b ≤ a
  · (refine ev1 @h1 ?_; try with_reducible exact True.intro)
  · (refine ev1 @h1 ?_; try with_reducible exact True.intro)
end Go.Ml
end
section
set_option linter.unusedSimpArgs false
set_option linter.unusedVariables false
set_option maxRecDepth 100000
set_option maxHeartbeats 4000000
namespace Go.Ml
def nd (a : Int) : Bool := decide (0 ≤ a) && decide (a ≤ 9)
def lkOk (l : Lk) : Bool := nd l.a && nd l.b && decide (l.a < l.b) && decide (0 < signQ l.w.q) && l.dx.ok && l.dy.ok
end Go.Ml
end
section
set_option linter.unusedSimpArgs false
namespace Go.Ml
def R.cn (r : R) : Prop := Q.raw r.q = r
def addR (r s : R) : R := Q.raw (addQ r.q s.q)
def intR (n : Int) : R := Q.raw (intQ n)
def sgnR (r : R) : Int := signQ r.q
end Go.Ml
end
section
set_option linter.unusedSimpArgs false
set_option linter.unusedVariables false
namespace Go.Ml
mutual
def OwV (σ : Store) : V → V → List Nat → Prop
  | v, .sl sz rows, os => (rows = [] ∧ v = .sl sz [] ∧ os = []) ∨ ∃ o rows' os', v = .msl o 0 rows.length ∧ objAt σ o = some ⟨sz, rows'⟩ ∧ os = o :: os' ∧ OwR σ rows' rows os'
  | v, .agg cs, os => ∃ cs', v = .agg cs' ∧ OwL σ cs' cs os
  | v, .tup cs, os => ∃ cs', v = .tup cs' ∧ OwL σ cs' cs os
  | v, .any, os => False
  | v, .one, os => False
  | v, .int k n, os => v = .int k n ∧ os = []
  | v, .bool b, os => v = .bool b ∧ os = []
  | v, .str s, os => v = .str s ∧ os = []
  | v, .nils, os => False
  | v, .msl _ _ _, os => False
  | v, .ptr _ _ _, os => False
  | v, .fptr _ _, os => False
def OwL (σ : Store) : List V → List V → List Nat → Prop
  | vs, [], os => vs = [] ∧ os = []
  | vs, t :: ts, os => ∃ v vs' o1 o2, vs = v :: vs' ∧ os = o1 ++ o2 ∧ OwV σ v t o1 ∧ OwL σ vs' ts o2
def OwR (σ : Store) : List (List V) → List (List V) → List Nat → Prop
  | vs, [], os => vs = [] ∧ os = []
  | vs, t :: ts, os => ∃ v vs' o1 o2, vs = v :: vs' ∧ os = o1 ++ o2 ∧ OwL σ v t o1 ∧ OwR σ vs' ts o2
end
section
variable {σ σ' : Store}
theorem objAt_lt {o : Nat} {ob : Obj} (h : objAt σ o = some ob) : o < σ.length := by
  rcases Nat.lt_or_ge o σ.length with k | k
  · exact k
  · rw [objAt, List.getElem?_eq_none k] at h; cases h
mutual
theorem OwV.lt : ∀ {t v : V} {os : List Nat}, OwV σ v t os → ∀ o ∈ os, o < σ.length
  | .sl sz rows, v, os, h => by
    simp only [OwV] at h
    rcases h with ⟨_, _, rfl⟩ | ⟨o, rows', os', _, h2, rfl, h3⟩
    · intro o ho; cases ho
    · intro q hq
      rcases List.mem_cons.1 hq with rfl | hq
      · exact objAt_lt h2
      · exact OwR.lt h3 q hq
  | .agg cs, v, os, h => by simp only [OwV] at h; obtain ⟨cs', _, h⟩ := h; exact OwL.lt h
  | .tup cs, v, os, h => by simp only [OwV] at h; obtain ⟨cs', _, h⟩ := h; exact OwL.lt h
  | .any, v, os, h => by simp [OwV] at h
  | .one, v, os, h => by simp [OwV] at h
  | .int .., v, os, h => by simp only [OwV] at h; rw [h.2]; intro o ho; cases ho
  | .bool _, v, os, h => by simp only [OwV] at h; rw [h.2]; intro o ho; cases ho
  | .str _, v, os, h => by simp only [OwV] at h; rw [h.2]; intro o ho; cases ho
  | .nils, v, os, h => by simp [OwV] at h
  | .msl .., v, os, h => by simp [OwV] at h
  | .ptr .., v, os, h => by simp [OwV] at h
  | .fptr .., v, os, h => by simp [OwV] at h
theorem OwL.lt : ∀ {ts vs : List V} {os : List Nat}, OwL σ vs ts os → ∀ o ∈ os, o < σ.length
  | [], vs, os, h => by simp only [OwL] at h; rw [h.2]; intro o ho; cases ho
  | t :: ts, vs, os, h => by
    simp only [OwL] at h
    obtain ⟨v, vs', o1, o2, _, rfl, h1, h2⟩ := h
    intro o ho
    rcases List.mem_append.1 ho with ho | ho
    · exact OwV.lt h1 o ho
    · exact OwL.lt h2 o ho
theorem OwR.lt : ∀ {ts vs : List (List V)} {os : List Nat}, OwR σ vs ts os → ∀ o ∈ os, o < σ.length
  | [], vs, os, h => by simp only [OwR] at h; rw [h.2]; intro o ho; cases ho
  | t :: ts, vs, os, h => by
    simp only [OwR] at h
    obtain ⟨v, vs', o1, o2, _, rfl, h1, h2⟩ := h
    intro o ho
    rcases List.mem_append.1 ho with ho | ho
    · exact OwL.lt h1 o ho
    · exact OwR.lt h2 o ho
end
mutual
theorem OwV.frame : ∀ {t v : V} {os : List Nat}, OwV σ v t os → (∀ o ∈ os, objAt σ' o = objAt σ o) → OwV σ' v t os
  | .sl sz rows, v, os, h, hf => by
    simp only [OwV] at h ⊢
    rcases h with h | ⟨o, rows', os', h1, h2, rfl, h3⟩
    · exact .inl h
    · exact .inr ⟨o, rows', os', h1, by rw [hf o (by simp)]; exact h2, rfl, OwR.frame h3 fun q hq => hf q (by simp [hq])⟩
  | .agg cs, v, os, h, hf => by simp only [OwV] at h ⊢; obtain ⟨cs', e, h⟩ := h; exact ⟨cs', e, OwL.frame h hf⟩
  | .tup cs, v, os, h, hf => by simp only [OwV] at h ⊢; obtain ⟨cs', e, h⟩ := h; exact ⟨cs', e, OwL.frame h hf⟩
  | .any, v, os, h, _ => by simp [OwV] at h
  | .one, v, os, h, _ => by simp [OwV] at h
  | .int .., v, os, h, _ => by simpa only [OwV] using h
  | .bool _, v, os, h, _ => by simpa only [OwV] using h
  | .str _, v, os, h, _ => by simpa only [OwV] using h
  | .nils, v, os, h, _ => by simp [OwV] at h
  | .msl .., v, os, h, _ => by simp [OwV] at h
  | .ptr .., v, os, h, _ => by simp [OwV] at h
  | .fptr .., v, os, h, _ => by simp [OwV] at h
theorem OwL.frame : ∀ {ts vs : List V} {os : List Nat}, OwL σ vs ts os → (∀ o ∈ os, objAt σ' o = objAt σ o) → OwL σ' vs ts os
  | [], vs, os, h, _ => by simpa only [OwL] using h
  | t :: ts, vs, os, h, hf => by
    simp only [OwL] at h ⊢
    obtain ⟨v, vs', o1, o2, e, rfl, h1, h2⟩ := h
    exact ⟨v, vs', o1, o2, e, rfl, OwV.frame h1 fun q hq => hf q (by simp [hq]), OwL.frame h2 fun q hq => hf q (by simp [hq])⟩
theorem OwR.frame : ∀ {ts vs : List (List V)} {os : List Nat}, OwR σ vs ts os → (∀ o ∈ os, objAt σ' o = objAt σ o) → OwR σ' vs ts os
  | [], vs, os, h, _ => by simpa only [OwR] using h
  | t :: ts, vs, os, h, hf => by
    simp only [OwR] at h ⊢
    obtain ⟨v, vs', o1, o2, e, rfl, h1, h2⟩ := h
    exact ⟨v, vs', o1, o2, e, rfl, OwL.frame h1 fun q hq => hf q (by simp [hq]), OwR.frame h2 fun q hq => hf q (by simp [hq])⟩
end
theorem OwV.leaf {t v : V} {os : List Nat} (h : OwV σ v t os) (hl : t.leaf = true) : v.leaf = true := by
  cases t <;> simp only [V.leaf] at hl <;> first | (cases hl; done) | skip
  all_goals simp only [OwV] at h
  all_goals first | (cases h; done) | skip
  case int => rw [h.1]; rfl
  case bool => rw [h.1]; rfl
  case str => rw [h.1]; rfl
  case sl => rcases h with ⟨_, rfl, _⟩ | ⟨_, _, _, rfl, _⟩ <;> rfl
theorem OwR.len : ∀ {ts vs : List (List V)} {os : List Nat}, OwR σ vs ts os → vs.length = ts.length
  | [], vs, os, h => by simp only [OwR] at h; simp [h.1]
  | t :: ts, vs, os, h => by
    simp only [OwR] at h
    obtain ⟨v, vs', o1, o2, rfl, _, _, h2⟩ := h
    simp [OwR.len h2]
mutual
theorem OwV.shift {n : Nat} (hn : ∀ o, objAt σ' (n + o) = (objAt σ o).map (mapO (shiftN n))) : ∀ {t v : V} {os : List Nat}, OwV σ v t os → OwV σ' (mapV (shiftN n) v) t (os.map (n + ·))
  | .sl sz rows, v, os, h => by
    simp only [OwV] at h ⊢
    rcases h with ⟨h1, rfl, rfl⟩ | ⟨o, rows', os', rfl, h2, rfl, h3⟩
    · exact .inl ⟨h1, rfl, rfl⟩
    · exact .inr ⟨n + o, _, os'.map (n + ·), rfl, by rw [hn, h2]; rfl, rfl, OwR.shift hn h3⟩
  | .agg cs, v, os, h => by simp only [OwV] at h ⊢; obtain ⟨cs', rfl, h⟩ := h; exact ⟨_, rfl, OwL.shift hn h⟩
  | .tup cs, v, os, h => by simp only [OwV] at h ⊢; obtain ⟨cs', rfl, h⟩ := h; exact ⟨_, rfl, OwL.shift hn h⟩
  | .any, v, os, h => by simp [OwV] at h
  | .one, v, os, h => by simp [OwV] at h
  | .int .., v, os, h => by simp only [OwV] at h ⊢; obtain ⟨rfl, rfl⟩ := h; exact ⟨rfl, rfl⟩
  | .bool _, v, os, h => by simp only [OwV] at h ⊢; obtain ⟨rfl, rfl⟩ := h; exact ⟨rfl, rfl⟩
  | .str _, v, os, h => by simp only [OwV] at h ⊢; obtain ⟨rfl, rfl⟩ := h; exact ⟨rfl, rfl⟩
  | .nils, v, os, h => by simp [OwV] at h
  | .msl .., v, os, h => by simp [OwV] at h
  | .ptr .., v, os, h => by simp [OwV] at h
  | .fptr .., v, os, h => by simp [OwV] at h
theorem OwL.shift {n : Nat} (hn : ∀ o, objAt σ' (n + o) = (objAt σ o).map (mapO (shiftN n))) : ∀ {ts vs : List V} {os : List Nat}, OwL σ vs ts os → OwL σ' (mapV.mapL (shiftN n) vs) ts (os.map (n + ·))
  | [], vs, os, h => by simp only [OwL] at h ⊢; obtain ⟨rfl, rfl⟩ := h; exact ⟨rfl, rfl⟩
  | t :: ts, vs, os, h => by
    simp only [OwL] at h ⊢
    obtain ⟨v, vs', o1, o2, rfl, rfl, h1, h2⟩ := h
    exact ⟨_, _, _, _, rfl, by rw [List.map_append], OwV.shift hn h1, OwL.shift hn h2⟩
theorem OwR.shift {n : Nat} (hn : ∀ o, objAt σ' (n + o) = (objAt σ o).map (mapO (shiftN n))) : ∀ {ts vs : List (List V)} {os : List Nat}, OwR σ vs ts os → OwR σ' (vs.map fun r => r.map (mapV (shiftN n))) ts (os.map (n + ·))
  | [], vs, os, h => by simp only [OwR] at h ⊢; obtain ⟨rfl, rfl⟩ := h; exact ⟨rfl, rfl⟩
  | t :: ts, vs, os, h => by
    simp only [OwR] at h ⊢
    obtain ⟨v, vs', o1, o2, rfl, rfl, h1, h2⟩ := h
    have hm : ∀ l : List V, mapV.mapL (shiftN n) l = l.map (mapV (shiftN n)) := by
      intro l
      induction l with
      | nil => rfl
      | cons x l ih => simp only [mapV.mapL, List.map_cons, ih]
    exact ⟨_, _, _, _, rfl, by rw [List.map_append], by rw [show (fun r => List.map (mapV (shiftN n)) r) v = mapV.mapL (shiftN n) v from (hm v).symm]; exact OwL.shift hn h1, OwR.shift hn h2⟩
end
def DepLe : Nat → V → Prop
  | 0, _ => False
  | n + 1, .sl _ rows => ∀ r ∈ rows, ∀ c ∈ r, DepLe n c
  | n + 1, .agg cs => ∀ c ∈ cs, DepLe n c
  | n + 1, .tup cs => ∀ c ∈ cs, DepLe n c
  | _ + 1, _ => True
theorem ow_res : ∀ (n : Nat) {t v : V} {os : List Nat}, OwV σ v t os → DepLe n t → resolve σ n v = some t
  | 0, t, v, os, _, hd => by simp [DepLe] at hd
  | n + 1, t, v, os, h, hd => by
    have hl : ∀ (ts vs : List V) (os : List Nat), OwL σ vs ts os → (∀ c ∈ ts, DepLe n c) → vs.mapM (resolve σ n) = some ts := by
      intro ts
      induction ts with
      | nil => intro vs os h _; simp only [OwL] at h; rw [h.1]; rfl
      | cons t ts ih =>
        intro vs os h hd
        simp only [OwL] at h
        obtain ⟨v, vs', o1, o2, rfl, rfl, h1, h2⟩ := h
        rw [List.mapM_cons, ow_res n h1 (hd t (by simp)), ih vs' o2 h2 fun c hc => hd c (by simp [hc])]
        rfl
    have hr : ∀ (ts vs : List (List V)) (os : List Nat), OwR σ vs ts os → (∀ r ∈ ts, ∀ c ∈ r, DepLe n c) → (vs.mapM fun (r : List V) => r.mapM (resolve σ n)) = some ts := by
      intro ts
      induction ts with
      | nil => intro vs os h _; simp only [OwR] at h; rw [h.1]; rfl
      | cons t ts ih =>
        intro vs os h hd
        simp only [OwR] at h
        obtain ⟨v, vs', o1, o2, rfl, rfl, h1, h2⟩ := h
        rw [List.mapM_cons, hl t v o1 h1 (hd t (by simp)), ih vs' o2 h2 fun c hc => hd c (by simp [hc])]
        rfl
    cases t with
    | sl sz rows =>
      simp only [OwV] at h
      simp only [DepLe] at hd
      rcases h with ⟨rfl, rfl, _⟩ | ⟨o, rows', os', rfl, h2, _, h3⟩
      · rfl
      · rw [resolve]
        simp only [h2]
        have := h3.len
        rw [if_pos (by omega), List.drop_zero, List.take_of_length_le (by omega), hr rows rows' os' h3 hd]; rfl
    | agg cs =>
      simp only [OwV] at h
      obtain ⟨cs', rfl, h⟩ := h
      rw [resolve]
      rw [hl cs cs' os h hd]; rfl
    | tup cs =>
      simp only [OwV] at h
      obtain ⟨cs', rfl, h⟩ := h
      rw [resolve]
      rw [hl cs cs' os h hd]; rfl
    | any => simp [OwV] at h
    | one => simp [OwV] at h
    | int k i => simp only [OwV] at h; rw [h.1]; rfl
    | bool b => simp only [OwV] at h; rw [h.1]; rfl
    | str s => simp only [OwV] at h; rw [h.1]; rfl
    | nils => simp [OwV] at h
    | msl => simp [OwV] at h
    | ptr => simp [OwV] at h
    | fptr => simp [OwV] at h
mutual
theorem OwV.noFrz : ∀ {t v : V} {os : List Nat}, OwV σ v t os → noFrz v = true
  | .sl sz rows, v, os, h => by
    simp only [OwV] at h
    rcases h with ⟨rfl, rfl, _⟩ | ⟨o, rows', os', rfl, _⟩ <;> rfl
  | .agg cs, v, os, h => by simp only [OwV] at h; obtain ⟨cs', rfl, h⟩ := h; simp only [Ml.noFrz]; exact OwL.noFrz h
  | .tup cs, v, os, h => by simp only [OwV] at h; obtain ⟨cs', rfl, h⟩ := h; simp only [Ml.noFrz]; exact OwL.noFrz h
  | .any, v, os, h => by simp [OwV] at h
  | .one, v, os, h => by simp [OwV] at h
  | .int .., v, os, h => by simp only [OwV] at h; rw [h.1]; rfl
  | .bool _, v, os, h => by simp only [OwV] at h; rw [h.1]; rfl
  | .str _, v, os, h => by simp only [OwV] at h; rw [h.1]; rfl
  | .nils, v, os, h => by simp [OwV] at h
  | .msl .., v, os, h => by simp [OwV] at h
  | .ptr .., v, os, h => by simp [OwV] at h
  | .fptr .., v, os, h => by simp [OwV] at h
theorem OwL.noFrz : ∀ {ts vs : List V} {os : List Nat}, OwL σ vs ts os → noFrz.allNoFrz vs = true
  | [], vs, os, h => by simp only [OwL] at h; rw [h.1]; rfl
  | t :: ts, vs, os, h => by
    simp only [OwL] at h
    obtain ⟨v, vs', o1, o2, rfl, rfl, h1, h2⟩ := h
    simp only [noFrz.allNoFrz, OwV.noFrz h1, OwL.noFrz h2, Bool.and_self]
end
end
end Go.Ml
end
section
set_option linter.unusedSimpArgs false
set_option linter.unusedVariables false
namespace Go.Ml
section
variable {σ : Store} {ρ : List Nat}
mutual
theorem OwV.gc {g : Nat → Nat} : ∀ {t v : V} {os : List Nat}, OwV σ v t os → (∀ o ∈ os, place ρ o = some (g o) ∧ o ∈ ρ) → OwV (gcS ρ σ) (mapV (place ρ) v) t (os.map g)
  | .sl sz rows, v, os, h, hg => by
    simp only [OwV] at h ⊢
    rcases h with ⟨h1, rfl, rfl⟩ | ⟨o, rows', os', rfl, h2, rfl, h3⟩
    · exact .inl ⟨h1, rfl, rfl⟩
    · obtain ⟨g1, g2⟩ := hg o (by simp)
      refine .inr ⟨g o, rows'.map fun r => r.map (mapV (place ρ)), os'.map g, by simp only [mapV, g1], ?_, rfl, OwR.gc h3 fun q hq => hg q (by simp [hq])⟩
      rw [objAt_gcS, place_some g1]
      simp only [h2, Option.map_some]; rfl
  | .agg cs, v, os, h, hg => by simp only [OwV] at h ⊢; obtain ⟨cs', rfl, h⟩ := h; exact ⟨_, rfl, OwL.gc h hg⟩
  | .tup cs, v, os, h, hg => by simp only [OwV] at h ⊢; obtain ⟨cs', rfl, h⟩ := h; exact ⟨_, rfl, OwL.gc h hg⟩
  | .any, v, os, h, _ => by simp [OwV] at h
  | .one, v, os, h, _ => by simp [OwV] at h
  | .int .., v, os, h, _ => by simp only [OwV] at h ⊢; obtain ⟨rfl, rfl⟩ := h; exact ⟨rfl, rfl⟩
  | .bool _, v, os, h, _ => by simp only [OwV] at h ⊢; obtain ⟨rfl, rfl⟩ := h; exact ⟨rfl, rfl⟩
  | .str _, v, os, h, _ => by simp only [OwV] at h ⊢; obtain ⟨rfl, rfl⟩ := h; exact ⟨rfl, rfl⟩
  | .nils, v, os, h, _ => by simp [OwV] at h
  | .msl .., v, os, h, _ => by simp [OwV] at h
  | .ptr .., v, os, h, _ => by simp [OwV] at h
  | .fptr .., v, os, h, _ => by simp [OwV] at h
theorem OwL.gc {g : Nat → Nat} : ∀ {ts vs : List V} {os : List Nat}, OwL σ vs ts os → (∀ o ∈ os, place ρ o = some (g o) ∧ o ∈ ρ) → OwL (gcS ρ σ) (mapV.mapL (place ρ) vs) ts (os.map g)
  | [], vs, os, h, _ => by simp only [OwL] at h ⊢; obtain ⟨rfl, rfl⟩ := h; exact ⟨rfl, rfl⟩
  | t :: ts, vs, os, h, hg => by
    simp only [OwL] at h ⊢
    obtain ⟨v, vs', o1, o2, rfl, rfl, h1, h2⟩ := h
    exact ⟨_, _, _, _, rfl, by rw [List.map_append], OwV.gc h1 fun q hq => hg q (by simp [hq]), OwL.gc h2 fun q hq => hg q (by simp [hq])⟩
theorem OwR.gc {g : Nat → Nat} : ∀ {ts vs : List (List V)} {os : List Nat}, OwR σ vs ts os → (∀ o ∈ os, place ρ o = some (g o) ∧ o ∈ ρ) → OwR (gcS ρ σ) (vs.map fun r => r.map (mapV (place ρ))) ts (os.map g)
  | [], vs, os, h, _ => by simp only [OwR] at h ⊢; obtain ⟨rfl, rfl⟩ := h; exact ⟨rfl, rfl⟩
  | t :: ts, vs, os, h, hg => by
    simp only [OwR] at h ⊢
    obtain ⟨v, vs', o1, o2, rfl, rfl, h1, h2⟩ := h
    have hm : ∀ l : List V, mapV.mapL (place ρ) l = l.map (mapV (place ρ)) := by
      intro l
      induction l with
      | nil => rfl
      | cons x l ih => simp only [mapV.mapL, List.map_cons, ih]
    exact ⟨_, _, _, _, rfl, by rw [List.map_append], by rw [show (fun r => List.map (mapV (place ρ)) r) v = mapV.mapL (place ρ) v from (hm v).symm]; exact OwL.gc h1 fun q hq => hg q (by simp [hq]), OwR.gc h2 fun q hq => hg q (by simp [hq])⟩
end
theorem allNoFrz_iff {cs : List V} : noFrz.allNoFrz cs = true ↔ ∀ c ∈ cs, noFrz c = true := by
  induction cs with
  | nil => simp [noFrz.allNoFrz]
  | cons c cs ih => simp [noFrz.allNoFrz, ih]
mutual
theorem OwV.objs : ∀ {t v : V} {os : List Nat}, OwV σ v t os → ∀ o ∈ os, ∃ ob, objAt σ o = some ob ∧ ∀ r ∈ ob.rows, ∀ c ∈ r, noFrz c = true
  | .sl sz rows, v, os, h => by
    simp only [OwV] at h
    rcases h with ⟨_, _, rfl⟩ | ⟨o, rows', os', _, h2, rfl, h3⟩
    · intro o ho; cases ho
    · intro q hq
      rcases List.mem_cons.1 hq with rfl | hq
      · exact ⟨_, h2, OwR.noFrz h3⟩
      · exact OwR.objs h3 q hq
  | .agg cs, v, os, h => by simp only [OwV] at h; obtain ⟨cs', _, h⟩ := h; exact OwL.objs h
  | .tup cs, v, os, h => by simp only [OwV] at h; obtain ⟨cs', _, h⟩ := h; exact OwL.objs h
  | .any, v, os, h => by simp [OwV] at h
  | .one, v, os, h => by simp [OwV] at h
  | .int .., v, os, h => by simp only [OwV] at h; rw [h.2]; intro o ho; cases ho
  | .bool _, v, os, h => by simp only [OwV] at h; rw [h.2]; intro o ho; cases ho
  | .str _, v, os, h => by simp only [OwV] at h; rw [h.2]; intro o ho; cases ho
  | .nils, v, os, h => by simp [OwV] at h
  | .msl .., v, os, h => by simp [OwV] at h
  | .ptr .., v, os, h => by simp [OwV] at h
  | .fptr .., v, os, h => by simp [OwV] at h
theorem OwL.objs : ∀ {ts vs : List V} {os : List Nat}, OwL σ vs ts os → ∀ o ∈ os, ∃ ob, objAt σ o = some ob ∧ ∀ r ∈ ob.rows, ∀ c ∈ r, noFrz c = true
  | [], vs, os, h => by simp only [OwL] at h; rw [h.2]; intro o ho; cases ho
  | t :: ts, vs, os, h => by
    simp only [OwL] at h
    obtain ⟨v, vs', o1, o2, _, rfl, h1, h2⟩ := h
    intro o ho
    rcases List.mem_append.1 ho with ho | ho
    · exact OwV.objs h1 o ho
    · exact OwL.objs h2 o ho
theorem OwR.objs : ∀ {ts vs : List (List V)} {os : List Nat}, OwR σ vs ts os → ∀ o ∈ os, ∃ ob, objAt σ o = some ob ∧ ∀ r ∈ ob.rows, ∀ c ∈ r, noFrz c = true
  | [], vs, os, h => by simp only [OwR] at h; rw [h.2]; intro o ho; cases ho
  | t :: ts, vs, os, h => by
    simp only [OwR] at h
    obtain ⟨v, vs', o1, o2, _, rfl, h1, h2⟩ := h
    intro o ho
    rcases List.mem_append.1 ho with ho | ho
    · exact OwL.objs h1 o ho
    · exact OwR.objs h2 o ho
theorem OwR.noFrz : ∀ {ts vs : List (List V)} {os : List Nat}, OwR σ vs ts os → ∀ r ∈ vs, ∀ c ∈ r, Ml.noFrz c = true
  | [], vs, os, h => by simp only [OwR] at h; rw [h.1]; intro r hr; cases hr
  | t :: ts, vs, os, h => by
    simp only [OwR] at h
    obtain ⟨v, vs', o1, o2, rfl, _, h1, h2⟩ := h
    intro r hr
    rcases List.mem_cons.1 hr with rfl | hr
    · exact allNoFrz_iff.1 (OwL.noFrz h1)
    · exact OwR.noFrz h2 r hr
end
def PO (T : Nat → Option Fn) (f : Nat) (args : List V) (t : V) : Prop :=
  ∃ r σ' os, Run T (.fn f args []) (.fn r σ') ∧ OwV σ' r t os ∧ os.Nodup ∧ freshS σ' = true
theorem PO.of {T : Nat → Option Fn} {f : Nat} {args : List V} {t r : V} {σ' : Store} {os : List Nat} (h : Run T (.fn f args []) (.fn r σ')) (ho : OwV σ' r t os) (hn : os.Nodup) : PO T f args t := by
  have hg : ∀ o ∈ os, place os o = some ((place os o).getD 0) ∧ o ∈ os := by
    intro o hm
    refine ⟨?_, hm⟩
    cases hp : place os o with
    | none => exact absurd hm (place_none hp)
    | some j => rfl
  refine ⟨_, _, _, .gcF os hn (fun i hi => by simp at hi) h, ho.gc hg, ?_, ?_⟩
  · refine (List.pairwise_map.2 ?_)
    refine List.Pairwise.imp_of_mem (fun {a b} ha hb hne e => hne ?_) hn
    have e1 := place_some (hg a ha).1
    have e2 := place_some (hg b hb).1
    rw [e, e2] at e1
    exact (Option.some.inj e1).symm
  · simp only [freshS, List.all_eq_true]
    intro x hx
    obtain ⟨o, hm, rfl⟩ := List.mem_map.1 hx
    obtain ⟨ob, h1, h2⟩ := ho.objs o hm
    rw [h1]
    simp only [Option.map_some, mapO, List.all_eq_true]
    intro r hr c hc
    obtain ⟨r0, hr0, rfl⟩ := List.mem_map.1 hr
    obtain ⟨c0, hc0, rfl⟩ := List.mem_map.1 hc
    exact noFrz_map _ (h2 r0 hr0 c0 hc0)
theorem PO.frz {T : Nat → Option Fn} {f : Nat} {args : List V} {t : V} (h : PO T f args t) (hd : DepLe FD t) : PF T f args t := by
  obtain ⟨r, σ', os, h1, h2, _, _⟩ := h
  exact .frz h1 (ow_res FD h2 hd)
end
end Go.Ml
end
section
set_option linter.unusedSimpArgs false
set_option linter.unusedVariables false
namespace Go.Ml
section
variable {σ : Store}
theorem OwL.len : ∀ {ts vs : List V} {os : List Nat}, OwL σ vs ts os → vs.length = ts.length
  | [], vs, os, h => by simp only [OwL] at h; simp [h.1]
  | t :: ts, vs, os, h => by
    simp only [OwL] at h
    obtain ⟨v, vs', o1, o2, rfl, _, _, h2⟩ := h
    simp [OwL.len h2]
theorem OwL.focus : ∀ {ts vs : List V} {os : List Nat} (c : Nat) (t : V), OwL σ vs ts os → os.Nodup → ts[c]? = some t →
    ∃ vc oc, vs[c]? = some vc ∧ OwV σ vc t oc ∧ oc.Nodup ∧ (∀ q ∈ oc, q ∈ os) ∧
      ∀ σ' vc' tc', OwV σ' vc' tc' oc → (∀ q ∈ os, q ∉ oc → objAt σ' q = objAt σ q) → OwL σ' (vs.set c vc') (ts.set c tc') os
  | [], vs, os, c, t, _, _, hc => by simp at hc
  | x :: ts, vs, os, 0, t, h, hn, hc => by
    simp only [OwL] at h
    obtain ⟨v, vs', o1, o2, rfl, rfl, h1, h2⟩ := h
    simp at hc; subst hc
    rw [List.nodup_append] at hn
    refine ⟨v, o1, rfl, h1, hn.1, fun q hq => by simp [hq], fun σ' vc' tc' hv hf => ?_⟩
    simp only [List.set_cons_zero, OwL]
    exact ⟨vc', vs', o1, o2, rfl, rfl, hv, h2.frame fun q hq => hf q (by simp [hq]) fun h => hn.2.2 q h q hq rfl⟩
  | x :: ts, vs, os, c + 1, t, h, hn, hc => by
    simp only [OwL] at h
    obtain ⟨v, vs', o1, o2, rfl, rfl, h1, h2⟩ := h
    rw [List.nodup_append] at hn
    obtain ⟨vc, oc, k1, k2, k3, k4, k5⟩ := OwL.focus c t h2 hn.2.1 (by simpa using hc)
    refine ⟨vc, oc, by simpa using k1, k2, k3, fun q hq => by simp [k4 q hq], fun σ' vc' tc' hv hf => ?_⟩
    simp only [List.set_cons_succ, OwL]
    exact ⟨v, _, o1, o2, rfl, rfl, h1.frame fun q hq => hf q (by simp [hq]) fun h => hn.2.2 q hq q (k4 q h) rfl, k5 σ' vc' tc' hv fun q hq hnq => hf q (by simp [hq]) hnq⟩
theorem OwR.focus : ∀ {ts vs : List (List V)} {os : List Nat} (c : Nat) (t : List V), OwR σ vs ts os → os.Nodup → ts[c]? = some t →
    ∃ vc oc, vs[c]? = some vc ∧ OwL σ vc t oc ∧ oc.Nodup ∧ (∀ q ∈ oc, q ∈ os) ∧
      ∀ σ' vc' tc', OwL σ' vc' tc' oc → (∀ q ∈ os, q ∉ oc → objAt σ' q = objAt σ q) → OwR σ' (vs.set c vc') (ts.set c tc') os
  | [], vs, os, c, t, _, _, hc => by simp at hc
  | x :: ts, vs, os, 0, t, h, hn, hc => by
    simp only [OwR] at h
    obtain ⟨v, vs', o1, o2, rfl, rfl, h1, h2⟩ := h
    simp at hc; subst hc
    rw [List.nodup_append] at hn
    refine ⟨v, o1, rfl, h1, hn.1, fun q hq => by simp [hq], fun σ' vc' tc' hv hf => ?_⟩
    simp only [List.set_cons_zero, OwR]
    exact ⟨vc', vs', o1, o2, rfl, rfl, hv, h2.frame fun q hq => hf q (by simp [hq]) fun h => hn.2.2 q h q hq rfl⟩
  | x :: ts, vs, os, c + 1, t, h, hn, hc => by
    simp only [OwR] at h
    obtain ⟨v, vs', o1, o2, rfl, rfl, h1, h2⟩ := h
    rw [List.nodup_append] at hn
    obtain ⟨vc, oc, k1, k2, k3, k4, k5⟩ := OwR.focus c t h2 hn.2.1 (by simpa using hc)
    refine ⟨vc, oc, by simpa using k1, k2, k3, fun q hq => by simp [k4 q hq], fun σ' vc' tc' hv hf => ?_⟩
    simp only [List.set_cons_succ, OwR]
    exact ⟨v, _, o1, o2, rfl, rfl, h1.frame fun q hq => hf q (by simp [hq]) fun h => hn.2.2 q hq q (k4 q h) rfl, k5 σ' vc' tc' hv fun q hq hnq => hf q (by simp [hq]) hnq⟩
theorem OwV.focus {v : V} {sz : Nat} {rows : List (List V)} {os : List Nat} {i c : Nat} {row : List V} {t : V} (h : OwV σ v (.sl sz rows) os) (hn : os.Nodup) (hi : rows[i]? = some row) (hc : row[c]? = some t) :
    ∃ o rows' row' vc oc, v = .msl o 0 rows.length ∧ objAt σ o = some ⟨sz, rows'⟩ ∧ rows'.length = rows.length ∧ rows'[i]? = some row' ∧ row'.length = row.length ∧ row'[c]? = some vc ∧ OwV σ vc t oc ∧ oc.Nodup ∧ (∀ q ∈ oc, q ∈ os) ∧ o ∈ os ∧ o ∉ oc ∧
      (∀ σ' tc', OwV σ' vc tc' oc → (∀ q ∈ os, q ∉ oc → objAt σ' q = objAt σ q) → OwV σ' v (.sl sz (rows.set i (row.set c tc'))) os) ∧
      (∀ x, oc = [] → (x.leaf = true) → (∃ k n, x = .int k n) ∨ (∃ b, x = .bool b) → OwV (σ.set o (some ⟨sz, rows'.set i (row'.set c x)⟩)) v (.sl sz (rows.set i (row.set c x))) os) := by
  simp only [OwV] at h
  rcases h with ⟨rfl, _, _⟩ | ⟨o, rows', os', rfl, h2, rfl, h3⟩
  · simp at hi
  rw [List.nodup_cons] at hn
  obtain ⟨row', oi, k1, k2, k3, k4, k5⟩ := h3.focus i row hn.2 hi
  obtain ⟨vc, oc, j1, j2, j3, j4, j5⟩ := k2.focus c t k3 hc
  have hno : o ∉ oc := fun h => hn.1 (k4 o (j4 o h))
  have hset : rows'.set i (row'.set c vc) = rows' := by
    have : row'.set c vc = row' := by
      apply List.ext_getElem?
      intro n
      rw [List.getElem?_set]
      split
      · subst_vars
        split
        · exact j1.symm
        · rename_i hlt
          rw [List.getElem?_eq_none (by omega)]
      · rfl
    rw [this]
    apply List.ext_getElem?
    intro n
    rw [List.getElem?_set]
    split
    · subst_vars
      split
      · exact k1.symm
      · rename_i hlt
        rw [List.getElem?_eq_none (by omega)]
    · rfl
  refine ⟨o, rows', row', vc, oc, rfl, h2, h3.len, k1, k2.len, j1, j2, j3, fun q hq => by simp [k4 q (j4 q hq)], by simp, hno, ?_, ?_⟩
  · intro σ' tc' hv hf
    simp only [OwV]
    refine .inr ⟨o, rows', os', by simp, by rw [hf o (by simp) hno]; exact h2, rfl, ?_⟩
    have h6 := j5 σ' vc tc' hv fun q hq hnq => hf q (by simp [k4 q hq]) hnq
    have h7 := k5 σ' _ _ h6 fun q hq hnq => hf q (by simp [hq]) fun h => hnq (j4 q h)
    rwa [hset] at h7
  · intro x hoc hl hx
    have hlt := objAt_lt h2
    have hf : ∀ q, q ≠ o → objAt (σ.set o (some ⟨sz, rows'.set i (row'.set c x)⟩)) q = objAt σ q := fun q hq => by
      rw [objAt_set hlt, if_neg (fun e => hq e.symm)]
    simp only [OwV]
    refine .inr ⟨o, rows'.set i (row'.set c x), os', by simp, by rw [objAt_set hlt, if_pos rfl], rfl, ?_⟩
    have hno' : ∀ q ∈ os', q ≠ o := fun q hq e => hn.1 (e ▸ hq)
    have hx' : OwV (σ.set o (some ⟨sz, rows'.set i (row'.set c x)⟩)) x x oc := by
      rw [hoc]
      rcases hx with ⟨k, n, rfl⟩ | ⟨b, rfl⟩ <;> simp [OwV]
    have h6 := j5 (σ.set o (some ⟨sz, rows'.set i (row'.set c x)⟩)) x x hx' fun q hq _ => hf q (hno' q (k4 q hq))
    exact k5 _ _ _ h6 fun q hq _ => hf q (hno' q hq)
def Owns (σ : Store) (vs ts : List V) : Prop := ∃ os, OwL σ vs ts os ∧ os.Nodup
theorem owL_append : ∀ {ts vs ts' vs' : List V} {os os' : List Nat}, OwL σ vs ts os → OwL σ vs' ts' os' → OwL σ (vs ++ vs') (ts ++ ts') (os ++ os')
  | [], vs, ts', vs', os, os', h, h' => by simp only [OwL] at h; obtain ⟨rfl, rfl⟩ := h; simpa using h'
  | t :: ts, vs, ts', vs', os, os', h, h' => by
    simp only [OwL] at h
    obtain ⟨v, vs1, o1, o2, rfl, rfl, h1, h2⟩ := h
    simp only [List.cons_append, OwL]
    exact ⟨v, vs1 ++ vs', o1, o2 ++ os', rfl, by simp, h1, owL_append h2 h'⟩
theorem Owns.push {σ2 : Store} {vs ts : List V} {r t : V} {os : List Nat} (h : Owns σ vs ts) (h1 : OwV σ2 r t os) (h2 : os.Nodup) (h3 : ∀ o ∈ os, σ.length ≤ o) (h4 : ∀ o, o < σ.length → objAt σ2 o = objAt σ o) :
    Owns σ2 (vs ++ [r]) (ts ++ [t]) := by
  obtain ⟨os0, k1, k2⟩ := h
  refine ⟨os0 ++ os, owL_append (k1.frame fun o ho => h4 o (OwL.lt k1 o ho)) ?_, ?_⟩
  · simp only [OwL]; exact ⟨r, [], os, [], rfl, by simp, h1, rfl, rfl⟩
  · rw [List.nodup_append]
    refine ⟨k2, h2, fun a ha b hb e => ?_⟩
    have := OwL.lt k1 a ha
    have := h3 b hb
    omega
theorem Owns.frame {σ2 : Store} {vs ts : List V} (h : Owns σ vs ts) (h4 : ∀ o, o < σ.length → objAt σ2 o = objAt σ o) : Owns σ2 vs ts := by
  obtain ⟨os0, k1, k2⟩ := h
  exact ⟨os0, k1.frame fun o ho => h4 o (OwL.lt k1 o ho), k2⟩
theorem Owns.res {vs ts : List V} (h : Owns σ vs ts) {i : Nat} {v t : V} (hv : vs[i]? = some v) (ht : ts[i]? = some t) (hd : DepLe FD t) : resolve σ FD v = some t := by
  obtain ⟨os, k1, k2⟩ := h
  obtain ⟨vc, oc, j1, j2, _⟩ := k1.focus i t k2 ht
  rw [hv] at j1
  cases j1
  exact ow_res FD j2 hd
def Mk (T : Nat → Option Fn) (f : Nat) (t : V) (k : Int) (t' : V) (k' : Int) : Prop :=
  ∀ σ v os, OwV σ v t os → os.Nodup → ∃ σ', Run T (.fn f [v, .int .i64 k] σ) (.fn (.int .i64 k') σ') ∧ OwV σ' v t' os ∧ (∀ o, o < σ.length → o ∉ os → objAt σ' o = objAt σ o) ∧ σ.length ≤ σ'.length
end
end Go.Ml
end
section
set_option linter.unusedSimpArgs false
set_option linter.unusedVariables false
namespace Go.Ml
theorem objAt_snoc (σ : Store) (a : Option Obj) : objAt (σ ++ [a]) σ.length = a := by simp [objAt]
theorem objAt_snoc_lt {σ : Store} {a : Option Obj} {o : Nat} (h : o < σ.length) : objAt (σ ++ [a]) o = objAt σ o := by
  unfold objAt; rw [List.getElem?_append_left h]
theorem objAt_setne {σ : Store} {o p : Nat} {x : Option Obj} (h : o ≠ p) : objAt (σ.set p x) o = objAt σ o := by
  unfold objAt
  rw [List.getElem?_set, if_neg (fun e => h e.symm)]
structure Got (σ σ2 : Store) (r t : V) (os : List Nat) : Prop where
  ow : OwV σ2 r t os
  nd : os.Nodup
  fresh : ∀ o ∈ os, σ.length ≤ o
  old : ∀ o, o < σ.length → objAt σ2 o = objAt σ o
  len : σ.length ≤ σ2.length
theorem owL_int {σ : Store} {q : IntKind} {n : Int} {vs ts : List V} {os : List Nat} (h : OwL σ vs ts os) : OwL σ (.int q n :: vs) (.int q n :: ts) os := by
  simp only [OwL]; exact ⟨_, vs, [], os, rfl, rfl, by simp [OwV], h⟩
theorem owL_bool {σ : Store} {b : Bool} {vs ts : List V} {os : List Nat} (h : OwL σ vs ts os) : OwL σ (.bool b :: vs) (.bool b :: ts) os := by
  simp only [OwL]; exact ⟨_, vs, [], os, rfl, rfl, by simp [OwV], h⟩
theorem owL_v {σ : Store} {v t : V} {vs ts : List V} {o1 o2 : List Nat} (h1 : OwV σ v t o1) (h : OwL σ vs ts o2) : OwL σ (v :: vs) (t :: ts) (o1 ++ o2) := by
  simp only [OwL]; exact ⟨v, vs, o1, o2, rfl, rfl, h1, h⟩
theorem owL_nil {σ : Store} : OwL σ [] [] [] := by simp [OwL]
theorem owV_agg {σ : Store} {cs ts : List V} {os : List Nat} (h : OwL σ cs ts os) : OwV σ (.agg cs) (.agg ts) os := by simp only [OwV]; exact ⟨cs, rfl, h⟩
theorem OwV.ints_inv {σ : Store} {v : V} {l : List Int} {os : List Nat} (h : OwV σ v (ints l) os) : (l = [] ∧ v = .sl 1 [] ∧ os = []) ∨ ∃ o, v = .msl o 0 l.length ∧ objAt σ o = some ⟨1, irows l⟩ ∧ os = [o] := by
  simp only [OwV] at h
  rcases h with ⟨h1, h2, h3⟩ | ⟨o, rows', os', h1, h2, h3, h4⟩
  · left; exact ⟨by simpa [irows] using h1, h2, h3⟩
  · right
    have key : ∀ (l : List Int) (rows' : List (List V)) (os' : List Nat), OwR σ rows' (irows l) os' → rows' = irows l ∧ os' = [] := by
      intro l
      induction l with
      | nil => intro rows' os' h; simp only [irows_nil, OwR] at h; exact h
      | cons x l ih =>
        intro rows' os' h
        simp only [irows_cons, OwR] at h
        obtain ⟨v, vs', o1, o2, rfl, rfl, h1, h2⟩ := h
        obtain ⟨rfl, rfl⟩ := ih _ _ h2
        simp only [OwL, OwV] at h1
        obtain ⟨v1, vs1, a1, a2, rfl, rfl, ⟨rfl, rfl⟩, rfl, rfl⟩ := h1
        exact ⟨rfl, rfl⟩
    obtain ⟨rfl, rfl⟩ := key l rows' os' h4
    exact ⟨o, by rw [h1, ir_len], h2, h3⟩
structure Fr (os : List Nat) (σ σ' : Store) : Prop where
  old : ∀ o, o < σ.length → o ∉ os → objAt σ' o = objAt σ o
  len : σ.length ≤ σ'.length
theorem Fr.refl (os : List Nat) (σ : Store) : Fr os σ σ := ⟨fun _ _ _ => rfl, Nat.le_refl _⟩
theorem Fr.trans {os : List Nat} {a b c : Store} (h : Fr os a b) (k : Fr os b c) : Fr os a c := ⟨fun o hl ho => (k.old o (Nat.lt_of_lt_of_le hl h.len) ho).trans (h.old o hl ho), Nat.le_trans h.len k.len⟩
theorem Fr.mono {os os' : List Nat} {a b : Store} (h : Fr os a b) (hs : ∀ o ∈ os, o ∈ os') : Fr os' a b := ⟨fun o hl ho => h.old o hl fun k => ho (hs o k), h.len⟩
theorem cells_lf {v : V} (h : v.leaf = true) (k : List V → Prop) : cellsK v k = k [v] := by
  cases v <;> first | rfl | (simp [V.leaf] at h)
theorem Got.lf {σ σ2 : Store} {r t : V} {os : List Nat} (g : Got σ σ2 r t os) (h : t.leaf = true) (k : List V → Prop) : cellsK r k = k [r] := cells_lf (g.ow.leaf h) k
theorem Got.at {σ σ2 : Store} {r t : V} {os : List Nat} (g : Got σ σ2 r t os) (o : Nat) {x : Option Obj} (h : o < σ.length) (hx : objAt σ o = x) : objAt σ2 o = x := (g.old o h).trans hx
theorem OwV.agg_inv {σ : Store} {r : V} {ts : List V} {os : List Nat} (h : OwV σ r (.agg ts) os) : ∃ cs, r = .agg cs ∧ OwL σ cs ts os := by simpa only [OwV] using h
theorem OwL.int_inv {σ : Store} {vs ts : List V} {q : IntKind} {n : Int} {os : List Nat} (h : OwL σ vs (.int q n :: ts) os) : ∃ vs', vs = .int q n :: vs' ∧ OwL σ vs' ts os := by
  simp only [OwL, OwV] at h
  obtain ⟨v, vs', o1, o2, rfl, rfl, ⟨rfl, rfl⟩, h⟩ := h
  exact ⟨vs', rfl, h⟩
theorem OwL.bool_inv {σ : Store} {vs ts : List V} {b : Bool} {os : List Nat} (h : OwL σ vs (.bool b :: ts) os) : ∃ vs', vs = .bool b :: vs' ∧ OwL σ vs' ts os := by
  simp only [OwL, OwV] at h
  obtain ⟨v, vs', o1, o2, rfl, rfl, ⟨rfl, rfl⟩, h⟩ := h
  exact ⟨vs', rfl, h⟩
theorem OwL.inv {σ : Store} {vs ts : List V} {t : V} {os : List Nat} (h : OwL σ vs (t :: ts) os) : ∃ v vs' o1 o2, vs = v :: vs' ∧ os = o1 ++ o2 ∧ OwV σ v t o1 ∧ OwL σ vs' ts o2 := by
  simpa only [OwL] using h
theorem OwL.nil_inv {σ : Store} {vs : List V} {os : List Nat} (h : OwL σ vs [] os) : vs = [] ∧ os = [] := by simpa only [OwL] using h
theorem OwL.leaf : ∀ {σ : Store} {ts vs : List V} {os : List Nat}, OwL σ vs ts os → ts.all V.leaf = true → vs.all V.leaf = true
  | _, [], vs, os, h, _ => by obtain ⟨rfl, _⟩ := h.nil_inv; rfl
  | σ, t :: ts, vs, os, h, hl => by
    obtain ⟨v, vs', o1, o2, rfl, rfl, h1, h2⟩ := h.inv
    simp only [List.all_cons, Bool.and_eq_true] at hl ⊢
    exact ⟨h1.leaf hl.1, h2.leaf hl.2⟩
structure Ow (n : Nat) (σ : Store) (vs ts : List V) : Prop where
  ex : ∃ os, OwL σ vs ts os ∧ os.Nodup ∧ ∀ o ∈ os, n ≤ o
theorem Ow.set {n : Nat} {σ : Store} {vs ts : List V} (h : Ow n σ vs ts) {o : Nat} {x : Option Obj} (ho : o < n) : Ow n (σ.set o x) vs ts := by
  obtain ⟨os, a, b, c⟩ := h.ex
  exact ⟨os, a.frame fun q hq => objAt_setne (by have := c q hq; omega), b, c⟩
theorem Ow.snoc {n : Nat} {σ : Store} {vs ts : List V} (h : Ow n σ vs ts) {x : Option Obj} : Ow n (σ ++ [x]) vs ts := by
  obtain ⟨os, a, b, c⟩ := h.ex
  exact ⟨os, a.frame fun q hq => objAt_snoc_lt (a.lt q hq), b, c⟩
theorem Ow.int {n : Nat} {σ : Store} {vs ts : List V} (h : Ow n σ vs ts) (q : IntKind) (k : Int) : Ow n σ (vs ++ [.int q k]) (ts ++ [.int q k]) := by
  obtain ⟨os0, a, b, c⟩ := h.ex
  exact ⟨os0, by simpa using owL_append a (owL_int (q := q) (n := k) owL_nil), b, c⟩
theorem Ow.bool {n : Nat} {σ : Store} {vs ts : List V} (h : Ow n σ vs ts) (k : Bool) : Ow n σ (vs ++ [.bool k]) (ts ++ [.bool k]) := by
  obtain ⟨os0, a, b, c⟩ := h.ex
  exact ⟨os0, by simpa using owL_append a (owL_bool (b := k) owL_nil), b, c⟩
theorem owL_split : ∀ {σ : Store} {ts ts' vs : List V} {os : List Nat}, OwL σ vs (ts ++ ts') os → ∃ v1 v2 o1 o2, vs = v1 ++ v2 ∧ os = o1 ++ o2 ∧ OwL σ v1 ts o1 ∧ OwL σ v2 ts' o2
  | σ, [], ts', vs, os, h => ⟨[], vs, [], os, rfl, rfl, owL_nil, h⟩
  | σ, t :: ts, ts', vs, os, h => by
    obtain ⟨v, vs', o1, o2, rfl, rfl, h1, h2⟩ := OwL.inv h
    obtain ⟨a, b, c, d, rfl, rfl, h3, h4⟩ := owL_split h2
    exact ⟨v :: a, b, o1 ++ c, d, rfl, by simp, owL_v h1 h3, h4⟩
theorem owR_append : ∀ {σ : Store} {ts vs ts' vs' : List (List V)} {os os' : List Nat}, OwR σ vs ts os → OwR σ vs' ts' os' → OwR σ (vs ++ vs') (ts ++ ts') (os ++ os')
  | σ, [], vs, ts', vs', os, os', h, h' => by simp only [OwR] at h; obtain ⟨rfl, rfl⟩ := h; simpa using h'
  | σ, t :: ts, vs, ts', vs', os, os', h, h' => by
    simp only [OwR] at h
    obtain ⟨v, vs1, o1, o2, rfl, rfl, h1, h2⟩ := h
    simp only [List.cons_append, OwR]
    exact ⟨v, vs1 ++ vs', o1, o2 ++ os', rfl, by simp, h1, owR_append h2 h'⟩
theorem owR_1 {σ : Store} {v t : List V} {os : List Nat} (h : OwL σ v t os) : OwR σ [v] [t] os := by
  simp only [OwR]; exact ⟨v, [], os, [], rfl, by simp, h, rfl, rfl⟩
structure OwRs (n : Nat) (σ : Store) (vs ts : List (List V)) : Prop where
  ex : ∃ os, OwR σ vs ts os ∧ os.Nodup ∧ ∀ o ∈ os, n ≤ o
theorem OwRs.set {n : Nat} {σ : Store} {vs ts : List (List V)} (h : OwRs n σ vs ts) {o : Nat} {x : Option Obj} (ho : o < n) : OwRs n (σ.set o x) vs ts := by
  obtain ⟨os, a, b, c⟩ := h.ex
  exact ⟨os, a.frame fun q hq => objAt_setne (by have := c q hq; omega), b, c⟩
end Go.Ml
end
section
set_option linter.unusedSimpArgs false
set_option linter.unusedVariables false
namespace Go.Ml
theorem Mk.go {T : Nat → Option Fn} {f : Nat} {t t' : V} {k k' : Int} (h : Mk T f t k t' k') {σ : Store} {v : V} {os : List Nat} (ho : OwV σ v t os) (hn : os.Nodup) :
    ∃ σ', Run T (.fn f [v, .int .i64 k] σ) (.fn (.int .i64 k') σ') ∧ OwV σ' v t' os ∧ Fr os σ σ' := by
  obtain ⟨σ', a, b, c, d⟩ := h σ v os ho hn
  exact ⟨σ', a, b, ⟨c, d⟩⟩
structure Cs (σ : Store) (cs ts : List V) (os : List Nat) : Prop where
  ow : OwL σ cs ts os
  nd : os.Nodup
theorem set_at {α : Type} {l : List α} {i : Nat} {x : α} (h : l[i]? = some x) : l.set i x = l := by
  apply List.ext_getElem?
  intro n
  rw [List.getElem?_set]
  split
  · subst_vars
    split
    · exact h.symm
    · rename_i hlt; rw [List.getElem?_eq_none (by omega)]
  · rfl
section
variable {σ σ' : Store} {cs ts : List V} {os : List Nat}
theorem Cs.lt (h : Cs σ cs ts os) : ∀ q ∈ os, q < σ.length := h.ow.lt
theorem Cs.frame (h : Cs σ cs ts os) (f : ∀ q ∈ os, objAt σ' q = objAt σ q) : Cs σ' cs ts os := ⟨h.ow.frame f, h.nd⟩
theorem Cs.fr {os' : List Nat} (h : Cs σ cs ts os) (f : Fr os' σ σ') (hd : ∀ q ∈ os, q ∉ os') : Cs σ' cs ts os := h.frame fun q hq => f.old q (h.lt q hq) (hd q hq)
theorem Cs.snoc (h : Cs σ cs ts os) {x : Option Obj} : Cs (σ ++ [x]) cs ts os := h.frame fun q hq => objAt_snoc_lt (h.lt q hq)
theorem Cs.set (h : Cs σ cs ts os) {o : Nat} {x : Option Obj} (ho : o ∉ os) : Cs (σ.set o x) cs ts os := h.frame fun q hq => objAt_setne fun e => ho (e ▸ hq)
theorem Cs.call {T : Nat → Option Fn} {f : Nat} {t t' v : V} {k k' : Int} (h : Cs σ cs ts os) (c : Nat) (hm : Mk T f t k t' k') (hv : cs[c]? = some v) (ht : ts[c]? = some t) :
    ∃ σ', Run T (.fn f [v, .int .i64 k] σ) (.fn (.int .i64 k') σ') ∧ Cs σ' cs (ts.set c t') os ∧ Fr os σ σ' := by
  obtain ⟨vc, oc, j1, j2, j3, j4, j5⟩ := h.ow.focus c t h.nd ht
  rw [hv] at j1
  cases j1
  obtain ⟨σ', m1, m2, m3⟩ := hm.go j2 j3
  refine ⟨σ', m1, ⟨?_, h.nd⟩, m3.mono j4⟩
  have := j5 σ' v t' m2 fun q hq' hq => m3.old q (h.lt q hq') hq
  rwa [set_at hv] at this
theorem Cs.part {T : Nat → Option Fn} {f : Nat} {t2 t2' : List V} {k k' : Int} (h : Cs σ cs ts os) (n m : Nat) (hm : Mk T f (.agg t2) k (.agg t2') k') (ht : (ts.drop n).take m = t2) (hn : n + m ≤ ts.length) :
    ∃ σ', Run T (.fn f [.agg ((cs.drop n).take m), .int .i64 k] σ) (.fn (.int .i64 k') σ') ∧ Cs σ' cs (ts.take n ++ t2' ++ ts.drop (n + m)) os ∧ Fr os σ σ' := by
  have e : ts = ts.take n ++ (t2 ++ ts.drop (n + m)) := by
    rw [← ht]
    conv => lhs; rw [← List.take_append_drop n ts, ← List.take_append_drop m (ts.drop n), List.drop_drop]
  have lt2 : t2.length = m := by rw [← ht]; simp; omega
  have h1 := h.ow
  rw [e] at h1
  obtain ⟨c1, c2, o1, o2, rfl, rfl, a1, a2⟩ := owL_split h1
  have l1 := a1.len
  obtain ⟨c3, c4, o3, o4, rfl, rfl, a3, a4⟩ := owL_split a2
  have l2 := a3.len
  have nd := h.nd
  have l1' : c1.length = n := by rw [l1]; simp; omega
  have e2 : ((c1 ++ (c3 ++ c4)).drop n).take m = c3 := by
    rw [← l1', List.drop_left, ← lt2, ← l2, List.take_left]
  rw [e2]
  simp only [List.nodup_append, List.mem_append] at nd
  obtain ⟨nd1, ⟨nd3, nd4, d34⟩, d1⟩ := nd
  obtain ⟨σ', m1, m2, m3⟩ := hm.go (owV_agg a3) nd3
  obtain ⟨cs', e3, m4⟩ := m2.agg_inv
  cases e3
  have lt := h.lt
  refine ⟨σ', m1, ⟨?_, h.nd⟩, m3.mono (by simp +contextual)⟩
  rw [List.append_assoc]
  refine owL_append (a1.frame fun q hq => m3.old q (lt q (by simp [hq])) fun hk => d1 q hq q (.inl hk) rfl) (owL_append m4 (a4.frame fun q hq => m3.old q (lt q (by simp [hq])) fun hk => d34 q hk q hq rfl))
theorem Cs.res (h : Cs σ cs ts os) (c : Nat) {v t : V} (hv : cs[c]? = some v) (ht : ts[c]? = some t) (hd : DepLe FD t) : resolve σ FD v = some t := by
  obtain ⟨vc, oc, j1, j2, _⟩ := h.ow.focus c t h.nd ht
  rw [hv] at j1
  cases j1
  exact ow_res FD j2 hd
end
end Go.Ml
end
