/- How a function of the small language is reckoned with: a proposition for each piece of code. -/
import Derived.Test.YteiefahbhljlgaaZzDraw3
set_option linter.unusedSimpArgs false
namespace Go.Ml

def asIdxK (n : Nat) (v : V) (k : Nat → Prop) : Prop := match v with
  | .int _ i => (0 ≤ i ∧ i < n) ∧ k i.toNat
  | _ => False

def asBoundK (n : Nat) (v : V) (k : Nat → Prop) : Prop := match v with
  | .int _ i => (0 ≤ i ∧ i ≤ n) ∧ k i.toNat
  | _ => False

theorem asIdxK_spec {n : Nat} {v : V} {k : Nat → Prop} (h : asIdxK n v k) : ∃ j, asIdx n v = some j ∧ k j := by
  cases v <;> simp only [asIdxK] at h <;> first | exact h.elim | skip
  exact ⟨_, by simp only [asIdx]; rw [if_pos h.1], h.2⟩

theorem asBoundK_spec {n : Nat} {v : V} {k : Nat → Prop} (h : asBoundK n v k) : ∃ j, asBound n v = some j ∧ k j := by
  cases v <;> simp only [asBoundK] at h <;> first | exact h.elim | skip
  exact ⟨_, by simp only [asBound]; rw [if_pos h.1], h.2⟩

def optK {α : Type} (o : Option α) (k : α → Prop) : Prop := match o with
  | some a => k a
  | none => False

theorem optK_spec {α : Type} {o : Option α} {k : α → Prop} (h : optK o k) : ∃ a, o = some a ∧ k a := by
  cases o with
  | none => exact h.elim
  | some a => exact ⟨a, rfl, h⟩

def binK (op : BinOp) (x y : V) (k : V → Prop) : Prop := match op, x, y with
  | .add, .int q a, .int q' b => q = q' ∧ k (.int q (q.wrap (a + b)))
  | .sub, .int q a, .int q' b => q = q' ∧ k (.int q (q.wrap (a - b)))
  | .mul, .int q a, .int q' b => q = q' ∧ k (.int q (q.wrap (a * b)))
  | .quo, .int q a, .int q' b => (q = q' ∧ b ≠ 0) ∧ k (.int q (q.wrap (a.tdiv b)))
  | .rem, .int q a, .int q' b => (q = q' ∧ b ≠ 0) ∧ k (.int q (a.tmod b))
  | .eql, .int q a, .int q' b => q = q' ∧ k (.bool (a == b))
  | .neq, .int q a, .int q' b => q = q' ∧ k (.bool (a != b))
  | .lss, .int q a, .int q' b => q = q' ∧ k (.bool (decide (a < b)))
  | .leq, .int q a, .int q' b => q = q' ∧ k (.bool (decide (a ≤ b)))
  | .gtr, .int q a, .int q' b => q = q' ∧ k (.bool (decide (b < a)))
  | .geq, .int q a, .int q' b => q = q' ∧ k (.bool (decide (b ≤ a)))
  | .eql, .str a, .str b => k (.bool (a == b))
  | .neq, .str a, .str b => k (.bool (!(a == b)))
  | .add, .str a, .str b => a.length + b.length < 2 ^ 62 ∧ k (.str (a ++ b))
  | _, _, _ => False

theorem binK_spec {op : BinOp} {x y : V} {k : V → Prop} (h : binK op x y k) : ∃ v, evBin op x y = some v ∧ k v := by
  unfold binK at h
  split at h <;> first | exact h.elim | skip
  all_goals first
    | exact ⟨_, by simp only [evBin]; rw [if_pos h.1], h.2⟩
    | exact ⟨_, by simp only [evBin], h⟩

def I.effK (env : Nat → V) (σ : Store) (i : I) (k : Eff → Prop) : Prop := match i with
  | .mov x => k (.val (x.ev env))
  | .pick c a b => match c.ev env with
    | .bool t => k (.val (if t then a.ev env else b.ev env))
    | _ => False
  | .alloc zero => k (.newP ⟨zero.length, [zero]⟩)
  | .box x => match (x.ev env).cells? with
    | some (c :: cs) => k (.newP ⟨(c :: cs).length, [c :: cs]⟩)
    | _ => False
  | .build zero parts => optK (fillRow env zero parts) fun cs => k (.val (.agg cs))
  | .mkSl sz zero ln parts => optK (fillRows env sz (List.replicate ln zero) parts) fun rows => if ln = 0 then k (.val .nils) else k (.newS ⟨sz, rows⟩ ln)
  | .make zero bytes x => match x.ev env with
    | .int .i64 n => (0 ≤ n ∧ n ≤ 2 ^ 47 ∧ n * bytes ≤ 2 ^ 47) ∧ k (.newS ⟨zero.length, List.replicate n.toNat zero⟩ n.toNat)
    | _ => False
  | .load n isAgg a => optK (rowAt σ (a.ev env)) fun p =>
      if isAgg then (p.2 + n ≤ p.1.length ∧ k (.val (.agg ((p.1.drop p.2).take n)))) else optK p.1[p.2]? fun v => k (.val v)
  | .store n a x => match a.ev env with
    | .ptr o r off => optK (x.ev env).cells? fun cs => optK (objAt σ o) fun ob => optK ob.rows[r]? fun row =>
        (cs.length = n ∧ off + n ≤ row.length) ∧ k (.upd o ⟨ob.sz, ob.rows.set r (splice row off cs)⟩)
    | _ => False
  | .fld d a => match a.ev env with
    | .ptr o r off => optK (objAt σ o) fun _ => k (.val (.ptr o r (off + d)))
    | .fptr row off => k (.val (.fptr row (off + d)))
    | _ => False
  | .idx sz x i => match x.ev env with
    | .msl o s l => optK (objAt σ o) fun ob => asIdxK l (i.ev env) fun j => ob.sz = sz ∧ k (.val (.ptr o (s + j) 0))
    | .sl sz' rows => asIdxK rows.length (i.ev env) fun j => sz' = sz ∧ k (.val (.fptr (rows.getD j []) 0))
    | _ => False
  | .idxA cnt sz x i => match x.ev env with
    | .ptr o r off => asIdxK cnt (i.ev env) fun j => optK (objAt σ o) fun _ => k (.val (.ptr o r (off + j * sz)))
    | .fptr row off => asIdxK cnt (i.ev env) fun j => k (.val (.fptr row (off + j * sz)))
    | _ => False
  | .idxS x i => match x.ev env with
    | .str s => asIdxK s.length (i.ev env) fun j => k (.val (.int .u8 (s.getD j 0).toNat))
    | _ => False
  | .len x => optK (lenOf σ (x.ev env)) fun n => k (.val (.int .i64 n))
  | .lenS x => match x.ev env with
    | .str s => k (.val (.int .i64 s.length))
    | _ => False
  | .bin op x y => binK op (x.ev env) (y.ev env) fun v => k (.val v)
  | .beq ne x y => match x.ev env, y.ev env with
    | .bool a, .bool b => k (.val (.bool (if ne then !(a == b) else a == b)))
    | _, _ => False
  | .un op x => match op, x.ev env with
    | .neg, .int q n => k (.val (.int q (q.wrap (0 - n))))
    | .not, .bool b => k (.val (.bool (!b)))
    | _, _ => False
  | .conv q x => match x.ev env with
    | .int _ n => k (.val (.int q (q.wrap n)))
    | _ => False
  | .app sz bytes x y => optK (rowsOf σ (x.ev env)) fun old => optK (rowsOf σ (y.ev env)) fun new =>
      (new.2 = [] → k (.val (x.ev env))) ∧ (new.2 ≠ [] → (new.1 = sz ∧ (old.2.length + new.2.length) * bytes ≤ 2 ^ 40 ∧ old.2.length + new.2.length ≤ 2 ^ 40) ∧
        match x.ev env with
        | .nils => k (.newS ⟨sz, new.2⟩ new.2.length)
        | .msl o _ _ => optK (objAt σ o) fun ob => ob.sz = sz ∧ k (.mov o ⟨sz, old.2 ++ new.2⟩ (old.2.length + new.2.length))
        | _ => False)
  | .max x y => match x.ev env, y.ev env with
    | .int q a, .int q' b => q = q' ∧ k (.val (.int q (if b > a then b else a)))
    | _, _ => False
  | .extr i x => match x.ev env with
    | .tup vs => optK vs[i]? fun v => k (.val v)
    | _ => False
  | .chk x => match x.ev env with
    | .ptr o r off => optK (objAt σ o) fun _ => k (.val (.ptr o r off))
    | .fptr row off => k (.val (.fptr row off))
    | _ => False
  | .sliceS x lo hi => match x.ev env with
    | .str s => (match hi with | some h => asBoundK s.length (h.ev env) | none => fun k => k s.length) fun h =>
        (match lo with | some l => asBoundK h (l.ev env) | none => fun k => k 0) fun l => k (.val (.str ((s.take h).drop l)))
    | _ => False
  | .slice sz x lo hi => optK (lenOf σ (x.ev env)) fun n => (match hi with | some h => asBoundK n (h.ev env) | none => fun k => k n) fun h =>
      (match lo with | some l => asBoundK h (l.ev env) | none => fun k => k 0) fun l => match x.ev env with
        | .nils => k (.val .nils)
        | .sl sz' rows => sz' = sz ∧ k (.val (.sl sz' ((rows.take h).drop l)))
        | .msl o s _ => optK (objAt σ o) fun ob => ob.sz = sz ∧ k (.val (.msl o (s + l) (h - l)))
        | _ => False
  | i => optK (i.eff env σ) k

theorem hiK_spec {env : Nat → V} {n : Nat} {hi : Option Src} {k : Nat → Prop} (h : (match hi with | some h => asBoundK n (h.ev env) | none => fun k => k n) k) : ∃ j, hiB env n hi = some j ∧ k j := by
  cases hi with
  | none => exact ⟨n, rfl, h⟩
  | some x => exact asBoundK_spec h

theorem loK_spec {env : Nat → V} {n : Nat} {lo : Option Src} {k : Nat → Prop} (h : (match lo with | some h => asBoundK n (h.ev env) | none => fun k => k 0) k) : ∃ j, loB env n lo = some j ∧ k j := by
  cases lo with
  | none => exact ⟨0, rfl, h⟩
  | some x => exact asBoundK_spec h

theorem effK_spec {env : Nat → V} {σ : Store} {i : I} {k : Eff → Prop} (h : i.effK env σ k) : ∃ ef, i.eff env σ = some ef ∧ k ef := by
  cases i with
  | mov x => exact ⟨_, rfl, h⟩
  | pick c a b =>
    simp only [I.effK] at h
    split at h <;> first | exact h.elim | skip
    rename_i t e
    exact ⟨_, by simp only [I.eff, e], h⟩
  | alloc z => exact ⟨_, rfl, h⟩
  | box x =>
    simp only [I.effK] at h
    split at h <;> first | exact h.elim | skip
    rename_i c cs e
    exact ⟨_, by simp only [I.eff, e], h⟩
  | build z ps =>
    obtain ⟨cs, e, h⟩ := optK_spec h
    exact ⟨_, by simp only [I.eff, e], h⟩
  | mkSl sz z ln ps =>
    obtain ⟨rows, e, h⟩ := optK_spec h
    split at h
    · rename_i h0; exact ⟨_, by simp only [I.eff, e]; rw [if_pos h0], h⟩
    · rename_i h0; exact ⟨_, by simp only [I.eff, e]; rw [if_neg h0], h⟩
  | make z b x =>
    simp only [I.effK] at h
    split at h <;> first | exact h.elim | skip
    rename_i n e
    exact ⟨_, by simp only [I.eff, e]; rw [if_pos h.1], h.2⟩
  | load n g a =>
    obtain ⟨p, e, h⟩ := optK_spec h
    obtain ⟨row, off⟩ := p
    simp only [] at h
    cases g with
    | true =>
      simp only [if_true] at h
      exact ⟨_, by simp only [I.eff, e, if_true]; rw [if_pos h.1], h.2⟩
    | false =>
      simp only [Bool.false_eq_true, if_false] at h
      obtain ⟨v, e2, h⟩ := optK_spec h
      exact ⟨_, by simp only [I.eff, e, Bool.false_eq_true, if_false, e2], h⟩
  | store n a x =>
    simp only [I.effK] at h
    split at h <;> first | exact h.elim | skip
    rename_i o r off e
    obtain ⟨cs, e1, h⟩ := optK_spec h
    obtain ⟨ob, e2, h⟩ := optK_spec h
    obtain ⟨row, e3, h⟩ := optK_spec h
    exact ⟨_, by simp only [I.eff, e, e1, e2, e3]; rw [if_pos h.1], h.2⟩
  | fld d a =>
    simp only [I.effK] at h
    split at h <;> first | exact h.elim | skip
    · rename_i o r off e
      obtain ⟨ob, e2, h⟩ := optK_spec h
      exact ⟨_, by simp only [I.eff, e, e2], h⟩
    · rename_i row off e
      exact ⟨_, by simp only [I.eff, e], h⟩
  | idx sz x i =>
    simp only [I.effK] at h
    split at h <;> first | exact h.elim | skip
    · rename_i o s l e
      obtain ⟨ob, e2, h⟩ := optK_spec h
      obtain ⟨j, e3, h⟩ := asIdxK_spec h
      exact ⟨_, by simp only [I.eff, e, e2, e3]; rw [if_pos h.1], h.2⟩
    · rename_i sz' rows e
      obtain ⟨j, e3, h⟩ := asIdxK_spec h
      exact ⟨_, by simp only [I.eff, e, e3]; rw [if_pos h.1], h.2⟩
  | idxA c sz x i =>
    simp only [I.effK] at h
    split at h <;> first | exact h.elim | skip
    · rename_i o r off e
      obtain ⟨j, e3, h⟩ := asIdxK_spec h
      obtain ⟨ob, e2, h⟩ := optK_spec h
      exact ⟨_, by simp only [I.eff, e, e2, e3], h⟩
    · rename_i row off e
      obtain ⟨j, e3, h⟩ := asIdxK_spec h
      exact ⟨_, by simp only [I.eff, e, e3], h⟩
  | idxS x i =>
    simp only [I.effK] at h
    split at h <;> first | exact h.elim | skip
    rename_i s e
    obtain ⟨j, e3, h⟩ := asIdxK_spec h
    exact ⟨_, by simp only [I.eff, e, e3], h⟩
  | len x =>
    obtain ⟨n, e, h⟩ := optK_spec h
    exact ⟨_, by simp only [I.eff, e], h⟩
  | lenS x =>
    simp only [I.effK] at h
    split at h <;> first | exact h.elim | skip
    rename_i s e
    exact ⟨_, by simp only [I.eff, e], h⟩
  | bin op x y =>
    simp only [I.effK] at h
    obtain ⟨v, e, h⟩ := binK_spec h
    exact ⟨_, by simp only [I.eff, e], h⟩
  | beq ne x y =>
    simp only [I.effK] at h
    split at h <;> first | exact h.elim | skip
    rename_i p q e1 e2
    exact ⟨_, by simp only [I.eff, e1, e2], h⟩
  | un op x =>
    simp only [I.effK] at h
    split at h <;> first | exact h.elim | skip
    · rename_i q n e
      exact ⟨_, by simp only [I.eff, e, evUn], h⟩
    · rename_i b e
      exact ⟨_, by simp only [I.eff, e, evUn], h⟩
  | conv q x =>
    simp only [I.effK] at h
    split at h <;> first | exact h.elim | skip
    rename_i q' n e
    exact ⟨_, by simp only [I.eff, e], h⟩
  | app sz b x y =>
    obtain ⟨old, e1, h⟩ := optK_spec h
    obtain ⟨new, e2, h⟩ := optK_spec h
    obtain ⟨so, old⟩ := old
    obtain ⟨sn, new⟩ := new
    simp only [] at h
    by_cases hn : new = []
    · exact ⟨_, by simp only [I.eff, e1, e2]; rw [if_pos hn], h.1 hn⟩
    · obtain ⟨hc, h⟩ := h.2 hn
      split at h <;> first | exact h.elim | skip
      · rename_i e
        rw [e] at e1
        refine ⟨_, ?_, h⟩
        simp only [I.eff, e, e1, e2]; rw [if_neg hn, if_pos hc]
      · rename_i o s l e
        obtain ⟨ob, e3, h⟩ := optK_spec h
        rw [e] at e1
        refine ⟨_, ?_, h.2⟩
        simp only [I.eff, e, e1, e2, e3]; rw [if_neg hn, if_pos hc, if_pos h.1]
  | max x y =>
    simp only [I.effK] at h
    split at h <;> first | exact h.elim | skip
    rename_i q p q' r e1 e2
    exact ⟨_, by simp only [I.eff, e1, e2]; rw [if_pos h.1], h.2⟩
  | extr i x =>
    simp only [I.effK] at h
    split at h <;> first | exact h.elim | skip
    rename_i vs e
    obtain ⟨v, e2, h⟩ := optK_spec h
    exact ⟨_, by simp only [I.eff, e, e2], h⟩
  | chk x =>
    simp only [I.effK] at h
    split at h <;> first | exact h.elim | skip
    · rename_i o r off e
      obtain ⟨ob, e2, h⟩ := optK_spec h
      exact ⟨_, by simp only [I.eff, e, e2], h⟩
    · rename_i row off e
      exact ⟨_, by simp only [I.eff, e], h⟩
  | sliceS x lo hi =>
    simp only [I.effK] at h
    split at h <;> first | exact h.elim | skip
    rename_i s e
    obtain ⟨hh, e1, h⟩ := hiK_spec h
    obtain ⟨l, e2, h⟩ := loK_spec h
    exact ⟨_, by simp only [I.eff, e, e1, e2], h⟩
  | slice sz x lo hi =>
    obtain ⟨n, e0, h⟩ := optK_spec h
    obtain ⟨hh, e1, h⟩ := hiK_spec h
    obtain ⟨l, e2, h⟩ := loK_spec h
    split at h <;> first | exact h.elim | skip
    · rename_i e
      rw [e] at e0
      exact ⟨_, by simp only [I.eff, e, e0, e1, e2], h⟩
    · rename_i sz' rows e
      rw [e] at e0
      exact ⟨_, by simp only [I.eff, e, e0, e1, e2]; rw [if_pos h.1], h.2⟩
    · rename_i o s q e
      obtain ⟨ob, e3, h⟩ := optK_spec h
      rw [e] at e0
      exact ⟨_, by simp only [I.eff, e, e0, e1, e2, e3]; rw [if_pos h.1], h.2⟩
  | _ => exact optK_spec h

/-! ### Code -/

def PF (T : Nat → Option Fn) (f : Nat) (args : List V) (r : V) : Prop := Run T (.fn f args []) (.fn r [])

def boolK (v : V) (k : Bool → Prop) : Prop := match v with
  | .bool b => k b
  | _ => False

theorem boolK_spec {v : V} {k : Bool → Prop} (h : boolK v k) : ∃ b, v = .bool b ∧ k b := by
  cases v <;> first | exact h.elim | exact ⟨_, rfl, h⟩

def gK (g : Option (Nat × Bool)) (env : Nat → V) (on off : Prop) : Prop := match g with
  | none => on
  | some (t, true) => boolK (env t) fun b => if b = true then on else off
  | some (t, false) => boolK (env t) fun b => if b = true then off else on

theorem gK_spec {g : Option (Nat × Bool)} {env : Nat → V} {on off : Prop} (h : gK g env on off) :
    ((∀ t want, g = some (t, want) → env t = .bool want) ∧ on) ∨ (∃ t want b, g = some (t, want) ∧ env t = .bool b ∧ b ≠ want ∧ off) := by
  cases g with
  | none => exact .inl ⟨fun _ _ h => (by cases h), h⟩
  | some p =>
    obtain ⟨t, want⟩ := p
    cases want with
    | true =>
      obtain ⟨b, e, h⟩ := boolK_spec h
      cases b with
      | true => exact .inl ⟨fun _ _ h => (by cases h; exact e), (by simpa using h)⟩
      | false => exact .inr ⟨t, true, false, rfl, e, by simp, by simpa using h⟩
    | false =>
      obtain ⟨b, e, h⟩ := boolK_spec h
      cases b with
      | false => exact .inl ⟨fun _ _ h => (by cases h; exact e), (by simpa using h)⟩
      | true => exact .inr ⟨t, false, true, rfl, e, by simp, by simpa using h⟩

def resK (env : Nat → V) (σ : Store) : List Src → (List V → Prop) → Prop
  | [], k => k []
  | s :: as, k => optK (resolve σ FD (s.ev env)) fun v => resK env σ as fun vs => k (v :: vs)

theorem resK_spec {env : Nat → V} {σ : Store} : ∀ {as : List Src} {k : List V → Prop}, resK env σ as k → ∃ vs, as.mapM (fun s => resolve σ FD (s.ev env)) = some vs ∧ k vs
  | [], k, h => ⟨[], rfl, h⟩
  | s :: as, k, h => by
    obtain ⟨v, e, h⟩ := optK_spec h
    obtain ⟨vs, e2, h⟩ := resK_spec h
    exact ⟨v :: vs, by simp [List.mapM_cons, e, e2], h⟩

def reachAll (env : Nat → V) (σ : Store) (as : List Src) : List Nat := as.flatMap fun s => reach σ FD (s.ev env)

def PFK (T : Nat → Option Fn) (f : Nat) (as : List V) (k : V → Prop) : Prop := ∃ r, PF T f as r ∧ k r

/-- A call that is handed objects of the caller. -/
def RefK (T : Nat → Option Fn) (f : Nat) (as : List Src) (dst : Option Nat) (st : St) (k : St → Prop) : Prop :=
  ∃ ρ r σ', ρ.Nodup ∧ (∀ o, o ∈ ρ → (objAt st.objs o).isSome = true) ∧ Run T (.fn f (as.map fun s => mapV (place ρ) (s.ev st.env)) (gcS ρ st.objs)) (.fn r σ') ∧
    k { st with env := updO st.env dst (mapV (back ρ st.objs.length) r), objs := putBack ρ st.objs σ' }

def opK (T : Nat → Option Fn) (rf : Nat → Bool) (o : OpI) (st : St) (k : St → Prop) : Prop :=
  gK o.g st.env (match o.i with
    | .call f as => if rf f = true then RefK T f as o.dst st k else resK st.env st.objs as fun as' => PFK T f as' fun r =>
        k { st with env := updO st.env o.dst r, objs := killAll st.objs (if scalar SD r then [] else reachAll st.env st.objs as) }
    | i => i.effK st.env st.objs fun ef => k (ef.go st o.dst (st.base + o.k)))
    (k { st with env := updO st.env o.dst .any })

theorem opK_spec {T : Nat → Option Fn} {rf : Nat → Bool} {o : OpI} {st : St} {k : St → Prop} (h : opK T rf o st k) : ∃ st', Run T (.op o st) (.code .normal st') ∧ k st' := by
  rcases gK_spec h with ⟨hg, h⟩ | ⟨t, want, b, hg, he, hb, h⟩
  · split at h
    · rename_i f as hi
      split at h
      · obtain ⟨ρ, r, σ', h1, h2, h3, h4⟩ := h
        exact ⟨_, .callR ρ h1 h2 hg hi h3, h4⟩
      · obtain ⟨vs, e, h⟩ := resK_spec h
        obtain ⟨r, h1, h⟩ := h
        exact ⟨_, .callP hg hi e h1 rfl, h⟩
    · obtain ⟨ef, e, h⟩ := effK_spec h
      exact ⟨_, .op hg e, h⟩
  · exact ⟨_, .off hg he hb, h⟩

def opsK (T : Nat → Option Fn) (rf : Nat → Bool) : List OpI → St → (St → Prop) → Prop
  | [], st, k => k st
  | o :: l, st, k => opK T rf o st fun st => opsK T rf l st k

theorem opsK_spec {T : Nat → Option Fn} {rf : Nat → Bool} : ∀ {l : List OpI} {st : St} {k : St → Prop}, opsK T rf l st k → ∃ st', Run T (.ops l st) (.code .normal st') ∧ k st'
  | [], st, k, h => ⟨st, .nil st, h⟩
  | o :: l, st, k, h => by
    obtain ⟨st1, h1, h⟩ := opK_spec h
    obtain ⟨st2, h2, h⟩ := opsK_spec h
    exact ⟨st2, .cons h1 h2, h⟩

/-! ### Regions that draw their order -/

def uni (a b : List Nat) : List Nat := b.foldl (fun s x => if s.contains x then s else x :: s) a

/-- For each operation: all those that come before it whatever the order. -/
def befs : List OpI → List (List Nat) → List (List Nat)
  | [], acc => acc
  | o :: l, acc => befs l (acc ++ [o.aft.foldl (fun s e => uni s (acc.getD e [])) o.aft])

def okB (B : Nat → List Nat) (l : List OpI) : Nat → Bool
  | i => match l with
    | [] => true
    | o :: l => (B i).all (fun j => o.aft.contains j || o.aft.any fun e => (B e).contains j) && o.aft.all (fun e => decide (e < i)) && okB B l (i + 1)

theorem okB_spec {B : Nat → List Nat} : ∀ {l : List OpI} {n : Nat}, okB B l n = true → ∀ i o, l[i]? = some o → (∀ j, j ∈ B (n + i) → j ∈ o.aft ∨ ∃ e ∈ o.aft, j ∈ B e) ∧ ∀ e ∈ o.aft, e < n + i
  | [], n, _, i, o, h => by simp at h
  | x :: l, n, hk, i, o, h => by
    unfold okB at hk
    simp only [Bool.and_eq_true, List.all_eq_true] at hk
    obtain ⟨⟨h1, h2⟩, h3⟩ := hk
    cases i with
    | zero =>
      simp only [List.getElem?_cons_zero, Option.some.injEq] at h
      subst h
      refine ⟨fun j hj => ?_, fun e he => by simpa using h2 e he⟩
      have := h1 j hj
      simpa using this
    | succ i =>
      simp only [List.getElem?_cons_succ] at h
      have := okB_spec h3 i o h
      rw [show n + (i + 1) = n + 1 + i by omega]
      exact this

def befF (l : List OpI) : Nat → List Nat := let b := befs l []; fun i => b.getD i []

structure Acc where
  i : Nat
  R : List Nat
  W : List Nat

def apartA (d e : OpI) (a b : Acc) : Bool :=
  !dstIn d.dst e.looks && !dstIn e.dst d.looks && !(d.dst.isSome && d.dst == e.dst) &&
    a.W.all (fun p => !b.R.contains p && b.W.all fun q => q != p) && b.W.all (fun q => !a.R.contains q)

def getO (l : List OpI) (i : Nat) : OpI := l.getD i ⟨none, none, 0, .alloc [], []⟩

def okA (B : Nat → List Nat) (ops : List OpI) : List Acc → Bool
  | [] => true
  | a :: l => l.all (fun b => (B b.i).contains a.i || apartA (getO ops a.i) (getO ops b.i) a b) && okA B ops l

def OkA (ops : List OpI) (l : List Acc) : Prop := okA (befF ops) ops l.reverse = true

def numK (l : List Nat) (k : List Nat → Prop) : Prop := k l

def Eff.wr (id : Nat) : Eff → List Nat
  | .val _ => []
  | .newP _ => [id]
  | .newS _ _ => [id]
  | .upd o _ => [o]
  | .mov o _ _ => [o, id]

def anyK (T : Nat → Option Fn) (ops : List OpI) : List OpI → Nat → List Acc → St → (St → Prop) → Prop
  | [], _, acc, st, k => OkA ops acc ∧ k st
  | o :: l, i, acc, st, k => gK o.g st.env (match o.i with
    | .call f as => resK st.env st.objs as fun as' => PFK T f as' fun r => numK (reachAll st.env st.objs as) fun R =>
        (R = [] ∨ scalar SD r = true) ∧ anyK T ops l (i + 1) (⟨i, R, []⟩ :: acc) { st with env := updO st.env o.dst r } k
    | x => numK (x.reads st.env) fun R => x.effK st.env st.objs fun ef => numK (ef.wr (st.base + o.k)) fun W =>
        anyK T ops l (i + 1) (⟨i, R, W⟩ :: acc) (ef.go st o.dst (st.base + o.k)) k)
    (anyK T ops l (i + 1) (⟨i, [], []⟩ :: acc) { st with env := updO st.env o.dst .any } k)

/-- A list of data fits a list of accounts. -/
def Fits1 (ops : List OpI) (p : Nat × Dat) (a : Acc) : Prop := a.i = p.1 ∧ getO ops a.i = p.2.x ∧ a.R = p.2.R ∧ a.W = p.2.W.map (·.1)

theorem apartA_eq {ops : List OpI} {p q : Nat × Dat} {a b : Acc} (h : Fits1 ops p a) (k : Fits1 ops q b) : apartA (getO ops a.i) (getO ops b.i) a b = apart p.2 q.2 := by
  obtain ⟨h1, h2, h3, h4⟩ := h
  obtain ⟨k1, k2, k3, k4⟩ := k
  unfold apartA apart
  rw [h2, k2, h3, k3, h4, k4]
  simp only [List.all_map]
  rfl

inductive AllFit (ops : List OpI) : List (Nat × Dat) → List Acc → Prop
  | nil : AllFit ops [] []
  | cons {p a l m} (h : Fits1 ops p a) (t : AllFit ops l m) : AllFit ops (p :: l) (a :: m)

theorem AllFit.all {ops : List OpI} {f : Nat × Dat → Bool} {g : Acc → Bool} : ∀ {l m}, AllFit ops l m → (∀ p a, Fits1 ops p a → f p = g a) → l.all f = m.all g
  | _, _, .nil, _ => rfl
  | _, _, .cons h t, hfg => by simp only [List.all_cons]; rw [hfg _ _ h, t.all hfg]

theorem okD_of {B : Nat → List Nat} {ops : List OpI} : ∀ {l m}, AllFit ops l m → okA B ops m = true → okD B l = true
  | _, _, .nil, _ => rfl
  | _, _, .cons (p := p) (a := a) h t, hk => by
    simp only [okA, Bool.and_eq_true] at hk
    obtain ⟨i, d⟩ := p
    simp only [okD, Bool.and_eq_true]
    refine ⟨?_, okD_of t hk.2⟩
    rw [t.all fun q b hq => ?_]
    · exact hk.1
    · rw [apartA_eq h hq, hq.1, h.1]

theorem AllFit.append {ops : List OpI} : ∀ {l m l' m'}, AllFit ops l m → AllFit ops l' m' → AllFit ops (l ++ l') (m ++ m')
  | _, _, _, _, .nil, h => h
  | _, _, _, _, .cons h t, k => .cons h (t.append k)

theorem effWr (ef : Eff) (id : Nat) : ef.wr id = (ef.writes id).map (·.1) := by cases ef <;> rfl

theorem chain_snoc {T : Nat → Option Fn} {d : Dat} : ∀ (l : List Dat) (st : St), Chain T l st → Fp T d (goAll l st) → Chain T (l ++ [d]) st
  | [], _, _, h => ⟨h, trivial⟩
  | _ :: l, _, h, k => ⟨h.1, chain_snoc l _ h.2 k⟩

theorem goAll_snoc {d : Dat} : ∀ (l : List Dat) (st : St), goAll (l ++ [d]) st = d.go (goAll l st)
  | [], _ => rfl
  | _ :: l, _ => goAll_snoc l _

theorem anyK_spec {T : Nat → Option Fn} {ops : List OpI} {st0 : St} : ∀ {l : List OpI} {i : Nat} {acc : List Acc} {st : St} {k : St → Prop} (ds : List (Nat × Dat)), anyK T ops l i acc st k →
    i ≤ ops.length → ops.drop i = l → ds.length = i → ds.map (·.1) = List.range i → AllFit ops ds acc.reverse → Chain T (ds.map (·.2)) st0 → goAll (ds.map (·.2)) st0 = st →
    ∃ ds', ds'.map (·.1) = List.range ops.length ∧ (∃ acc', AllFit ops ds' acc' ∧ okA (befF ops) ops acc' = true) ∧ Chain T (ds'.map (·.2)) st0 ∧ k (goAll (ds'.map (·.2)) st0)
  | [], i, acc, st, k, ds, h, hil, hd, hi, hr, hf, hc, hg => by
    have hl : ops.length = i := by
      have := congrArg List.length hd
      simp at this; omega
    exact ⟨ds, by rw [hr, hl], ⟨_, hf, h.1⟩, hc, by rw [hg]; exact h.2⟩
  | o :: l, i, acc, st, k, ds, h, _, hd, hi, hr, hf, hc, hg => by
    have hio : ops[i]? = some o := by
      have := congrArg (·[0]?) hd
      simpa using this
    have hd' : ops.drop (i + 1) = l := by
      rw [← List.drop_drop, hd]; rfl
    have hgo : getO ops i = o := by simp [getO, List.getD_eq_getElem?_getD, hio]
    have step : ∀ (d : Dat), d.x = o → ∀ (a : Acc), a.i = i → a.R = d.R → a.W = d.W.map (·.1) → Fp T d st → anyK T ops l (i + 1) (a :: acc) (d.go st) k → _ := fun d hdx a ha hR hW hfp hk =>
      anyK_spec (ds ++ [(i, d)]) hk (List.getElem?_eq_some_iff.1 hio).1 hd' (by simp [hi]) (by simp [hr, List.range_succ]) (by
        rw [List.reverse_cons]
        exact hf.append (.cons ⟨ha, by rw [ha, hgo, hdx], hR, hW⟩ .nil)) (by
        rw [List.map_append]; exact chain_snoc _ _ hc (by rw [hg]; exact hfp)) (by rw [List.map_append, List.map_cons, List.map_nil, goAll_snoc, hg])
    rcases gK_spec h with ⟨hgd, h⟩ | ⟨t, want, b, hgd, he, hb, h⟩
    · split at h
      · rename_i f as hi2
        obtain ⟨vs, e, h⟩ := resK_spec h
        obtain ⟨r, h1, h⟩ := h
        obtain ⟨hR, h⟩ := h
        exact step ⟨o, _, r, []⟩ rfl ⟨i, _, []⟩ rfl rfl rfl (fp_callP hgd hi2 e h1 hR.symm) h
      · unfold numK at h
        obtain ⟨ef, e, h⟩ := effK_spec h
        refine step ⟨o, o.i.reads st.env, ef.dv (st.base + o.k), ef.writes (st.base + o.k)⟩ rfl ⟨i, _, _⟩ rfl rfl (effWr _ _) (fp_eff hgd e) ?_
        have e2 : (⟨o, o.i.reads st.env, ef.dv (st.base + o.k), ef.writes (st.base + o.k)⟩ : Dat).go st = ef.go st o.dst (st.base + o.k) := by
          simp only [Dat.go, Eff.go, putW_eff]
        rw [e2]; exact h
    · exact step ⟨o, [], .any, []⟩ rfl ⟨i, [], []⟩ rfl rfl rfl (fp_off hgd he hb) h

theorem anyK_run {T : Nat → Option Fn} {ops : List OpI} {st : St} {k : St → Prop} (hb : okB (befF ops) ops 0 = true) (h : anyK T ops ops 0 [] st k) : ∃ st', Run T (.any ops [] st) (.code .normal st') ∧ k st' := by
  obtain ⟨ds, h1, ⟨acc, h2, h3⟩, h4, h5⟩ := anyK_spec (ops := ops) (st0 := st) [] h (Nat.zero_le _) rfl rfl rfl .nil trivial rfl
  have hB := okB_spec hb
  simp only [Nat.zero_add] at hB
  have hfit : ∀ {l m}, AllFit ops l m → ∀ p ∈ l, getO ops p.1 = p.2.x := by
    intro l m hf
    induction hf with
    | nil => intro p hp; cases hp
    | cons h t ih =>
      intro p hp
      rcases List.mem_cons.1 hp with rfl | hp
      · rw [← h.1]; exact h.2.1
      · exact ih p hp
  have hlt : ∀ p ∈ ds, p.1 < ops.length := by
    intro p hp
    have : p.1 ∈ ds.map (·.1) := List.mem_map_of_mem hp
    rw [h1] at this; exact List.mem_range.1 this
  refine ⟨_, run_any (B := befF ops) (fun i o j ho hj => (hB i o ho).1 j hj) ds.length ds [] st rfl (okD_of h2 h3) (fun e he => by cases he) h4 ?_ ?_ ?_, h5⟩
  · rw [h1]; exact List.pairwise_lt_range
  · intro p hp
    have hp2 : ops[p.1]? = some p.2.x := by
      have := hfit h2 p hp
      unfold getO at this
      rw [List.getD_eq_getElem?_getD] at this
      rw [List.getElem?_eq_getElem (hlt p hp)] at this ⊢
      exact congrArg some this
    exact ⟨hp2, by simp, (hB p.1 p.2.x hp2).2⟩
  · intro i hi _
    have : i ∈ ds.map (·.1) := by rw [h1]; exact List.mem_range.2 hi
    obtain ⟨p, hp, e⟩ := List.mem_map.1 this
    exact ⟨p.2, by rw [← e]; exact hp⟩

end Go.Ml
