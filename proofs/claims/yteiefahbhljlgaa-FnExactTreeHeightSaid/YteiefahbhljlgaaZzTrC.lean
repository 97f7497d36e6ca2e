/- From the model's code to the small language's; the abstract state against a frame and a world. -/
import Derived.Test.YteiefahbhljlgaaZzEff
namespace Go.Ml

def okDst (nt : Nat) : Option Nat → Bool
  | some d => decide (d < nt)
  | none => true

def trG (ops : Array Oper) : Option (Nat × Bool) → Option (Option (Nat × Bool))
  | none => some none
  | some (j, want) => match (ops[j]?).bind (·.dst) with
    | some t => some (some (t, want))
    | none => none

/-- What an operation waits for, where the order is drawn. -/
def trAft (o : Oper) : List Nat := (o.after.toList.filter (Region.binds .any)).map (·.on)

def trOp (P : Program) (ν : Nat → Option Nat) (ops : Array Oper) (dr : Bool) (nt m k : Nat) (o : Oper) : Option OpI :=
  match trI P ν o, trG ops o.guard with
  | some i, some g => if okDst nt o.dst = true then some ⟨g, o.dst, if i.makes then k else m, i, if dr then trAft o else []⟩ else none
  | _, _ => none

def trOps (P : Program) (ν : Nat → Option Nat) (ops : Array Oper) (dr : Bool) (nt m : Nat) : Nat → List Oper → Option (List OpI)
  | _, [] => some []
  | k, o :: l => match trOp P ν ops dr nt m k o with
    | some x => match trOps P ν ops dr nt m (if x.i.makes then k + 1 else k) l with
      | some r => some (x :: r)
      | none => none
    | none => none

def makersOf (P : Program) (ν : Nat → Option Nat) (ops : List Oper) : Nat := (ops.filter fun o => (trI P ν o).any (·.makes)).length

def trC (P : Program) (ν : Nat → Option Nat) (nt : Nat) : Code → Option C
  | .skip => some .skip
  | .region _ ops draw =>
    let m := makersOf P ν ops.toList
    (trOps P ν ops draw nt m 0 ops.toList).map (.reg draw m)
  | .seq a b => match trC P ν nt a, trC P ν nt b with
    | some x, some y => some (.seq x y)
    | _, _ => none
  | .cond c a b => match trS c, trC P ν nt a, trC P ν nt b with
    | some s, some x, some y => some (.cond s x y)
    | _, _, _ => none
  | .block id c => (trC P ν nt c).map (.block id)
  | .loop c => (trC P ν nt c).map .loop
  | .exit id => some (.exit id)
  | .ret => some .ret
  | _ => none

def trRes (P : Program) : ResultVar → Option Res
  | .tmp t => some (.tmp t)
  | .cell a t => (trAgg P t).map fun p => .cell a p.1 p.2

def trFn (P : Program) (ν : Nat → Option Nat) (fn : Func) : Option Fn :=
  match fn.body with
  | some c => match trC P ν fn.ntmps c, fn.results.toList.mapM (trRes P) with
    | some b, some rs => if fn.params.size ≤ fn.ntmps then some ⟨fn.params.size, fn.ntmps, rs, b⟩ else none
    | _, _ => none
  | none => none

def exOf : Ex → Exit
  | .normal => .normal
  | .exit id => .exit id
  | .ret => .ret

/-- The abstract state against a frame and a world; w0, D0: as the call began. -/
structure SR (nt : Nat) (M : Nat → Prop) (w0 : World) (D0 : DM) (st : St) (D : DM) (a : Act) (w : World) : Prop where
  env : ∀ t, rd w D (XS M D) (st.env t) (a.tmps.getD t undef)
  tm : a.tmps.size = nt
  df : a.defers = []
  store : SRel w D M st.objs
  gr : Gr (Own D0) w0 w
  fr : ∀ o d, D o = .live d → Own D0 d.blk ∨ w0.heap.size ≤ d.blk
  kp : ∀ o, o < st.keep → DSle (D0 o) (D o)

theorem getD_put {a : Act} {d t : Nat} {v : Value} (h : d < a.tmps.size) : (a.put (some d) v).tmps.getD t undef = if t = d then v else a.tmps.getD t undef := by
  simp only [Act.put, Array.getD_eq_getD_getElem?]
  rw [Array.getElem?_setIfInBounds]
  by_cases ht : t = d
  · subst ht; simp [h]
  · rw [if_neg (fun k => ht k.symm), if_neg ht]

section
variable {P : Program} {ν : Nat → Option Nat} {nt : Nat} {M : Nat → Prop} {w0 : World} {D0 : DM} {st : St} {D : DM} {a : Act} {w : World}

theorem rd_put {w' : World} {D' : DM} {X : Nat → Prop} {env : Nat → V} {dst : Option Nat} {x : V} {v : Value} (he : ∀ t, rd w' D' X (env t) (a.tmps.getD t undef))
    (hd : ∀ d, dst = some d → d < a.tmps.size) (h : rd w' D' X x v) : ∀ t, rd w' D' X (updO env dst x t) ((a.put dst v).tmps.getD t undef) := by
  intro t
  cases dst with
  | none => exact he t
  | some d =>
    rw [getD_put (hd d rfl)]
    simp only [updO, upd]
    split
    · subst_vars; exact h
    · exact he t

/-- A step that is done: the state's relation goes on. -/
theorem SR.step (h : SR nt M w0 D0 st D a w) {id : Nat} {σ' : Store} {x : V} {v : Value} {w' : World} (hd : Done w D M id σ' x v w') {dst : Option Nat} (hdst : ∀ d, dst = some d → d < nt) :
    ∃ D', SR nt M w0 D0 { st with env := updO st.env dst x, objs := σ' } D' (a.put dst v) w' ∧ ∀ o, D o = .unborn → o ≠ id → D' o = .unborn := by
  obtain ⟨D', h1, h2, h3, h4, h5, h6⟩ := hd
  refine ⟨D', ⟨rd_put (fun t => rd_mono _ _ h2 (h.env t)) (fun d hd => by rw [h.tm]; exact hdst d hd) h6, ?_, ?_, h1, ?_, ?_, fun o ho => (h.kp o ho).trans (h2.ds o)⟩, h5⟩
  · rw [← h.tm]; cases dst <;> simp [Act.put]
  · rw [← h.df]; cases dst <;> rfl
  · exact h.gr.trans (h3.mono fun b _ ⟨o, d, ho, hb⟩ => hb ▸ h.fr o d ho)
  · intro o d' ho
    rcases h4 o d' ho with ⟨q, d, hq, hb⟩ | hb
    · rw [← hb]; exact h.fr q d hq
    · exact .inr (Nat.le_trans h.gr.size hb)

theorem SR.mem (h : SR nt M w0 D0 st D a w) (n : Nat) : SRel w D M (st.objs ++ List.replicate n none) := by
  have hat : ∀ o, objAt (st.objs ++ List.replicate n none) o = objAt st.objs o := by
    intro o
    unfold objAt
    by_cases ho : o < st.objs.length
    · rw [List.getElem?_append_left ho]
    · rw [List.getElem?_append_right (by omega), List.getElem?_eq_none (by omega : st.objs.length ≤ o)]
      simp only [List.getElem?_replicate]
      split <;> rfl
  refine ⟨?_, ?_, h.store.inj, fun o ho => h.store.far o (by simp at ho; omega), h.store.mlt⟩
  · intro o d ho
    obtain ⟨ob, c, e, h1, h2⟩ := h.store.live o d ho
    exact ⟨ob, c, e, by rw [hat]; exact h1, h2⟩
  · intro o ob ho
    rw [hat] at ho
    exact h.store.alive o ob ho
end
end Go.Ml
