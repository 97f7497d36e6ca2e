/- From the model's operations to the small language's. -/
import Derived.Test.YteiefahbhljlgaaZzRel
namespace Go.Ml

def trV : Value → Option V
  | .int k n => some (.int k n)
  | .bool b => some (.bool b)
  | .string s => some (.str s.data.toList)
  | .slice none 0 0 => some .nils
  | _ => none

def trS : Operand → Option Src
  | .tmp t => some (.t t)
  | .const v => (trV v).map .c
  | _ => none

def trZ (P : Program) (t : TypeId) : Option (List V) :=
  match P.info? t with
  | some i => match i.zero with
    | some v => if v.cells.size = i.size ∧ 0 < i.size then v.cells.toList.mapM trV else none
    | none => none
  | none => none

def isAggD : TypeDesc → Bool
  | .struct _ | .array _ _ => true
  | _ => false

def trAgg (P : Program) (t : TypeId) : Option (Nat × Bool) :=
  match P.info? t, P.underlying t with
  | some i, some d => if 0 < i.size ∧ (isAggD d = true ∨ i.size = 1) then some (i.size, isAggD d) else none
  | _, _ => none

/-- The element of a slice type, and its size. -/
def trElem (P : Program) (t : TypeId) : Option (TypeId × Nat × Nat) :=
  match P.underlying t with
  | some (.slice e) => match P.info? e with
    | some i => if 0 < i.size ∧ i.bytes ≤ 2 ^ 20 then some (e, i.size, i.bytes) else none
    | none => none
  | _ => none

def trParts (P : Program) (fs : Array Field) : List (Nat × Operand) → Option (List (Nat × Nat × Src))
  | [] => some []
  | (i, x) :: rest => match fs[i]?, trS x, trParts P fs rest with
    | some f, some s, some r => match P.info? f.type with
      | some n => some ((f.offset, n.size, s) :: r)
      | none => none
    | _, _, _ => none

def trRows : List (Nat × Operand) → Option (List (Nat × Src))
  | [] => some []
  | (i, x) :: rest => match trS x, trRows rest with
    | some s, some r => some ((i, s) :: r)
    | _, _ => none

def trArgs : List Operand → Option (List Src)
  | [] => some []
  | x :: rest => match trS x, trArgs rest with
    | some s, some r => some (s :: r)
    | _, _ => none

def sameTmp : Operand → Operand → Bool
  | .tmp a, .tmp b => a == b
  | _, _ => false

inductive Cmp where
  | arith
  | bool (ne : Bool)
  | bad

def trCmp (P : Program) (op : BinOp) (t : TypeId) : Cmp :=
  match op with
  | .eql => (match P.underlying t with | some .bool => .bool false | some (.int _) | some .string => .arith | _ => .bad)
  | .neq => (match P.underlying t with | some .bool => .bool true | some (.int _) | some .string => .arith | _ => .bad)
  | .shl | .shr => .bad
  | _ => .arith

def trO : Option Operand → Option (Option Src)
  | some x => (trS x).map some
  | none => some none

def trI (P : Program) (ν : Nat → Option Nat) (o : Oper) : Option I :=
  match o.op with
  | .move x | .assign x => (trS x).map .mov
  | .pick c a b => match trS c, trS a, trS b with
    | some c, some a, some b => some (.pick c a b)
    | _, _, _ => none
  | .alloc t => (trZ P t).map .alloc
  | .box _ x => (trS x).map .box
  | .build t parts => match P.underlying t, trZ P t with
    | some (.struct fs), some z => if (fs.all fun f => (P.info? f.type).isSome) = true then (trParts P fs parts.toList).map (.build z) else none
    | _, _ => none
  | .buildSlice t len parts => match trElem P t with
    | some (e, sz, _) => match trZ P e, trRows parts.toList with
      | some z, some ps => if len * sz ≤ 2 ^ 24 ∧ z.length = sz then some (.mkSl sz z len ps) else none
      | _, _ => none
    | none => none
  | .makeSlice t l c => match trElem P t, trS l with
    | some (e, sz, by_), some s => match trZ P e with
      | some z => if sameTmp l c = true ∧ z.length = sz then some (.make z by_ s) else none
      | none => none
    | _, _ => none
  | .load t x => match trAgg P t, trS x with
    | some (n, g), some s => some (.load n g s)
    | _, _ => none
  | .store t x y => match P.info? t, trS x, trS y with
    | some i, some s, some r => some (.store i.size s r)
    | _, _, _ => none
  | .nilCheck x => (trS x).map .chk
  | .fieldAddr t x f => match P.underlying t, trS x with
    | some (.struct fs), some s => match fs[f]? with
      | some fd => match P.info? fd.type with
        | some i => if i.size = 0 then none else some (.fld fd.offset s)
        | none => none
      | none => none
    | _, _ => none
  | .indexAddr t x i => match trS x, trS i with
    | some s, some r => match P.underlying t with
      | some (.slice e) => match P.info? e with
        | some n => some (.idx n.size s r)
        | none => none
      | some (.array cnt e) => match P.info? e with
        | some n => some (.idxA cnt n.size s r)
        | none => none
      | _ => none
    | _, _ => none
  | .index t x i => match trS x, trS i, P.underlying t with
    | some s, some r, some .string => some (.idxS s r)
    | _, _, _ => none
  | .binOp op t x y _ => match trS x, trS y with
    | some s, some r => match trCmp P op t with
      | .arith => some (.bin op s r)
      | .bool ne => some (.beq ne s r)
      | .bad => none
    | _, _ => none
  | .unOp op _ x => (trS x).map (.un op)
  | .convert src dst x => match P.underlying src, P.underlying dst, trS x with
    | some (.int _), some (.int k), some s => some (.conv k s)
    | some (.slice e), some .string, some s => match P.underlying e with
      | some (.int .u8) => some (.bstr s)
      | _ => none
    | _, _, _ => none
  | .slice t x lo hi none => match trS x with
    | some s =>
      match trO lo, trO hi with
      | some lo, some hi => match P.underlying t with
        | some .string => some (.sliceS s lo hi)
        | some (.slice e) => match P.info? e with
          | some i => if 0 < i.size then some (.slice i.size s lo hi) else none
          | none => none
        | _ => none
      | _, _ => none
    | none => none
  | .extract x i => (trS x).map (.extr i)
  | .call c => match c.callee with
    | .builtin .len => match c.args.toList, c.argTypes.toList with
      | [x], [t] => match trS x, P.underlying t with
        | some s, some .string => some (.lenS s)
        | some s, some (.slice _) => some (.len s)
        | _, _ => none
      | _, _ => none
    | .builtin .append => match c.args.toList, c.argTypes.toList with
      | [x, y], [t, u] => match trS x, trS y, trElem P t, P.underlying u with
        | some s, some r, some (e, sz, by_), some (.slice _) => if (trZ P e).isSome = true then some (.app sz by_ s r) else none
        | _, _, _, _ => none
      | _, _ => none
    | .builtin .max => match c.args.toList with
      | [x, y] => match trS x, trS y with
        | some s, some r => some (.max s r)
        | _, _ => none
      | _ => none
    | .value (.func f) => match ν f, P.funcs[f]?, trArgs c.args.toList with
      | some n, some fn, some as => if fn.body.isSome = true ∧ (fn.name == "runtime.NumGoroutine") = false then some (.call n as) else none
      | _, _, _ => none
    | _ => none
  | _ => none

section
variable {w : World} {D : DM} {X : Nat → Prop}

theorem rd_trV {v : Value} {V : V} (h : trV v = some V) : rd w D X V v := by
  unfold trV at h
  split at h <;> simp at h <;> subst h <;> simp [rd]

theorem rd_src {env : Nat → V} {a : Act} (he : ∀ t, rd w D X (env t) (a.tmps.getD t undef)) {x : Operand} {s : Src} (h : trS x = some s) :
    rd w D X (s.ev env) (a.eval x) := by
  cases x with
  | tmp t => simp [trS] at h; subst h; exact he t
  | const v =>
    simp only [trS, Option.map_eq_some_iff] at h
    obtain ⟨V, h1, rfl⟩ := h
    exact rd_trV h1
  | _ => simp [trS] at h

theorem rdL_mapM : ∀ {l : List Value} {L : List V}, l.mapM trV = some L → rdL w D X L l
  | [], L, h => by simp at h; subst h; simp [rdL]
  | v :: l, L, h => by
    simp only [List.mapM_cons, Option.pure_def, Option.bind_eq_bind, Option.bind_eq_some_iff, Option.some.injEq] at h
    obtain ⟨V, h1, L', h2, rfl⟩ := h
    simp only [rdL]
    exact ⟨v, l, rfl, rd_trV h1, rdL_mapM h2⟩

theorem rd_leaf {x : V} {v : Value} (hl : x.leaf = true) (hr : rd w D X x v) : v.oneCell' = true := by
  cases x <;> first | (simp [V.leaf] at hl; done) | skip
  case one => simpa only [rd] using hr
  case int => simp only [rd] at hr; subst hr; rfl
  case bool => simp only [rd] at hr; subst hr; rfl
  case str => simp only [rd] at hr; subst hr; rfl
  case nils => simp only [rd] at hr; obtain ⟨a, rfl⟩ := hr; rfl
  case sl => simp only [rd] at hr; obtain ⟨a, cap, rfl, _⟩ := hr; rfl
  case msl o s l =>
    simp only [rd] at hr
    cases hD : D o with
    | unborn => simp [hD] at hr
    | dead => rw [hD] at hr; obtain ⟨_, _, _, rfl⟩ := hr; rfl
    | live d => rw [hD] at hr; obtain ⟨_, a, cap, rfl, _⟩ := hr; rfl
  case ptr o s l =>
    simp only [rd] at hr
    cases hD : D o with
    | unborn => simp [hD] at hr
    | dead => rw [hD] at hr; obtain ⟨_, rfl⟩ := hr; rfl
    | live d => rw [hD] at hr; simp only [] at hr; subst hr; rfl
  case fptr => simp only [rd] at hr; obtain ⟨b, o, rfl, _⟩ := hr; rfl

theorem cells_one {v : Value} (h : v.oneCell' = true) : v.cells = #[v] := by cases v <;> first | rfl | (simp [Value.oneCell'] at h)

theorem rdL_leaf : ∀ {cs : List V} {ys : List Value}, cs.all V.leaf = true → rdL w D X cs ys → ∀ y ∈ ys, y.oneCell' = true
  | [], ys, _, h => by simp only [rdL] at h; subst h; simp
  | x :: xs, ys, hl, h => by
    simp only [rdL] at h
    obtain ⟨y, ys', rfl, h1, h2⟩ := h
    simp only [List.all_cons, Bool.and_eq_true] at hl
    intro z hz
    rcases List.mem_cons.1 hz with rfl | hz
    · exact rd_leaf hl.1 h1
    · exact rdL_leaf hl.2 h2 z hz

theorem leaf_cells {x : V} {cs : List V} (h : x.cells? = some cs) : cs.all V.leaf = true := by
  by_cases hl : x.leaf = true
  · have h1 : cs = [x] := by cases x <;> simp [V.cells?, V.leaf] at h hl <;> exact h.symm
    subst h1; simp [hl]
  · cases x <;> first | (simp [V.leaf] at hl; done) | (simp [V.cells?, V.leaf] at h; done) | skip
    simp only [V.cells?] at h
    split at h
    · rename_i h1; cases h; exact h1
    · cases h

theorem leaf_trV {v : Value} {x : V} (h : trV v = some x) : x.leaf = true := by
  unfold trV at h
  split at h <;> simp at h <;> subst h <;> rfl

theorem leaf_mapM : ∀ {l : List Value} {L : List V}, l.mapM trV = some L → L.all V.leaf = true
  | [], L, h => by simp at h; subst h; rfl
  | v :: l, L, h => by
    simp only [List.mapM_cons, Option.pure_def, Option.bind_eq_bind, Option.bind_eq_some_iff, Option.some.injEq] at h
    obtain ⟨V, h1, L', h2, rfl⟩ := h
    simp only [List.all_cons, leaf_trV h1, leaf_mapM h2, Bool.and_self]

/-- A value's cells: as `Value.cells` has them, none of them an aggregate. -/
theorem rd_cells {x : V} {v : Value} {cs : List V} (h : x.cells? = some cs) (hr : rd w D X x v) :
    rdL w D X cs v.cells.toList ∧ (∀ y ∈ v.cells.toList, y.oneCell' = true) ∧ cs.length = v.cells.size := by
  have key : rdL w D X cs v.cells.toList ∧ (∀ y ∈ v.cells.toList, y.oneCell' = true) := by
    by_cases hl : x.leaf = true
    · have h1 : cs = [x] := by cases x <;> simp [V.cells?, V.leaf] at h hl <;> exact h.symm
      have h2 := rd_leaf hl hr
      subst h1
      rw [cells_one h2]
      exact ⟨by simp only [rdL]; exact ⟨v, [], rfl, hr, rfl⟩, by simpa using h2⟩
    · cases x <;> first | (simp [V.leaf] at hl; done) | (simp [V.cells?, V.leaf] at h; done) | skip
      case agg xs =>
        simp only [V.cells?] at h
        split at h
        · rename_i hall
          simp at h; subst h
          simp only [rd] at hr
          obtain ⟨a, rfl, hr⟩ := hr
          exact ⟨hr, rdL_leaf hall hr⟩
        · cases h
  exact ⟨key.1, key.2, by simpa using rdL_length _ _ key.1⟩
end

end Go.Ml
