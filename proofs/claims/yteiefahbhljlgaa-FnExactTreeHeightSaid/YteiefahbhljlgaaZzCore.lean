/- A small language with resolved sizes, its abstract values, and what its operations do to them. -/
import Derived.Calls
import Derived.Orders
import Derived.Laws.Sem
namespace Go.Ml

inductive V where
  | any
  | one
  | int (k : IntKind) (n : Int)
  | bool (b : Bool)
  | str (s : List UInt8)
  | agg (cs : List V)
  | tup (vs : List V)
  | nils
  | sl (sz : Nat) (rows : List (List V))
  | msl (o start len : Nat)
  | ptr (o row off : Nat)
  | fptr (row : List V) (off : Nat)
  deriving Inhabited

def V.leaf : V → Bool
  | .one | .int .. | .bool _ | .str _ | .nils | .sl .. | .msl .. | .ptr .. | .fptr .. => true
  | _ => false

def V.cells? : V → Option (List V)
  | .agg cs => if cs.all V.leaf then some cs else none
  | x => if x.leaf then some [x] else none

/-- What is known of object number o: not yet there, gone, or: its block, where it starts, the cells of a row, how many rows, the block's cells. -/
structure Desc where
  blk : Nat
  bas : Nat
  sz : Nat
  n : Nat
  cap : Nat

inductive DS where
  | unborn
  | dead
  | live (d : Desc)

abbrev DM := Nat → DS
def DM.none : DM := fun _ => .unborn

section
variable (w : World)

mutual
def rd (D : DM) (X : Nat → Prop) : V → Value → Prop
  | .any, _ => True
  | .one, v => v.oneCell' = true
  | .int k n, v => v = .int k n
  | .bool b, v => v = .bool b
  | .str s, v => v = .string ⟨s.toArray⟩
  | .agg cs, v => ∃ a : Array Value, v = .agg a ∧ rdL D X cs a.toList
  | .tup cs, v => ∃ a : Array Value, v = .tuple a ∧ rdL D X cs a.toList
  | .nils, v => ∃ a, v = .slice a 0 0
  | .sl sz rows, v => ∃ a cap, v = .slice a rows.length cap ∧ rows.length ≤ cap ∧ (rows = [] ∨ ∃ b off, a = some ⟨b, off, none⟩ ∧ b < w.heap.size ∧ ¬ X b ∧ rdRows DM.none X b sz off rows)
  | .msl o start len, v => match D o with
    | .unborn => False
    | .dead => ∃ a l c, v = .slice a l c
    | .live d => start + len ≤ d.n ∧ ∃ a cap, v = .slice a len cap ∧ len ≤ cap ∧
        ((a = some ⟨d.blk, d.bas + start * d.sz, none⟩ ∧ d.bas + (start + cap) * d.sz ≤ d.cap) ∨ (len = 0 ∧ cap = 0))
  | .ptr o row off, v => match D o with
    | .unborn => False
    | .dead => ∃ a, v = .pointer a
    | .live d => v = .pointer (some ⟨d.blk, d.bas + row * d.sz + off, none⟩)
  | .fptr row off, v => ∃ b o, v = .pointer (some ⟨b, o + off, none⟩) ∧ b < w.heap.size ∧ ¬ X b ∧ rdCells DM.none X b o row
def rdL (D : DM) (X : Nat → Prop) : List V → List Value → Prop
  | [], ys => ys = []
  | x :: xs, ys => ∃ y ys', ys = y :: ys' ∧ rd D X x y ∧ rdL D X xs ys'
def rdCells (D : DM) (X : Nat → Prop) (b : Nat) : Nat → List V → Prop
  | _, [] => True
  | off, x :: xs => x.leaf = true ∧ (∃ c, w.cell? ⟨b, off, none⟩ = some c ∧ rd D X x c) ∧ rdCells D X b (off + 1) xs
def rdRows (D : DM) (X : Nat → Prop) (b : Nat) (sz : Nat) : Nat → List (List V) → Prop
  | _, [] => True
  | off, r :: rs => r.length = sz ∧ rdCells D X b off r ∧ rdRows D X b sz (off + sz) rs
end
end

/-! ### The language -/

structure Obj where
  sz : Nat
  rows : List (List V)

abbrev Store := List (Option Obj)

/-- A temporary or a constant. -/
inductive Src where
  | t (n : Nat)
  | c (v : V)

inductive I where
  | mov (x : Src)
  | pick (c a b : Src)
  | alloc (zero : List V)
  | box (x : Src)
  | build (zero : List V) (parts : List (Nat × Nat × Src))
  | mkSl (sz : Nat) (zero : List V) (len : Nat) (parts : List (Nat × Src))
  | make (zero : List V) (bytes : Nat) (x : Src)
  | load (n : Nat) (isAgg : Bool) (a : Src)
  | store (n : Nat) (a x : Src)
  | fld (off : Nat) (a : Src)
  | idx (sz : Nat) (x i : Src)
  | idxA (cnt sz : Nat) (x i : Src)
  | idxS (x i : Src)
  | len (x : Src)
  | lenS (x : Src)
  | bin (op : BinOp) (x y : Src)
  | beq (ne : Bool) (x y : Src)
  | un (op : UnOp) (x : Src)
  | conv (k : IntKind) (x : Src)
  | bstr (x : Src)
  | slice (sz : Nat) (x : Src) (lo hi : Option Src)
  | sliceS (x : Src) (lo hi : Option Src)
  | app (sz bytes : Nat) (x y : Src)
  | max (x y : Src)
  | extr (i : Nat) (x : Src)
  | chk (x : Src)
  | call (f : Nat) (args : List Src)

/-- An operation: its guard, where its value goes, the number of the object that it may make, what it is, and (of a region that draws its order) what it waits for. -/
structure OpI where
  g : Option (Nat × Bool)
  dst : Option Nat
  k : Nat
  i : I
  aft : List Nat := []

inductive C where
  | skip
  | reg (draw : Bool) (m : Nat) (ops : List OpI)
  | seq (a b : C)
  | cond (x : Src) (a b : C)
  | block (id : Nat) (c : C)
  | loop (c : C)
  | exit (id : Nat)
  | ret

inductive Res where
  | tmp (t : Nat)
  | cell (t n : Nat) (isAgg : Bool)

structure Fn where
  nargs : Nat
  ntmps : Nat
  res : List Res
  body : C

structure St where
  env : Nat → V
  objs : Store
  keep : Nat := 0
  base : Nat := 0
  rds : List Nat := []
  muts : List Nat := []

def upd (env : Nat → V) (t : Nat) (v : V) (s : Nat) : V := if s = t then v else env s
def updO (env : Nat → V) : Option Nat → V → Nat → V
  | some t, v => upd env t v
  | none, _ => env

def Src.ev (env : Nat → V) : Src → V
  | .t n => env n
  | .c v => v

/-- Cells of one row overwritten from `off` on. -/
def splice (row : List V) (off : Nat) (cs : List V) : List V := row.take off ++ cs ++ row.drop (off + cs.length)

def objAt (σ : Store) (o : Nat) : Option Obj := (σ[o]?).getD none

def fillRow (env : Nat → V) : List V → List (Nat × Nat × Src) → Option (List V)
  | row, [] => some row
  | row, (off, n, s) :: rest => match (s.ev env).cells? with
    | some cs => if cs.length = n ∧ off + n ≤ row.length then fillRow env (splice row off cs) rest else none
    | none => none

def fillRows (env : Nat → V) (sz : Nat) : List (List V) → List (Nat × Src) → Option (List (List V))
  | rows, [] => some rows
  | rows, (i, s) :: rest => match (s.ev env).cells? with
    | some cs => if cs.length = sz ∧ i < rows.length then fillRows env sz (rows.set i cs) rest else none
    | none => none

def evBin : BinOp → V → V → Option V
  | .add, .int k a, .int k' b => if k = k' then some (.int k (k.wrap (a + b))) else none
  | .sub, .int k a, .int k' b => if k = k' then some (.int k (k.wrap (a - b))) else none
  | .mul, .int k a, .int k' b => if k = k' then some (.int k (k.wrap (a * b))) else none
  | .quo, .int k a, .int k' b => if k = k' ∧ b ≠ 0 then some (.int k (k.wrap (a.tdiv b))) else none
  | .rem, .int k a, .int k' b => if k = k' ∧ b ≠ 0 then some (.int k (a.tmod b)) else none
  | .eql, .int k a, .int k' b => if k = k' then some (.bool (a == b)) else none
  | .neq, .int k a, .int k' b => if k = k' then some (.bool (a != b)) else none
  | .lss, .int k a, .int k' b => if k = k' then some (.bool (a < b)) else none
  | .leq, .int k a, .int k' b => if k = k' then some (.bool (a ≤ b)) else none
  | .gtr, .int k a, .int k' b => if k = k' then some (.bool (a > b)) else none
  | .geq, .int k a, .int k' b => if k = k' then some (.bool (a ≥ b)) else none
  | .eql, .str a, .str b => some (.bool (a == b))
  | .neq, .str a, .str b => some (.bool (!(a == b)))
  | .add, .str a, .str b => if a.length + b.length < 2 ^ 62 then some (.str (a ++ b)) else none
  | _, _, _ => none

def evUn : UnOp → V → Option V
  | .neg, .int k n => some (.int k (k.wrap (0 - n)))
  | .not, .bool b => some (.bool (!b))
  | _, _ => none

/-- The row that a pointer points into, with the place in it. -/
def rowAt (σ : Store) : V → Option (List V × Nat)
  | .ptr o r off => match objAt σ o with
    | some ob => (ob.rows[r]?).map (·, off)
    | none => none
  | .fptr row off => some (row, off)
  | _ => none

/-- The rows of a slice. -/
def rowsOf (σ : Store) : V → Option (Nat × List (List V))
  | .nils => some (0, [])
  | .sl sz rows => some (sz, rows)
  | .msl o s l => match objAt σ o with
    | some ob => if s + l ≤ ob.rows.length then some (ob.sz, (ob.rows.drop s).take l) else none
    | none => none
  | _ => none

def lenOf (σ : Store) : V → Option Nat
  | .nils => some 0
  | .sl _ rows => some rows.length
  | .msl o _ l => (objAt σ o).map fun _ => l
  | _ => none

inductive Eff where
  | val (v : V)
  | newP (ob : Obj)
  | newS (ob : Obj) (len : Nat)
  | upd (o : Nat) (ob : Obj)
  | mov (o : Nat) (ob : Obj) (len : Nat)

/-- A number within 0 .. n-1, as an index. -/
def asIdx (n : Nat) : V → Option Nat
  | .int _ i => if 0 ≤ i ∧ i < n then some i.toNat else none
  | _ => none

/-- A number within 0 .. n, as a bound. -/
def asBound (n : Nat) : V → Option Nat
  | .int _ i => if 0 ≤ i ∧ i ≤ n then some i.toNat else none
  | _ => none

def hiB (env : Nat → V) (n : Nat) : Option Src → Option Nat
  | some h => asBound n (h.ev env)
  | none => some n

def loB (env : Nat → V) (n : Nat) : Option Src → Option Nat
  | some l => asBound n (l.ev env)
  | none => some 0

def bytesOf : List (List V) → Option (List UInt8)
  | [] => some []
  | [.int .u8 n] :: rest => if 0 ≤ n ∧ n < 256 then (bytesOf rest).map (UInt8.ofNat n.toNat :: ·) else none
  | _ => none

def I.eff (env : Nat → V) (σ : Store) : I → Option Eff
  | .mov x => some (.val (x.ev env))
  | .pick c a b => match c.ev env with
    | .bool t => some (.val (if t then a.ev env else b.ev env))
    | _ => none
  | .alloc zero => some (.newP ⟨zero.length, [zero]⟩)
  | .box x => match (x.ev env).cells? with
    | some (c :: cs) => some (.newP ⟨(c :: cs).length, [c :: cs]⟩)
    | _ => none
  | .build zero parts => match fillRow env zero parts with
    | some cs => some (.val (.agg cs))
    | none => none
  | .mkSl sz zero ln parts => match fillRows env sz (List.replicate ln zero) parts with
    | some rows => if ln = 0 then some (.val .nils) else some (.newS ⟨sz, rows⟩ ln)
    | none => none
  | .make zero bytes x => match x.ev env with
    | .int .i64 n => if 0 ≤ n ∧ n ≤ 2 ^ 47 ∧ n * bytes ≤ 2 ^ 47 then some (.newS ⟨zero.length, List.replicate n.toNat zero⟩ n.toNat) else none
    | _ => none
  | .load n isAgg a => match rowAt σ (a.ev env) with
    | some (row, off) =>
      if isAgg then (if off + n ≤ row.length then some (.val (.agg ((row.drop off).take n))) else none)
      else match row[off]? with
        | some v => some (.val v)
        | none => none
    | none => none
  | .store n a x => match a.ev env, (x.ev env).cells? with
    | .ptr o r off, some cs => match objAt σ o with
      | some ob => match ob.rows[r]? with
        | some row => if cs.length = n ∧ off + n ≤ row.length then some (.upd o ⟨ob.sz, ob.rows.set r (splice row off cs)⟩) else none
        | none => none
      | none => none
    | _, _ => none
  | .fld d a => match a.ev env with
    | .ptr o r off => match objAt σ o with
      | some _ => some (.val (.ptr o r (off + d)))
      | none => none
    | .fptr row off => some (.val (.fptr row (off + d)))
    | _ => none
  | .idx sz x i => match x.ev env with
    | .msl o s l => match objAt σ o, asIdx l (i.ev env) with
      | some ob, some j => if ob.sz = sz then some (.val (.ptr o (s + j) 0)) else none
      | _, _ => none
    | .sl sz' rows => match asIdx rows.length (i.ev env) with
      | some j => if sz' = sz then some (.val (.fptr (rows.getD j []) 0)) else none
      | none => none
    | _ => none
  | .idxA cnt sz x i => match x.ev env, asIdx cnt (i.ev env) with
    | .ptr o r off, some j => match objAt σ o with
      | some _ => some (.val (.ptr o r (off + j * sz)))
      | none => none
    | .fptr row off, some j => some (.val (.fptr row (off + j * sz)))
    | _, _ => none
  | .idxS x i => match x.ev env with
    | .str s => match asIdx s.length (i.ev env) with
      | some j => some (.val (.int .u8 (s.getD j 0).toNat))
      | none => none
    | _ => none
  | .len x => match lenOf σ (x.ev env) with
    | some n => some (.val (.int .i64 n))
    | none => none
  | .lenS x => match x.ev env with
    | .str s => some (.val (.int .i64 s.length))
    | _ => none
  | .bin op x y => match evBin op (x.ev env) (y.ev env) with
    | some v => some (.val v)
    | none => none
  | .beq ne x y => match x.ev env, y.ev env with
    | .bool a, .bool b => some (.val (.bool (if ne then !(a == b) else a == b)))
    | _, _ => none
  | .un op x => match evUn op (x.ev env) with
    | some v => some (.val v)
    | none => none
  | .conv k x => match x.ev env with
    | .int _ n => some (.val (.int k (k.wrap n)))
    | _ => none
  | .bstr x => match rowsOf σ (x.ev env) with
    | some (_, rows) => match bytesOf rows with
      | some s => some (.val (.str s))
      | none => none
    | none => none
  | .sliceS x lo hi => match x.ev env with
    | .str s => match hiB env s.length hi with
      | some h => match loB env h lo with
        | some l => some (.val (.str ((s.take h).drop l)))
        | none => none
      | none => none
    | _ => none
  | .slice sz x lo hi => match lenOf σ (x.ev env) with
    | some n => match hiB env n hi with
      | some h => match loB env h lo with
        | some l => match x.ev env with
          | .nils => some (.val .nils)
          | .sl sz' rows => if sz' = sz then some (.val (.sl sz' ((rows.take h).drop l))) else none
          | .msl o s _ => match objAt σ o with
            | some ob => if ob.sz = sz then some (.val (.msl o (s + l) (h - l))) else none
            | none => none
          | _ => none
        | none => none
      | none => none
    | none => none
  | .app sz bytes x y => match rowsOf σ (x.ev env), rowsOf σ (y.ev env) with
    | some (_, old), some (sz', new) =>
      if new = [] then some (.val (x.ev env))
      else if sz' = sz ∧ (old.length + new.length) * bytes ≤ 2 ^ 40 ∧ old.length + new.length ≤ 2 ^ 40 then
        match x.ev env with
        | .nils => some (.newS ⟨sz, new⟩ new.length)
        | .msl o _ _ => match objAt σ o with
          | some ob => if ob.sz = sz then some (.mov o ⟨sz, old ++ new⟩ (old.length + new.length)) else none
          | none => none
        | _ => none
      else none
    | _, _ => none
  | .max x y => match x.ev env, y.ev env with
    | .int k a, .int k' b => if k = k' then some (.val (.int k (if b > a then b else a))) else none
    | _, _ => none
  | .extr i x => match x.ev env with
    | .tup vs => match vs[i]? with
      | some v => some (.val v)
      | none => none
    | _ => none
  | .chk x => match x.ev env with
    | .ptr o r off => match objAt σ o with
      | some _ => some (.val (.ptr o r off))
      | none => none
    | .fptr row off => some (.val (.fptr row off))
    | _ => none
  | .call .. => none

/-- What an effect leaves in the temporary; `id`: the number of the object that it may make. -/
def Eff.dv (id : Nat) : Eff → V
  | .val v => v
  | .newP _ => .ptr id 0 0
  | .newS _ len => .msl id 0 len
  | .upd _ _ => .any
  | .mov _ _ len => .msl id 0 len

def Eff.store (σ : Store) (id : Nat) : Eff → Store
  | .val _ => σ
  | .newP ob => σ.set id (some ob)
  | .newS ob _ => σ.set id (some ob)
  | .upd o ob => σ.set o (some ob)
  | .mov o ob _ => (σ.set o none).set id (some ob)

def Eff.go (st : St) (dst : Option Nat) (id : Nat) (ef : Eff) : St :=
  { st with env := updO st.env dst (ef.dv id), objs := ef.store st.objs id }

/-! ### Freezing, renaming -/

/-- How deep values go. -/
def FD : Nat := 12
def SD : Nat := 4


/-- `v` with every slice and pointer into the store turned into what it reads. -/
def resolve (σ : Store) : Nat → V → Option V
  | 0, _ => none
  | n + 1, v => match v with
    | .msl o s l => match objAt σ o with
      | some ob => if s + l ≤ ob.rows.length then (((ob.rows.drop s).take l).mapM fun (r : List V) => r.mapM (resolve σ n)).map (.sl ob.sz) else none
      | none => none
    | .ptr o r off => match objAt σ o with
      | some ob => match ob.rows[r]? with
        | some row => (row.mapM (resolve σ n)).map (.fptr · off)
        | none => none
      | none => none
    | .agg cs => (cs.mapM (resolve σ n)).map .agg
    | .tup cs => (cs.mapM (resolve σ n)).map .tup
    | .any => none
    | v => some v

/-- The objects that `v` reaches. -/
def reach (σ : Store) : Nat → V → List Nat
  | 0, _ => []
  | n + 1, v => match v with
    | .msl o _ _ | .ptr o _ _ => o :: match objAt σ o with
      | some ob => ob.rows.flatMap fun (r : List V) => r.flatMap (reach σ n)
      | none => []
    | .agg cs | .tup cs => cs.flatMap (reach σ n)
    | _ => []

/-- Nothing in `v` lies in memory. -/
def scalar : Nat → V → Bool
  | 0, _ => false
  | n + 1, v => match v with
    | .int .. | .bool _ | .str _ | .nils => true
    | .agg cs | .tup cs => cs.all (scalar n)
    | _ => false

/-- Object numbers turned by `g`; what has none any more: unknown. -/
def mapV (g : Nat → Option Nat) : V → V
  | .msl o s l => match g o with
    | some o' => .msl o' s l
    | none => .one
  | .ptr o r off => match g o with
    | some o' => .ptr o' r off
    | none => .one
  | .agg cs => .agg (mapL g cs)
  | .tup cs => .tup (mapL g cs)
  | v => v
where mapL (g : Nat → Option Nat) : List V → List V
  | [] => []
  | c :: cs => mapV g c :: mapL g cs

def mapO (g : Nat → Option Nat) (ob : Obj) : Obj := ⟨ob.sz, ob.rows.map fun r => r.map (mapV g)⟩

/-- The place of an object in a list of those that stay. -/
def place : List Nat → Nat → Option Nat
  | [], _ => none
  | r :: ρ, o => if r = o then some 0 else (place ρ o).map (· + 1)

def gcS (ρ : List Nat) (σ : Store) : Store := ρ.map fun o => (objAt σ o).map (mapO (place ρ))

def gcE (ρ : List Nat) (env : Nat → V) (t : Nat) : V := mapV (place ρ) (env t)

def St.gc (ρ : List Nat) (st : St) : St := { st with env := gcE ρ st.env, objs := gcS ρ st.objs }

/-- Back: the callee's numbers to the caller's; `n`: where what it made is put. -/
def back (ρ : List Nat) (n : Nat) (j : Nat) : Option Nat := if j < ρ.length then ρ[j]? else some (n + (j - ρ.length))

/-- The caller's store behind a call that was handed the objects ρ. -/
def putBack (ρ : List Nat) (σ σ' : Store) : Store :=
  (σ.mapIdx fun o ob => match place ρ o with
    | some j => (objAt σ' j).map (mapO (back ρ σ.length))
    | none => ob) ++ (σ'.drop ρ.length).map (Option.map (mapO (back ρ σ.length)))

def killAll (σ : Store) (l : List Nat) : Store := l.foldl (fun s o => s.set o none) σ

def I.makes : I → Bool
  | .alloc _ | .box _ | .mkSl .. | .make .. | .app .. => true
  | _ => false

def okK (m : Nat) : List OpI → Bool
  | [] => true
  | o :: l => (if o.i.makes then decide (o.k < m) && l.all (fun p => !p.i.makes || p.k != o.k) else o.k == m) && okK m l

inductive Ex where
  | normal
  | exit (id : Nat)
  | ret
  deriving DecidableEq

inductive Job where
  | code (c : C) (st : St)
  | ops (l : List OpI) (st : St)
  | op (o : OpI) (st : St)
  | any (l : List OpI) (done : List Nat) (st : St)
  | fn (f : Nat) (args : List V) (σ : Store)

inductive Out where
  | code (e : Ex) (st : St)
  | fn (r : V) (σ : Store)

def Res.get (st : St) : Res → Option V
  | .tmp t => some (st.env t)
  | .cell t n isAgg => match rowAt st.objs (st.env t) with
    | some (row, off) =>
      if isAgg then (if off + n ≤ row.length then some (.agg ((row.drop off).take n)) else none)
      else row[off]?
    | none => none

def packRes : List V → V
  | [v] => v
  | vs => .tup vs

def exIn (id : Nat) : Ex → Ex
  | .exit id' => if id' = id then .normal else .exit id'
  | e => e

def argE (args : List V) (t : Nat) : V := args.getD t .any

def St.enter (args : List V) (σ : Store) : St := { env := argE args, objs := σ, keep := σ.length }

/-- Operation i may come up now. -/
def readyB (l : List OpI) (done : List Nat) (i : Nat) : Bool :=
  match l[i]? with
  | some o => !done.contains i && o.aft.all done.contains
  | none => false

inductive Run (T : Nat → Option Fn) : Job → Out → Prop
  | skip (st) : Run T (.code .skip st) (.code .normal st)
  | reg {m l st st'} (hk : okK m l = true)
      (h : Run T (.ops l { st with objs := st.objs ++ List.replicate m none, base := st.objs.length, rds := [], muts := [] }) (.code .normal st')) :
      Run T (.code (.reg false m l) st) (.code .normal st')
  | regD {m l st st'} (hk : okK m l = true)
      (h : Run T (.any l [] { st with objs := st.objs ++ List.replicate m none, base := st.objs.length, rds := [], muts := [] }) (.code .normal st')) :
      Run T (.code (.reg true m l) st) (.code .normal st')
  | anyN {l done st} (h : ∀ i, readyB l done i = false) : Run T (.any l done st) (.code .normal st)
  | anyC {l done st st'} (i0 : Nat) (h0 : readyB l done i0 = true) (f : Nat → St) (h : ∀ i o, l[i]? = some o → readyB l done i = true → Run T (.op o st) (.code .normal (f i)))
      (h' : ∀ i, readyB l done i = true → Run T (.any l (i :: done) (f i)) (.code .normal st')) : Run T (.any l done st) (.code .normal st')
  | seqN {a b st st1 o} (h : Run T (.code a st) (.code .normal st1)) (h' : Run T (.code b st1) o) : Run T (.code (.seq a b) st) o
  | seqE {a b st e st1} (he : e ≠ .normal) (h : Run T (.code a st) (.code e st1)) : Run T (.code (.seq a b) st) (.code e st1)
  | cond {x a b st t o} (hx : x.ev st.env = .bool t) (h : Run T (.code (if t then a else b) st) o) : Run T (.code (.cond x a b) st) o
  | block {id c st e st1} (h : Run T (.code c st) (.code e st1)) : Run T (.code (.block id c) st) (.code (exIn id e) st1)
  | loopN {c st st1 o} (h : Run T (.code c st) (.code .normal st1)) (h' : Run T (.code (.loop c) st1) o) : Run T (.code (.loop c) st) o
  | loopE {c st e st1} (he : e ≠ .normal) (h : Run T (.code c st) (.code e st1)) : Run T (.code (.loop c) st) (.code e st1)
  | exit (id st) : Run T (.code (.exit id) st) (.code (.exit id) st)
  | ret (st) : Run T (.code .ret st) (.code .ret st)
  | gc {c st o} (ρ : List Nat) (hn : ρ.Nodup) (hρ : ∀ i, i < st.keep → ρ[i]? = some i) (h : Run T (.code c (st.gc ρ)) o) : Run T (.code c st) o
  | nil (st) : Run T (.ops [] st) (.code .normal st)
  | cons {o l st st1 out} (h : Run T (.op o st) (.code .normal st1)) (h' : Run T (.ops l st1) out) : Run T (.ops (o :: l) st) out
  | off {o st g want b} (hg : o.g = some (g, want)) (he : st.env g = .bool b) (hb : b ≠ want) :
      Run T (.op o st) (.code .normal { st with env := updO st.env o.dst .any })
  | op {o st ef} (hg : ∀ g want, o.g = some (g, want) → st.env g = .bool want) (h : o.i.eff st.env st.objs = some ef) :
      Run T (.op o st) (.code .normal (ef.go st o.dst (st.base + o.k)))
  | callP {o st f as as' r R} (hg : ∀ g want, o.g = some (g, want) → st.env g = .bool want) (hi : o.i = .call f as)
      (ha : as.mapM (fun s => resolve st.objs FD (s.ev st.env)) = some as') (h : Run T (.fn f as' []) (.fn r []))
      (hR : R = if scalar SD r then [] else as.flatMap fun s => reach st.objs FD (s.ev st.env)) :
      Run T (.op o st) (.code .normal { st with env := updO st.env o.dst r, objs := killAll st.objs R })
  | callR {o st f as r σ'} (ρ : List Nat) (hn : ρ.Nodup) (hρ : ∀ o, o ∈ ρ → (objAt st.objs o).isSome = true) (hg : ∀ g want, o.g = some (g, want) → st.env g = .bool want) (hi : o.i = .call f as)
      (h : Run T (.fn f (as.map fun s => mapV (place ρ) (s.ev st.env)) (gcS ρ st.objs)) (.fn r σ')) :
      Run T (.op o st) (.code .normal { st with env := updO st.env o.dst (mapV (back ρ st.objs.length) r), objs := putBack ρ st.objs σ' })
  | fn {f args σ F e st' rs} (hf : T f = some F) (hl : args.length = F.nargs) (h : Run T (.code F.body (St.enter args σ)) (.code e st'))
      (he : e = .normal ∨ e = .ret) (hr : F.res.mapM (Res.get st') = some rs) : Run T (.fn f args σ) (.fn (packRes rs) st'.objs)
  | frz {f args r σ' r'} (h : Run T (.fn f args []) (.fn r σ')) (hr : resolve σ' FD r = some r') : Run T (.fn f args []) (.fn r' [])
  | gcF {f args σ r σ'} (ρ : List Nat) (hn : ρ.Nodup) (hρ : ∀ i, i < σ.length → ρ[i]? = some i) (h : Run T (.fn f args σ) (.fn r σ')) :
      Run T (.fn f args σ) (.fn (mapV (place ρ) r) (gcS ρ σ'))

end Go.Ml
