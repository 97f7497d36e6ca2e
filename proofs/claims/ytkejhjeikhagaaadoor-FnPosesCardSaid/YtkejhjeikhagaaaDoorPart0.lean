/- Contracts of functions. -/
import Derived.Calls
import Derived.Orders
import Derived.Laws.Sem
import Derived.Lib.ItoaNum
import Derived.Lib.Join
import Derived.Lib.Repeat
import Derived.RowKit3
import Derived.Laws.CopyRow
import Derived.Laws.StructEq
import Derived.Laws.Entries
import Derived.ChangeKeysEq
import Derived.Laws.Small
import Derived.Lib.Strings
import Derived.IntWalk
import Derived.Laws.BytesString
import Derived.Tactics
import Derived.ProofKit
import Derived.SliceStrings
section
namespace Go.Ml
inductive V where
  | any
  | one
  | int (k : IntKind) (n : Int)
  | bool (b : Bool)
  | str (s : List UInt8)
  | agg (cs : List V)
  | tup (vs : List V)
  | nils
  | sl (sz : Nat) (rows : List (List V))
  | msl (o start len : Nat)
  | ptr (o row off : Nat)
  | fptr (row : List V) (off : Nat)
  deriving Inhabited
def V.leaf : V → Bool
  | .one | .int .. | .bool _ | .str _ | .nils | .sl .. | .msl .. | .ptr .. | .fptr .. => true
  | _ => false
def V.cells? : V → Option (List V)
  | .agg cs => if cs.all V.leaf then some cs else none
  | x => if x.leaf then some [x] else none
structure Desc where
  blk : Nat
  bas : Nat
  sz : Nat
  n : Nat
  cap : Nat
inductive DS where
  | unborn
  | dead
  | live (d : Desc)
abbrev DM := Nat → DS
def DM.none : DM := fun _ => .unborn
section
variable (w : World)
mutual
def rd (D : DM) (X : Nat → Prop) : V → Value → Prop
  | .any, _ => True
  | .one, v => v.oneCell' = true
  | .int k n, v => v = .int k n
  | .bool b, v => v = .bool b
  | .str s, v => v = .string ⟨s.toArray⟩
  | .agg cs, v => ∃ a : Array Value, v = .agg a ∧ rdL D X cs a.toList
  | .tup cs, v => ∃ a : Array Value, v = .tuple a ∧ rdL D X cs a.toList
  | .nils, v => ∃ a, v = .slice a 0 0
  | .sl sz rows, v => ∃ a cap, v = .slice a rows.length cap ∧ rows.length ≤ cap ∧ (rows = [] ∨ ∃ b off, a = some ⟨b, off, none⟩ ∧ b < w.heap.size ∧ ¬ X b ∧ rdRows DM.none X b sz off rows)
  | .msl o start len, v => match D o with
    | .unborn => False
    | .dead => ∃ a l c, v = .slice a l c
    | .live d => start + len ≤ d.n ∧ ∃ a cap, v = .slice a len cap ∧ len ≤ cap ∧
        ((a = some ⟨d.blk, d.bas + start * d.sz, none⟩ ∧ d.bas + (start + cap) * d.sz ≤ d.cap) ∨ (len = 0 ∧ cap = 0))
  | .ptr o row off, v => match D o with
    | .unborn => False
    | .dead => ∃ a, v = .pointer a
    | .live d => v = .pointer (some ⟨d.blk, d.bas + row * d.sz + off, none⟩)
  | .fptr row off, v => ∃ b o, v = .pointer (some ⟨b, o + off, none⟩) ∧ b < w.heap.size ∧ ¬ X b ∧ rdCells DM.none X b o row
def rdL (D : DM) (X : Nat → Prop) : List V → List Value → Prop
  | [], ys => ys = []
  | x :: xs, ys => ∃ y ys', ys = y :: ys' ∧ rd D X x y ∧ rdL D X xs ys'
def rdCells (D : DM) (X : Nat → Prop) (b : Nat) : Nat → List V → Prop
  | _, [] => True
  | off, x :: xs => x.leaf = true ∧ (∃ c, w.cell? ⟨b, off, none⟩ = some c ∧ rd D X x c) ∧ rdCells D X b (off + 1) xs
def rdRows (D : DM) (X : Nat → Prop) (b : Nat) (sz : Nat) : Nat → List (List V) → Prop
  | _, [] => True
  | off, r :: rs => r.length = sz ∧ rdCells D X b off r ∧ rdRows D X b sz (off + sz) rs
end
end
structure Obj where
  sz : Nat
  rows : List (List V)
abbrev Store := List (Option Obj)
inductive Src where
  | t (n : Nat)
  | c (v : V)
inductive I where
  | mov (x : Src)
  | pick (c a b : Src)
  | alloc (zero : List V)
  | box (x : Src)
  | build (zero : List V) (parts : List (Nat × Nat × Src))
  | mkSl (sz : Nat) (zero : List V) (len : Nat) (parts : List (Nat × Src))
  | make (zero : List V) (bytes : Nat) (x : Src)
  | load (n : Nat) (isAgg : Bool) (a : Src)
  | store (n : Nat) (a x : Src)
  | fld (off : Nat) (a : Src)
  | idx (sz : Nat) (x i : Src)
  | idxA (cnt sz : Nat) (x i : Src)
  | idxS (x i : Src)
  | len (x : Src)
  | lenS (x : Src)
  | bin (op : BinOp) (x y : Src)
  | beq (ne : Bool) (x y : Src)
  | un (op : UnOp) (x : Src)
  | conv (k : IntKind) (x : Src)
  | bstr (x : Src)
  | slice (sz : Nat) (x : Src) (lo hi : Option Src)
  | sliceS (x : Src) (lo hi : Option Src)
  | app (sz bytes : Nat) (x y : Src)
  | max (x y : Src)
  | extr (i : Nat) (x : Src)
  | chk (x : Src)
  | call (f : Nat) (args : List Src)
  | idxV (cnt : Nat) (x i : Src)
  | aeq (ne : Bool) (x y : Src)
structure OpI where
  g : Option (Nat × Bool)
  dst : Option Nat
  k : Nat
  i : I
  aft : List Nat := []
inductive OutF where
  | sortInts
  | itoa
  | joinS
  | rept
  | parseI
inductive C where
  | skip
  | reg (draw : Bool) (m : Nat) (ops : List OpI)
  | seq (a b : C)
  | cond (x : Src) (a b : C)
  | block (id : Nat) (c : C)
  | loop (c : C)
  | exit (id : Nat)
  | ret
  | lib (o : OutF)
inductive Res where
  | tmp (t : Nat)
  | cell (t n : Nat) (isAgg : Bool)
structure Fn where
  nargs : Nat
  ntmps : Nat
  res : List Res
  body : C
structure St where
  env : Nat → V
  objs : Store
  keep : Nat := 0
  base : Nat := 0
  rds : List Nat := []
  muts : List Nat := []
def upd (env : Nat → V) (t : Nat) (v : V) (s : Nat) : V := if s = t then v else env s
def updO (env : Nat → V) : Option Nat → V → Nat → V
  | some t, v => upd env t v
  | none, _ => env
def Src.ev (env : Nat → V) : Src → V
  | .t n => env n
  | .c v => v
def splice (row : List V) (off : Nat) (cs : List V) : List V := row.take off ++ cs ++ row.drop (off + cs.length)
def objAt (σ : Store) (o : Nat) : Option Obj := (σ[o]?).getD none
def fillRow (env : Nat → V) : List V → List (Nat × Nat × Src) → Option (List V)
  | row, [] => some row
  | row, (off, n, s) :: rest => match (s.ev env).cells? with
    | some cs => if cs.length = n ∧ off + n ≤ row.length then fillRow env (splice row off cs) rest else none
    | none => none
def fillRows (env : Nat → V) (sz : Nat) : List (List V) → List (Nat × Src) → Option (List (List V))
  | rows, [] => some rows
  | rows, (i, s) :: rest => match (s.ev env).cells? with
    | some cs => if cs.length = sz ∧ i < rows.length then fillRows env sz (rows.set i cs) rest else none
    | none => none
def bitsAnd (k : IntKind) (a b : Int) : Int := k.wrap (BitVec.ofInt k.bits a &&& BitVec.ofInt k.bits b).toNat
def bitsXor (k : IntKind) (a b : Int) : Int := k.wrap (BitVec.ofInt k.bits a ^^^ BitVec.ofInt k.bits b).toNat
def evBin : BinOp → V → V → Option V
  | .add, .int k a, .int k' b => if k = k' then some (.int k (k.wrap (a + b))) else none
  | .sub, .int k a, .int k' b => if k = k' then some (.int k (k.wrap (a - b))) else none
  | .mul, .int k a, .int k' b => if k = k' then some (.int k (k.wrap (a * b))) else none
  | .quo, .int k a, .int k' b => if k = k' ∧ b ≠ 0 then some (.int k (k.wrap (a.tdiv b))) else none
  | .rem, .int k a, .int k' b => if k = k' ∧ b ≠ 0 then some (.int k (a.tmod b)) else none
  | .eql, .int k a, .int k' b => if k = k' then some (.bool (a == b)) else none
  | .neq, .int k a, .int k' b => if k = k' then some (.bool (a != b)) else none
  | .lss, .int k a, .int k' b => if k = k' then some (.bool (a < b)) else none
  | .leq, .int k a, .int k' b => if k = k' then some (.bool (a ≤ b)) else none
  | .gtr, .int k a, .int k' b => if k = k' then some (.bool (a > b)) else none
  | .geq, .int k a, .int k' b => if k = k' then some (.bool (a ≥ b)) else none
  | .eql, .str a, .str b => some (.bool (a == b))
  | .neq, .str a, .str b => some (.bool (!(a == b)))
  | .add, .str a, .str b => if a.length + b.length < 2 ^ 62 then some (.str (a ++ b)) else none
  | .shr, .int k a, .int _ b => if 0 ≤ b then some (.int k (a.fdiv (2 ^ (min b.toNat k.bits)))) else none
  | .and, .int k a, .int k' b => if k = k' then some (.int k (bitsAnd k a b)) else none
  | .xor, .int k a, .int k' b => if k = k' then some (.int k (bitsXor k a b)) else none
  | _, _, _ => none
def evUn : UnOp → V → Option V
  | .neg, .int k n => some (.int k (k.wrap (0 - n)))
  | .not, .bool b => some (.bool (!b))
  | _, _ => none
def rowAt (σ : Store) : V → Option (List V × Nat)
  | .ptr o r off => match objAt σ o with
    | some ob => (ob.rows[r]?).map (·, off)
    | none => none
  | .fptr row off => some (row, off)
  | _ => none
def rowsOf (σ : Store) : V → Option (Nat × List (List V))
  | .nils => some (0, [])
  | .sl sz rows => some (sz, rows)
  | .msl o s l => match objAt σ o with
    | some ob => if s + l ≤ ob.rows.length then some (ob.sz, (ob.rows.drop s).take l) else none
    | none => none
  | _ => none
def lenOf (σ : Store) : V → Option Nat
  | .nils => some 0
  | .sl _ rows => some rows.length
  | .msl o _ l => (objAt σ o).map fun _ => l
  | _ => none
inductive Eff where
  | val (v : V)
  | newP (ob : Obj)
  | newS (ob : Obj) (len : Nat)
  | upd (o : Nat) (ob : Obj)
  | mov (o : Nat) (ob : Obj) (len : Nat)
def asIdx (n : Nat) : V → Option Nat
  | .int _ i => if 0 ≤ i ∧ i < n then some i.toNat else none
  | _ => none
def asBound (n : Nat) : V → Option Nat
  | .int _ i => if 0 ≤ i ∧ i ≤ n then some i.toNat else none
  | _ => none
def hiB (env : Nat → V) (n : Nat) : Option Src → Option Nat
  | some h => asBound n (h.ev env)
  | none => some n
def loB (env : Nat → V) (n : Nat) : Option Src → Option Nat
  | some l => asBound n (l.ev env)
  | none => some 0
def bytesOf : List (List V) → Option (List UInt8)
  | [] => some []
  | [.int .u8 n] :: rest => if 0 ≤ n ∧ n < 256 then (bytesOf rest).map (UInt8.ofNat n.toNat :: ·) else none
  | _ => none
def eq3 : List V → List V → Option Bool
  | [.int .i64 a, .int .i64 b, .int .i64 c], [.int .i64 d, .int .i64 e, .int .i64 f] => some (a == d && b == e && c == f)
  | _, _ => none
def I.eff (env : Nat → V) (σ : Store) : I → Option Eff
  | .mov x => some (.val (x.ev env))
  | .pick c a b => match c.ev env with
    | .bool t => some (.val (if t then a.ev env else b.ev env))
    | _ => none
  | .alloc zero => some (.newP ⟨zero.length, [zero]⟩)
  | .box x => match (x.ev env).cells? with
    | some (c :: cs) => some (.newP ⟨(c :: cs).length, [c :: cs]⟩)
    | _ => none
  | .build zero parts => match fillRow env zero parts with
    | some cs => some (.val (.agg cs))
    | none => none
  | .mkSl sz zero ln parts => match fillRows env sz (List.replicate ln zero) parts with
    | some rows => if ln = 0 then some (.val .nils) else some (.newS ⟨sz, rows⟩ ln)
    | none => none
  | .make zero bytes x => match x.ev env with
    | .int .i64 n => if 0 ≤ n ∧ n ≤ 2 ^ 47 ∧ n * bytes ≤ 2 ^ 47 then some (.newS ⟨zero.length, List.replicate n.toNat zero⟩ n.toNat) else none
    | _ => none
  | .load n isAgg a => match rowAt σ (a.ev env) with
    | some (row, off) =>
      if isAgg then (if off + n ≤ row.length then some (.val (.agg ((row.drop off).take n))) else none)
      else match row[off]? with
        | some v => some (.val v)
        | none => none
    | none => none
  | .store n a x => match a.ev env, (x.ev env).cells? with
    | .ptr o r off, some cs => match objAt σ o with
      | some ob => match ob.rows[r]? with
        | some row => if cs.length = n ∧ off + n ≤ row.length then some (.upd o ⟨ob.sz, ob.rows.set r (splice row off cs)⟩) else none
        | none => none
      | none => none
    | _, _ => none
  | .fld d a => match a.ev env with
    | .ptr o r off => match objAt σ o with
      | some _ => some (.val (.ptr o r (off + d)))
      | none => none
    | .fptr row off => some (.val (.fptr row (off + d)))
    | _ => none
  | .idx sz x i => match x.ev env with
    | .msl o s l => match objAt σ o, asIdx l (i.ev env) with
      | some ob, some j => if ob.sz = sz then some (.val (.ptr o (s + j) 0)) else none
      | _, _ => none
    | .sl sz' rows => match asIdx rows.length (i.ev env) with
      | some j => if sz' = sz then some (.val (.fptr (rows.getD j []) 0)) else none
      | none => none
    | _ => none
  | .idxA cnt sz x i => match x.ev env, asIdx cnt (i.ev env) with
    | .ptr o r off, some j => match objAt σ o with
      | some _ => some (.val (.ptr o r (off + j * sz)))
      | none => none
    | .fptr row off, some j => some (.val (.fptr row (off + j * sz)))
    | _, _ => none
  | .idxS x i => match x.ev env with
    | .str s => match asIdx s.length (i.ev env) with
      | some j => some (.val (.int .u8 (s.getD j 0).toNat))
      | none => none
    | _ => none
  | .len x => match lenOf σ (x.ev env) with
    | some n => some (.val (.int .i64 n))
    | none => none
  | .lenS x => match x.ev env with
    | .str s => some (.val (.int .i64 s.length))
    | _ => none
  | .bin op x y => match evBin op (x.ev env) (y.ev env) with
    | some v => some (.val v)
    | none => none
  | .beq ne x y => match x.ev env, y.ev env with
    | .bool a, .bool b => some (.val (.bool (if ne then !(a == b) else a == b)))
    | _, _ => none
  | .aeq ne x y => match x.ev env, y.ev env with
    | .agg as, .agg bs => match eq3 as bs with
      | some r => some (.val (.bool (if ne then !r else r)))
      | none => none
    | _, _ => none
  | .un op x => match evUn op (x.ev env) with
    | some v => some (.val v)
    | none => none
  | .conv k x => match x.ev env with
    | .int _ n => some (.val (.int k (k.wrap n)))
    | _ => none
  | .bstr x => match rowsOf σ (x.ev env) with
    | some (_, rows) => match bytesOf rows with
      | some s => some (.val (.str s))
      | none => none
    | none => none
  | .sliceS x lo hi => match x.ev env with
    | .str s => match hiB env s.length hi with
      | some h => match loB env h lo with
        | some l => some (.val (.str ((s.take h).drop l)))
        | none => none
      | none => none
    | _ => none
  | .slice sz x lo hi => match lenOf σ (x.ev env) with
    | some n => match hiB env n hi with
      | some h => match loB env h lo with
        | some l => match x.ev env with
          | .nils => some (.val .nils)
          | .sl sz' rows => if sz' = sz then some (.val (.sl sz' ((rows.take h).drop l))) else none
          | .msl o s _ => match objAt σ o with
            | some ob => if ob.sz = sz then some (.val (.msl o (s + l) (h - l))) else none
            | none => none
          | _ => none
        | none => none
      | none => none
    | none => none
  | .app sz bytes x y => match rowsOf σ (x.ev env), rowsOf σ (y.ev env) with
    | some (_, old), some (sz', new) =>
      if new = [] then some (.val (x.ev env))
      else if sz' = sz ∧ (old.length + new.length) * bytes ≤ 2 ^ 40 ∧ old.length + new.length ≤ 2 ^ 40 then
        match x.ev env with
        | .nils => some (.newS ⟨sz, new⟩ new.length)
        | .msl o _ _ => match objAt σ o with
          | some ob => if ob.sz = sz then some (.mov o ⟨sz, old ++ new⟩ (old.length + new.length)) else none
          | none => none
        | _ => none
      else none
    | _, _ => none
  | .max x y => match x.ev env, y.ev env with
    | .int k a, .int k' b => if k = k' then some (.val (.int k (if b > a then b else a))) else none
    | _, _ => none
  | .extr i x => match x.ev env with
    | .tup vs => match vs[i]? with
      | some v => some (.val v)
      | none => none
    | _ => none
  | .chk x => match x.ev env with
    | .ptr o r off => match objAt σ o with
      | some _ => some (.val (.ptr o r off))
      | none => none
    | .fptr row off => some (.val (.fptr row off))
    | _ => none
  | .call .. => none
  | .idxV cnt x i => match x.ev env, asIdx cnt (i.ev env) with
    | .agg cs, some j => match cs[j]? with
      | some v => some (.val v)
      | none => none
    | _, _ => none
def Eff.dv (id : Nat) : Eff → V
  | .val v => v
  | .newP _ => .ptr id 0 0
  | .newS _ len => .msl id 0 len
  | .upd _ _ => .any
  | .mov _ _ len => .msl id 0 len
def Eff.store (σ : Store) (id : Nat) : Eff → Store
  | .val _ => σ
  | .newP ob => σ.set id (some ob)
  | .newS ob _ => σ.set id (some ob)
  | .upd o ob => σ.set o (some ob)
  | .mov o ob _ => (σ.set o none).set id (some ob)
def Eff.go (st : St) (dst : Option Nat) (id : Nat) (ef : Eff) : St :=
  { st with env := updO st.env dst (ef.dv id), objs := ef.store st.objs id }
def FD : Nat := 12
def SD : Nat := 4
def resolve (σ : Store) : Nat → V → Option V
  | 0, _ => none
  | n + 1, v => match v with
    | .msl o s l => match objAt σ o with
      | some ob => if s + l ≤ ob.rows.length then (((ob.rows.drop s).take l).mapM fun (r : List V) => r.mapM (resolve σ n)).map (.sl ob.sz) else none
      | none => none
    | .ptr o r off => match objAt σ o with
      | some ob => match ob.rows[r]? with
        | some row => (row.mapM (resolve σ n)).map (.fptr · off)
        | none => none
      | none => none
    | .agg cs => (cs.mapM (resolve σ n)).map .agg
    | .tup cs => (cs.mapM (resolve σ n)).map .tup
    | .any => none
    | v => some v
def reach (σ : Store) : Nat → V → List Nat
  | 0, _ => []
  | n + 1, v => match v with
    | .msl o _ _ | .ptr o _ _ => o :: match objAt σ o with
      | some ob => ob.rows.flatMap fun (r : List V) => r.flatMap (reach σ n)
      | none => []
    | .agg cs | .tup cs => cs.flatMap (reach σ n)
    | _ => []
def scalar : Nat → V → Bool
  | 0, _ => false
  | n + 1, v => match v with
    | .int .. | .bool _ | .str _ | .nils => true
    | .agg cs | .tup cs => cs.all (scalar n)
    | _ => false
def mapV (g : Nat → Option Nat) : V → V
  | .msl o s l => match g o with
    | some o' => .msl o' s l
    | none => .one
  | .ptr o r off => match g o with
    | some o' => .ptr o' r off
    | none => .one
  | .agg cs => .agg (mapL g cs)
  | .tup cs => .tup (mapL g cs)
  | v => v
where mapL (g : Nat → Option Nat) : List V → List V
  | [] => []
  | c :: cs => mapV g c :: mapL g cs
def mapO (g : Nat → Option Nat) (ob : Obj) : Obj := ⟨ob.sz, ob.rows.map fun r => r.map (mapV g)⟩
def place : List Nat → Nat → Option Nat
  | [], _ => none
  | r :: ρ, o => if r = o then some 0 else (place ρ o).map (· + 1)
def gcS (ρ : List Nat) (σ : Store) : Store := ρ.map fun o => (objAt σ o).map (mapO (place ρ))
def gcE (ρ : List Nat) (env : Nat → V) (t : Nat) : V := mapV (place ρ) (env t)
def St.gc (ρ : List Nat) (st : St) : St := { st with env := gcE ρ st.env, objs := gcS ρ st.objs }
def back (ρ : List Nat) (n : Nat) (j : Nat) : Option Nat := if j < ρ.length then ρ[j]? else some (n + (j - ρ.length))
def putBack (ρ : List Nat) (σ σ' : Store) : Store :=
  (σ.mapIdx fun o ob => match place ρ o with
    | some j => (objAt σ' j).map (mapO (back ρ σ.length))
    | none => ob) ++ (σ'.drop ρ.length).map (Option.map (mapO (back ρ σ.length)))
def killAll (σ : Store) (l : List Nat) : Store := l.foldl (fun s o => s.set o none) σ
mutual
def LaxV : V → V → Prop
  | .sl sz rows, y => (rows = [] ∧ (y = .nils ∨ ∃ sz', y = .sl sz' [])) ∨ ∃ rows', y = .sl sz rows' ∧ LaxR rows rows'
  | .agg cs, y => ∃ cs', y = .agg cs' ∧ LaxL cs cs'
  | .tup cs, y => ∃ cs', y = .tup cs' ∧ LaxL cs cs'
  | .any, y => y = .any
  | .one, y => y = .one
  | .int k n, y => y = .int k n
  | .bool b, y => y = .bool b
  | .str s, y => y = .str s
  | .nils, y => y = .nils
  | .msl o s l, y => y = .msl o s l
  | .ptr o r off, y => y = .ptr o r off
  | .fptr row off, y => ∃ row', y = .fptr row' off ∧ LaxL row row'
def LaxL : List V → List V → Prop
  | [], ys => ys = []
  | x :: xs, ys => ∃ y ys', ys = y :: ys' ∧ LaxV x y ∧ LaxL xs ys'
def LaxR : List (List V) → List (List V) → Prop
  | [], ys => ys = []
  | x :: xs, ys => ∃ y ys', ys = y :: ys' ∧ LaxL x y ∧ LaxR xs ys'
end
abbrev Win := List (Option (Nat × Nat × Nat))
mutual
def CanV (W : Win) (σ : Store) : V → V → Prop
  | .msl o s l, y => (∃ k s0 l0, W[k]? = some (some (o, s0, l0)) ∧ s0 ≤ s ∧ s + l ≤ s0 + l0 ∧ y = .msl k (s - s0) l) ∨ (l = 0 ∧ (objAt σ o).isSome = true ∧ ∃ sz, y = .sl sz []) ∨
      (resolve σ FD (.msl o s l) = some y ∧ ∀ q, q ∈ reach σ FD (.msl o s l) → ∀ (k s0 l0 : Nat), W[k]? ≠ some (some (q, s0, l0)))
  | .ptr o r off, y => (∃ k s0 l0, W[k]? = some (some (o, s0, l0)) ∧ s0 ≤ r ∧ r < s0 + l0 ∧ y = .ptr k (r - s0) off) ∨
      (resolve σ FD (.ptr o r off) = some y ∧ ∀ q, q ∈ reach σ FD (.ptr o r off) → ∀ (k s0 l0 : Nat), W[k]? ≠ some (some (q, s0, l0)))
  | .agg cs, y => ∃ ds, y = .agg ds ∧ CanL W σ cs ds
  | .tup cs, y => ∃ ds, y = .tup ds ∧ CanL W σ cs ds
  | .nils, y => y = .nils ∨ ∃ sz, y = .sl sz []
  | .sl sz rows, y => LaxV y (.sl sz rows)
  | .fptr row off, y => LaxV y (.fptr row off)
  | .any, y => y = .any
  | .one, y => y = .one
  | .int k n, y => y = .int k n
  | .bool b, y => y = .bool b
  | .str s, y => y = .str s
def CanL (W : Win) (σ : Store) : List V → List V → Prop
  | [], ys => ys = []
  | x :: xs, ys => ∃ y ys', ys = y :: ys' ∧ CanV W σ x y ∧ CanL W σ xs ys'
end
structure ReS (W : Win) (σ σ2 : Store) : Prop where
  len : σ2.length = W.length
  nd : ∀ (i j o s l s' l' : Nat), W[i]? = some (some (o, s, l)) → W[j]? = some (some (o, s', l')) → i = j
  win : ∀ (k o s l : Nat), W[k]? = some (some (o, s, l)) → ∃ ob ob2, objAt σ o = some ob ∧ s + l ≤ ob.rows.length ∧ objAt σ2 k = some ob2 ∧ ob2.sz = ob.sz ∧
    ob2.rows.length = l ∧ ∀ (i : Nat) (r r2 : List V), ob.rows[s + i]? = some r → ob2.rows[i]? = some r2 → CanL W σ r r2
  hole : ∀ k : Nat, W[k]? = some none → objAt σ2 k = none
structure ReSt (W : Win) (st st2 : St) : Prop where
  objs : ReS W st.objs st2.objs
  keep : st2.keep = st.keep
  kp : ∀ i : Nat, i < st.keep → (∃ ob, objAt st.objs i = some ob ∧ W[i]? = some (some (i, 0, ob.rows.length))) ∨ (objAt st.objs i = none ∧ W[i]? = some none)
  env : ∀ t, st2.env t = .any ∨ CanV W st.objs (st.env t) (st2.env t)
def noFrz : V → Bool
  | .sl _ rows => rows.isEmpty
  | .fptr .. => false
  | .agg cs => allNoFrz cs
  | .tup cs => allNoFrz cs
  | _ => true
where allNoFrz : List V → Bool
  | [] => true
  | c :: cs => noFrz c && allNoFrz cs
def freshS (σ : Store) : Bool := σ.all fun o => match o with
  | some ob => ob.rows.all fun r => r.all noFrz
  | none => true
def shiftN (n j : Nat) : Option Nat := some (n + j)
def addS (σ σ' : Store) : Store := σ ++ σ'.map (Option.map (mapO (shiftN σ.length)))
def I.makes : I → Bool
  | .alloc _ | .box _ | .mkSl .. | .make .. | .app .. => true
  | _ => false
def okK (m : Nat) : List OpI → Bool
  | [] => true
  | o :: l => (if o.i.makes then decide (o.k < m) && l.all (fun p => !p.i.makes || p.k != o.k) else o.k == m) && okK m l
inductive Ex where
  | normal
  | exit (id : Nat)
  | ret
  deriving DecidableEq
inductive Job where
  | code (c : C) (st : St)
  | ops (l : List OpI) (st : St)
  | op (o : OpI) (st : St)
  | any (l : List OpI) (done : List Nat) (st : St)
  | fn (f : Nat) (args : List V) (σ : Store)
inductive Out where
  | code (e : Ex) (st : St)
  | fn (r : V) (σ : Store)
def Res.get (st : St) : Res → Option V
  | .tmp t => some (st.env t)
  | .cell t n isAgg => match rowAt st.objs (st.env t) with
    | some (row, off) =>
      if isAgg then (if off + n ≤ row.length then some (.agg ((row.drop off).take n)) else none)
      else row[off]?
    | none => none
def packRes : List V → V
  | [v] => v
  | vs => .tup vs
def exIn (id : Nat) : Ex → Ex
  | .exit id' => if id' = id then .normal else .exit id'
  | e => e
def argE (args : List V) (t : Nat) : V := args.getD t .any
def OffV (want : Bool) (v : V) : Prop := v = .tup [] ∨ ∃ b, v = .bool b ∧ b ≠ want
def St.enter (args : List V) (σ : Store) : St := { env := argE args, objs := σ, keep := σ.length }
def readyB (l : List OpI) (done : List Nat) (i : Nat) : Bool :=
  match l[i]? with
  | some o => !done.contains i && o.aft.all done.contains
  | none => false
def sortI (l : List Int) : List Int := l.mergeSort fun x y => decide (x ≤ y)
def OutF.sem : OutF → List V → Store → V → Store → Prop
  | .sortInts, args, σ, r, σ' => ∃ o zs, args = [.msl o 0 zs.length] ∧ 0 < zs.length ∧ zs.length ≤ 1099511627776 ∧ objAt σ o = some ⟨1, zs.map fun z => [.int .i64 z]⟩ ∧ r = .tup [] ∧ σ' = σ.set o (some ⟨1, (sortI zs).map fun z => [.int .i64 z]⟩)
  | .itoa, args, σ, r, σ' => ∃ n : Int, args = [.int .i64 n] ∧ -9223372036854775808 ≤ n ∧ n ≤ 9223372036854775807 ∧ r = .str (Lib.itoa n) ∧ σ' = σ
  | .joinS, args, σ, r, σ' => ∃ (l : List (List UInt8)) (s : List UInt8) (y : V), args = [y, .str s] ∧ (y = .sl 1 (l.map fun x => [.str x]) ∨ (l = [] ∧ y = .nils)) ∧ l.length ≤ 140737488355328 ∧
      (Lib.join l s).length ≤ 140737488355328 ∧ r = .str (Lib.join l s) ∧ σ' = σ
  | .rept, args, σ, r, σ' => ∃ (s : List UInt8) (c : Nat), args = [.str s, .int .i64 c] ∧ s.length * c ≤ 140737488355328 ∧ c ≤ 140737488355328 ∧ r = .str (Lib.repeatL s c) ∧ σ' = σ
  | .parseI, args, σ, r, σ' => ∃ s : List UInt8, args = [.str s] ∧ s.length ≤ 140737488355328 ∧ σ' = σ ∧
      ((∃ n : Int, -9223372036854775808 ≤ n ∧ n ≤ 9223372036854775807 ∧ s = Lib.itoa n ∧ r = .tup [.int .i64 n, .bool true]) ∨
        ((∀ n : Int, -9223372036854775808 ≤ n → n ≤ 9223372036854775807 → s ≠ Lib.itoa n) ∧ r = .tup [.int .i64 0, .bool false]))
inductive Run (T : Nat → Option Fn) : Job → Out → Prop
  | skip (st) : Run T (.code .skip st) (.code .normal st)
  | reg {m l st st'} (hk : okK m l = true)
      (h : Run T (.ops l { st with objs := st.objs ++ List.replicate m none, base := st.objs.length, rds := [], muts := [] }) (.code .normal st')) :
      Run T (.code (.reg false m l) st) (.code .normal st')
  | regD {m l st st'} (hk : okK m l = true)
      (h : Run T (.any l [] { st with objs := st.objs ++ List.replicate m none, base := st.objs.length, rds := [], muts := [] }) (.code .normal st')) :
      Run T (.code (.reg true m l) st) (.code .normal st')
  | anyN {l done st} (h : ∀ i, readyB l done i = false) : Run T (.any l done st) (.code .normal st)
  | anyC {l done st st'} (i0 : Nat) (h0 : readyB l done i0 = true) (f : Nat → St) (h : ∀ i o, l[i]? = some o → readyB l done i = true → Run T (.op o st) (.code .normal (f i)))
      (h' : ∀ i, readyB l done i = true → Run T (.any l (i :: done) (f i)) (.code .normal st')) : Run T (.any l done st) (.code .normal st')
  | seqN {a b st st1 o} (h : Run T (.code a st) (.code .normal st1)) (h' : Run T (.code b st1) o) : Run T (.code (.seq a b) st) o
  | seqE {a b st e st1} (he : e ≠ .normal) (h : Run T (.code a st) (.code e st1)) : Run T (.code (.seq a b) st) (.code e st1)
  | cond {x a b st t o} (hx : x.ev st.env = .bool t) (h : Run T (.code (if t then a else b) st) o) : Run T (.code (.cond x a b) st) o
  | block {id c st e st1} (h : Run T (.code c st) (.code e st1)) : Run T (.code (.block id c) st) (.code (exIn id e) st1)
  | loopN {c st st1 o} (h : Run T (.code c st) (.code .normal st1)) (h' : Run T (.code (.loop c) st1) o) : Run T (.code (.loop c) st) o
  | loopE {c st e st1} (he : e ≠ .normal) (h : Run T (.code c st) (.code e st1)) : Run T (.code (.loop c) st) (.code e st1)
  | exit (id st) : Run T (.code (.exit id) st) (.code (.exit id) st)
  | ret (st) : Run T (.code .ret st) (.code .ret st)
  | gc {c st o} (ρ : List Nat) (hn : ρ.Nodup) (hρ : ∀ i, i < st.keep → ρ[i]? = some i) (h : Run T (.code c (st.gc ρ)) o) : Run T (.code c st) o
  | nil (st) : Run T (.ops [] st) (.code .normal st)
  | cons {o l st st1 out} (h : Run T (.op o st) (.code .normal st1)) (h' : Run T (.ops l st1) out) : Run T (.ops (o :: l) st) out
  | off {o st g want} (hg : o.g = some (g, want)) (he : OffV want (st.env g)) :
      Run T (.op o st) (.code .normal { st with env := updO st.env o.dst (.tup []) })
  | op {o st ef} (hg : ∀ g want, o.g = some (g, want) → st.env g = .bool want) (h : o.i.eff st.env st.objs = some ef) :
      Run T (.op o st) (.code .normal (ef.go st o.dst (st.base + o.k)))
  | callP {o st f as as' r R} (hg : ∀ g want, o.g = some (g, want) → st.env g = .bool want) (hi : o.i = .call f as)
      (ha : as.mapM (fun s => resolve st.objs FD (s.ev st.env)) = some as') (h : Run T (.fn f as' []) (.fn r []))
      (hR : R = if scalar SD r then [] else as.flatMap fun s => reach st.objs FD (s.ev st.env)) :
      Run T (.op o st) (.code .normal { st with env := updO st.env o.dst r, objs := killAll st.objs R })
  | callR {o st f as r σ'} (ρ : List Nat) (hn : ρ.Nodup) (hρ : ∀ o, o ∈ ρ → (objAt st.objs o).isSome = true) (hg : ∀ g want, o.g = some (g, want) → st.env g = .bool want) (hi : o.i = .call f as)
      (h : Run T (.fn f (as.map fun s => mapV (place ρ) (s.ev st.env)) (gcS ρ st.objs)) (.fn r σ')) :
      Run T (.op o st) (.code .normal { st with env := updO st.env o.dst (mapV (back ρ st.objs.length) r), objs := putBack ρ st.objs σ' })
  | fn {f args σ F e st' rs} (hf : T f = some F) (hl : args.length = F.nargs) (h : Run T (.code F.body (St.enter args σ)) (.code e st'))
      (he : e = .normal ∨ e = .ret) (hr : F.res.mapM (Res.get st') = some rs) : Run T (.fn f args σ) (.fn (packRes rs) st'.objs)
  | lib {f args σ F o r σ'} (hf : T f = some F) (hb : F.body = .lib o) (h : o.sem args σ r σ') : Run T (.fn f args σ) (.fn r σ')
  | frz {f args r σ' r'} (h : Run T (.fn f args []) (.fn r σ')) (hr : resolve σ' FD r = some r') : Run T (.fn f args []) (.fn r' [])
  | gcF {f args σ r σ'} (ρ : List Nat) (hn : ρ.Nodup) (hρ : ∀ i, i < σ.length → ρ[i]? = some i) (h : Run T (.fn f args σ) (.fn r σ')) :
      Run T (.fn f args σ) (.fn (mapV (place ρ) r) (gcS ρ σ'))
  | forget {c st st2 o} (he : ∀ t, st2.env t = .any ∨ LaxV (st2.env t) (st.env t)) (ho : st2.objs = st.objs) (hk : st2.keep = st.keep) (h' : Run T (.code c st2) o) : Run T (.code c st) o
  | re {c st st2 o} (W : Win) (h : ReSt W st st2) (h' : Run T (.code c st2) o) : Run T (.code c st) o
  | reF {f args args2 r σ' r2 σ2} (W : Win) (ha : LaxL args args2) (h : Run T (.fn f args []) (.fn r σ')) (hs : ReS W σ' σ2) (hr : CanV W σ' r r2) : Run T (.fn f args2 []) (.fn r2 σ2)
  | laxF {f args args2 σ r r2 σ'} (ha : LaxL args args2) (h : Run T (.fn f args σ) (.fn r σ')) (hr : LaxV r2 r) : Run T (.fn f args2 σ) (.fn r2 σ')
  | callG {o st f as as' r σ' R} (hg : ∀ g want, o.g = some (g, want) → st.env g = .bool want) (hi : o.i = .call f as)
      (ha : as.mapM (fun s => resolve st.objs FD (s.ev st.env)) = some as') (h : Run T (.fn f as' []) (.fn r σ'))
      (hR : R = if noFrz r && freshS σ' then [] else as.flatMap fun s => reach st.objs FD (s.ev st.env)) :
      Run T (.op o st) (.code .normal { st with env := updO st.env o.dst (mapV (shiftN st.objs.length) r), objs := addS (killAll st.objs R) σ' })
  | callI {o st f as r σ'} (hg : ∀ g want, o.g = some (g, want) → st.env g = .bool want) (hi : o.i = .call f as)
      (h : Run T (.fn f (as.map fun s => s.ev st.env) st.objs) (.fn r σ')) (hl : st.objs.length ≤ σ'.length) (hb : st.objs.length ≤ st.base) :
      Run T (.op o st) (.code .normal { st with env := updO st.env o.dst r, objs := σ' })
end Go.Ml
end
section
namespace Go.Ml
def DSle : DS → DS → Prop
  | .unborn, _ => True
  | .dead, x => x = .dead
  | .live d, x => x = .live d ∨ x = .dead
theorem DSle.refl (x : DS) : DSle x x := by cases x <;> simp [DSle]
theorem DSle.trans {x y z : DS} (h : DSle x y) (k : DSle y z) : DSle x z := by
  cases x <;> simp [DSle] at *
  · subst h; exact k
  · rcases h with h | h <;> subst h <;> simp at k
    · exact k
    · exact .inr k
structure Ext (w : World) (D : DM) (X : Nat → Prop) (w' : World) (D' : DM) (X' : Nat → Prop) : Prop where
  size : w.heap.size ≤ w'.heap.size
  same : ∀ b, b < w.heap.size → ¬ X b → w'.heap[b]? = w.heap[b]?
  less : ∀ b, b < w.heap.size → X' b → X b
  ds : ∀ o, DSle (D o) (D' o)
theorem Ext.none {w D X w' D' X'} (E : Ext w D X w' D' X') : Ext w DM.none X w' DM.none X' := ⟨E.size, E.same, E.less, fun _ => DSle.refl _⟩
theorem Ext.refl (w D X) : Ext w D X w D X := ⟨Nat.le_refl _, fun _ _ _ => rfl, fun _ _ h => h, fun _ => DSle.refl _⟩
theorem cellOf {w w' : World} {a : Addr} (h : w'.heap[a.block]? = w.heap[a.block]?) : w'.cell? a = w.cell? a := by simp [World.cell?, h]
theorem Ext.trans {w D X w1 D1 X1 w2 D2 X2} (h : Ext w D X w1 D1 X1) (k : Ext w1 D1 X1 w2 D2 X2) : Ext w D X w2 D2 X2 :=
  ⟨Nat.le_trans h.size k.size, fun b hb hx => (k.same b (Nat.lt_of_lt_of_le hb h.size) fun j => hx (h.less b hb j)).trans (h.same b hb hx),
    fun b hb j => h.less b hb (k.less b (Nat.lt_of_lt_of_le hb h.size) j), fun o => (h.ds o).trans (k.ds o)⟩
mutual
theorem rd_mono {w w' : World} {X X' : Nat → Prop} : ∀ {D D' : DM} (V : V) (v : Value), Ext w D X w' D' X' → rd w D X V v → rd w' D' X' V v
  | _, _, .any, _, _, _ => by simp [rd]
  | _, _, .one, _, _, h => by simpa [rd] using h
  | _, _, .int .., _, _, h => by simpa [rd] using h
  | _, _, .bool _, _, _, h => by simpa [rd] using h
  | _, _, .str _, _, _, h => by simpa [rd] using h
  | _, _, .nils, _, _, h => by simpa [rd] using h
  | _, _, .agg cs, v, E, h => by
    simp only [rd] at h ⊢
    obtain ⟨a, rfl, h⟩ := h
    exact ⟨a, rfl, rdL_mono cs _ E h⟩
  | _, _, .tup cs, v, E, h => by
    simp only [rd] at h ⊢
    obtain ⟨a, rfl, h⟩ := h
    exact ⟨a, rfl, rdL_mono cs _ E h⟩
  | _, _, .sl sz rows, v, E, h => by
    simp only [rd] at h ⊢
    obtain ⟨a, cap, rfl, hcap, h⟩ := h
    refine ⟨a, cap, rfl, hcap, h.imp id ?_⟩
    rintro ⟨b, off, rfl, hb, hx, h⟩
    refine ⟨b, off, rfl, Nat.lt_of_lt_of_le hb E.size, fun k => hx (E.less b hb k), rdRows_mono sz off rows E.none (fun o => ?_) h⟩
    exact cellOf (a := ⟨b, _, none⟩) (E.same b hb hx)
  | D, D', .msl o start len, v, E, h => by
    simp only [rd] at h ⊢
    have := E.ds o
    cases hD : D o with
    | unborn => simp [hD] at h
    | dead => rw [hD] at this h; simp only [DSle] at this; rw [this]; exact h
    | live d =>
      rw [hD] at this h
      rcases this with h' | h' <;> rw [h']
      · exact h
      · obtain ⟨_, a, cap, h, _⟩ := h; exact ⟨a, len, cap, h⟩
  | D, D', .ptr o row off, v, E, h => by
    simp only [rd] at h ⊢
    have := E.ds o
    cases hD : D o with
    | unborn => simp [hD] at h
    | dead => rw [hD] at this h; simp only [DSle] at this; rw [this]; exact h
    | live d =>
      rw [hD] at this h
      rcases this with h' | h' <;> rw [h']
      · exact h
      · exact ⟨_, h⟩
  | _, _, .fptr row off, v, E, h => by
    simp only [rd] at h ⊢
    obtain ⟨b, o, rfl, hb, hx, h⟩ := h
    exact ⟨b, o, rfl, Nat.lt_of_lt_of_le hb E.size, fun k => hx (E.less b hb k), rdCells_mono o row E.none (fun _ => cellOf (a := ⟨b, _, none⟩) (E.same b hb hx)) h⟩
theorem rdL_mono {w w' : World} {X X' : Nat → Prop} : ∀ {D D' : DM} (xs : List V) (ys : List Value), Ext w D X w' D' X' → rdL w D X xs ys → rdL w' D' X' xs ys
  | _, _, [], _, _, h => by simpa [rdL] using h
  | _, _, x :: xs, ys, E, h => by
    simp only [rdL] at h ⊢
    obtain ⟨y, ys', rfl, h1, h2⟩ := h
    exact ⟨y, ys', rfl, rd_mono x y E h1, rdL_mono xs ys' E h2⟩
theorem rdCells_mono {w w' : World} {X X' : Nat → Prop} {b : Nat} : ∀ {D D' : DM} (off : Nat) (xs : List V), Ext w D X w' D' X' →
    (∀ o, w'.cell? ⟨b, o, none⟩ = w.cell? ⟨b, o, none⟩) → rdCells w D X b off xs → rdCells w' D' X' b off xs
  | _, _, _, [], _, _, _ => by simp [rdCells]
  | _, _, off, x :: xs, E, hc, h => by
    simp only [rdCells] at h ⊢
    obtain ⟨hl, ⟨c, h1, h2⟩, h3⟩ := h
    exact ⟨hl, ⟨c, by rw [hc]; exact h1, rd_mono x c E h2⟩, rdCells_mono (off + 1) xs E hc h3⟩
theorem rdRows_mono {w w' : World} {X X' : Nat → Prop} {b : Nat} : ∀ {D D' : DM} (sz off : Nat) (rs : List (List V)), Ext w D X w' D' X' →
    (∀ o, w'.cell? ⟨b, o, none⟩ = w.cell? ⟨b, o, none⟩) → rdRows w D X b sz off rs → rdRows w' D' X' b sz off rs
  | _, _, _, _, [], _, _, _ => by simp [rdRows]
  | _, _, sz, off, r :: rs, E, hc, h => by
    simp only [rdRows] at h ⊢
    exact ⟨h.1, rdCells_mono off r E hc h.2.1, rdRows_mono sz (off + sz) rs E hc h.2.2⟩
end
theorem rdCells_append {w D X b} : ∀ (off : Nat) (xs ys : List V), rdCells w D X b off (xs ++ ys) ↔ rdCells w D X b off xs ∧ rdCells w D X b (off + xs.length) ys
  | off, [], ys => by simp [rdCells]
  | off, x :: xs, ys => by
    simp only [List.cons_append, rdCells, List.length_cons, rdCells_append (off + 1) xs ys]
    rw [show off + 1 + xs.length = off + (xs.length + 1) by omega, and_assoc, and_assoc]
theorem rdCells_get {w D X b} : ∀ (off : Nat) (xs : List V), rdCells w D X b off xs → ∀ (i : Nat) (x : V), xs[i]? = some x →
    x.leaf = true ∧ ∃ c, w.cell? ⟨b, off + i, none⟩ = some c ∧ rd w D X x c
  | _, [], _, _, _, hi => by simp at hi
  | off, y :: ys, h, 0, x, hi => by
    simp only [rdCells] at h
    simp at hi; subst hi; exact ⟨h.1, h.2.1⟩
  | off, y :: ys, h, i + 1, x, hi => by
    simp only [rdCells] at h
    have := rdCells_get (off + 1) ys h.2.2 i x (by simpa using hi)
    rwa [show off + 1 + i = off + (i + 1) by omega] at this
theorem rdRows_get {w D X b sz} : ∀ (off : Nat) (rs : List (List V)), rdRows w D X b sz off rs → ∀ (i : Nat) (r : List V), rs[i]? = some r →
    r.length = sz ∧ rdCells w D X b (off + i * sz) r
  | _, [], _, _, _, hi => by simp at hi
  | off, y :: ys, h, 0, r, hi => by
    simp only [rdRows] at h
    simp at hi; subst hi; simpa using ⟨h.1, h.2.1⟩
  | off, y :: ys, h, i + 1, r, hi => by
    simp only [rdRows] at h
    have := rdRows_get (off + sz) ys h.2.2 i r (by simpa using hi)
    rwa [show off + sz + i * sz = off + (i + 1) * sz by rw [Nat.succ_mul]; omega] at this
theorem rdRows_drop {w D X b sz} : ∀ (n off : Nat) (rs : List (List V)), rdRows w D X b sz off rs → rdRows w D X b sz (off + n * sz) (rs.drop n)
  | 0, off, rs, h => by simpa using h
  | n + 1, off, [], _ => by simp [rdRows]
  | n + 1, off, r :: rs, h => by
    simp only [rdRows] at h
    have := rdRows_drop n (off + sz) rs h.2.2
    rwa [show off + sz + n * sz = off + (n + 1) * sz by rw [Nat.succ_mul]; omega] at this
theorem rdRows_take {w D X b sz} : ∀ (n off : Nat) (rs : List (List V)), rdRows w D X b sz off rs → rdRows w D X b sz off (rs.take n)
  | 0, _, _, _ => by simp [rdRows]
  | _ + 1, _, [], _ => by simp [rdRows]
  | n + 1, off, r :: rs, h => by
    simp only [rdRows, List.take_succ_cons] at h ⊢
    exact ⟨h.1, h.2.1, rdRows_take n (off + sz) rs h.2.2⟩
theorem rdL_length {w D X} : ∀ (xs : List V) (ys : List Value), rdL w D X xs ys → xs.length = ys.length
  | [], ys, h => by simp only [rdL] at h; simp [h]
  | x :: xs, ys, h => by
    simp only [rdL] at h
    obtain ⟨y, ys', rfl, _, h⟩ := h
    simp [rdL_length xs ys' h]
theorem rdL_get {w D X} : ∀ (xs : List V) (ys : List Value), rdL w D X xs ys → ∀ (i : Nat) (x : V), xs[i]? = some x → ∃ y, ys[i]? = some y ∧ rd w D X x y
  | [], _, _, _, _, hi => by simp at hi
  | x :: xs, ys, h, i, z, hi => by
    simp only [rdL] at h
    obtain ⟨y, ys', rfl, h1, h2⟩ := h
    cases i with
    | zero => simp at hi; subst hi; exact ⟨y, rfl, h1⟩
    | succ i => simpa using rdL_get xs ys' h2 i z (by simpa using hi)
theorem rdL_append {w D X} : ∀ (xs xs' : List V) (ys ys' : List Value), rdL w D X xs ys → rdL w D X xs' ys' → rdL w D X (xs ++ xs') (ys ++ ys')
  | [], xs', ys, ys', h, h' => by simp only [rdL] at h; subst h; simpa using h'
  | x :: xs, xs', ys, ys', h, h' => by
    simp only [rdL] at h
    obtain ⟨y, yt, rfl, h1, h2⟩ := h
    simp only [List.cons_append, rdL]
    exact ⟨y, yt ++ ys', rfl, h1, rdL_append xs xs' yt ys' h2 h'⟩
theorem rdL_take {w D X} : ∀ (n : Nat) (xs : List V) (ys : List Value), rdL w D X xs ys → rdL w D X (xs.take n) (ys.take n)
  | 0, _, _, _ => by simp [rdL]
  | _ + 1, [], _, h => by simp only [rdL] at h; subst h; simp [rdL]
  | n + 1, x :: xs, ys, h => by
    simp only [rdL] at h
    obtain ⟨y, yt, rfl, h1, h2⟩ := h
    simp only [List.take_succ_cons, rdL]
    exact ⟨y, yt.take n, rfl, h1, rdL_take n xs yt h2⟩
theorem rdL_drop {w D X} : ∀ (n : Nat) (xs : List V) (ys : List Value), rdL w D X xs ys → rdL w D X (xs.drop n) (ys.drop n)
  | 0, _, _, h => by simpa using h
  | _ + 1, [], _, h => by simp only [rdL] at h; subst h; simp [rdL]
  | n + 1, x :: xs, ys, h => by
    simp only [rdL] at h
    obtain ⟨y, yt, rfl, h1, h2⟩ := h
    simpa using rdL_drop n xs yt h2
end Go.Ml
end
section
namespace Go.Ml
theorem rdCells_iff {w D X b} : ∀ (off : Nat) (xs : List V), rdCells w D X b off xs ↔ ∀ (i : Nat) (x : V), xs[i]? = some x → x.leaf = true ∧ ∃ c, w.cell? ⟨b, off + i, none⟩ = some c ∧ rd w D X x c
  | off, [] => by simp [rdCells]
  | off, y :: ys => by
    simp only [rdCells, rdCells_iff (off + 1) ys]
    constructor
    · rintro ⟨hl, h0, h1⟩ i x hi
      cases i with
      | zero => simp at hi; subst hi; exact ⟨hl, h0⟩
      | succ i =>
        have := h1 i x (by simpa using hi)
        rwa [show off + 1 + i = off + (i + 1) by omega] at this
    · intro h
      refine ⟨(h 0 y rfl).1, (h 0 y rfl).2, fun i x hi => ?_⟩
      have := h (i + 1) x (by simpa using hi)
      rwa [show off + (i + 1) = off + 1 + i by omega] at this
theorem rdRows_iff {w D X b sz} : ∀ (off : Nat) (rs : List (List V)), rdRows w D X b sz off rs ↔ (∀ r ∈ rs, r.length = sz) ∧ rdCells w D X b off rs.flatten
  | off, [] => by simp [rdRows, rdCells]
  | off, r :: rs => by
    simp only [rdRows, rdRows_iff (off + sz) rs, List.flatten_cons, rdCells_append, List.mem_cons, forall_eq_or_imp]
    constructor
    · rintro ⟨rfl, h1, h2, h3⟩; exact ⟨⟨rfl, h2⟩, h1, h3⟩
    · rintro ⟨⟨rfl, h2⟩, h1, h3⟩; exact ⟨rfl, h1, h2, h3⟩
def XS (M : Nat → Prop) (D : DM) : Nat → Prop := fun b => M b ∨ ∃ o d, D o = .live d ∧ d.blk = b
class Base where
  w0 : World
instance Base.nowhere : Base := ⟨{ heap := #[], tape := fun _ _ => 0, drawn := 0, os := default, output := #[] }⟩
def Tab [Base] (w : World) (X : Nat → Prop) : Prop := ∀ b, b < Base.w0.heap.size → b < w.heap.size ∧ ¬ X b ∧ w.heap[b]? = Base.w0.heap[b]?
theorem Tab.ext [Base] {w D X w' D' X'} (h : Tab w X) (E : Ext w D X w' D' X') : Tab w' X' := fun b hb =>
  have ⟨h1, h2, h3⟩ := h b hb
  ⟨Nat.lt_of_lt_of_le h1 E.size, fun k => h2 (E.less b h1 k), (E.same b h1 h2).trans h3⟩
theorem Tab.sub [Base] {w} {X X' : Nat → Prop} (h : Tab w X) (hs : ∀ b, X' b → X b) : Tab w X' := fun b hb =>
  have ⟨h1, h2, h3⟩ := h b hb
  ⟨h1, fun k => h2 (hs b k), h3⟩
structure SRel [Base] (w : World) (D : DM) (M : Nat → Prop) (σ : Store) : Prop where
  live : ∀ o d, D o = .live d → ∃ ob c e, objAt σ o = some ob ∧ d.sz = ob.sz ∧ d.n = ob.rows.length ∧ 0 < d.sz ∧ ¬ M d.blk ∧ d.blk < w.heap.size ∧
    w.heap[d.blk]? = some (.cells c e (0, 0)) ∧ c.size = d.cap ∧ d.bas + d.n * d.sz ≤ d.cap ∧ (∀ r ∈ ob.rows, r.length = ob.sz) ∧
    ∀ (i : Nat) (x : V), ob.rows.flatten[i]? = some x → x.leaf = true ∧ ∃ y, c[d.bas + i]? = some y ∧ rd w D (XS M D) x y
  alive : ∀ o ob, objAt σ o = some ob → ∃ d, D o = .live d
  inj : ∀ o o' d d', D o = .live d → D o' = .live d' → d.blk = d'.blk → o = o'
  far : ∀ o, σ.length ≤ o → D o = .unborn
  mlt : ∀ b, M b → b < w.heap.size
  tab : Tab w (XS M D)
structure Gr (own : Nat → Prop) (w w' : World) : Prop where
  size : w.heap.size ≤ w'.heap.size
  os : w'.os = w.os
  tape : w'.tape = w.tape
  output : w'.output = w.output
  block : ∀ b, b < w.heap.size → ¬ own b → w'.heap[b]? = w.heap[b]?
theorem Gr.refl (own w) : Gr own w w := ⟨Nat.le_refl _, rfl, rfl, rfl, fun _ _ _ => rfl⟩
theorem Gr.trans {own w w1 w2} (h : Gr own w w1) (k : Gr (fun b => own b ∨ w.heap.size ≤ b) w1 w2) : Gr own w w2 :=
  ⟨Nat.le_trans h.size k.size, k.os.trans h.os, k.tape.trans h.tape, k.output.trans h.output,
    fun b hb ho => (k.block b (Nat.lt_of_lt_of_le hb h.size) (by rintro (h | h); exact ho h; omega)).trans (h.block b hb ho)⟩
theorem Gr.mono {own own' : Nat → Prop} {w w'} (h : Gr own w w') (hs : ∀ b, b < w.heap.size → own b → own' b) : Gr own' w w' :=
  ⟨h.size, h.os, h.tape, h.output, fun b hb ho => h.block b hb fun k => ho (hs b hb k)⟩
structure Push (w w' : World) (cs : Array Value) : Prop where
  heap : ∃ e, w'.heap = w.heap.push (.cells cs e)
  os : w'.os = w.os
  tape : w'.tape = w.tape
  output : w'.output = w.output
theorem Push.size {w w' cs} (h : Push w w' cs) : w'.heap.size = w.heap.size + 1 := by obtain ⟨e, h⟩ := h.heap; simp [h]
theorem Push.old {w w' cs} (h : Push w w' cs) {b : Nat} (hb : b < w.heap.size) : w'.heap[b]? = w.heap[b]? := by
  obtain ⟨e, h⟩ := h.heap
  rw [h, Array.getElem?_push]; rw [if_neg (by omega)]
theorem Push.new {w w' cs} (h : Push w w' cs) : ∃ e, w'.heap[w.heap.size]? = some (.cells cs e (0, 0)) := by
  obtain ⟨e, h⟩ := h.heap
  exact ⟨e, by rw [h, Array.getElem?_push]; simp⟩
theorem Push.gr [Base] {w w' cs} (h : Push w w' cs) (own) : Gr own w w' := ⟨by rw [h.size]; omega, h.os, h.tape, h.output, fun _ hb _ => h.old hb⟩
def DM.put (D : DM) (o : Nat) (x : DS) : DM := fun q => if q = o then x else D q
theorem objAt_set {σ : Store} {i o : Nat} {x : Option Obj} (h : i < σ.length) : objAt (σ.set i x) o = if i = o then x else objAt σ o := by
  unfold objAt
  rw [List.getElem?_set]
  split
  · subst_vars; simp
  · rfl
theorem SRel.new [Base] {w w' D M σ cs} (h : SRel w D M σ) (p : Push w w' cs) {id : Nat} (hid : id < σ.length) (hD : D id = .unborn) {ob : Obj} (hsz : 0 < ob.sz)
    (hr : ∀ r ∈ ob.rows, r.length = ob.sz) (hfit : ob.rows.length * ob.sz ≤ cs.size)
    (hrd : ∀ (i : Nat) (x : V), ob.rows.flatten[i]? = some x → x.leaf = true ∧ ∃ y, cs[i]? = some y ∧ rd w D (XS M D) x y) :
    let D' := D.put id (.live ⟨w.heap.size, 0, ob.sz, ob.rows.length, cs.size⟩)
    SRel w' D' M (σ.set id (some ob)) ∧ Ext w D (XS M D) w' D' (XS M D') := by
  intro D'
  have E : Ext w D (XS M D) w' D' (XS M D') := by
    refine ⟨by rw [p.size]; omega, fun b hb _ => p.old hb, ?_, ?_⟩
    · rintro b hb (hm | ⟨o, d, ho, rfl⟩)
      · exact .inl hm
      · simp only [D', DM.put] at ho
        split at ho
        · cases ho; simp at hb
        · exact .inr ⟨o, d, ho, rfl⟩
    · intro o
      simp only [D', DM.put]
      split
      · subst_vars; rw [hD]; trivial
      · exact DSle.refl _
  refine ⟨⟨?_, ?_, ?_, ?_, ?_, h.tab.ext E⟩, E⟩
  · intro o d ho
    simp only [D', DM.put] at ho
    split at ho
    · rename_i heq; subst heq
      cases ho
      obtain ⟨e, he⟩ := p.new
      refine ⟨ob, cs, e, by rw [objAt_set hid]; simp, rfl, rfl, hsz, fun hm => by have := h.mlt _ hm; simp at this, by rw [p.size]; simp, he, rfl, by simpa using hfit, hr, fun i x hi => ?_⟩
      obtain ⟨hl, y, h1, h2⟩ := hrd i x hi
      exact ⟨hl, y, by simpa using h1, rd_mono _ _ E h2⟩
    · rename_i hne
      obtain ⟨ob', c, e, h1, h2, h3, h4, h5, h6, h7, h8, h9, h10, h11⟩ := h.live o d ho
      refine ⟨ob', c, e, by rw [objAt_set hid, if_neg (fun k => hne k.symm)]; exact h1, h2, h3, h4, h5, by rw [p.size]; omega, by rw [p.old h6]; exact h7, h8, h9, h10, fun i x hi => ?_⟩
      obtain ⟨hl, y, k1, k2⟩ := h11 i x hi
      exact ⟨hl, y, k1, rd_mono _ _ E k2⟩
  · intro o ob' ho
    rw [objAt_set hid] at ho
    simp only [D', DM.put]
    by_cases hio : o = id
    · simp [hio]
    · rw [if_neg (fun k => hio k.symm)] at ho; simp only [hio, if_false]; exact h.alive o ob' ho
  · intro o o' d d' ho ho' hb
    simp only [D', DM.put] at ho ho'
    split at ho <;> split at ho'
    · subst_vars; rfl
    · cases ho
      obtain ⟨_, _, _, _, _, _, _, _, k, _⟩ := h.live o' d' ho'
      simp at hb; omega
    · cases ho'
      obtain ⟨_, _, _, _, _, _, _, _, k, _⟩ := h.live o d ho
      simp at hb; omega
    · exact h.inj o o' d d' ho ho' hb
  · intro o ho
    simp only [List.length_set] at ho
    simp only [D', DM.put]
    rw [if_neg (by omega)]
    exact h.far o ho
  · intro b hb
    have := h.mlt b hb
    rw [p.size]; omega
structure Set1 (w w' : World) (b : Nat) (c' : Array Value) : Prop where
  heap : ∃ c e, w.heap[b]? = some (.cells c e (0, 0)) ∧ c'.size = c.size ∧ w'.heap[b]? = some (.cells c' e (0, 0))
  old : ∀ k, k ≠ b → w'.heap[k]? = w.heap[k]?
  size : w'.heap.size = w.heap.size
  os : w'.os = w.os
  tape : w'.tape = w.tape
  output : w'.output = w.output
theorem SRel.upd [Base] {w w' D M σ} (h : SRel w D M σ) {o : Nat} {d : Desc} (hD : D o = .live d) {c' : Array Value} (p : Set1 w w' d.blk c') {ob : Obj}
    (hsz : ob.sz = d.sz) (hn : ob.rows.length = d.n) (hr : ∀ r ∈ ob.rows, r.length = ob.sz)
    (hrd : ∀ (i : Nat) (x : V), ob.rows.flatten[i]? = some x → x.leaf = true ∧ ∃ y, c'[d.bas + i]? = some y ∧ rd w D (XS M D) x y) :
    SRel w' D M (σ.set o (some ob)) ∧ Ext w D (XS M D) w' D (XS M D) := by
  have hb : XS M D d.blk := .inr ⟨o, d, hD, rfl⟩
  have E : Ext w D (XS M D) w' D (XS M D) := ⟨by rw [p.size]; omega, fun b hb' hx => p.old b (fun k => hx (k ▸ hb)), fun _ _ h => h, fun _ => DSle.refl _⟩
  have hlen : o < σ.length := by
    rcases Nat.lt_or_ge o σ.length with k | k
    · exact k
    · rw [h.far o k] at hD; cases hD
  refine ⟨⟨?_, ?_, h.inj, fun o ho => h.far o (by simpa using ho), fun b hb => by rw [p.size]; exact h.mlt b hb, h.tab.ext E⟩, E⟩
  · intro q d' hq
    obtain ⟨ob', c, e, h1, h2, h3, h4, h5, h6, h7, h8, h9, h10, h11⟩ := h.live q d' hq
    by_cases hqo : q = o
    · subst hqo
      rw [hD] at hq; cases hq
      obtain ⟨c0, e0, k1, k2, k3⟩ := p.heap
      rw [h7] at k1; cases k1
      refine ⟨ob, c', e, by rw [objAt_set hlen]; simp, hsz.symm, hn.symm, h4, h5, by rw [p.size]; exact h6, k3, k2.trans h8, h9, hr, fun i x hi => ?_⟩
      obtain ⟨hl, y, j1, j2⟩ := hrd i x hi
      exact ⟨hl, y, j1, rd_mono _ _ E j2⟩
    · have hne : d'.blk ≠ d.blk := fun k => hqo (h.inj _ _ _ _ hq hD k)
      refine ⟨ob', c, e, by rw [objAt_set hlen, if_neg (fun k => hqo k.symm)]; exact h1, h2, h3, h4, h5, by rw [p.size]; exact h6, by rw [p.old _ hne]; exact h7, h8, h9, h10, fun i x hi => ?_⟩
      obtain ⟨hl, y, j1, j2⟩ := h11 i x hi
      exact ⟨hl, y, j1, rd_mono _ _ E j2⟩
  · intro q ob' hq
    rw [objAt_set hlen] at hq
    split at hq
    · subst_vars; exact ⟨d, hD⟩
    · exact h.alive q ob' hq
theorem SRel.kill [Base] {w D M σ} (h : SRel w D M σ) (o : Nat) (ho : o < σ.length) (hD : D o ≠ .unborn) :
    SRel w (D.put o .dead) M (σ.set o none) ∧ Ext w D (XS M D) w (D.put o .dead) (XS M (D.put o .dead)) := by
  have E : Ext w D (XS M D) w (D.put o .dead) (XS M (D.put o .dead)) := by
    refine ⟨Nat.le_refl _, fun _ _ _ => rfl, ?_, ?_⟩
    · rintro b hb (hm | ⟨q, d, hq, rfl⟩)
      · exact .inl hm
      · simp only [DM.put] at hq
        split at hq
        · cases hq
        · exact .inr ⟨q, d, hq, rfl⟩
    · intro q
      simp only [DM.put]
      split
      · subst_vars
        cases k : D q with
        | unborn => trivial
        | dead => rfl
        | live d => exact .inr rfl
      · exact DSle.refl _
  refine ⟨⟨?_, ?_, ?_, ?_, h.mlt, h.tab.ext E⟩, E⟩
  · intro q d hq
    simp only [DM.put] at hq
    split at hq
    · cases hq
    · rename_i hne
      obtain ⟨ob', c, e, h1, h2, h3, h4, h5, h6, h7, h8, h9, h10, h11⟩ := h.live q d hq
      refine ⟨ob', c, e, by rw [objAt_set ho, if_neg (fun k => hne k.symm)]; exact h1, h2, h3, h4, h5, h6, h7, h8, h9, h10, fun i x hi => ?_⟩
      obtain ⟨hl, y, j1, j2⟩ := h11 i x hi
      exact ⟨hl, y, j1, rd_mono _ _ E j2⟩
  · intro q ob' hq
    rw [objAt_set ho] at hq
    split at hq
    · cases hq
    · rename_i hne
      obtain ⟨d, hd⟩ := h.alive q ob' hq
      exact ⟨d, by simp only [DM.put]; rw [if_neg (fun k => hne k.symm)]; exact hd⟩
  · intro q q' d d' hq hq' hb
    simp only [DM.put] at hq hq'
    split at hq
    · cases hq
    · split at hq'
      · cases hq'
      · exact h.inj q q' d d' hq hq' hb
  · intro q hq
    simp only [List.length_set] at hq
    simp only [DM.put]
    rw [if_neg (by omega)]
    exact h.far q hq
end Go.Ml
end
section
namespace Go.Ml
def trV : Value → Option V
  | .int k n => some (.int k n)
  | .bool b => some (.bool b)
  | .string s => some (.str s.data.toList)
  | .slice none 0 0 => some .nils
  | .pointer none => some .one
  | _ => none
def trS : Operand → Option Src
  | .tmp t => some (.t t)
  | .const v => (trV v).map .c
  | _ => none
def trZ (P : Program) (t : TypeId) : Option (List V) :=
  match P.info? t with
  | some i => match i.zero with
    | some v => if v.cells.size = i.size ∧ 0 < i.size then v.cells.toList.mapM trV else none
    | none => none
  | none => none
def isAggD : TypeDesc → Bool
  | .struct _ | .array _ _ => true
  | _ => false
def trAgg (P : Program) (t : TypeId) : Option (Nat × Bool) :=
  match P.info? t, P.underlying t with
  | some i, some d => if 0 < i.size ∧ (isAggD d = true ∨ i.size = 1) then some (i.size, isAggD d) else none
  | _, _ => none
def trElem (P : Program) (t : TypeId) : Option (TypeId × Nat × Nat) :=
  match P.underlying t with
  | some (.slice e) => match P.info? e with
    | some i => if 0 < i.size ∧ i.bytes ≤ 2 ^ 20 then some (e, i.size, i.bytes) else none
    | none => none
  | _ => none
def trParts (P : Program) (fs : Array Field) : List (Nat × Operand) → Option (List (Nat × Nat × Src))
  | [] => some []
  | (i, x) :: rest => match fs[i]?, trS x, trParts P fs rest with
    | some f, some s, some r => match P.info? f.type with
      | some n => some ((f.offset, n.size, s) :: r)
      | none => none
    | _, _, _ => none
def trRows : List (Nat × Operand) → Option (List (Nat × Src))
  | [] => some []
  | (i, x) :: rest => match trS x, trRows rest with
    | some s, some r => some ((i, s) :: r)
    | _, _ => none
def trArgs : List Operand → Option (List Src)
  | [] => some []
  | x :: rest => match trS x, trArgs rest with
    | some s, some r => some (s :: r)
    | _, _ => none
def sameTmp : Operand → Operand → Bool
  | .tmp a, .tmp b => a == b
  | .const (.int .i64 a), .const (.int .i64 b) => a == b
  | _, _ => false
inductive Cmp where
  | arith
  | bool (ne : Bool)
  | agg (ne : Bool)
  | bad
def fldI (P : Program) (i : Nat) (f : Field) : Bool := f.name != "_" && f.offset == i && (match P.underlying f.type with | some (.int .i64) => true | _ => false)
def agg3 (P : Program) (t : TypeId) : Bool :=
  (match (P.fieldsOf t).toList with | [f, g, h] => fldI P 0 f && fldI P 1 g && fldI P 2 h | _ => false) && (match P.underlying t with | some (.struct _) => true | _ => false) &&
    !P.eqGuardType P.depth t && !P.stoodInHeld t
def trCmp (P : Program) (op : BinOp) (t : TypeId) : Cmp :=
  match op with
  | .eql => (match P.underlying t with | some .bool => .bool false | some (.int _) | some .string => .arith | _ => if agg3 P t then .agg false else .bad)
  | .neq => (match P.underlying t with | some .bool => .bool true | some (.int _) | some .string => .arith | _ => if agg3 P t then .agg true else .bad)
  | .shl => .bad
  | _ => .arith
def trO : Option Operand → Option (Option Src)
  | some x => (trS x).map some
  | none => some none
def trI (P : Program) (ν : Nat → Option Nat) (o : Oper) : Option I :=
  match o.op with
  | .move x | .assign x => (trS x).map .mov
  | .pick c a b => match trS c, trS a, trS b with
    | some c, some a, some b => some (.pick c a b)
    | _, _, _ => none
  | .alloc t => (trZ P t).map .alloc
  | .box _ x => (trS x).map .box
  | .build t parts => match P.underlying t, trZ P t with
    | some (.struct fs), some z => if (fs.all fun f => (P.info? f.type).isSome) = true then (trParts P fs parts.toList).map (.build z) else none
    | _, _ => none
  | .buildSlice t len parts => match trElem P t with
    | some (e, sz, _) => match trZ P e, trRows parts.toList with
      | some z, some ps => if len * sz ≤ 2 ^ 24 ∧ z.length = sz then some (.mkSl sz z len ps) else none
      | _, _ => none
    | none => none
  | .makeSlice t l c => match trElem P t, trS l with
    | some (e, sz, by_), some s => match trZ P e with
      | some z => if sameTmp l c = true ∧ z.length = sz then some (.make z by_ s) else none
      | none => none
    | _, _ => none
  | .load t x => match trAgg P t, trS x with
    | some (n, g), some s => some (.load n g s)
    | _, _ => none
  | .store t x y => match P.info? t, trS x, trS y with
    | some i, some s, some r => some (.store i.size s r)
    | _, _, _ => none
  | .nilCheck x => (trS x).map .chk
  | .fieldAddr t x f => match P.underlying t, trS x with
    | some (.struct fs), some s => match fs[f]? with
      | some fd => match P.info? fd.type with
        | some i => if i.size = 0 then none else some (.fld fd.offset s)
        | none => none
      | none => none
    | _, _ => none
  | .indexAddr t x i => match trS x, trS i with
    | some s, some r => match P.underlying t with
      | some (.slice e) => match P.info? e with
        | some n => some (.idx n.size s r)
        | none => none
      | some (.array cnt e) => match P.info? e with
        | some n => some (.idxA cnt n.size s r)
        | none => none
      | _ => none
    | _, _ => none
  | .index t x i => match trS x, trS i, P.underlying t with
    | some s, some r, some .string => some (.idxS s r)
    | some s, some r, some (.array cnt e) => match P.info? e, P.underlying e with
      | some n, some d => if n.size = 1 ∧ isAggD d = false then some (.idxV cnt s r) else none
      | _, _ => none
    | _, _, _ => none
  | .binOp op t x y _ => match trS x, trS y with
    | some s, some r => match trCmp P op t with
      | .arith => some (.bin op s r)
      | .bool ne => some (.beq ne s r)
      | .agg ne => some (.aeq ne s r)
      | .bad => none
    | _, _ => none
  | .unOp op _ x => (trS x).map (.un op)
  | .convert src dst x => match P.underlying src, P.underlying dst, trS x with
    | some (.int _), some (.int k), some s => some (.conv k s)
    | some (.slice e), some .string, some s => match P.underlying e with
      | some (.int .u8) => some (.bstr s)
      | _ => none
    | _, _, _ => none
  | .slice t x lo hi none => match trS x with
    | some s =>
      match trO lo, trO hi with
      | some lo, some hi => match P.underlying t with
        | some .string => some (.sliceS s lo hi)
        | some (.slice e) => match P.info? e with
          | some i => if 0 < i.size then some (.slice i.size s lo hi) else none
          | none => none
        | _ => none
      | _, _ => none
    | none => none
  | .extract x i => (trS x).map (.extr i)
  | .call c => match c.callee with
    | .builtin .len => match c.args.toList, c.argTypes.toList with
      | [x], [t] => match trS x, P.underlying t with
        | some s, some .string => some (.lenS s)
        | some s, some (.slice _) => some (.len s)
        | _, _ => none
      | _, _ => none
    | .builtin .append => match c.args.toList, c.argTypes.toList with
      | [x, y], [t, u] => match trS x, trS y, trElem P t, P.underlying u with
        | some s, some r, some (e, sz, by_), some (.slice _) => if (trZ P e).isSome = true then some (.app sz by_ s r) else none
        | _, _, _, _ => none
      | _, _ => none
    | .builtin .max => match c.args.toList with
      | [x, y] => match trS x, trS y with
        | some s, some r => some (.max s r)
        | _, _ => none
      | _ => none
    | .value (.func f) => match ν f, P.funcs[f]?, trArgs c.args.toList with
      | some n, some fn, some as => if fn.body.isSome = true ∧ (fn.name == "runtime.NumGoroutine") = false then some (.call n as) else none
      | _, _, _ => none
    | _ => none
  | _ => none
section
variable {w : World} {D : DM} {X : Nat → Prop}
theorem rd_trV {v : Value} {V : V} (h : trV v = some V) : rd w D X V v := by
  unfold trV at h
  split at h <;> simp at h <;> subst h <;> simp [rd, Value.oneCell']
theorem rd_src {env : Nat → V} {a : Act} (he : ∀ t, rd w D X (env t) (a.tmps.getD t undef)) {x : Operand} {s : Src} (h : trS x = some s) :
    rd w D X (s.ev env) (a.eval x) := by
  cases x with
  | tmp t => simp [trS] at h; subst h; exact he t
  | const v =>
    simp only [trS, Option.map_eq_some_iff] at h
    obtain ⟨V, h1, rfl⟩ := h
    exact rd_trV h1
  | _ => simp [trS] at h
theorem rdL_mapM : ∀ {l : List Value} {L : List V}, l.mapM trV = some L → rdL w D X L l
  | [], L, h => by simp at h; subst h; simp [rdL]
  | v :: l, L, h => by
    simp only [List.mapM_cons, Option.pure_def, Option.bind_eq_bind, Option.bind_eq_some_iff, Option.some.injEq] at h
    obtain ⟨V, h1, L', h2, rfl⟩ := h
    simp only [rdL]
    exact ⟨v, l, rfl, rd_trV h1, rdL_mapM h2⟩
theorem rd_leaf {x : V} {v : Value} (hl : x.leaf = true) (hr : rd w D X x v) : v.oneCell' = true := by
  cases x <;> first | (simp [V.leaf] at hl; done) | skip
  case one => simpa only [rd] using hr
  case int => simp only [rd] at hr; subst hr; rfl
  case bool => simp only [rd] at hr; subst hr; rfl
  case str => simp only [rd] at hr; subst hr; rfl
  case nils => simp only [rd] at hr; obtain ⟨a, rfl⟩ := hr; rfl
  case sl => simp only [rd] at hr; obtain ⟨a, cap, rfl, _⟩ := hr; rfl
  case msl o s l =>
    simp only [rd] at hr
    cases hD : D o with
    | unborn => simp [hD] at hr
    | dead => rw [hD] at hr; obtain ⟨_, _, _, rfl⟩ := hr; rfl
    | live d => rw [hD] at hr; obtain ⟨_, a, cap, rfl, _⟩ := hr; rfl
  case ptr o s l =>
    simp only [rd] at hr
    cases hD : D o with
    | unborn => simp [hD] at hr
    | dead => rw [hD] at hr; obtain ⟨_, rfl⟩ := hr; rfl
    | live d => rw [hD] at hr; simp only [] at hr; subst hr; rfl
  case fptr => simp only [rd] at hr; obtain ⟨b, o, rfl, _⟩ := hr; rfl
theorem cells_one {v : Value} (h : v.oneCell' = true) : v.cells = #[v] := by cases v <;> first | rfl | (simp [Value.oneCell'] at h)
theorem rdL_leaf : ∀ {cs : List V} {ys : List Value}, cs.all V.leaf = true → rdL w D X cs ys → ∀ y ∈ ys, y.oneCell' = true
  | [], ys, _, h => by simp only [rdL] at h; subst h; simp
  | x :: xs, ys, hl, h => by
    simp only [rdL] at h
    obtain ⟨y, ys', rfl, h1, h2⟩ := h
    simp only [List.all_cons, Bool.and_eq_true] at hl
    intro z hz
    rcases List.mem_cons.1 hz with rfl | hz
    · exact rd_leaf hl.1 h1
    · exact rdL_leaf hl.2 h2 z hz
theorem leaf_cells {x : V} {cs : List V} (h : x.cells? = some cs) : cs.all V.leaf = true := by
  by_cases hl : x.leaf = true
  · have h1 : cs = [x] := by cases x <;> simp [V.cells?, V.leaf] at h hl <;> exact h.symm
    subst h1; simp [hl]
  · cases x <;> first | (simp [V.leaf] at hl; done) | (simp [V.cells?, V.leaf] at h; done) | skip
    simp only [V.cells?] at h
    split at h
    · rename_i h1; cases h; exact h1
    · cases h
theorem leaf_trV {v : Value} {x : V} (h : trV v = some x) : x.leaf = true := by
  unfold trV at h
  split at h <;> simp at h <;> subst h <;> rfl
theorem leaf_mapM : ∀ {l : List Value} {L : List V}, l.mapM trV = some L → L.all V.leaf = true
  | [], L, h => by simp at h; subst h; rfl
  | v :: l, L, h => by
    simp only [List.mapM_cons, Option.pure_def, Option.bind_eq_bind, Option.bind_eq_some_iff, Option.some.injEq] at h
    obtain ⟨V, h1, L', h2, rfl⟩ := h
    simp only [List.all_cons, leaf_trV h1, leaf_mapM h2, Bool.and_self]
theorem rd_cells {x : V} {v : Value} {cs : List V} (h : x.cells? = some cs) (hr : rd w D X x v) :
    rdL w D X cs v.cells.toList ∧ (∀ y ∈ v.cells.toList, y.oneCell' = true) ∧ cs.length = v.cells.size := by
  have key : rdL w D X cs v.cells.toList ∧ (∀ y ∈ v.cells.toList, y.oneCell' = true) := by
    by_cases hl : x.leaf = true
    · have h1 : cs = [x] := by cases x <;> simp [V.cells?, V.leaf] at h hl <;> exact h.symm
      have h2 := rd_leaf hl hr
      subst h1
      rw [cells_one h2]
      exact ⟨by simp only [rdL]; exact ⟨v, [], rfl, hr, rfl⟩, by simpa using h2⟩
    · cases x <;> first | (simp [V.leaf] at hl; done) | (simp [V.cells?, V.leaf] at h; done) | skip
      case agg xs =>
        simp only [V.cells?] at h
        split at h
        · rename_i hall
          simp at h; subst h
          simp only [rd] at hr
          obtain ⟨a, rfl, hr⟩ := hr
          exact ⟨hr, rdL_leaf hall hr⟩
        · cases h
  exact ⟨key.1, key.2, by simpa using rdL_length _ _ key.1⟩
end
end Go.Ml
end
section
namespace Go.Ml
def Own (D : DM) : Nat → Prop := fun b => ∃ o d, D o = .live d ∧ d.blk = b
def Done [Base] (w : World) (D : DM) (M : Nat → Prop) (id : Nat) (σ' : Store) (x : V) (v : Value) (w' : World) : Prop :=
  ∃ D', SRel w' D' M σ' ∧ Ext w D (XS M D) w' D' (XS M D') ∧ Gr (Own D) w w' ∧ (∀ o d', D' o = .live d' → Own D d'.blk ∨ w.heap.size ≤ d'.blk) ∧
    (∀ o, D o = .unborn → o ≠ id → D' o = .unborn) ∧ rd w' D' (XS M D') x v
@[simp] theorem addr_add (b o k : Nat) : (⟨b, o, none⟩ : Addr).add k = ⟨b, o + k, none⟩ := by unfold Addr.add; split <;> simp_all
section
variable {w : World} {D : DM} {M : Nat → Prop} {σ : Store}
theorem done_val [Base] (hS : SRel w D M σ) {x : V} {v : Value} {id : Nat} (h : rd w D (XS M D) x v) : Done w D M id σ x v w :=
  ⟨D, hS, Ext.refl _ _ _, Gr.refl _ _, fun o d h => .inl ⟨o, d, h, rfl⟩, fun _ h _ => h, h⟩
theorem put_unborn {id : Nat} {x : DS} : ∀ o, D o = .unborn → o ≠ id → D.put id x o = .unborn := fun o h hne => by simp only [DM.put]; rw [if_neg hne]; exact h
theorem put_fresh {id : Nat} {d0 : Desc} (h0 : w.heap.size ≤ d0.blk) : ∀ o d', D.put id (.live d0) o = .live d' → Own D d'.blk ∨ w.heap.size ≤ d'.blk := by
  intro o d' h
  simp only [DM.put] at h
  split at h
  · cases h; exact .inr h0
  · exact .inl ⟨o, d', h, rfl⟩
theorem done_newP [Base] (hS : SRel w D M σ) {id : Nat} (hid : id < σ.length ∧ D id = .unborn) {w' : World} {cs : Array Value} (p : Push w w' cs) {row : List V}
    (h0 : 0 < row.length) (hlf : row.all V.leaf = true) (hrd : rdL w D (XS M D) row cs.toList) :
    Done w D M id (σ.set id (some ⟨row.length, [row]⟩)) (.ptr id 0 0) (.pointer (some ⟨w.heap.size, 0, none⟩)) w' := by
  have hl := rdL_length _ _ hrd
  have hh := hS.new p hid.1 hid.2 (ob := ⟨row.length, [row]⟩) h0 (by simp) (by simp at hl ⊢; omega)
    (fun i x hi => by
      obtain ⟨y, h1, h2⟩ := rdL_get _ _ hrd i x (by simpa using hi)
      exact ⟨List.all_eq_true.1 hlf x (List.mem_of_getElem? (by simpa using hi)), y, by simpa using h1, h2⟩)
  refine ⟨_, hh.1, hh.2, p.gr _, put_fresh (by simp), put_unborn, ?_⟩
  simp [rd, DM.put]
theorem done_newS [Base] (hS : SRel w D M σ) {id : Nat} (hid : id < σ.length ∧ D id = .unborn) {w' : World} {cs : Array Value} (p : Push w w' cs) {sz : Nat} {rows : List (List V)} {cap : Nat}
    (h0 : 0 < sz) (hr : ∀ r ∈ rows, r.length = sz) (hc : rows.length ≤ cap) (hcs : cap * sz ≤ cs.size)
    (hrd : ∀ (i : Nat) (x : V), rows.flatten[i]? = some x → x.leaf = true ∧ ∃ y, cs[i]? = some y ∧ rd w D (XS M D) x y) :
    Done w D M id (σ.set id (some ⟨sz, rows⟩)) (.msl id 0 rows.length) (.slice (some ⟨w.heap.size, 0, none⟩) rows.length cap) w' := by
  have hfit : rows.length * sz ≤ cs.size := Nat.le_trans (Nat.mul_le_mul_right _ hc) hcs
  have hh := hS.new p hid.1 hid.2 (ob := ⟨sz, rows⟩) h0 hr hfit hrd
  refine ⟨_, hh.1, hh.2, p.gr _, put_fresh (by simp), put_unborn, ?_⟩
  simp only [rd, DM.put, if_true]
  exact ⟨by simp, _, cap, rfl, hc, .inl ⟨by simp, by simpa using hcs⟩⟩
theorem rd_none_le {x : V} {v : Value} {X : Nat → Prop} (h : rd w DM.none X x v) : rd w D X x v :=
  rd_mono x v ⟨Nat.le_refl _, fun _ _ _ => rfl, fun _ _ h => h, fun _ => by simp [DM.none, DSle]⟩ h
theorem flatten_get {rows : List (List V)} {sz : Nat} (hr : ∀ r ∈ rows, r.length = sz) : ∀ {i : Nat} {r : List V} {j : Nat} {x : V}, rows[i]? = some r → r[j]? = some x → rows.flatten[i * sz + j]? = some x := by
  induction rows with
  | nil => intro i r j x h; simp at h
  | cons a rows ih =>
    intro i r j x h hj
    have ha : a.length = sz := hr a (by simp)
    cases i with
    | zero =>
      simp at h; subst h
      have : j < a.length := (List.getElem?_eq_some_iff.1 hj).1
      simp only [List.flatten_cons, Nat.zero_mul, Nat.zero_add]
      rw [List.getElem?_append_left this]; exact hj
    | succ i =>
      simp only [List.flatten_cons]
      rw [List.getElem?_append_right (by rw [ha, Nat.succ_mul]; omega)]
      have := ih (fun r hr' => hr r (by simp [hr'])) (i := i) (r := r) (j := j) (x := x) (by simpa using h) hj
      rwa [show (i + 1) * sz + j - a.length = i * sz + j by rw [ha, Nat.succ_mul]; omega]
theorem rowAt_rd [Base] (hS : SRel w D M σ) {x : V} {v : Value} {row : List V} {off : Nat} (h : rowAt σ x = some (row, off)) (hr : rd w D (XS M D) x v) :
    ∃ b o, v = .pointer (some ⟨b, o + off, none⟩) ∧ ∀ (i : Nat) (y : V), row[i]? = some y → ∃ c, w.cell? ⟨b, o + i, none⟩ = some c ∧ rd w D (XS M D) y c := by
  cases x <;> simp only [rowAt] at h <;> first | cases h; done | skip
  case ptr o r off' =>
    cases ho : objAt σ o with
    | none => simp [ho] at h
    | some ob =>
      simp only [ho] at h
      cases hrow : ob.rows[r]? with
      | none => simp [hrow] at h
      | some row' =>
        simp only [hrow, Option.map_some, Option.some.injEq, Prod.mk.injEq] at h
        obtain ⟨rfl, rfl⟩ := h
        obtain ⟨d, hd⟩ := hS.alive o ob ho
        obtain ⟨ob', c, e, h1, h2, h3, h4, h5, h6, h7, h8, h9, h10, h11⟩ := hS.live o d hd
        rw [ho] at h1; cases h1
        simp only [rd, hd] at hr
        subst hr
        refine ⟨d.blk, d.bas + r * d.sz, rfl, fun i y hi => ?_⟩
        obtain ⟨_, c', k1, k2⟩ := h11 (r * d.sz + i) y (flatten_get (by rw [h2]; exact h10) hrow hi)
        exact ⟨c', by simp [World.cell?, h7, Nat.add_assoc, k1], k2⟩
  case fptr row' off' =>
    simp only [Option.some.injEq, Prod.mk.injEq] at h
    obtain ⟨rfl, rfl⟩ := h
    simp only [rd] at hr
    obtain ⟨b, o, rfl, _, _, hc⟩ := hr
    refine ⟨b, o, rfl, fun i y hi => ?_⟩
    obtain ⟨_, c, k1, k2⟩ := rdCells_get o _ hc i y hi
    exact ⟨c, k1, rd_none_le k2⟩
theorem rowsOf_rd [Base] (hS : SRel w D M σ) {x : V} {v : Value} {sz : Nat} {rows : List (List V)} (h : rowsOf σ x = some (sz, rows)) (hr : rd w D (XS M D) x v) :
    ∃ a cap, v = .slice a rows.length cap ∧ rows.length ≤ cap ∧ (rows = [] ∨ ∃ b off, a = some ⟨b, off, none⟩ ∧ (∀ r ∈ rows, r.length = sz) ∧
      ∀ (i : Nat) (y : V), rows.flatten[i]? = some y → y.leaf = true ∧ ∃ c, w.cell? ⟨b, off + i, none⟩ = some c ∧ rd w D (XS M D) y c) := by
  cases x <;> simp only [rowsOf] at h <;> first | cases h; done | skip
  case nils =>
    simp only [Option.some.injEq, Prod.mk.injEq] at h
    obtain ⟨rfl, rfl⟩ := h
    simp only [rd] at hr
    obtain ⟨a, rfl⟩ := hr
    exact ⟨a, 0, rfl, Nat.le_refl _, .inl rfl⟩
  case sl sz' rows' =>
    simp only [Option.some.injEq, Prod.mk.injEq] at h
    obtain ⟨rfl, rfl⟩ := h
    simp only [rd] at hr
    obtain ⟨a, cap, rfl, hle, hr⟩ := hr
    refine ⟨a, cap, rfl, hle, hr.imp id ?_⟩
    rintro ⟨b, off, rfl, _, _, hc⟩
    rw [rdRows_iff] at hc
    refine ⟨b, off, rfl, hc.1, fun i y hi => ?_⟩
    obtain ⟨kl, c, k1, k2⟩ := rdCells_get off _ hc.2 i y hi
    exact ⟨kl, c, k1, rd_none_le k2⟩
  case msl o s l =>
    cases ho : objAt σ o with
    | none => simp [ho] at h
    | some ob =>
      simp only [ho] at h
      split at h
      · rename_i hle
        simp only [Option.some.injEq, Prod.mk.injEq] at h
        obtain ⟨rfl, rfl⟩ := h
        obtain ⟨d, hd⟩ := hS.alive o ob ho
        obtain ⟨ob', c, e, h1, h2, h3, h4, h5, h6, h7, h8, h9, h10, h11⟩ := hS.live o d hd
        rw [ho] at h1; cases h1
        simp only [rd, hd] at hr
        obtain ⟨hn, a, cap, rfl, hcap, hr⟩ := hr
        have hlen : ((ob.rows.drop s).take l).length = l := by simp; omega
        refine ⟨a, cap, by rw [hlen], by rw [hlen]; exact hcap, ?_⟩
        rcases hr with ⟨rfl, hfit⟩ | ⟨rfl, rfl⟩
        · refine .inr ⟨d.blk, d.bas + s * d.sz, rfl, fun r hr => h10 r (List.mem_of_mem_drop (List.mem_of_mem_take hr)), fun i y hi => ?_⟩
          have hsplit : ob.rows.flatten = (ob.rows.take s).flatten ++ (((ob.rows.drop s).take l).flatten ++ ((ob.rows.drop s).drop l).flatten) := by
            rw [← List.flatten_append, ← List.flatten_append, List.take_append_drop, List.take_append_drop]
          have hpre : (ob.rows.take s).flatten.length = s * d.sz := by
            have : ∀ (l : List (List V)), (∀ r ∈ l, r.length = d.sz) → l.flatten.length = l.length * d.sz := by
              intro l hl
              induction l with
              | nil => simp
              | cons a l ih => simp only [List.flatten_cons, List.length_append, List.length_cons, hl a (by simp), ih (fun r hr => hl r (by simp [hr])), Nat.succ_mul]; omega
            rw [this _ (fun r hr => by rw [h2]; exact h10 r (List.mem_of_mem_take hr))]
            congr 1
            simp; omega
          have hi' : ob.rows.flatten[s * d.sz + i]? = some y := by
            rw [hsplit, List.getElem?_append_right (by omega), hpre, Nat.add_sub_cancel_left]
            rw [List.getElem?_append_left (List.getElem?_eq_some_iff.1 hi).1]
            exact hi
          obtain ⟨kl, c', k1, k2⟩ := h11 _ y hi'
          exact ⟨kl, c', by simp [World.cell?, h7, Nat.add_assoc, k1], k2⟩
        · exact .inl (by simp)
      · cases h
theorem lenOf_rd [Base] (hS : SRel w D M σ) {x : V} {v : Value} {n : Nat} (h : lenOf σ x = some n) (hr : rd w D (XS M D) x v) : ∃ a cap, v = .slice a n cap ∧ n ≤ cap := by
  cases x <;> simp only [lenOf] at h <;> first | cases h; done | skip
  case nils => simp at h; subst h; simp only [rd] at hr; obtain ⟨a, rfl⟩ := hr; exact ⟨a, 0, rfl, by simp⟩
  case sl sz rows => simp at h; subst h; simp only [rd] at hr; obtain ⟨a, cap, rfl, hc, _⟩ := hr; exact ⟨a, cap, rfl, hc⟩
  case msl o s l =>
    cases ho : objAt σ o with
    | none => simp [ho] at h
    | some ob =>
      simp [ho] at h; subst h
      obtain ⟨d, hd⟩ := hS.alive o ob ho
      simp only [rd, hd] at hr
      obtain ⟨hn, a, cap, rfl, hcap, _⟩ := hr
      exact ⟨a, cap, rfl, hcap⟩
end
end Go.Ml
end
section
set_option linter.unusedSimpArgs false
namespace Go.Ml
theorem run_isAgg' {P : Program} {t : TypeId} {d : TypeDesc} (h : P.underlying t = some d) (w : World) : (isAgg t).run P w = .ok (isAggD d) w := by
  simp only [isAgg, Sem.run_bind, run_underlying h, Result.andThen_ok]
  cases d <;> rfl
theorem run_sizeOf' {P : Program} {t : TypeId} {i : TypeInfo} (h : P.info? t = some i) (w : World) : (sizeOf t).run P w = .ok i.size w := by
  simp [sizeOf, run_typeInfo w h]
theorem run_zeroValue' {P : Program} {t : TypeId} {i : TypeInfo} {v : Value} (h : P.info? t = some i) (hz : i.zero = some v) (w : World) : (zeroValue t).run P w = .ok v w := by
  simp [zeroValue, run_typeInfo w h, hz]
section
variable {P : Program} {w : World} {D : DM} {M : Nat → Prop} {σ : Store}
theorem run_load_agg [Base] (hS : SRel w D M σ) {t : TypeId} {x : V} {v : Value} {row : List V} {off n : Nat} {b : Bool}
    (ht : trAgg P t = some (n, b)) (h : rowAt σ x = some (row, off)) (hr : rd w D (XS M D) x v) {y : V}
    (hy : (if b then (if off + n ≤ row.length then some (.agg ((row.drop off).take n)) else none) else row[off]?) = some y) :
    ∃ u, (Instr.loadAt t v).run P w = .ok u w ∧ rd w D (XS M D) y u := by
  obtain ⟨bl, o, rfl, hc⟩ := rowAt_rd hS h hr
  unfold trAgg at ht
  cases hi : P.info? t with
  | none => simp [hi] at ht
  | some i =>
    cases hu : P.underlying t with
    | none => simp [hi, hu] at ht
    | some d =>
      simp only [hi, hu] at ht
      split at ht
      · simp only [Option.some.injEq, Prod.mk.injEq] at ht
        obtain ⟨rfl, rfl⟩ := ht
        rename_i hcond
        cases hb : isAggD d with
        | true =>
          rw [hb] at hy
          simp only [if_true] at hy
          split at hy
          · rename_i hle
            simp only [Option.some.injEq] at hy; subst hy
            have hex : ∀ j, j < i.size → ∃ c, w.cell? ((⟨bl, o + off, none⟩ : Addr).add j) = some c ∧ ∀ z, row[off + j]? = some z → rd w D (XS M D) z c := by
              intro j hj
              have : off + j < row.length := by omega
              obtain ⟨c, h1, h2⟩ := hc (off + j) row[off + j] (by simp [this])
              refine ⟨c, by rw [addr_add, Nat.add_assoc]; exact h1, fun z hz => ?_⟩
              rw [List.getElem?_eq_getElem this] at hz; cases hz; exact h2
            have hex' : ∀ j, ∃ c, j < i.size → w.cell? ((⟨bl, o + off, none⟩ : Addr).add j) = some c ∧ ∀ z, row[off + j]? = some z → rd w D (XS M D) z c := by
              intro j
              by_cases hj : j < i.size
              · obtain ⟨c, h⟩ := hex j hj; exact ⟨c, fun _ => h⟩
              · exact ⟨undef, fun k => absurd k hj⟩
            have hf := Classical.axiomOfChoice hex'
            obtain ⟨f, hf⟩ := hf
            refine ⟨.agg ((List.range i.size).map f).toArray, ?_, ?_⟩
            · simp only [Instr.loadAt, Instr.sureAddr, Sem.run_bind, Sem.run_pure, Result.andThen_ok, loadVar, run_isAgg' hu, hb, if_true, run_sizeOf' hi,
                run_loadCells w _ _ f (fun j hj => (hf j hj).1)]
            · simp only [rd]
              refine ⟨_, rfl, ?_⟩
              show rdL w D (XS M D) _ ((List.range i.size).map f)
              have : ∀ (k : Nat), ∀ (m : Nat), off + m + k ≤ row.length → m + k ≤ i.size → rdL w D (XS M D) ((row.drop (off + m)).take k) ((List.range' m k).map f) := by
                intro k
                induction k with
                | zero => intro m _ _; simp [rdL]
                | succ k ih =>
                  intro m h1 h2
                  have hlt : off + m < row.length := by omega
                  rw [List.drop_eq_getElem_cons hlt]
                  simp only [List.take_succ_cons, List.range'_succ, List.map_cons, rdL]
                  refine ⟨_, _, rfl, (hf m (by omega)).2 _ (by simp [hlt]), ?_⟩
                  have := ih (m + 1) (by omega) (by omega)
                  rwa [show off + (m + 1) = off + m + 1 by omega] at this
              have := this i.size 0 (by omega) (by omega)
              simpa [List.range_eq_range'] using this
          · cases hy
        | false =>
          rw [hb] at hy
          simp only [Bool.false_eq_true, if_false] at hy
          obtain ⟨c, h1, h2⟩ := hc off y hy
          exact ⟨c, by simp only [Instr.loadAt, Instr.sureAddr, Sem.run_bind, Sem.run_pure, Result.andThen_ok, loadVar, run_isAgg' hu, hb, Bool.false_eq_true, if_false, run_load, h1], h2⟩
      · cases ht
theorem run_field_addr [Base] {s : TypeId} {fs : Array Field} {f : Nat} {fd : Field} {i : TypeInfo} (hu : P.underlying s = some (.struct fs)) (hf : fs[f]? = some fd)
    (hi : P.info? fd.type = some i) (h0 : i.size ≠ 0) (b o : Nat) :
    (Instr.fieldAt s (.pointer (some ⟨b, o, none⟩)) f).run P w = .ok (.pointer (some ⟨b, o + fd.offset, none⟩)) w := by
  simp [Instr.fieldAt, run_underlying hu, hf, Instr.sureAddr, fieldPlace, run_sizeOf' hi, h0]
theorem run_index_slice [Base] {t e : TypeId} {i : TypeInfo} (hu : P.underlying t = some (.slice e)) (hi : P.info? e = some i) {b o len cap : Nat} {k : IntKind} {n : Int}
    (h : 0 ≤ n ∧ n < len) : (Instr.indexAt t (.slice (some ⟨b, o, none⟩) len cap) (.int k n)).run P w = .ok (.pointer (some ⟨b, o + n.toNat * i.size, none⟩)) w := by
  simp [Instr.indexAt, asIntOf, run_underlying hu, h, run_sizeOf' hi]
theorem run_index_arr [Base] {t e : TypeId} {i : TypeInfo} {cnt : Nat} (hu : P.underlying t = some (.array cnt e)) (hi : P.info? e = some i) {b o : Nat} {k : IntKind} {n : Int}
    (h : 0 ≤ n ∧ n < cnt) : (Instr.indexAt t (.pointer (some ⟨b, o, none⟩)) (.int k n)).run P w = .ok (.pointer (some ⟨b, o + n.toNat * i.size, none⟩)) w := by
  simp [Instr.indexAt, asIntOf, run_underlying hu, h, run_sizeOf' hi, Instr.sureAddr]
theorem run_bin {op : BinOp} {t : TypeId} {x y z : V} {u v : Value} {X : Nat → Prop} (hz : evBin op x y = some z) (hx : rd w D X x u) (hy : rd w D X y v) (ox oy : Operand) :
    ∃ r, (do eqGuard op t ox oy u v; binOp op t u v : Sem Value).run P w = .ok r w ∧ rd w D X z r := by
  unfold evBin at hz
  split at hz <;> first | (cases hz; done) | skip
  all_goals simp only [rd] at hx hy; subst hx hy
  all_goals try (split at hz <;> first | (cases hz; done) | skip)
  all_goals simp only [Option.some.injEq] at hz; subst hz
  all_goals try subst_vars
  all_goals simp only [rd, Sem.run_bind]
  · simp [eqGuard, binOp, Op.intArith]
  · simp [eqGuard, binOp, Op.intArith]
  · simp [eqGuard, binOp, Op.intArith]
  · rename_i h; obtain ⟨rfl, h⟩ := h; simp [eqGuard, binOp, Op.intDiv, h]
  · rename_i h; obtain ⟨rfl, h⟩ := h; simp [eqGuard, binOp, Op.intDiv, h]
  · simp [eqGuard, binOp, Op.intCmp]
  · simp [eqGuard, binOp, Op.intCmp]
  · simp [eqGuard, binOp, Op.intCmp]
  · simp [eqGuard, binOp, Op.intCmp]
  · simp [eqGuard, binOp, Op.intCmp]
  · simp [eqGuard, binOp, Op.intCmp]
  · simp [eqGuard, binOp, Op.stringOp]
  · simp [eqGuard, binOp, Op.stringOp]
  · rename_i a b h
    have e : (⟨a.toArray⟩ : ByteArray) ++ ⟨b.toArray⟩ = ⟨(a ++ b).toArray⟩ := by apply ByteArray.ext; simp
    simp only [eqGuard, binOp, Op.stringOp, ByteArray.size, List.size_toArray, Bool.not_or, Sem.run_pure, Sem.run_bind, Result.andThen_ok, e]
    have : ¬ (((a.length + b.length : Nat) : Int) > IntKind.i64.max) := by
      have : IntKind.i64.max = 9223372036854775807 := by decide
      rw [this]; omega
    simp [this]
    omega
  · rename_i hb
    have : ¬ _ < (0 : Int) := Int.not_lt.2 hb
    simp [eqGuard, binOp, Op.shift, this]
  · simp [eqGuard, binOp, Op.intBits, bitsAnd]
  · simp [eqGuard, binOp, Op.intBits, bitsXor]
theorem run_index_val [Base] {t e : TypeId} {cnt : Nat} {n : TypeInfo} {d : TypeDesc} {cs : Array Value} {k : IntKind} {i : Int} {v : Value} (hu : P.underlying t = some (.array cnt e)) (hi : P.info? e = some n) (hn : n.size = 1)
    (he : P.underlying e = some d) (hd : isAggD d = false) (h : 0 ≤ i ∧ i < cnt) (hv : cs.toList[i.toNat]? = some v) :
    (Instr.index t (.agg cs) (.int k i)).run P w = .ok v w := by
  have h1 := run_sizeOf' (P := P) hi w
  rw [hn] at h1
  have h2 := run_isAgg' he w
  rw [hd] at h2
  have hv' : cs[i.toNat]? = some v := by rw [← Array.getElem?_toList]; exact hv
  simp [Instr.index, asIntOf, run_underlying hu, h, h1, part, h2, hv']
theorem run_beq {t : TypeId} {a b ne : Bool} (hu : P.underlying t = some .bool) (ox oy : Operand) :
    (do eqGuard (if ne then .neq else .eql) t ox oy (.bool a) (.bool b); binOp (if ne then .neq else .eql) t (.bool a) (.bool b) : Sem Value).run P w =
      .ok (.bool (if ne then !(a == b) else a == b)) w := by
  cases ne <;> simp [eqGuard, binOp, run_equal_bool w t a b hu]
theorem run_un {op : UnOp} {x z : V} {u : Value} {X : Nat → Prop} (hz : evUn op x = some z) (hx : rd w D X x u) : ∃ r, (Op.unary op u).run P w = .ok r w ∧ rd w D X z r := by
  unfold evUn at hz
  split at hz <;> first | (cases hz; done) | skip
  all_goals simp only [rd] at hx; subst hx
  all_goals simp only [Option.some.injEq] at hz; subst hz
  · simp [Op.unary, Op.intArith, rd]
  · simp [Op.unary, rd]
theorem run_conv {src dst : TypeId} {ks k k' : IntKind} {n : Int} (hs : P.underlying src = some (.int ks)) (hd : P.underlying dst = some (.int k)) :
    (convert src dst (.int k' n)).run P w = .ok (.int k (k.wrap n)) w := by
  simp [convert, run_underlying hs, run_underlying hd, Conv.intToInt]
theorem run_len_str {t ty : TypeId} {s : ByteArray} (hu : P.underlying t = some .string) : (Builtin.len_ #[t] ty #[.string s]).run P w = .ok (.int .i64 s.size) w := by
  simp [Builtin.len_, run_underlying hu, goInt]
theorem run_len_sl {t ty e : TypeId} {a : Option Addr} {n c : Nat} (hu : P.underlying t = some (.slice e)) : (Builtin.len_ #[t] ty #[.slice a n c]).run P w = .ok (.int .i64 n) w := by
  simp [Builtin.len_, run_underlying hu, goInt]
theorem run_index_str {t : TypeId} {s : List UInt8} {k : IntKind} {n : Int} (hu : P.underlying t = some .string) (h : 0 ≤ n ∧ n < s.length) :
    (Instr.index t (.string ⟨s.toArray⟩) (.int k n)).run P w = .ok (.int .u8 (s.getD n.toNat 0).toNat) w := by
  have hlt : n.toNat < s.length := by omega
  have : (⟨s.toArray⟩ : ByteArray)[n.toNat]? = some s[n.toNat] := by
    rw [getElem?_pos (⟨s.toArray⟩ : ByteArray) n.toNat (by simpa [ByteArray.size] using hlt)]
    rfl
  simp [Instr.index, asIntOf, run_underlying hu, h.1, this, hlt]
theorem run_sliceBound {y : Nat} {x : V} {v : Value} {n : Nat} {X : Nat → Prop} {code : BoundsCode} (h : asBound y x = some n) (hr : rd w D X x v) (y' : Nat) (hy : y ≤ y') :
    (Instr.sliceBound v y' code).run P w = .ok n w ∧ n ≤ y := by
  unfold asBound at h
  split at h <;> first | (cases h; done) | skip
  simp only [rd] at hr; subst hr
  split at h
  · simp at h; subst h
    rename_i hb
    have : 0 ≤ (‹Int› : Int) ∧ (‹Int› : Int) ≤ y' := ⟨hb.1, by omega⟩
    refine ⟨?_, by omega⟩
    simp only [Instr.sliceBound, Sem.run_bind, asIntOf, Sem.run_pure, Result.andThen_ok]
    rw [Sem.run_ite, if_pos ⟨hb.1, by omega⟩]
    rfl
  · cases h
end
end Go.Ml
end
section
set_option linter.unusedSimpArgs false
namespace Go.Ml
section
variable {P : Program} {w : World} {D : DM} {M : Nat → Prop} {σ : Store}
theorem push_alloc (w : World) (cs : Array Value) (e : TypeId) : Push w (w.alloc (.cells cs e)) cs := ⟨⟨e, rfl⟩, rfl, rfl, rfl⟩
theorem trZ_spec {t : TypeId} {z : List V} (h : trZ P t = some z) {X : Nat → Prop} : ∃ i v, P.info? t = some i ∧ i.zero = some v ∧ v.cells.size = i.size ∧ 0 < i.size ∧ rdL w D X z v.cells.toList ∧ z.length = i.size ∧ z.all V.leaf = true := by
  unfold trZ at h
  cases hi : P.info? t with
  | none => simp [hi] at h
  | some i =>
    cases hz : i.zero with
    | none => simp [hi, hz] at h
    | some v =>
      simp only [hi, hz] at h
      split at h
      · rename_i hc
        have := rdL_mapM (w := w) (D := D) (X := X) h
        refine ⟨i, v, rfl, hz, hc.1, hc.2, this, ?_, leaf_mapM h⟩
        rw [rdL_length _ _ this]; simpa using hc.1
      · cases h
theorem run_alloc [Base] {t : TypeId} {i : TypeInfo} {v : Value} (hi : P.info? t = some i) (hz : i.zero = some v) :
    (Instr.alloc t true (.tuple #[])).run P w = .ok (.pointer (some ⟨w.heap.size, 0, none⟩)) (w.alloc (.cells v.cells t)) := by
  simp [Instr.alloc, run_zeroValue' hi hz, newVar, newRow]
theorem run_box {t : TypeId} {v : Value} : (Instr.box t v).run P w = .ok (.pointer (some ⟨w.heap.size, 0, none⟩)) (w.alloc (.cells v.cells t)) := by
  simp [Instr.box, newVar, newRow]
theorem foldl_set (off : Nat) : ∀ (l : List Value) (j : Nat) (cs : Array Value), off + j + l.length ≤ cs.size →
    ((l.zipIdx j).foldl (fun (cs : Array Value) (p : Value × Nat) => cs.setIfInBounds (off + p.2) p.1) cs).toList = cs.toList.take (off + j) ++ l ++ cs.toList.drop (off + j + l.length)
  | [], j, cs, _ => by simp
  | v :: l, j, cs, h => by
    simp only [List.length_cons] at h
    simp only [List.zipIdx_cons, List.foldl_cons]
    rw [foldl_set off l (j + 1) _ (by simp; omega)]
    have := list_seg_step cs.toList (off + j) v l (by simp; omega)
    simpa [Array.toList_setIfInBounds, Nat.add_assoc] using this
theorem rdL_splice {X : Nat → Prop} {row cs : List V} {ys zs : List Value} (h1 : rdL w D X row ys) (h2 : rdL w D X cs zs) (off : Nat) :
    rdL w D X (splice row off cs) (ys.take off ++ zs ++ ys.drop (off + zs.length)) := by
  unfold splice
  rw [rdL_length _ _ h2]
  exact rdL_append _ _ _ _ (rdL_append _ _ _ _ (rdL_take off _ _ h1) h2) (rdL_drop _ _ _ h1)
theorem fill_step [Base] {place : Nat → Option (Nat × Nat)} {cells : Array Value} {i off size : Nat} {v : Value} {rest : List (Nat × Value)} (hp : place i = some (off, size))
    (hs : v.cells.size = size) (hf : off + size ≤ cells.size) :
    ∃ cells', Instr.fill place cells ((i, v) :: rest) = Instr.fill place cells' rest ∧ cells'.toList = cells.toList.take off ++ v.cells.toList ++ cells.toList.drop (off + v.cells.toList.length) := by
  refine ⟨v.cells.zipIdx.foldl (fun (cs : Array Value) (p : Value × Nat) => cs.setIfInBounds (off + p.2) p.1) cells, ?_, ?_⟩
  · simp only [Instr.fill, hp]
    rw [if_neg (by simp [hs]; omega)]
  · rw [← Array.foldl_toList]
    have := foldl_set off v.cells.toList 0 cells (by simp; omega)
    simpa using this
theorem fillRow_rd [Base] {X : Nat → Prop} {env : Nat → V} {a : Act} (he : ∀ t, rd w D X (env t) (a.tmps.getD t undef)) {fs : Array Field} {place : Nat → Option (Nat × Nat)}
    (hpl : ∀ i f n, fs[i]? = some f → P.info? f.type = some n → place i = some (f.offset, n.size)) :
    ∀ (parts : List (Nat × Operand)) {ps : List (Nat × Nat × Src)} {row row' : List V} {cells : Array Value}, trParts P fs parts = some ps → fillRow env row ps = some row' → rdL w D X row cells.toList →
      ∃ cells', Instr.fill place cells (parts.map fun p => (p.1, a.eval p.2)) = some cells' ∧ rdL w D X row' cells'.toList
  | [], ps, row, row', cells, h, hf, hr => by
    simp [trParts] at h; subst h
    simp [fillRow] at hf; subst hf
    exact ⟨cells, rfl, hr⟩
  | (i, x) :: rest, ps, row, row', cells, h, hf, hr => by
    simp only [trParts] at h
    cases h1 : fs[i]? with
    | none => simp [h1] at h
    | some f =>
      cases h2 : trS x with
      | none => simp [h1, h2] at h
      | some s =>
        cases h3 : trParts P fs rest with
        | none => simp [h1, h2, h3] at h
        | some r =>
          simp only [h1, h2, h3] at h
          cases h4 : P.info? f.type with
          | none => simp [h4] at h
          | some n =>
            simp only [h4, Option.some.injEq] at h
            subst h
            simp only [fillRow] at hf
            cases h5 : (s.ev env).cells? with
            | none => simp [h5] at hf
            | some cs =>
              simp only [h5] at hf
              split at hf
              · rename_i hc
                obtain ⟨k1, k2, k3⟩ := rd_cells h5 (rd_src he h2)
                have hlen := rdL_length _ _ hr
                obtain ⟨cells1, e1, e2⟩ := fill_step (place := place) (cells := cells) (v := a.eval x) (rest := rest.map fun p => (p.1, a.eval p.2)) (hpl i f n h1 h4) (by omega) (by simp at hlen; omega)
                have hr1 : rdL w D X (splice row f.offset cs) cells1.toList := by
                  rw [e2]; exact rdL_splice hr k1 _
                obtain ⟨cells', e3, e4⟩ := fillRow_rd he hpl rest h3 hf hr1
                exact ⟨cells', by simp only [List.map_cons]; rw [e1]; exact e3, e4⟩
              · cases hf
theorem run_store' [Base] {b o : Nat} {c : Array Value} {e t : TypeId} {i : TypeInfo} {v : Value} (hi : P.info? t = some i) (hn : i.size = v.cells.size) (hb : w.heap[b]? = some (.cells c e (0, 0)))
    (hfit : o + v.cells.size ≤ c.size) (h1 : ∀ y ∈ v.cells.toList, y.oneCell' = true) :
    ∃ w' c', (Instr.storeAt t (.pointer (some ⟨b, o, none⟩)) v).run P w = .ok () w' ∧ Set1 w w' b c' ∧ c'.toList = c.toList.take o ++ v.cells.toList ++ c.toList.drop (o + v.cells.toList.length) := by
  have hst := run_storeCells_at P b o e v.cells.toList 0 c w hb (by simpa using hfit) h1
  refine ⟨w.setRow b (c.toList.take o ++ v.cells.toList ++ c.toList.drop (o + v.cells.toList.length)).toArray, (c.toList.take o ++ v.cells.toList ++ c.toList.drop (o + v.cells.toList.length)).toArray, ?_, ?_, rfl⟩
  · simp only [Instr.storeAt, Instr.sureAddr, storeVar, Sem.run_bind, Sem.run_pure, Result.andThen_ok, run_sizeOf' hi, Sem.run_ite]
    rw [if_neg (by simp [hn])]
    simpa using hst
  · have hlt : b < w.heap.size := (Array.getElem?_eq_some_iff.1 hb).1
    refine ⟨⟨c, e, hb, ?_, setRow_heap w b c _ e _ hb⟩, fun k hk => ?_, ?_, rfl, rfl, rfl⟩
    · simp; omega
    · simp only [World.setRow, Array.getElem?_modify]
      rw [if_neg (by omega)]
    · simp [World.setRow]
end
end Go.Ml
end
section
set_option linter.unusedSimpArgs false
namespace Go.Ml
theorem splice_length {row cs : List V} {off : Nat} (h : off + cs.length ≤ row.length) : (splice row off cs).length = row.length := by
  simp [splice]; omega
theorem splice_append_left {a b cs : List V} {off : Nat} (h : off + cs.length ≤ a.length) : splice (a ++ b) off cs = splice a off cs ++ b := by
  unfold splice
  rw [List.take_append_of_le_length (by omega), List.drop_append_of_le_length (by omega)]
  simp
theorem splice_append_right {a b cs : List V} {off : Nat} : splice (a ++ b) (a.length + off) cs = a ++ splice b off cs := by
  unfold splice
  rw [List.take_append, List.take_of_length_le (by omega), List.drop_append, List.drop_eq_nil_of_le (by omega)]
  simp [Nat.add_assoc]
theorem flatten_splice [Base] {sz : Nat} : ∀ {rows : List (List V)}, (∀ r ∈ rows, r.length = sz) → ∀ {r : Nat} {row cs : List V} {off : Nat}, rows[r]? = some row → off + cs.length ≤ row.length →
    (rows.set r (splice row off cs)).flatten = splice rows.flatten (r * sz + off) cs
  | [], _, r, row, cs, off, h, _ => by simp at h
  | a :: rows, hr, 0, row, cs, off, h, hf => by
    simp at h; subst h
    simp only [List.set_cons_zero, List.flatten_cons, Nat.zero_mul, Nat.zero_add]
    rw [splice_append_left hf]
  | a :: rows, hr, r + 1, row, cs, off, h, hf => by
    have ha : a.length = sz := hr a (by simp)
    simp only [List.set_cons_succ, List.flatten_cons]
    rw [flatten_splice (fun r hr' => hr r (by simp [hr'])) (by simpa using h) hf]
    rw [show (r + 1) * sz + off = a.length + (r * sz + off) by rw [ha, Nat.succ_mul]; omega, splice_append_right]
theorem splice_all {row cs : List V} (h : cs.length = row.length) : splice row 0 cs = cs := by
  simp [splice, h]
theorem set_len {rows : List (List V)} {sz i : Nat} {x : List V} (hr : ∀ r ∈ rows, r.length = sz) (hx : x.length = sz) : ∀ r ∈ rows.set i x, r.length = sz := by
  intro r h
  rcases List.mem_or_eq_of_mem_set h with h | rfl
  · exact hr r h
  · exact hx
theorem flat_len {sz : Nat} : ∀ {l : List (List V)}, (∀ r ∈ l, r.length = sz) → l.flatten.length = l.length * sz
  | [], _ => by simp
  | a :: l, h => by
    have ih := flat_len (l := l) (fun r hr => h r (List.mem_cons_of_mem _ hr))
    simp only [List.flatten_cons, List.length_append, List.length_cons, h a (by simp), ih, Nat.succ_mul]
    omega
section
variable {P : Program} {w : World} {D : DM} {M : Nat → Prop} {σ : Store}
theorem fillRows_rd [Base] {X : Nat → Prop} {env : Nat → V} {a : Act} (he : ∀ t, rd w D X (env t) (a.tmps.getD t undef)) {sz : Nat} :
    ∀ (parts : List (Nat × Operand)) {ps : List (Nat × Src)} {rows rows' : List (List V)} {cells : Array Value}, trRows parts = some ps → fillRows env sz rows ps = some rows' →
      (∀ r ∈ rows, r.length = sz) → rdL w D X rows.flatten cells.toList →
      ∃ cells', Instr.fill (fun i => some (i * sz, sz)) cells (parts.map fun p => (p.1, a.eval p.2)) = some cells' ∧ rdL w D X rows'.flatten cells'.toList ∧ (∀ r ∈ rows', r.length = sz) ∧ rows'.length = rows.length
  | [], ps, rows, rows', cells, h, hf, hl, hr => by
    simp [trRows] at h; subst h
    simp [fillRows] at hf; subst hf
    exact ⟨cells, rfl, hr, hl, rfl⟩
  | (i, x) :: rest, ps, rows, rows', cells, h, hf, hl, hr => by
    simp only [trRows] at h
    cases h2 : trS x with
    | none => simp [h2] at h
    | some s =>
      cases h3 : trRows rest with
      | none => simp [h2, h3] at h
      | some r =>
        simp only [h2, h3, Option.some.injEq] at h
        subst h
        simp only [fillRows] at hf
        cases h5 : (s.ev env).cells? with
        | none => simp [h5] at hf
        | some cs =>
          simp only [h5] at hf
          split at hf
          · rename_i hc
            obtain ⟨k1, k2, k3⟩ := rd_cells h5 (rd_src he h2)
            have hlen := rdL_length _ _ hr
            have hrow : rows[i]? = some rows[i] := by simp [hc.2]
            have hrl : rows[i].length = sz := hl _ (by simp)
            have hfit : i * sz + sz ≤ cells.size := by
              rw [flat_len hl] at hlen
              have : (i + 1) * sz ≤ rows.length * sz := Nat.mul_le_mul_right _ hc.2
              rw [Nat.succ_mul] at this
              simp at hlen; omega
            obtain ⟨cells1, e1, e2⟩ := fill_step (place := fun i => some (i * sz, sz)) (cells := cells) (v := a.eval x) (rest := rest.map fun p => (p.1, a.eval p.2)) (i := i) rfl (by omega) hfit
            have hset : (rows.set i cs).flatten = splice rows.flatten (i * sz) cs := by
              have := flatten_splice hl (cs := cs) (off := 0) hrow (by omega)
              rwa [splice_all (by omega), Nat.add_zero] at this
            have hr1 : rdL w D X (rows.set i cs).flatten cells1.toList := by
              rw [hset, e2]; exact rdL_splice hr k1 _
            obtain ⟨cells', e3, e4, e5, e6⟩ := fillRows_rd he rest h3 hf (set_len hl hc.1) hr1
            exact ⟨cells', by simp only [List.map_cons]; rw [e1]; exact e3, e4, e5, by simpa using e6⟩
          · cases hf
theorem trElem_spec {t e : TypeId} {sz by_ : Nat} (h : trElem P t = some (e, sz, by_)) : ∃ i, P.underlying t = some (.slice e) ∧ P.info? e = some i ∧ i.size = sz ∧ i.bytes = by_ ∧ 0 < sz ∧ by_ ≤ 2 ^ 20 := by
  unfold trElem at h
  split at h
  · rename_i e' hu
    cases hi : P.info? e' with
    | none => simp [hi] at h
    | some i =>
      simp only [hi] at h
      split at h
      · simp only [Option.some.injEq, Prod.mk.injEq] at h
        obtain ⟨rfl, rfl, rfl⟩ := h
        rename_i hc
        exact ⟨i, hu, hi, rfl, rfl, hc.1, hc.2⟩
      · cases h
  · cases h
theorem rd_zeros {X : Nat → Prop} {z : List V} {zs : Array Value} (h : rdL w D X z zs.toList) (h0 : 0 < zs.size) : ∀ (n : Nat),
    rdL w D X (List.replicate n z).flatten (((Array.range (n * zs.size)).map (zs[· % zs.size]!)).toList)
  | 0 => by simp [rdL]
  | n + 1 => by
    have ih := rd_zeros h h0 n
    rw [List.replicate_succ', List.flatten_append]
    have : ((Array.range ((n + 1) * zs.size)).map (zs[· % zs.size]!)).toList = ((Array.range (n * zs.size)).map (zs[· % zs.size]!)).toList ++ zs.toList := by
      rw [Nat.succ_mul]
      simp only [Array.toList_map, Array.toList_range, List.range_add, List.map_append, List.map_map]
      congr 1
      apply List.ext_getElem?
      intro i
      by_cases hi : i < zs.size
      · simp [hi, Nat.mod_eq_of_lt hi]
      · simp [hi]
    rw [this]
    exact rdL_append _ _ _ _ ih (by simpa using h)
theorem run_buildSlice [Base] {t e : TypeId} {sz by_ ln : Nat} {z : List V} {parts : Array (Nat × Value)} (ht : trElem P t = some (e, sz, by_)) (hz : trZ P e = some z) (hlim : ln * sz ≤ 2 ^ 24)
    {cells : Array Value} (hf : ∀ zs : Array Value, (∃ i v, P.info? e = some i ∧ i.zero = some v ∧ zs = v.cells) → Instr.fill (fun i => some (i * sz, sz)) ((Array.range (ln * sz)).map (zs[· % zs.size]!)) parts.toList = some cells) :
    (Instr.buildSlice t ln parts).run P w = .ok (.slice (some ⟨w.heap.size, 0, none⟩) ln ln) (w.alloc (.cells cells e)) := by
  obtain ⟨i, hu, hi, h1, h2, h3, h4⟩ := trElem_spec ht
  obtain ⟨i', v, k1, k2, k3, k4, _, _⟩ := trZ_spec (w := w) (D := DM.none) (X := fun _ => True) hz
  rw [hi] at k1; cases k1
  have hff := hf v.cells ⟨i, v, hi, k2, rfl⟩
  unfold Instr.buildSlice
  simp only [Sem.run_bind, run_underlying hu, Result.andThen_ok, run_sizeOf' hi, h1, Sem.run_ite]
  rw [if_neg (by omega)]
  by_cases h0 : ln * sz = 0
  · have : ln = 0 := by rcases Nat.mul_eq_zero.1 h0 with h | h; exact h; omega
    subst this
    have hr0 : ∀ (f : Nat → Value), (Array.range (0 * sz)).map f = #[] := fun f => by apply Array.ext'; simp
    rw [hr0] at hff
    simp only [Nat.zero_mul, if_true, Sem.run_pure, Result.andThen_ok]
    have hr1 : ∀ (f : Nat → Value), (Array.range 0).map f = #[] := fun f => by apply Array.ext'; simp
    simp only [hr1, hff]
    simp [newRow]
  · simp only [Sem.run_pure, Result.andThen_ok, if_neg h0, Sem.run_bind, run_zeroValue' hi k2, hff]
    simp [newRow]
end
end Go.Ml
end
section
set_option linter.unusedSimpArgs false
namespace Go.Ml
section
variable {P : Program} {w : World} {D : DM} {M : Nat → Prop} {σ : Store}
theorem wrap_in {n : Int} (h : 0 ≤ n) (h' : n < 2 ^ 63) : IntKind.i64.wrap n = n := by
  have e1 : IntKind.i64.bits = 64 := rfl
  have e2 : IntKind.i64.signed = true := rfl
  simp only [IntKind.wrap, e1, e2, Bool.true_and]
  rw [Int.emod_eq_of_lt h (by omega)]
  simp
  omega
theorem run_make [Base] {t e : TypeId} {sz by_ : Nat} {z : List V} (ht : trElem P t = some (e, sz, by_)) (hz : trZ P e = some z) {n : Int} (h0 : 0 ≤ n) (h1 : n ≤ 2 ^ 47) (h2 : n * by_ ≤ 2 ^ 47) :
    ∃ cs, (Instr.makeSlice t (.int .i64 n) (.int .i64 n)).run P w = .ok (.slice (some ⟨w.heap.size, 0, none⟩) n.toNat n.toNat) (w.alloc (.cells cs e)) ∧
      rdL w D (XS M D) (List.replicate n.toNat z).flatten cs.toList ∧ cs.size = n.toNat * sz := by
  obtain ⟨i, hu, hi, e1, e2, h3, h4⟩ := trElem_spec ht
  obtain ⟨i', v, k1, k2, k3, k4, k5, k6⟩ := trZ_spec (w := w) (D := D) (X := XS M D) hz
  rw [hi] at k1; cases k1
  refine ⟨(Array.range (n.toNat * sz)).map (v.cells[· % v.cells.size]!), ?_, ?_, by simp⟩
  · have hw : IntKind.i64.wrap n = n := wrap_in h0 (by omega)
    have hb : (by_ : Int) * n ≤ 2 ^ 47 := by rw [Int.mul_comm]; exact h2
    unfold Instr.makeSlice
    simp only [Sem.run_bind, run_underlying hu, Result.andThen_ok, asInt, asIntOf, Sem.run_pure, run_typeInfo w hi, e2, hw, Sem.run_ite, run_askRoom, run_sizeOf' hi, e1]
    have c1 : (decide (n < 0) || decide ((by_ : Int) * n > 2 ^ 48)) = false := by simp; omega
    have c2 : (decide (n < 0)) = false := by simp; omega
    simp only [c1, c2, gt_iff_lt, Int.lt_irrefl, decide_false, Bool.or_false, Bool.false_or, Bool.false_eq_true, if_false, or_false, false_or]
    by_cases hn : n.toNat * sz = 0
    · have : n.toNat = 0 := by rcases Nat.mul_eq_zero.1 hn with h | h; exact h; omega
      have hn0 : n = 0 := by omega
      subst hn0
      have hr1 : ∀ (f : Nat → Value), (Array.range 0).map f = #[] := fun f => by apply Array.ext'; simp
      simp [newRow, hr1]
    · have hlt : ¬ n < 0 := by omega
      simp only [hn, hlt, if_false, Sem.run_bind, run_zeroValue' hi k2, Result.andThen_ok, Sem.run_pure]
      simp [newRow]
      intro hbig; exfalso; omega
  · have := rd_zeros k5 (by omega) n.toNat
    simpa only [k3, e1] using this
theorem run_bounds [Base] {lo hi : Option V} {vlo vhi : Option Value} {n l h cap : Nat} {isS : Bool} {X : Nat → Prop} (hn : n ≤ cap)
    (hh : (match hi with | some x => asBound n x | none => some n) = some h) (hl : (match lo with | some x => asBound h x | none => some 0) = some l)
    (r1 : (lo = none ∧ vlo = none) ∨ ∃ x v, lo = some x ∧ vlo = some v ∧ rd w D X x v) (r2 : (hi = none ∧ vhi = none) ∨ ∃ x v, hi = some x ∧ vhi = some v ∧ rd w D X x v) :
    (Instr.sliceBounds isS n cap vlo vhi none).run P w = .ok (l, h, cap) w ∧ l ≤ h ∧ h ≤ n := by
  rcases r2 with ⟨rfl, rfl⟩ | ⟨x, v, rfl, rfl, hr⟩
  · simp only [Option.some.injEq] at hh; subst hh
    rcases r1 with ⟨rfl, rfl⟩ | ⟨x', v', rfl, rfl, hr'⟩
    · simp only [Option.some.injEq] at hl; subst hl
      exact ⟨by simp [Instr.sliceBounds], Nat.zero_le _, Nat.le_refl _⟩
    · have k := run_sliceBound (P := P) (code := .sliceB) hl hr' n (Nat.le_refl _)
      exact ⟨by simp [Instr.sliceBounds, k.1], k.2, Nat.le_refl _⟩
  · have j := run_sliceBound (P := P) (code := if isS then BoundsCode.sliceAcap else .sliceAlen) hh hr cap hn
    rcases r1 with ⟨rfl, rfl⟩ | ⟨x', v', rfl, rfl, hr'⟩
    · simp only [Option.some.injEq] at hl; subst hl
      exact ⟨by simp [Instr.sliceBounds, j.1], Nat.zero_le _, j.2⟩
    · have k := run_sliceBound (P := P) (code := .sliceB) hl hr' h (Nat.le_refl _)
      exact ⟨by simp [Instr.sliceBounds, j.1, k.1], k.2, j.2⟩
theorem run_slice_str {t : TypeId} (hu : P.underlying t = some .string) {s : List UInt8} {vlo vhi : Option Value} {l h : Nat}
    (hb : (Instr.sliceBounds false s.length s.length vlo vhi none).run P w = .ok (l, h, s.length) w) :
    (Instr.sliceAt t (.string ⟨s.toArray⟩) vlo vhi none).run P w = .ok (.string ⟨((s.take h).drop l).toArray⟩) w := by
  have hs : (⟨s.toArray⟩ : ByteArray).size = s.length := by simp [ByteArray.size]
  have e : (⟨s.toArray⟩ : ByteArray).extract l h = ⟨((s.take h).drop l).toArray⟩ := by
    rw [Lib.extract_eq]
    congr 2
    simp [List.drop_take]
  simp only [Instr.sliceAt, Sem.run_bind, run_underlying hu, Result.andThen_ok, Instr.slice, Option.isSome_none, Bool.false_eq_true, if_false, Sem.run_pure, hs, hb, e]
theorem run_slice_sl [Base] {t el : TypeId} {i : TypeInfo} (hu : P.underlying t = some (.slice el)) (hi : P.info? el = some i) {a : Option Addr} {n cap : Nat} {vlo vhi : Option Value} {l h : Nat}
    (hb : (Instr.sliceBounds true n cap vlo vhi none).run P w = .ok (l, h, cap) w) :
    (Instr.sliceAt t (.slice a n cap) vlo vhi none).run P w = .ok (.slice (if cap = l then a else a.map (·.add (l * i.size))) (h - l) (cap - l)) w := by
  simp only [Instr.sliceAt, Sem.run_bind, run_underlying hu, Result.andThen_ok, Instr.slice, hb, run_sizeOf' hi, Sem.run_pure]
end
end Go.Ml
end
section
set_option linter.unusedSimpArgs false
namespace Go.Ml
section
variable {P : Program} {w : World} {D : DM} {M : Nat → Prop} {σ : Store}
theorem SRel.mov [Base] {w' : World} (h : SRel w D M σ) {o id : Nat} {d : Desc} (hD : D o = .live d) (hid : id < σ.length ∧ D id = .unborn) {c' : Array Value} (p : Set1 w w' d.blk c') {ob : Obj} {bas : Nat}
    (hsz : 0 < ob.sz) (hr : ∀ r ∈ ob.rows, r.length = ob.sz) (hfit : bas + ob.rows.length * ob.sz ≤ d.cap)
    (hrd : ∀ (i : Nat) (x : V), ob.rows.flatten[i]? = some x → x.leaf = true ∧ ∃ y, c'[bas + i]? = some y ∧ rd w D (XS M D) x y) :
    let D' := (D.put o .dead).put id (.live ⟨d.blk, bas, ob.sz, ob.rows.length, d.cap⟩)
    SRel w' D' M ((σ.set o none).set id (some ob)) ∧ Ext w D (XS M D) w' D' (XS M D') := by
  intro D'
  have hne : o ≠ id := by rintro rfl; rw [hD] at hid; cases hid.2
  have hb : XS M D d.blk := .inr ⟨o, d, hD, rfl⟩
  have hlen : o < σ.length := by
    rcases Nat.lt_or_ge o σ.length with k | k
    · exact k
    · rw [h.far o k] at hD; cases hD
  have D'id : D' id = .live ⟨d.blk, bas, ob.sz, ob.rows.length, d.cap⟩ := by simp [D', DM.put]
  have D'o : D' o = .dead := by simp [D', DM.put, hne]
  have D'q : ∀ q, q ≠ o → q ≠ id → D' q = D q := fun q h1 h2 => by simp [D', DM.put, h1, h2]
  have E : Ext w D (XS M D) w' D' (XS M D') := by
    refine ⟨by rw [p.size]; omega, fun b _ hx => p.old b (fun k => hx (k ▸ hb)), ?_, ?_⟩
    · rintro b hb' (hm | ⟨q, d', hq, rfl⟩)
      · exact .inl hm
      · by_cases h1 : q = id
        · subst h1; rw [D'id] at hq; cases hq; exact hb
        · by_cases h2 : q = o
          · subst h2; rw [D'o] at hq; cases hq
          · rw [D'q q h2 h1] at hq; exact .inr ⟨q, d', hq, rfl⟩
    · intro q
      by_cases h1 : q = id
      · subst h1; rw [hid.2]; trivial
      · by_cases h2 : q = o
        · subst h2; rw [D'o, hD]; exact .inr rfl
        · rw [D'q q h2 h1]; exact DSle.refl _
  have hat : ∀ q, objAt ((σ.set o none).set id (some ob)) q = if id = q then some ob else if o = q then none else objAt σ q := by
    intro q
    rw [objAt_set (by simpa using hid.1), objAt_set hlen]
  obtain ⟨obo, co, eo, g1, g2, g3, g4, g5, g6, g7, g8, g9, g10, g11⟩ := h.live o d hD
  refine ⟨⟨?_, ?_, ?_, ?_, fun b hb => by rw [p.size]; exact h.mlt b hb, h.tab.ext E⟩, E⟩
  · intro q d' hq
    by_cases h1 : q = id
    · subst h1
      rw [D'id] at hq; cases hq
      obtain ⟨c0, e0, k1, k2, k3⟩ := p.heap
      rw [g7] at k1; cases k1
      refine ⟨ob, c', eo, by rw [hat]; simp, rfl, rfl, hsz, g5, by rw [p.size]; exact g6, k3, k2.trans g8, hfit, hr, fun i x hi => ?_⟩
      obtain ⟨hl, y, j1, j2⟩ := hrd i x hi
      exact ⟨hl, y, j1, rd_mono _ _ E j2⟩
    · by_cases h2 : q = o
      · subst h2; rw [D'o] at hq; cases hq
      · rw [D'q q h2 h1] at hq
        obtain ⟨ob', c, e, f1, f2, f3, f4, f5, f6, f7, f8, f9, f10, f11⟩ := h.live q d' hq
        have hbn : d'.blk ≠ d.blk := fun k => h2 (h.inj _ _ _ _ hq hD k)
        refine ⟨ob', c, e, by rw [hat, if_neg (fun k => h1 k.symm), if_neg (fun k => h2 k.symm)]; exact f1, f2, f3, f4, f5, by rw [p.size]; exact f6, by rw [p.old _ hbn]; exact f7, f8, f9, f10, fun i x hi => ?_⟩
        obtain ⟨hl, y, j1, j2⟩ := f11 i x hi
        exact ⟨hl, y, j1, rd_mono _ _ E j2⟩
  · intro q ob' hq
    rw [hat] at hq
    by_cases h1 : q = id
    · subst h1; exact ⟨_, D'id⟩
    · rw [if_neg (fun k => h1 k.symm)] at hq
      by_cases h2 : q = o
      · subst h2; simp at hq
      · rw [if_neg (fun k => h2 k.symm)] at hq
        rw [D'q q h2 h1]
        exact h.alive q ob' hq
  · intro q q' d1 d2 hq hq' hbb
    have blkOf : ∀ q d1, D' q = .live d1 → (q = id ∧ d1.blk = d.blk) ∨ (q ≠ id ∧ q ≠ o ∧ D q = .live d1) := by
      intro q d1 hq
      by_cases h1 : q = id
      · subst h1; rw [D'id] at hq; cases hq; exact .inl ⟨rfl, rfl⟩
      · by_cases h2 : q = o
        · subst h2; rw [D'o] at hq; cases hq
        · rw [D'q q h2 h1] at hq; exact .inr ⟨h1, h2, hq⟩
    rcases blkOf q d1 hq with ⟨a1, a2⟩ | ⟨a1, a2, a3⟩ <;> rcases blkOf q' d2 hq' with ⟨b1, b2⟩ | ⟨b1, b2, b3⟩
    · rw [a1, b1]
    · exact absurd (h.inj _ _ _ _ b3 hD (by rw [← hbb, a2])) b2
    · exact absurd (h.inj _ _ _ _ a3 hD (by rw [hbb, b2])) a2
    · exact h.inj _ _ _ _ a3 b3 hbb
  · intro q hq
    simp only [List.length_set] at hq
    rw [D'q q (by omega) (by omega)]
    exact h.far q hq
theorem next_le {need cap : Nat} (h : cap < need) : Builtin.nextslicecap need cap ≤ 2 * need + 192 := by
  unfold Builtin.nextslicecap
  have grow : ∀ (r c : Nat), c ≤ need + (need + 768) / 4 → Builtin.growBy need r c ≤ need + (need + 768) / 4 := by
    intro r
    induction r with
    | zero => intro c hc; simpa [Builtin.growBy] using hc
    | succ r ih =>
      intro c hc
      simp only [Builtin.growBy]
      split
      · exact hc
      · exact ih _ (by omega)
  split
  · omega
  · split
    · omega
    · have := grow 4 cap (by omega)
      omega
theorem load_rows [Base] {a : Option Addr} {rows : List (List V)} {sz : Nat} {cap : Nat} {X : Nat → Prop}
    (h : rows = [] ∨ ∃ b off, a = some ⟨b, off, none⟩ ∧ (∀ r ∈ rows, r.length = sz) ∧ ∀ (i : Nat) (y : V), rows.flatten[i]? = some y → y.leaf = true ∧ ∃ c, w.cell? ⟨b, off + i, none⟩ = some c ∧ rd w D X y c) :
    ∃ cs : List Value, (∀ w', (∀ a, w'.cell? a = w.cell? a) → (Builtin.firstCells sz rows.length (.slice a rows.length cap)).run P w' = .ok cs.toArray w') ∧ rdL w D X rows.flatten cs ∧ (rows ≠ [] → cs.length = rows.length * sz) ∧ (rows = [] → cs = []) := by
  rcases h with rfl | ⟨b, off, rfl, hl, hc⟩
  · refine ⟨[], fun w' _ => ?_, by simp [rdL], by simp, by simp⟩
    cases a with
    | none => simp [Builtin.firstCells]
    | some a =>
      have := run_loadCells_list (P := P) w' a [] (by simp)
      simpa [Builtin.firstCells] using this
  · have hex : ∀ i, ∃ c, i < rows.flatten.length → w.cell? ⟨b, off + i, none⟩ = some c ∧ ∀ y, rows.flatten[i]? = some y → rd w D X y c := by
      intro i
      by_cases hi : i < rows.flatten.length
      · obtain ⟨_, c, h1, h2⟩ := hc i rows.flatten[i] (by simp [hi])
        exact ⟨c, fun _ => ⟨h1, fun y hy => by rw [List.getElem?_eq_getElem hi] at hy; cases hy; exact h2⟩⟩
      · exact ⟨undef, fun k => absurd k hi⟩
    obtain ⟨f, hf⟩ := Classical.axiomOfChoice hex
    have hfl := flat_len hl
    refine ⟨(List.range (rows.length * sz)).map f, fun w' hw => ?_, ?_, by simp, fun h => by simp [h]⟩
    · simp only [Builtin.firstCells]
      exact run_loadCells w' _ _ f (fun j hj => by rw [addr_add, hw]; exact (hf j (by omega)).1)
    · have : ∀ (l : List V) (k : Nat), rows.flatten.drop k = l → rdL w D X l ((List.range' k l.length).map f) := by
        intro l
        induction l with
        | nil => intro k _; simp [rdL]
        | cons y l ih =>
          intro k hk
          have hlt : k < rows.flatten.length := by
            rcases Nat.lt_or_ge k rows.flatten.length with h | h
            · exact h
            · rw [List.drop_eq_nil_of_le h] at hk; cases hk
          have hget : rows.flatten[k]? = some y := by
            rw [← List.head?_drop, hk]; rfl
          simp only [List.length_cons, List.range'_succ, List.map_cons, rdL]
          refine ⟨_, _, rfl, (hf k hlt).2 y hget, ih (k + 1) ?_⟩
          rw [← List.tail_drop, hk]; rfl
      have := this rows.flatten 0 (by simp)
      rwa [← List.range_eq_range', hfl] at this
end
end Go.Ml
end
section
set_option linter.unusedSimpArgs false
namespace Go.Ml
section
variable {P : Program} {w : World} {D : DM} {M : Nat → Prop} {σ : Store}
theorem app_start [Base] {t u e e' : TypeId} {i : TypeInfo} (ht : P.underlying t = some (.slice e)) (hi : P.info? e = some i) (hu : P.underlying u = some (.slice e')) {base xa : Option Addr} {sLen sCap n xcap ty : Nat}
    {news : List Value} (hl : (Builtin.firstCells i.size n (.slice xa n xcap)).run P w = .ok news.toArray w)
    (hb : (sLen + n) * i.bytes ≤ 2 ^ 40) (hn : sLen + n ≤ 2 ^ 40) (hby : i.bytes ≤ 2 ^ 20) :
    (Builtin.append_ #[t, u] ty #[.slice base sLen sCap, .slice xa n xcap]).run P w =
      if sLen + n ≤ sCap then
        (match base with
          | some a => (storeCells (a.add (sLen * i.size)) news).run P w
          | none => .ok () w).andThen fun _ w' => .ok (.slice base (sLen + n) sCap) w'
      else ((Builtin.firstCells i.size sLen (.slice base sLen sCap)).run P w.drew).andThen fun old w1 =>
        ((Builtin.firstCells i.size n (.slice xa n xcap)).run P w1).andThen fun new w2 => ((zeroValue e).run P w2).andThen fun z w3 =>
          .ok (.slice (some ⟨w3.heap.size, 0, none⟩) (sLen + n) ((Question.appendCap (sLen + n) sCap e).cut (w.tape w.drawn (.appendCap (sLen + n) sCap e))))
            (w3.alloc (.cells (old ++ new ++ Builtin.zeroCells z.cells ((Question.appendCap (sLen + n) sCap e).cut (w.tape w.drawn (.appendCap (sLen + n) sCap e)) - (sLen + n))) e)) := by
  have hu' : ∀ k, some (TypeDesc.slice e') ≠ some (.int k) := by intro k; simp
  unfold Builtin.append_
  simp only [List.getElem?_toArray, List.getElem?_cons_zero, List.getElem?_cons_succ, Sem.run_bind, run_underlying ht, Result.andThen_ok, run_sizeOf' hi, run_underlying hu, Sem.run_pure,
    Bool.false_eq_true, if_false, Builtin.lenOf, Sem.run_ite, Bool.not_false, if_true, hl, run_typeInfo w hi]
  split
  · cases base with
    | none => simp
    | some a => simp
  · rename_i hgt
    have h1 : ¬ (((sLen + n : Nat) : Int) > IntKind.i64.max ∧ (False ∨ i.bytes = 0)) := by
      have : IntKind.i64.max = 9223372036854775807 := by decide
      rw [this]; omega
    have h2 : ¬ (Builtin.nextslicecap (sLen + n) sCap * i.bytes > 2 ^ 48) := by
      have h3 := next_le (need := sLen + n) (cap := sCap) (by omega)
      have h4 : Builtin.nextslicecap (sLen + n) sCap * i.bytes ≤ (2 * (sLen + n) + 192) * i.bytes := Nat.mul_le_mul_right _ h3
      have h5 : (2 * (sLen + n) + 192) * i.bytes = 2 * ((sLen + n) * i.bytes) + 192 * i.bytes := by rw [Nat.add_mul, Nat.mul_assoc]
      omega
    rw [if_neg h1, if_neg h2]
    simp only [run_choose, Question.forced, Bool.false_eq_true, if_false, Result.andThen_ok, run_askRoom, Sem.run_bind, newRow, World.drew_eq, run_typeInfo _ hi]
    cases (Builtin.firstCells i.size sLen (.slice base sLen sCap)).run P w.drew with
    | halt h w1 => rfl
    | ok old w1 =>
      simp only [Result.andThen_ok]
      cases (Builtin.firstCells i.size n (.slice xa n xcap)).run P w1 with
      | halt h w2 => rfl
      | ok new w2 =>
        simp only [Result.andThen_ok]
        cases (zeroValue e).run P w2 with
        | halt h w3 => rfl
        | ok z w3 =>
          simp only [Result.andThen_ok, Sem.run_map, run_newObj, Sem.run_bind, Sem.run_pure, World.alloc_eq]
theorem app_room [Base] {t u e e' : TypeId} {i : TypeInfo} (ht : P.underlying t = some (.slice e)) (hi : P.info? e = some i) (hu : P.underlying u = some (.slice e')) {base xa : Option Addr} {sLen sCap n xcap ty : Nat}
    {news : List Value} (hl : (Builtin.firstCells i.size n (.slice xa n xcap)).run P w = .ok news.toArray w) (hle : sLen + n ≤ sCap) :
    (Builtin.append_ #[t, u] ty #[.slice base sLen sCap, .slice xa n xcap]).run P w =
        (match base with
          | some a => (storeCells (a.add (sLen * i.size)) news).run P w
          | none => .ok () w).andThen fun _ w' => .ok (.slice base (sLen + n) sCap) w' := by
  unfold Builtin.append_
  simp only [List.getElem?_toArray, List.getElem?_cons_zero, List.getElem?_cons_succ, Sem.run_bind, run_underlying ht, Result.andThen_ok, run_sizeOf' hi, run_underlying hu, Sem.run_pure,
    Bool.false_eq_true, if_false, Builtin.lenOf, Sem.run_ite, Bool.not_false, if_true, hl, if_pos hle]
  cases base with
  | none => simp
  | some a => simp
end
end Go.Ml
end
section
set_option linter.unusedSimpArgs false
namespace Go.Ml
section
variable {P : Program} {w : World} {D : DM} {M : Nat → Prop} {σ : Store}
theorem push_drew {w : World} {cs : Array Value} {e : TypeId} : Push w (w.drew.alloc (.cells cs e)) cs := ⟨⟨e, rfl⟩, rfl, rfl, rfl⟩
theorem cap_ge (need sCap : Nat) (e : TypeId) (t : Nat) : need ≤ (Question.appendCap need sCap e).cut t := by simp [Question.cut]
theorem zeroCells_size (z : Array Value) (n : Nat) : (Builtin.zeroCells z n).size = n * z.size := by simp [Builtin.zeroCells]
theorem app_new [Base] (hS : SRel w D M σ) {id : Nat} (hid : id < σ.length ∧ D id = .unborn) {sz : Nat} {old new : List (List V)} {co cn : List Value} (hsz : 0 < sz) (ho : rdL w D (XS M D) old.flatten co) (hn : rdL w D (XS M D) new.flatten cn)
    (hlo : ∀ r ∈ old, r.length = sz) (hln : ∀ r ∈ new, r.length = sz) (lf : ∀ x ∈ (old ++ new).flatten, x.leaf = true) {z : Array Value} (hz : z.size = sz) {cap : Nat} (hcap : old.length + new.length ≤ cap) {e : TypeId} :
    Done w D M id (σ.set id (some ⟨sz, old ++ new⟩)) (.msl id 0 (old.length + new.length)) (.slice (some ⟨w.heap.size, 0, none⟩) (old.length + new.length) cap)
      (w.drew.alloc (.cells (co.toArray ++ cn.toArray ++ Builtin.zeroCells z (cap - (old.length + new.length))) e)) := by
  have h1 := rdL_length _ _ ho
  have h2 := rdL_length _ _ hn
  rw [flat_len hlo] at h1
  rw [flat_len hln] at h2
  have := done_newS hS hid (push_drew (w := w) (cs := co.toArray ++ cn.toArray ++ Builtin.zeroCells z (cap - (old.length + new.length))) (e := e)) (sz := sz) (rows := old ++ new) (cap := cap) hsz
    (by intro r hr; rcases List.mem_append.1 hr with h | h; exact hlo r h; exact hln r h) (by simpa using hcap)
    (by
      simp only [Array.size_append, List.size_toArray, zeroCells_size, hz, ← h1, ← h2]
      have e1 : cap * sz = (old.length + new.length) * sz + (cap - (old.length + new.length)) * sz := by rw [← Nat.add_mul]; congr 1; omega
      rw [e1, Nat.add_mul]; omega)
    (fun i x hi => by
      refine ⟨lf x (List.mem_of_getElem? hi), ?_⟩
      rw [List.flatten_append] at hi
      obtain ⟨y, k1, k2⟩ := rdL_get _ _ (rdL_append _ _ _ _ ho hn) i x hi
      refine ⟨y, ?_, k2⟩
      have : i < (co ++ cn).length := (List.getElem?_eq_some_iff.1 k1).1
      rw [Array.getElem?_append_left (by simpa using this)]
      simpa using k1)
  simpa using this
theorem app_ok [Base] (hS : SRel w D M σ) {id : Nat} (hid : id < σ.length ∧ D id = .unborn) {t u e e' : TypeId} {sz by_ ty : Nat} (ht : trElem P t = some (e, sz, by_)) (hz : (trZ P e).isSome = true) (hu : P.underlying u = some (.slice e'))
    {x y : V} {vx vy : Value} (hx : rd w D (XS M D) x vx) (hy : rd w D (XS M D) y vy) {env : Nat → V} {sx sy : Src} (ex : sx.ev env = x) (ey : sy.ev env = y) {ef : Eff}
    (hef : (I.app sz by_ sx sy).eff env σ = some ef) :
    ∃ v w', (Builtin.append_ #[t, u] ty #[vx, vy]).run P w = .ok v w' ∧ Done w D M id (ef.store σ id) (ef.dv id) v w' := by
  obtain ⟨i, hut, hi, rfl, rfl, hsz, hby⟩ := trElem_spec ht
  obtain ⟨z, hz⟩ := Option.isSome_iff_exists.1 hz
  obtain ⟨i', zv, z1, z2, z3, z4, z5, z6⟩ := trZ_spec (w := w) (D := D) (X := XS M D) hz
  rw [hi] at z1; cases z1
  simp only [I.eff, ex, ey] at hef
  cases hrx : rowsOf σ x with
  | none => simp [hrx] at hef
  | some px =>
    obtain ⟨szx, old⟩ := px
    cases hry : rowsOf σ y with
    | none => simp [hrx, hry] at hef
    | some py =>
      obtain ⟨sz', new⟩ := py
      simp only [hrx, hry] at hef
      obtain ⟨ax, cx, rfl, hlex, hrdx⟩ := rowsOf_rd hS hrx hx
      obtain ⟨ay, cy, rfl, hley, hrdy⟩ := rowsOf_rd hS hry hy
      obtain ⟨cn, ln1, ln2, ln3, ln4⟩ := load_rows (P := P) (sz := sz') (cap := cy) hrdy
      have zrun : ∀ w', (zeroValue e).run P w' = .ok zv w' := fun w' => run_zeroValue' hi z2 w'
      by_cases hnew : new = []
      · -- nothing to append
        subst hnew
        simp only [if_true, Option.some.injEq] at hef
        subst hef
        have hn0 := ln4 rfl
        subst hn0
        have hl0 : (Builtin.firstCells i.size 0 (.slice ay 0 cy)).run P w = .ok ([] : List Value).toArray w := by
          cases ay with
          | none => simp [Builtin.firstCells]
          | some a =>
            have := run_loadCells_list (P := P) w a [] (by simp)
            simpa [Builtin.firstCells] using this
        have := app_room (w := w) (ty := ty) (base := ax) (sLen := old.length) (sCap := cx) hut hi hu hl0 hlex
        refine ⟨_, w, ?_, done_val hS hx⟩
        simp only [List.length_nil] at *
        rw [this]
        cases ax with
        | none => rfl
        | some a => simp [storeCells]
      · simp only [hnew, if_false] at hef
        split at hef
        · rename_i hc
          obtain ⟨rfl, hc1, hc2⟩ := hc
          have hnl : ∀ r ∈ new, r.length = i.size := by
            rcases hrdy with h | ⟨_, _, _, h, _⟩
            · exact absurd h hnew
            · exact h
          have hnpos : 0 < new.length := List.length_pos_iff.2 hnew
          have hnleaf : ∀ x ∈ new.flatten, x.leaf = true := by
            intro x hx
            obtain ⟨k, hk⟩ := List.mem_iff_getElem?.1 hx
            rcases hrdy with h | ⟨_, _, _, _, h⟩
            · exact absurd h hnew
            · exact (h k x hk).1
          have holeaf : ∀ x ∈ old.flatten, x.leaf = true := by
            intro x hx
            obtain ⟨k, hk⟩ := List.mem_iff_getElem?.1 hx
            rcases hrdx with h | ⟨_, _, _, _, h⟩
            · rw [h] at hk; simp at hk
            · exact (h k x hk).1
          have hst := app_start (w := w) (ty := ty) (base := ax) (sLen := old.length) (sCap := cx) hut hi hu (ln1 w fun _ => rfl) hc1 hc2 hby
          have hlol : ∀ (sz0 : Nat), rowsOf σ x = some (sz0, old) → (old = [] ∨ sz0 = i.size) → ∃ co : List Value, (∀ w', (∀ a, w'.cell? a = w.cell? a) → (Builtin.firstCells i.size old.length (.slice ax old.length cx)).run P w' = .ok co.toArray w') ∧
              rdL w D (XS M D) old.flatten co ∧ ∀ r ∈ old, r.length = i.size := by
            intro sz0 h0 hsz0
            rw [hrx] at h0
            simp only [Option.some.injEq, Prod.mk.injEq] at h0
            obtain ⟨rfl, _⟩ := h0
            rcases hsz0 with h | rfl
            · obtain ⟨co, l1, l2, _, _⟩ := load_rows (P := P) (sz := i.size) (a := ax) (cap := cx) (X := XS M D) (D := D) (w := w) (rows := old) (.inl h)
              exact ⟨co, l1, l2, by rw [h]; simp⟩
            · obtain ⟨co, l1, l2, _, _⟩ := load_rows (P := P) (cap := cx) hrdx
              refine ⟨co, l1, l2, ?_⟩
              rcases hrdx with h | ⟨_, _, _, h, _⟩
              · rw [h]; simp
              · exact h
          cases x with
          | nils =>
            simp only [rowsOf, Option.some.injEq, Prod.mk.injEq] at hrx
            obtain ⟨rfl, rfl⟩ := hrx
            simp only [Option.some.injEq] at hef; subst hef
            simp only [rd] at hx
            obtain ⟨a0, hx⟩ := hx
            cases hx
            obtain ⟨co, l1, l2, l3⟩ := hlol 0 rfl (.inl rfl)
            rw [hst, if_neg (by simp; omega), l1 w.drew fun _ => rfl]
            simp only [Result.andThen_ok, ln1 w.drew fun _ => rfl, zrun]
            exact ⟨_, _, rfl, by simpa [Eff.store, Eff.dv] using app_new hS hid (old := []) (co := co) (z := zv.cells) hsz l2 ln2 l3 hnl (by simpa using hnleaf) z3 (cap_ge _ _ _ _)⟩
          | msl o s l =>
            simp only [] at hef
            cases hob : objAt σ o with
            | none => simp [hob] at hef
            | some ob =>
              simp only [hob] at hef
              split at hef
              · rename_i hosz
                simp only [Option.some.injEq] at hef; subst hef
                simp only [rowsOf, hob] at hrx
                split at hrx
                · rename_i hsl
                  simp only [Option.some.injEq, Prod.mk.injEq] at hrx
                  obtain ⟨rfl, rfl⟩ := hrx
                  obtain ⟨d, hd⟩ := hS.alive o ob hob
                  obtain ⟨ob', c, e0, g1, g2, g3, g4, g5, g6, g7, g8, g9, g10, g11⟩ := hS.live o d hd
                  rw [hob] at g1; cases g1
                  obtain ⟨co, l1, l2, l3⟩ := hlol ob.sz (by simp [rowsOf, hob, hsl]) (.inr hosz)
                  have hll : ((ob.rows.drop s).take l).length = l := by simp; omega
                  simp only [rd, hd] at hx
                  obtain ⟨hn, a0, cap0, hx, hcap, hwhere⟩ := hx
                  simp only [Value.slice.injEq] at hx
                  obtain ⟨rfl, _, rfl⟩ := hx
                  by_cases hroom : ((ob.rows.drop s).take l).length + new.length ≤ cx
                  · -- in place
                    rcases hwhere with ⟨rfl, hfit⟩ | ⟨rfl, rfl⟩
                    · have hcl := rdL_length _ _ ln2
                      rw [flat_len hnl] at hcl
                      have hdsz : d.sz = i.size := by rw [g2]; exact hosz
                      have hone : ∀ y ∈ cn, y.oneCell' = true := rdL_leaf (List.all_eq_true.2 hnleaf) ln2
                      have hcxsz : (s + cx) * d.sz = s * d.sz + cx * d.sz := Nat.add_mul ..
                      have hneed : (((ob.rows.drop s).take l).length + new.length) * d.sz ≤ cx * d.sz := Nat.mul_le_mul_right _ hroom
                      rw [Nat.add_mul] at hneed
                      have hfit2 : d.bas + s * d.sz + l * i.size + cn.length ≤ c.size := by
                        rw [← hcl, g8, ← hdsz]; rw [hll] at hneed; omega
                      have hsto := run_storeCells_at P d.blk (d.bas + s * d.sz + l * i.size) e0 cn 0 c w g7 (by simpa using hfit2) hone
                      simp only [Nat.add_zero] at hsto
                      have hlt : d.blk < w.heap.size := g6
                      have p1 : Set1 w (w.setRow d.blk (c.toList.take (d.bas + s * d.sz + l * i.size) ++ cn ++ c.toList.drop (d.bas + s * d.sz + l * i.size + cn.length)).toArray) d.blk
                          (c.toList.take (d.bas + s * d.sz + l * i.size) ++ cn ++ c.toList.drop (d.bas + s * d.sz + l * i.size + cn.length)).toArray := by
                        refine ⟨⟨c, e0, g7, ?_, setRow_heap w d.blk c _ e0 _ g7⟩, fun k hk => ?_, ?_, rfl, rfl, rfl⟩
                        · simp; omega
                        · simp only [World.setRow, Array.getElem?_modify]
                          rw [if_neg (by omega)]
                        · simp [World.setRow]
                      have hm := hS.mov hd hid p1 (ob := ⟨i.size, (ob.rows.drop s).take l ++ new⟩) (bas := d.bas + s * d.sz) hsz
                        (by intro r hr; rcases List.mem_append.1 hr with h | h; exact l3 r h; exact hnl r h)
                        (by simp only [List.length_append]; rw [← hdsz, Nat.add_mul]; omega)
                        (fun k x hk => by
                          refine ⟨?_, ?_⟩
                          · have := List.mem_of_getElem? hk
                            rw [List.flatten_append] at this
                            rcases List.mem_append.1 this with h | h
                            · exact holeaf x h
                            · exact hnleaf x h
                          · have hofl := flat_len l3
                            rw [hll] at hofl
                            simp only [List.flatten_append] at hk
                            by_cases hkl : k < l * i.size
                            · rw [List.getElem?_append_left (by omega)] at hk
                              rcases hrdx with h | ⟨b1, off1, hb1, _, h⟩
                              · rw [h] at hk; simp at hk
                              · cases hb1
                                obtain ⟨_, y, h1, h2⟩ := h k x hk
                                refine ⟨y, ?_, h2⟩
                                simp only [World.cell?, g7] at h1
                                simp only [Option.isSome_none, Bool.false_eq_true, if_false] at h1
                                have hlt2 : d.bas + s * d.sz + k < (c.toList.take (d.bas + s * d.sz + l * i.size)).length := by simp; omega
                                rw [List.getElem?_toArray, List.append_assoc, List.getElem?_append_left hlt2, List.getElem?_take_of_lt (by omega)]
                                simpa using h1
                            · rw [List.getElem?_append_right (by omega), hofl] at hk
                              obtain ⟨y, h1, h2⟩ := rdL_get _ _ ln2 _ x hk
                              refine ⟨y, ?_, h2⟩
                              have hlen3 : (c.toList.take (d.bas + s * d.sz + l * i.size)).length = d.bas + s * d.sz + l * i.size := by simp; omega
                              have hlt3 := (List.getElem?_eq_some_iff.1 h1).1
                              rw [List.getElem?_toArray, List.append_assoc, List.getElem?_append_right (by omega), hlen3, List.getElem?_append_left (by omega)]
                              rw [← h1]; congr 1; omega)
                      rw [hst, if_pos hroom]
                      simp only [addr_add, hll, hsto, Result.andThen_ok]
                      refine ⟨_, _, rfl, _, hm.1, hm.2, ⟨by rw [p1.size]; exact Nat.le_refl _, rfl, rfl, rfl, fun b _ hb => p1.old b (fun k => hb (k ▸ ⟨o, d, hd, rfl⟩))⟩, ?_, fun q hq hne => put_unborn q (put_unborn q hq (by rintro rfl; rw [hd] at hq; cases hq)) hne, ?_⟩
                      · intro q d' hq
                        simp only [DM.put] at hq
                        split at hq
                        · cases hq; exact .inl ⟨o, d, hd, rfl⟩
                        · split at hq
                          · cases hq
                          · exact .inl ⟨q, d', hq, rfl⟩
                      · simp only [Eff.dv, rd, DM.put, if_true]
                        rw [hll] at hroom
                        refine ⟨by simp [hll], _, cx, rfl, hroom, .inl ⟨by simp, ?_⟩⟩
                        simp only [Nat.zero_add]; rw [← hdsz]; omega
                    · omega
                  · -- a new block
                    have hlen : o < σ.length := by
                      rcases Nat.lt_or_ge o σ.length with k | k
                      · exact k
                      · rw [hS.far o k] at hd; cases hd
                    have hne : id ≠ o := by rintro rfl; rw [hd] at hid; cases hid.2
                    have hk := hS.kill o hlen (by rw [hd]; simp)
                    have mono : ∀ {l : List V} {vs : List Value}, rdL w D (XS M D) l vs → rdL w (D.put o .dead) (XS M (D.put o .dead)) l vs := fun h => rdL_mono _ _ hk.2 h
                    rw [hst, if_neg hroom, l1 w.drew fun _ => rfl]
                    simp only [Result.andThen_ok, ln1 w.drew fun _ => rfl, zrun]
                    refine ⟨_, _, rfl, ?_⟩
                    obtain ⟨D', q1, q2, q3, q4, q6, q5⟩ := app_new hk.1 (id := id) ⟨by simpa using hid.1, by simp only [DM.put, if_neg hne]; exact hid.2⟩ hsz (mono l2) (mono ln2) l3 hnl
                      (by rw [List.flatten_append]; intro x hx; rcases List.mem_append.1 hx with h | h; exact holeaf x h; exact hnleaf x h) z3
                      (cap_ge (((ob.rows.drop s).take l).length + new.length) cx e (w.tape w.drawn (.appendCap (((ob.rows.drop s).take l).length + new.length) cx e))) (e := e)
                    have own : ∀ b, Own (D.put o .dead) b → Own D b := by
                      rintro b ⟨q, d', hq, rfl⟩
                      simp only [DM.put] at hq
                      split at hq
                      · cases hq
                      · exact ⟨q, d', hq, rfl⟩
                    exact ⟨D', q1, hk.2.trans q2, q3.mono fun b _ h => own b h, fun q d' h => (q4 q d' h).imp (own _) (fun k => k), fun q hq hne' => q6 q (put_unborn q hq (by rintro rfl; rw [hd] at hq; cases hq)) hne', q5⟩
                · cases hrx
              · cases hef
          | _ => cases hef
        · cases hef
end
end Go.Ml
end
section
set_option linter.unusedSimpArgs false
namespace Go.Ml
def Gives (r : Next) (v : Value) : Prop := r = .value v ∨ (r = .skip ∧ v = undef)
section
variable {P : Program} {ν : Nat → Option Nat} {w : World} {D : DM} {M : Nat → Prop} {σ : Store}
def EffOk [Base] (P : Program) (o : Oper) (a : Act) (w : World) (D : DM) (M : Nat → Prop) (σ : Store) (id : Nat) (ef : Eff) : Prop :=
  ∃ r v w', (execOp a.eval o).run P w = .ok r w' ∧ Gives r v ∧ Done w D M id (ef.store σ id) (ef.dv id) v w'
theorem run_part3 {P : Program} {w : World} {t : TypeId} {xs : Array Value} {i : Nat} {v : Value} (ht : P.underlying t = some (.int .i64)) (hx : xs.toList[i]? = some v) : (part t xs i).run P w = .ok v w := by
  have h : xs[i]? = some v := by rw [← hx]; simp
  simp [part, isAgg, run_underlying ht, h]
theorem run_aeq {P : Program} {w : World} {t : TypeId} {ne : Bool} {xs ys : Array Value} {p1 p2 p3 q1 q2 q3 : Int} (hu : agg3 P t = true) (hx : xs.toList = [.int .i64 p1, .int .i64 p2, .int .i64 p3])
    (hy : ys.toList = [.int .i64 q1, .int .i64 q2, .int .i64 q3]) (x y : Operand) :
    (do eqGuard (if ne then .neq else .eql) t x y (.agg xs) (.agg ys); binOp (if ne then .neq else .eql) t (.agg xs) (.agg ys) : Sem Value).run P w = .ok (.bool (if ne then !(p1 == q1 && p2 == q2 && p3 == q3) else p1 == q1 && p2 == q2 && p3 == q3)) w := by
  unfold agg3 at hu
  simp only [Bool.and_eq_true, Bool.not_eq_true'] at hu
  obtain ⟨⟨⟨h1, h2⟩, h3⟩, h4⟩ := hu
  have hs : P.underlying t = some (.struct (P.fieldsOf t)) := by
    unfold Program.fieldsOf
    split at h2 <;> first | (cases h2; done) | skip
    rename_i fs e
    rw [e]
  split at h1 <;> first | (cases h1; done) | skip
  rename_i f g k hf
  simp only [Bool.and_eq_true] at h1
  obtain ⟨⟨a1, a2⟩, a3⟩ := h1
  have fld : ∀ {i : Nat} {f : Field}, fldI P i f = true → f.name ≠ "_" ∧ f.offset = i ∧ P.underlying f.type = some (.int .i64) := by
    intro i f h
    unfold fldI at h
    simp only [Bool.and_eq_true, bne_iff_ne, beq_iff_eq] at h
    obtain ⟨⟨k1, k2⟩, k3⟩ := h
    refine ⟨k1, k2, ?_⟩
    split at k3 <;> first | (cases k3; done) | assumption
  obtain ⟨b1, b2, b3⟩ := fld a1
  obtain ⟨c1, c2, c3⟩ := fld a2
  obtain ⟨d1, d2, d3⟩ := fld a3
  have key : (Op.eqFields 9999 xs ys (P.fieldsOf t).toList).run P w = .ok (p1 == q1 && p2 == q2 && p3 == q3) w := by
    rw [hf]
    simp only [Op.eqFields, if_pos b1, if_pos c1, if_pos d1, b2, c2, d2, Sem.run_bind, run_part3 b3 (show xs.toList[0]? = some (.int .i64 p1) by rw [hx]; rfl), run_part3 b3 (show ys.toList[0]? = some (.int .i64 q1) by rw [hy]; rfl),
      run_part3 c3 (show xs.toList[1]? = some (.int .i64 p2) by rw [hx]; rfl), run_part3 c3 (show ys.toList[1]? = some (.int .i64 q2) by rw [hy]; rfl),
      run_part3 d3 (show xs.toList[2]? = some (.int .i64 p3) by rw [hx]; rfl), run_part3 d3 (show ys.toList[2]? = some (.int .i64 q3) by rw [hy]; rfl), Result.andThen_ok,
      run_equalIn_int w 9998 f.type .i64 .i64 p1 q1 b3, run_equalIn_int w 9998 g.type .i64 .i64 p2 q2 c3, run_equalIn_int w 9998 k.type .i64 .i64 p3 q3 d3, Sem.run_ite, Sem.run_pure]
    cases p1 == q1 <;> cases p2 == q2 <;> cases p3 == q3 <;> rfl
  cases ne
  · simp only [Bool.false_eq_true, if_false, Sem.run_bind, run_eqGuard_agg w .eql t x y xs ys h3, Result.andThen_ok, run_eql_struct, run_equalIn_agg w 9999 t xs ys hs h4, key]
  · simp only [if_true, Sem.run_bind, run_eqGuard_agg w .neq t x y xs ys h3, Result.andThen_ok, run_neq_struct, run_equalIn_agg w 9999 t xs ys hs h4, key]
theorem effOk_val [Base] {o : Oper} {a : Act} {id : Nat} {x : V} {v : Value} {s : Sem Value} (hS : SRel w D M σ) (he : execOp a.eval o = (do pure (.value (← s)))) (hrun : s.run P w = .ok v w)
    (h : rd w D (XS M D) x v) : EffOk P o a w D M σ id (.val x) :=
  ⟨.value v, v, w, by rw [he]; simp [hrun], .inl rfl, done_val hS h⟩
theorem effOk_of [Base] {o : Oper} {a : Act} {id : Nat} {ef : Eff} {v : Value} {w' : World} {s : Sem Value} (he : execOp a.eval o = (do pure (.value (← s)))) (hrun : s.run P w = .ok v w')
    (h : Done w D M id (ef.store σ id) (ef.dv id) v w') : EffOk P o a w D M σ id ef :=
  ⟨.value v, v, w', by rw [he]; simp [hrun], .inl rfl, h⟩
variable {env : Nat → V} {a : Act}
theorem fillRows_leaf {sz : Nat} : ∀ (ps : List (Nat × Src)) {rows rows' : List (List V)}, fillRows env sz rows ps = some rows' → (∀ r ∈ rows, ∀ x ∈ r, x.leaf = true) → ∀ x ∈ rows'.flatten, x.leaf = true
  | [], rows, rows', h, hl => by
    simp only [fillRows, Option.some.injEq] at h; subst h
    intro x hx
    obtain ⟨r, hr, hx⟩ := List.mem_flatten.1 hx
    exact hl r hr x hx
  | (i, s) :: ps, rows, rows', h, hl => by
    simp only [fillRows] at h
    split at h <;> first | (cases h; done) | skip
    rename_i cs hcs
    split at h <;> first | (cases h; done) | skip
    refine fillRows_leaf ps h ?_
    intro r hr
    rcases List.mem_or_eq_of_mem_set hr with h | rfl
    · exact hl r h
    · exact fun x hx => List.all_eq_true.1 (leaf_cells hcs) x hx
theorem bytesOf_spec : ∀ {rows : List (List V)} {bs : List UInt8}, bytesOf rows = some bs → ∃ ns : List Int, rows = ns.map (fun n => [V.int .u8 n]) ∧ bs = ns.map (fun n => UInt8.ofNat n.toNat) ∧ ∀ n ∈ ns, 0 ≤ n ∧ n < 256
  | [], bs, h => by simp only [bytesOf, Option.some.injEq] at h; subst h; exact ⟨[], rfl, rfl, by simp⟩
  | r :: rows, bs, h => by
    unfold bytesOf at h
    split at h <;> first | (cases h; done) | skip
    · rename_i e; cases e
    · rename_i n rest e
      cases e
      split at h <;> first | (cases h; done) | skip
      rename_i hn
      simp only [Option.map_eq_some_iff] at h
      obtain ⟨bs', h1, rfl⟩ := h
      obtain ⟨ns, e1, e2, e3⟩ := bytesOf_spec h1
      exact ⟨n :: ns, by simp [e1], by simp [e2], by intro m hm; rcases List.mem_cons.1 hm with rfl | hm; exact hn; exact e3 m hm⟩
theorem asIdx_spec {n k : Nat} {x : V} {v : Value} {X : Nat → Prop} (h : asIdx n x = some k) (hr : rd w D X x v) : ∃ kd i, v = .int kd i ∧ 0 ≤ i ∧ i < n ∧ i.toNat = k ∧ k < n := by
  unfold asIdx at h
  split at h <;> first | (cases h; done) | skip
  simp only [rd] at hr
  split at h
  · rename_i hc
    simp only [Option.some.injEq] at h
    exact ⟨_, _, hr, hc.1, hc.2, h, by omega⟩
  · cases h
theorem eff_ok [Base] (o : Oper) {i : I} {ef : Eff} {id : Nat} (htr : trI P ν o = some i) (hef : i.eff env σ = some ef) (hS : SRel w D M σ) (he : ∀ t, rd w D (XS M D) (env t) (a.tmps.getD t undef))
    (hid : i.makes = true → id < σ.length ∧ D id = .unborn) : EffOk P o a w D M σ id ef := by
  obtain ⟨dst, op, type, pos, after, guard⟩ := o
  cases op with
  | move x =>
    simp only [trI, Option.map_eq_some_iff] at htr
    obtain ⟨s, h1, rfl⟩ := htr
    simp only [I.eff, Option.some.injEq] at hef; subst hef
    exact ⟨_, _, w, rfl, .inl rfl, done_val hS (rd_src he h1)⟩
  | assign x =>
    simp only [trI, Option.map_eq_some_iff] at htr
    obtain ⟨s, h1, rfl⟩ := htr
    simp only [I.eff, Option.some.injEq] at hef; subst hef
    exact ⟨_, _, w, rfl, .inl rfl, done_val hS (rd_src he h1)⟩
  | pick c x y =>
    simp only [trI] at htr
    cases h1 : trS c with
    | none => simp [h1] at htr
    | some sc =>
      cases h2 : trS x with
      | none => simp [h1, h2] at htr
      | some sx =>
        cases h3 : trS y with
        | none => simp [h1, h2, h3] at htr
        | some sy =>
          simp only [h1, h2, h3, Option.some.injEq] at htr; subst htr
          simp only [I.eff] at hef
          have hc := rd_src he h1
          split at hef
          · rename_i t ht
            simp only [Option.some.injEq] at hef; subst hef
            rw [ht] at hc
            simp only [rd] at hc
            refine ⟨.value (if t then a.eval x else a.eval y), _, w, ?_, .inl rfl, done_val hS ?_⟩
            · simp only [execOp, hc, asBool, Sem.run_bind, Sem.run_pure, Result.andThen_ok]
            · cases t
              · exact rd_src he h3
              · exact rd_src he h2
          · cases hef
  | alloc t =>
    simp only [trI, Option.map_eq_some_iff] at htr
    obtain ⟨z, h1, rfl⟩ := htr
    simp only [I.eff, Option.some.injEq] at hef; subst hef
    obtain ⟨i, v, z1, z2, z3, z4, z5, z6, z7⟩ := trZ_spec (w := w) (D := D) (X := XS M D) h1
    refine effOk_of rfl (run_alloc z1 z2) ?_
    exact done_newP hS (hid rfl) (push_alloc _ _ _) (by omega) z7 z5
  | box t x =>
    simp only [trI, Option.map_eq_some_iff] at htr
    obtain ⟨s, h1, rfl⟩ := htr
    simp only [I.eff] at hef
    split at hef
    · rename_i c cs hcs
      simp only [Option.some.injEq] at hef; subst hef
      obtain ⟨k1, k2, k3⟩ := rd_cells hcs (rd_src he h1)
      refine effOk_of rfl run_box ?_
      exact done_newP hS (hid rfl) (push_alloc _ _ _) (by simp) (leaf_cells hcs) k1
    · cases hef
  | build t parts =>
    simp only [trI] at htr
    split at htr <;> first | (cases htr; done) | skip
    rename_i fs z hu hz
    split at htr <;> first | (cases htr; done) | skip
    rename_i hall
    simp only [Option.map_eq_some_iff] at htr
    obtain ⟨ps, h1, rfl⟩ := htr
    simp only [I.eff] at hef
    split at hef <;> first | (cases hef; done) | skip
    rename_i cs hcs
    simp only [Option.some.injEq] at hef; subst hef
    obtain ⟨i, v, z1, z2, z3, z4, z5, z6, z7⟩ := trZ_spec (w := w) (D := D) (X := XS M D) hz
    let g : Field → Nat × Nat := fun f => (f.offset, P.cellsOf f.type)
    have hinfo : ∀ f ∈ fs, ∃ n, P.info? f.type = some n := by
      intro f hf
      have := Array.all_eq_true_iff_forall_mem.1 hall f hf
      exact Option.isSome_iff_exists.1 this
    have hmap : (fs.mapM fun f => do pure (f.offset, ← sizeOf f.type) : Sem (Array (Nat × Nat))).run P w = .ok (fs.map g) w := by
      have : ∀ (l : List Field), (∀ f ∈ l, ∃ n, P.info? f.type = some n) → (l.mapM fun f => do pure (f.offset, ← sizeOf f.type) : Sem (List (Nat × Nat))).run P w = .ok (l.map g) w := by
        intro l
        induction l with
        | nil => intro _; simp
        | cons f l ih =>
          intro hl
          obtain ⟨n, hn⟩ := hl f (by simp)
          simp only [List.mapM_cons, Sem.run_bind, run_sizeOf' hn, Result.andThen_ok, Sem.run_pure, ih (fun f hf => hl f (by simp [hf]))]
          simp [g, Program.cellsOf, hn]
      have h2 := this fs.toList (by simpa using hinfo)
      rw [← Array.toArray_toList (xs := fs)]
      rw [List.mapM_toArray, Sem.run_map, h2]
      simp only [Result.andThen_ok, Array.toArray_toList]
      congr 1
      apply Array.ext'
      simp
    obtain ⟨cells', e1, e2⟩ := fillRow_rd he (place := fun k => (fs.map g)[k]?) (fun k f n hk hn => by simp [hk, g, Program.cellsOf, hn]) parts.toList h1 hcs z5
    refine effOk_val hS (v := .agg cells') rfl ?_ (by simp only [rd]; exact ⟨cells', rfl, e2⟩)
    simp only [Instr.build, Sem.run_bind, run_zeroValue' z1 z2, Result.andThen_ok, run_underlying hu, hmap]
    have e1' : Instr.fill (fun x => (fs.map g)[x]?) v.cells (parts.map fun p => (p.1, a.eval p.2)).toList = some cells' := by simpa using e1
    rw [e1']
    rfl
  | buildSlice t ln parts =>
    simp only [trI] at htr
    split at htr <;> first | (cases htr; done) | skip
    rename_i e sz by_ ht
    split at htr <;> first | (cases htr; done) | skip
    rename_i z ps hz hps
    split at htr <;> first | (cases htr; done) | skip
    rename_i hc
    simp only [Option.some.injEq] at htr; subst htr
    obtain ⟨i, v, z1, z2, z3, z4, z5, z6, z7⟩ := trZ_spec (w := w) (D := D) (X := XS M D) hz
    simp only [I.eff] at hef
    split at hef <;> first | (cases hef; done) | skip
    rename_i rows hrows
    have hzs := rd_zeros z5 (by omega) ln
    have hsz : v.cells.size = sz := by omega
    obtain ⟨cells', e1, e2, e3, e4⟩ := fillRows_rd he parts.toList hps hrows (by intro r hr; rw [List.eq_of_mem_replicate hr]; exact hc.2) hzs
    have hrun := run_buildSlice (w := w) (ln := ln) (parts := parts.map fun p => (p.1, a.eval p.2)) ht hz hc.1 (cells := cells') (by
      rintro zs ⟨i', v', j1, j2, rfl⟩
      rw [z1] at j1; cases j1
      rw [z2] at j2; cases j2
      rw [hsz] at e1
      rw [hsz]
      simpa using e1)
    have hlen : rows.length = ln := by simpa using e4
    split at hef
    · rename_i h0
      simp only [Option.some.injEq] at hef; subst hef
      subst h0
      refine effOk_of rfl hrun ?_
      have p := push_alloc w cells' e
      have E : Ext w D (XS M D) (w.alloc (.cells cells' e)) D (XS M D) := ⟨by rw [p.size]; omega, fun b hb _ => p.old hb, fun _ _ h => h, fun _ => DSle.refl _⟩
      refine ⟨D, ?_, E, p.gr _, fun o d h => .inl ⟨o, d, h, rfl⟩, fun _ h _ => h, by simp [Eff.dv, rd]⟩
      refine ⟨fun o d ho => ?_, hS.alive, hS.inj, hS.far, fun b hb => by rw [p.size]; exact Nat.lt_succ_of_lt (hS.mlt b hb), hS.tab.ext E⟩
      obtain ⟨ob, c, e0, f1, f2, f3, f4, f5, f6, f7, f8, f9, f10, f11⟩ := hS.live o d ho
      refine ⟨ob, c, e0, f1, f2, f3, f4, f5, by rw [p.size]; omega, by rw [p.old f6]; exact f7, f8, f9, f10, fun k x hk => ?_⟩
      obtain ⟨hl, y, k1, k2⟩ := f11 k x hk
      exact ⟨hl, y, k1, rd_mono _ _ E k2⟩
    · simp only [Option.some.injEq] at hef; subst hef
      refine effOk_of rfl hrun ?_
      have := done_newS hS (hid rfl) (push_alloc w cells' e) (sz := sz) (rows := rows) (cap := ln) (by omega) e3 (by omega) (by
        have := rdL_length _ _ e2
        rw [flat_len e3, hlen] at this
        simp at this; omega) (fun k x hk => by
        obtain ⟨y, k1, k2⟩ := rdL_get _ _ e2 k x hk
        exact ⟨fillRows_leaf _ hrows (by intro r hr q hq; rw [List.eq_of_mem_replicate hr] at hq; exact List.all_eq_true.1 z7 q hq) _ (List.mem_of_getElem? hk), y, by simpa using k1, k2⟩)
      rw [hlen] at this
      exact this
  | load t x =>
    simp only [trI] at htr
    split at htr <;> first | (cases htr; done) | skip
    rename_i n g s hg hs
    simp only [Option.some.injEq] at htr; subst htr
    simp only [I.eff] at hef
    split at hef <;> first | (cases hef; done) | skip
    rename_i row off hrow
    have hx := rd_src he hs
    have key : ∃ y, (if g then (if off + n ≤ row.length then some (V.agg ((row.drop off).take n)) else none) else row[off]?) = some y ∧ ef = .val y := by
      cases g with
      | true =>
        simp only [if_true] at hef ⊢
        split at hef <;> first | (cases hef; done) | skip
        rename_i hle
        exact ⟨_, by rw [if_pos hle], by simpa using hef.symm⟩
      | false =>
        simp only [Bool.false_eq_true, if_false] at hef ⊢
        split at hef <;> first | (cases hef; done) | skip
        rename_i y hy
        exact ⟨y, hy, by simpa using hef.symm⟩
    obtain ⟨y, hy, rfl⟩ := key
    obtain ⟨u, h1, h2⟩ := run_load_agg hS hg hrow hx hy
    exact effOk_val hS rfl h1 h2
  | store t x y =>
    simp only [trI] at htr
    split at htr <;> first | (cases htr; done) | skip
    rename_i i s r hi hs hr
    simp only [Option.some.injEq] at htr; subst htr
    simp only [I.eff] at hef
    have hx := rd_src he hs
    have hy := rd_src he hr
    split at hef <;> first | (cases hef; done) | skip
    rename_i o rw_ off cs e1 e2
    split at hef <;> first | (cases hef; done) | skip
    rename_i ob hob
    split at hef <;> first | (cases hef; done) | skip
    rename_i row hrow
    split at hef <;> first | (cases hef; done) | skip
    rename_i hc
    simp only [Option.some.injEq] at hef; subst hef
    rw [e1] at hx
    obtain ⟨d, hd⟩ := hS.alive o ob hob
    obtain ⟨ob', c, e0, f1, f2, f3, f4, f5, f6, f7, f8, f9, f10, f11⟩ := hS.live o d hd
    rw [hob] at f1; cases f1
    simp only [rd, hd] at hx
    obtain ⟨k1, k2, k3⟩ := rd_cells e2 hy
    have hrl : row.length = ob.sz := f10 row (List.mem_of_getElem? hrow)
    have hrlt : rw_ < ob.rows.length := (List.getElem?_eq_some_iff.1 hrow).1
    have hbound : rw_ * d.sz + d.sz ≤ d.n * d.sz := by
      have : (rw_ + 1) * d.sz ≤ d.n * d.sz := Nat.mul_le_mul_right _ (by omega)
      rwa [Nat.succ_mul] at this
    obtain ⟨w', c', g1, g2, g3⟩ := run_store' (w := w) (b := d.blk) (o := d.bas + rw_ * d.sz + off) (v := a.eval y) (t := t) hi (by omega) f7 (by rw [f8]; omega) k2
    refine ⟨.skip, undef, w', ?_, .inr ⟨rfl, rfl⟩, ?_⟩
    · simp only [execOp, Sem.run_bind, hx, g1, Result.andThen_ok, Sem.run_pure]
    · have hfl := flatten_splice f10 (cs := cs) hrow (off := off) (by omega)
      have hlenflat := flat_len f10
      have hu := hS.upd hd g2 (ob := ⟨ob.sz, ob.rows.set rw_ (splice row off cs)⟩) f2.symm (by simp; omega) (set_len f10 (by rw [splice_length (by omega)]; exact hrl)) (fun k z hk => by
        simp only [] at hk
        rw [hfl] at hk
        have hcl := rdL_length _ _ k1
        have hsplit : ∀ k, (splice ob.rows.flatten (rw_ * ob.sz + off) cs)[k]? = if k < rw_ * ob.sz + off then ob.rows.flatten[k]? else if k < rw_ * ob.sz + off + cs.length then cs[k - (rw_ * ob.sz + off)]? else ob.rows.flatten[k]? := by
          intro k
          unfold splice
          have hl1 : (ob.rows.flatten.take (rw_ * ob.sz + off)).length = rw_ * ob.sz + off := by
            rw [List.length_take, hlenflat]
            rw [f2, f3] at hbound
            omega
          by_cases h1 : k < rw_ * ob.sz + off
          · rw [if_pos h1, List.append_assoc, List.getElem?_append_left (by omega), List.getElem?_take_of_lt h1]
          · rw [if_neg h1]
            by_cases h2 : k < rw_ * ob.sz + off + cs.length
            · rw [if_pos h2, List.append_assoc, List.getElem?_append_right (by omega), hl1, List.getElem?_append_left (by omega)]
            · rw [if_neg h2, List.append_assoc, List.getElem?_append_right (by omega), hl1, List.getElem?_append_right (by omega), List.getElem?_drop]
              congr 1; omega
        rw [hsplit] at hk
        have hc' : ∀ j, c'[j]? = if j < d.bas + rw_ * d.sz + off then c[j]? else if j < d.bas + rw_ * d.sz + off + cs.length then (a.eval y).cells[j - (d.bas + rw_ * d.sz + off)]? else c[j]? := by
          intro j
          have hll : (c.toList.take (d.bas + rw_ * d.sz + off)).length = d.bas + rw_ * d.sz + off := by simp; omega
          rw [← Array.getElem?_toList (xs := c'), g3]
          have hcl' : (a.eval y).cells.toList.length = cs.length := by rw [hcl]
          by_cases h1 : j < d.bas + rw_ * d.sz + off
          · rw [if_pos h1, List.append_assoc, List.getElem?_append_left (by omega), List.getElem?_take_of_lt h1]; simp
          · rw [if_neg h1]
            by_cases h2 : j < d.bas + rw_ * d.sz + off + cs.length
            · rw [if_pos h2, List.append_assoc, List.getElem?_append_right (by omega), hll, List.getElem?_append_left (by omega)]; simp
            · rw [if_neg h2, List.append_assoc, List.getElem?_append_right (by omega), hll, List.getElem?_append_right (by omega), List.getElem?_drop]
              rw [Array.getElem?_toList]; congr 1; omega
        rw [hc']
        split at hk
        · rename_i h1
          rw [if_pos (by rw [f2]; omega)]
          exact f11 k z hk
        · rename_i h1
          rw [if_neg (by rw [f2]; omega)]
          split at hk
          · rename_i h2
            rw [if_pos (by rw [f2]; omega)]
            refine ⟨List.all_eq_true.1 (leaf_cells e2) z (List.mem_of_getElem? hk), ?_⟩
            obtain ⟨y', j1, j2⟩ := rdL_get _ _ k1 _ z hk
            refine ⟨y', ?_, j2⟩
            rw [← Array.getElem?_toList, ← j1]; congr 1; rw [f2]; omega
          · rename_i h2
            rw [if_neg (by rw [f2]; omega)]
            exact f11 k z hk)
      exact ⟨D, hu.1, hu.2, ⟨by rw [g2.size]; exact Nat.le_refl _, g2.os, g2.tape, g2.output, fun b _ hb => g2.old b (fun k => hb (k ▸ ⟨o, d, hd, rfl⟩))⟩, fun q d' h => .inl ⟨q, d', h, rfl⟩, fun _ h _ => h, by simp [Eff.dv, rd]⟩
  | nilCheck x =>
    simp only [trI, Option.map_eq_some_iff] at htr
    obtain ⟨s, h1, rfl⟩ := htr
    have hx := rd_src he h1
    simp only [I.eff] at hef
    split at hef <;> first | (cases hef; done) | skip
    · rename_i o r off e1
      split at hef <;> first | (cases hef; done) | skip
      rename_i ob hob
      simp only [Option.some.injEq] at hef; subst hef
      rw [e1] at hx
      have hx' := hx
      simp only [rd] at hx
      obtain ⟨d, hD⟩ := hS.alive o ob hob
      · rw [hD] at hx; simp only [] at hx
        exact ⟨.value (a.eval x), _, w, by simp only [execOp, hx, Sem.run_pure], .inl rfl, done_val hS hx'⟩
    · rename_i row off e1
      simp only [Option.some.injEq] at hef; subst hef
      rw [e1] at hx
      have hx' := hx
      simp only [rd] at hx
      obtain ⟨b, o, hx, _⟩ := hx
      exact ⟨.value (a.eval x), _, w, by simp only [execOp, hx, Sem.run_pure], .inl rfl, done_val hS hx'⟩
  | binOp op t x y yt =>
    simp only [trI] at htr
    split at htr <;> first | (cases htr; done) | skip
    rename_i s r h1 h2
    have hx := rd_src he h1
    have hy := rd_src he h2
    split at htr <;> first | (cases htr; done) | skip
    · simp only [Option.some.injEq] at htr; subst htr
      simp only [I.eff] at hef
      split at hef <;> first | (cases hef; done) | skip
      rename_i v hv
      simp only [Option.some.injEq] at hef; subst hef
      obtain ⟨u, k1, k2⟩ := run_bin (P := P) (t := t) hv hx hy x y
      exact effOk_val hS rfl k1 k2
    · rename_i ne hcmp
      simp only [Option.some.injEq] at htr; subst htr
      simp only [I.eff] at hef
      split at hef <;> first | (cases hef; done) | skip
      rename_i p q e1 e2
      simp only [Option.some.injEq] at hef; subst hef
      rw [e1] at hx; rw [e2] at hy
      simp only [rd] at hx hy
      have hop : op = (if ne then .neq else .eql) ∧ P.underlying t = some .bool := by
        unfold trCmp at hcmp
        cases op <;> simp only [] at hcmp <;> first | (cases hcmp; done) | skip
        all_goals (split at hcmp <;> first | (cases hcmp; done) | skip)
        all_goals (try (split at hcmp <;> first | (cases hcmp; done) | skip))
        all_goals (cases hcmp; rename_i hu; exact ⟨rfl, hu⟩)
      obtain ⟨rfl, hu⟩ := hop
      have := run_beq (P := P) (w := w) (a := p) (b := q) (ne := ne) hu x y
      refine effOk_val hS (s := do eqGuard (if ne then .neq else .eql) t x y (a.eval x) (a.eval y); binOp (if ne then .neq else .eql) t (a.eval x) (a.eval y)) rfl (by rw [hx, hy]; exact this) (by simp only [rd])
    · rename_i ne hcmp
      simp only [Option.some.injEq] at htr; subst htr
      simp only [I.eff] at hef
      split at hef <;> first | (cases hef; done) | skip
      rename_i as bs e1 e2
      split at hef <;> first | (cases hef; done) | skip
      rename_i rr er
      simp only [Option.some.injEq] at hef; subst hef
      obtain ⟨p1, p2, p3, q1, q2, q3, rfl, rfl, rfl⟩ : ∃ p1 p2 p3 q1 q2 q3, as = [.int .i64 p1, .int .i64 p2, .int .i64 p3] ∧ bs = [.int .i64 q1, .int .i64 q2, .int .i64 q3] ∧ rr = (p1 == q1 && p2 == q2 && p3 == q3) := by
        unfold eq3 at er
        split at er <;> first | (cases er; done) | skip
        exact ⟨_, _, _, _, _, _, rfl, rfl, (Option.some.inj er).symm⟩
      rw [e1] at hx; rw [e2] at hy
      obtain ⟨ax, hax, hx⟩ : ∃ ax, a.eval x = .agg ax ∧ ax.toList = [.int .i64 p1, .int .i64 p2, .int .i64 p3] := by
        simp only [rd, rdL] at hx
        obtain ⟨ax, e, _, _, k1, rfl, _, _, rfl, rfl, _, _, rfl, rfl, rfl⟩ := hx
        exact ⟨ax, e, k1⟩
      obtain ⟨ay, hay, hy⟩ : ∃ ay, a.eval y = .agg ay ∧ ay.toList = [.int .i64 q1, .int .i64 q2, .int .i64 q3] := by
        simp only [rd, rdL] at hy
        obtain ⟨ay, e, _, _, k1, rfl, _, _, rfl, rfl, _, _, rfl, rfl, rfl⟩ := hy
        exact ⟨ay, e, k1⟩
      have hop : op = (if ne then .neq else .eql) ∧ agg3 P t = true := by
        unfold trCmp at hcmp
        cases op <;> simp only [] at hcmp <;> first | (cases hcmp; done) | skip
        all_goals (split at hcmp <;> first | (cases hcmp; done) | skip)
        all_goals (split at hcmp <;> first | (cases hcmp; done) | skip)
        all_goals (cases hcmp; rename_i hu; exact ⟨rfl, hu⟩)
      obtain ⟨rfl, hu⟩ := hop
      refine effOk_val hS (s := do eqGuard (if ne then .neq else .eql) t x y (a.eval x) (a.eval y); binOp (if ne then .neq else .eql) t (a.eval x) (a.eval y)) (v := .bool (if ne then !(p1 == q1 && p2 == q2 && p3 == q3) else p1 == q1 && p2 == q2 && p3 == q3)) rfl ?_ (by simp only [rd])
      rw [hax, hay]
      exact run_aeq hu hx hy x y
  | unOp op t x =>
    simp only [trI, Option.map_eq_some_iff] at htr
    obtain ⟨s, h1, rfl⟩ := htr
    have hx := rd_src he h1
    simp only [I.eff] at hef
    split at hef <;> first | (cases hef; done) | skip
    rename_i v hv
    simp only [Option.some.injEq] at hef; subst hef
    obtain ⟨u, k1, k2⟩ := run_un (P := P) hv hx
    exact effOk_val hS rfl k1 k2
  | convert src dst x =>
    simp only [trI] at htr
    split at htr <;> first | (cases htr; done) | skip
    · rename_i ks k s hs hd h1
      simp only [Option.some.injEq] at htr; subst htr
      have hx := rd_src he h1
      simp only [I.eff] at hef
      split at hef <;> first | (cases hef; done) | skip
      rename_i k' n e1
      simp only [Option.some.injEq] at hef; subst hef
      rw [e1] at hx
      simp only [rd] at hx
      refine effOk_val hS (s := convert src dst (a.eval x)) rfl (by rw [hx]; exact run_conv hs hd) (by simp only [rd])
    · rename_i e s hs hd h1
      split at htr <;> first | (cases htr; done) | skip
      rename_i he8
      simp only [Option.some.injEq] at htr; subst htr
      have hx := rd_src he h1
      simp only [I.eff] at hef
      split at hef <;> first | (cases hef; done) | skip
      rename_i szr rows hrows
      split at hef <;> first | (cases hef; done) | skip
      rename_i bs hbs
      simp only [Option.some.injEq] at hef; subst hef
      obtain ⟨a0, cap, hv, hle, hrd⟩ := rowsOf_rd hS hrows hx
      obtain ⟨ns, rfl, rfl, hns⟩ := bytesOf_spec hbs
      refine effOk_val hS (s := convert src dst (a.eval x)) (v := .string ⟨(ns.map fun n => UInt8.ofNat n.toNat).toArray⟩) rfl ?_ (by simp only [rd])
      rw [hv, run_convert_bytes_string w src dst e _ _ _ hs he8 hd]
      rcases hrd with h | ⟨b, off, rfl, hl, hc⟩
      · simp only [List.map_eq_nil_iff] at h; subst h
        cases a0 with
        | none => simp [Conv.bytesToString]; rfl
        | some a0 =>
          have := run_bytesToString (P := P) w a0 0 cap [] (by simp [loadCells, loadCellsFrom])
          exact this
      · have hcells : ∀ j, j < ns.length → w.cell? ((⟨b, off, none⟩ : Addr).add j) = some (.int .u8 (ns.getD j 0)) := by
          intro j hj
          rw [addr_add]
          have hfl : ((ns.map fun n => [V.int .u8 n]).flatten)[j]? = some (V.int .u8 (ns.getD j 0)) := by
            have : ∀ (l : List Int), (l.map fun n => [V.int .u8 n]).flatten = l.map (V.int .u8) := by
              intro l
              induction l with
              | nil => rfl
              | cons n l ih => simp only [List.map_cons, List.flatten_cons, ih]; rfl
            rw [this]; simp [hj]
          obtain ⟨_, c, h1, h2⟩ := hc j _ hfl
          simp only [rd] at h2; subst h2; exact h1
        have hlc := run_loadCells (P := P) w ⟨b, off, none⟩ ns.length (fun j => .int .u8 (ns.getD j 0)) hcells
        have hmap : ((List.range ns.length).map fun j => Value.int .u8 (ns.getD j 0)) = ns.map (Value.int .u8) := by
          apply List.ext_getElem?
          intro j
          by_cases hj : j < ns.length
          · simp [hj]
          · simp [hj]
        rw [hmap] at hlc
        have := run_bytesToString (P := P) w ⟨b, off, none⟩ (ns.map fun n => [V.int .u8 n]).length cap ns (by simpa using hlc)
        rw [this]
        congr 2
        apply ByteArray.ext
        have hfold : ∀ (l : List Int) (r : ByteArray), (l.foldl (fun r n => r.push (UInt8.ofNat n.toNat)) r).data.toList = r.data.toList ++ l.map fun n => UInt8.ofNat n.toNat := by
          intro l
          induction l with
          | nil => intro r; simp
          | cons n l ih => intro r; rw [List.foldl_cons, ih]; simp [ByteArray.push]
        apply Array.ext'
        rw [hfold]
        show [] ++ _ = _
        simp
  | makeSlice t l c =>
    simp only [trI] at htr
    split at htr <;> first | (cases htr; done) | skip
    rename_i e sz by_ s ht h1
    split at htr <;> first | (cases htr; done) | skip
    rename_i z hz
    split at htr <;> first | (cases htr; done) | skip
    rename_i hc
    simp only [Option.some.injEq] at htr; subst htr
    have hx := rd_src he h1
    simp only [I.eff] at hef
    split at hef <;> first | (cases hef; done) | skip
    rename_i n e1
    split at hef <;> first | (cases hef; done) | skip
    rename_i hn
    simp only [Option.some.injEq] at hef; subst hef
    rw [e1] at hx
    simp only [rd] at hx
    have hcc : a.eval c = a.eval l := by
      have := hc.1
      unfold sameTmp at this
      split at this <;> first | (simp at this; done) | skip
      · simp at this; subst this; rfl
      · simp at this; subst this; rfl
    obtain ⟨cs, k1, k2, k3⟩ := run_make (w := w) (D := D) (M := M) ht hz hn.1 hn.2.1 hn.2.2
    obtain ⟨i, v, z1, z2, z3, z4, z5, z6, z7⟩ := trZ_spec (w := w) (D := D) (X := XS M D) hz
    refine effOk_of (s := Instr.makeSlice t (a.eval l) (a.eval c)) rfl (by rw [hcc, hx]; exact k1) ?_
    have := done_newS hS (hid rfl) (push_alloc w cs e) (sz := z.length) (rows := List.replicate n.toNat z) (cap := n.toNat) (by omega) (by intro r hr; rw [List.eq_of_mem_replicate hr]) (by simp) (by rw [k3, hc.2]; exact Nat.le_refl _) (fun k x hk => by
      obtain ⟨y, j1, j2⟩ := rdL_get _ _ k2 k x hk
      refine ⟨?_, y, by simpa using j1, j2⟩
      obtain ⟨r, hr, hx'⟩ := List.mem_flatten.1 (List.mem_of_getElem? hk)
      rw [List.eq_of_mem_replicate hr] at hx'
      exact List.all_eq_true.1 z7 x hx')
    simpa [Eff.store, Eff.dv] using this
  | slice t x lo hi mx =>
    cases mx with
    | some m => simp [trI] at htr
    | none =>
    simp only [trI] at htr
    split at htr <;> first | (cases htr; done) | skip
    rename_i s h1
    split at htr <;> first | (cases htr; done) | skip
    rename_i slo shi hlo hhi
    have hx := rd_src he h1
    have r1 : (slo = none ∧ lo = none) ∨ ∃ q l, slo = some q ∧ lo = some l ∧ rd w D (XS M D) (q.ev env) (a.eval l) := by
      cases lo with
      | none => simp [trO] at hlo; exact .inl ⟨hlo.symm, rfl⟩
      | some l =>
        simp only [trO, Option.map_eq_some_iff] at hlo
        obtain ⟨q, h2, rfl⟩ := hlo
        exact .inr ⟨q, l, rfl, rfl, rd_src he h2⟩
    have r2 : (shi = none ∧ hi = none) ∨ ∃ q l, shi = some q ∧ hi = some l ∧ rd w D (XS M D) (q.ev env) (a.eval l) := by
      cases hi with
      | none => simp [trO] at hhi; exact .inl ⟨hhi.symm, rfl⟩
      | some l =>
        simp only [trO, Option.map_eq_some_iff] at hhi
        obtain ⟨q, h2, rfl⟩ := hhi
        exact .inr ⟨q, l, rfl, rfl, rd_src he h2⟩
    have bnd : ∀ {n cap h l : Nat} {isS : Bool}, n ≤ cap → hiB env n shi = some h → loB env h slo = some l →
        (Instr.sliceBounds isS n cap (lo.map a.eval) (hi.map a.eval) none).run P w = .ok (l, h, cap) w ∧ l ≤ h ∧ h ≤ n := by
      intro n cap h l isS hn e1 e2
      refine run_bounds (lo := slo.map (·.ev env)) (hi := shi.map (·.ev env)) (X := XS M D) (D := D) hn ?_ ?_ ?_ ?_
      · cases shi <;> simpa [hiB] using e1
      · cases slo <;> simpa [loB] using e2
      · rcases r1 with ⟨rfl, rfl⟩ | ⟨q, l', rfl, rfl, h⟩
        · exact .inl ⟨rfl, rfl⟩
        · exact .inr ⟨_, _, rfl, rfl, h⟩
      · rcases r2 with ⟨rfl, rfl⟩ | ⟨q, l', rfl, rfl, h⟩
        · exact .inl ⟨rfl, rfl⟩
        · exact .inr ⟨_, _, rfl, rfl, h⟩
    split at htr <;> first | (cases htr; done) | skip
    · rename_i hu
      simp only [Option.some.injEq] at htr; subst htr
      simp only [I.eff] at hef
      split at hef <;> first | (cases hef; done) | skip
      rename_i sl e1
      split at hef <;> first | (cases hef; done) | skip
      rename_i h eh
      split at hef <;> first | (cases hef; done) | skip
      rename_i l el
      simp only [Option.some.injEq] at hef; subst hef
      rw [e1] at hx
      simp only [rd] at hx
      obtain ⟨k1, k2, k3⟩ := bnd (isS := false) (Nat.le_refl _) eh el
      exact effOk_val hS (s := Instr.sliceAt t (a.eval x) (lo.map a.eval) (hi.map a.eval) none) rfl (by rw [hx]; exact run_slice_str hu k1) (by simp only [rd])
    · rename_i el hu
      split at htr <;> first | (cases htr; done) | skip
      rename_i i hi'
      split at htr <;> first | (cases htr; done) | skip
      rename_i h0
      simp only [Option.some.injEq] at htr; subst htr
      simp only [I.eff] at hef
      · split at hef <;> first | (cases hef; done) | skip
        rename_i n hn
        split at hef <;> first | (cases hef; done) | skip
        rename_i h eh
        split at hef <;> first | (cases hef; done) | skip
        rename_i l el'
        have hslice : ∀ {a0 : Option Addr} {cap : Nat}, n ≤ cap → a.eval x = .slice a0 n cap → (Instr.sliceAt t (a.eval x) (lo.map a.eval) (hi.map a.eval) none).run P w =
            .ok (.slice (if cap = l then a0 else a0.map (·.add (l * i.size))) (h - l) (cap - l)) w ∧ l ≤ h ∧ h ≤ n := by
          intro a0 cap hc hv
          obtain ⟨k1, k2, k3⟩ := bnd (isS := true) hc eh el'
          exact ⟨by rw [hv]; exact run_slice_sl hu hi' k1, k2, k3⟩
        split at hef <;> first | (cases hef; done) | skip
        · -- nil
          rename_i e1
          simp only [Option.some.injEq] at hef; subst hef
          rw [e1] at hx hn
          simp only [lenOf, Option.some.injEq] at hn; subst hn
          simp only [rd] at hx
          obtain ⟨a0, hx⟩ := hx
          obtain ⟨k1, k2, k3⟩ := hslice (Nat.le_refl _) hx
          have hh0 : h = 0 := by omega
          have hl0 : l = 0 := by omega
          subst hh0 hl0
          exact effOk_val hS (s := Instr.sliceAt t (a.eval x) (lo.map a.eval) (hi.map a.eval) none) rfl k1 (by simp only [rd]; exact ⟨_, rfl⟩)
        · -- frozen
          rename_i sz' rows e1
          split at hef <;> first | (cases hef; done) | skip
          rename_i hsz
          simp only [Option.some.injEq] at hef; subst hef
          rw [e1] at hx hn
          simp only [lenOf, Option.some.injEq] at hn; subst hn
          simp only [rd] at hx
          obtain ⟨a0, cap, hx, hle, hwh⟩ := hx
          obtain ⟨k1, k2, k3⟩ := hslice hle hx
          have hlen : ((rows.take h).drop l).length = h - l := by simp; omega
          refine effOk_val hS (s := Instr.sliceAt t (a.eval x) (lo.map a.eval) (hi.map a.eval) none) rfl k1 ?_
          simp only [rd]
          refine ⟨_, _, by rw [hlen], by rw [hlen]; omega, ?_⟩
          by_cases hemp : (rows.take h).drop l = []
          · exact .inl hemp
          · rcases hwh with rfl | ⟨b, off, rfl, hb, hX, hrows⟩
            · simp at hemp
            · have : ¬ cap = l := by
                intro hcl
                apply hemp
                apply List.eq_nil_of_length_eq_zero
                omega
              rw [if_neg this]
              refine .inr ⟨b, off + l * sz', by rw [hsz]; simp, hb, hX, ?_⟩
              exact rdRows_drop l off _ (rdRows_take h off _ hrows)
        · -- an object's
          rename_i o st ln e1
          split at hef <;> first | (cases hef; done) | skip
          rename_i ob hob
          split at hef <;> first | (cases hef; done) | skip
          rename_i hsz
          simp only [Option.some.injEq] at hef; subst hef
          rw [e1] at hx hn
          simp only [lenOf, hob, Option.map_some, Option.some.injEq] at hn; subst hn
          obtain ⟨d, hd⟩ := hS.alive o ob hob
          obtain ⟨ob', c, e0, f1, f2, _⟩ := hS.live o d hd
          rw [hob] at f1; cases f1
          simp only [rd, hd] at hx
          obtain ⟨hn, a0, cap, hx, hcap, hwh⟩ := hx
          obtain ⟨k1, k2, k3⟩ := hslice hcap hx
          refine effOk_val hS (s := Instr.sliceAt t (a.eval x) (lo.map a.eval) (hi.map a.eval) none) rfl k1 ?_
          simp only [rd, hd]
          refine ⟨by omega, _, _, rfl, by omega, ?_⟩
          by_cases hcl : cap = l
          · right; omega
          · rw [if_neg hcl]
            rcases hwh with ⟨rfl, hfit⟩ | ⟨rfl, rfl⟩
            · left
              refine ⟨by simp only [Option.map_some, addr_add]; rw [f2, hsz, Nat.add_mul, Nat.add_assoc], ?_⟩
              rw [show st + l + (cap - l) = st + cap by omega]; exact hfit
            · right; omega
  | fieldAddr t x f =>
    simp only [trI] at htr
    split at htr <;> first | (cases htr; done) | skip
    rename_i fs s hu h1
    split at htr <;> first | (cases htr; done) | skip
    rename_i fd hfd
    split at htr <;> first | (cases htr; done) | skip
    rename_i i hi
    split at htr <;> first | (cases htr; done) | skip
    rename_i h0
    simp only [Option.some.injEq] at htr; subst htr
    have hx := rd_src he h1
    simp only [I.eff] at hef
    split at hef <;> first | (cases hef; done) | skip
    · rename_i o r off e1
      split at hef <;> first | (cases hef; done) | skip
      rename_i ob hob
      simp only [Option.some.injEq] at hef; subst hef
      rw [e1] at hx
      simp only [rd] at hx
      obtain ⟨d, hD⟩ := hS.alive o ob hob
      · rw [hD] at hx; simp only [] at hx
        refine effOk_val hS (s := Instr.fieldAt t (a.eval x) f) rfl (by rw [hx]; exact run_field_addr hu hfd hi h0 _ _) (by simp only [rd, hD]; rw [Nat.add_assoc])
    · rename_i row off e1
      simp only [Option.some.injEq] at hef; subst hef
      rw [e1] at hx
      simp only [rd] at hx
      obtain ⟨b, o, hx, hb⟩ := hx
      refine effOk_val hS (s := Instr.fieldAt t (a.eval x) f) rfl (by rw [hx]; exact run_field_addr hu hfd hi h0 _ _) (by simp only [rd]; exact ⟨b, o, by rw [Nat.add_assoc], hb⟩)
  | indexAddr t x ix =>
    simp only [trI] at htr
    split at htr <;> first | (cases htr; done) | skip
    rename_i s r h1 h2
    have hx := rd_src he h1
    have hy := rd_src he h2
    split at htr <;> first | (cases htr; done) | skip
    · rename_i e hu
      split at htr <;> first | (cases htr; done) | skip
      rename_i n hi
      simp only [Option.some.injEq] at htr; subst htr
      simp only [I.eff] at hef
      split at hef <;> first | (cases hef; done) | skip
      · rename_i o st ln e1
        split at hef <;> first | (cases hef; done) | skip
        rename_i ob j hob hj
        split at hef <;> first | (cases hef; done) | skip
        rename_i hsz
        simp only [Option.some.injEq] at hef; subst hef
        rw [e1] at hx
        obtain ⟨d, hd⟩ := hS.alive o ob hob
        obtain ⟨ob', c, e0, f1, f2, _⟩ := hS.live o d hd
        rw [hob] at f1; cases f1
        simp only [rd, hd] at hx
        obtain ⟨hn, a0, cap, hx, hcap, hwh⟩ := hx
        obtain ⟨kd, m, hv, k1, k2, rfl, k3⟩ := asIdx_spec hj hy
        rcases hwh with ⟨rfl, _⟩ | ⟨rfl, rfl⟩
        · refine effOk_val hS (s := Instr.indexAt t (a.eval x) (a.eval ix)) rfl (by rw [hx, hv]; exact run_index_slice hu hi ⟨k1, k2⟩) ?_
          simp only [rd, hd]
          rw [f2, hsz, Nat.add_mul]; simp only [Nat.add_zero, Nat.add_assoc]
        · omega
      · rename_i sz' rows e1
        split at hef <;> first | (cases hef; done) | skip
        rename_i j hj
        split at hef <;> first | (cases hef; done) | skip
        rename_i hsz
        simp only [Option.some.injEq] at hef; subst hef
        subst hsz
        rw [e1] at hx
        simp only [rd] at hx
        obtain ⟨a0, cap, hx, hle, hwh⟩ := hx
        obtain ⟨kd, m, hv, k1, k2, rfl, k3⟩ := asIdx_spec hj hy
        rcases hwh with rfl | ⟨b, off, rfl, hb, hX, hrows⟩
        · simp at k3
        · refine effOk_val hS (s := Instr.indexAt t (a.eval x) (a.eval ix)) rfl (by rw [hx, hv]; exact run_index_slice hu hi ⟨k1, k2⟩) ?_
          simp only [rd]
          have hg : rows[m.toNat]? = some (rows.getD m.toNat []) := by simp [k3]
          exact ⟨b, off + m.toNat * n.size, by simp, hb, hX, (rdRows_get off rows hrows _ _ hg).2⟩
    · rename_i cnt e hu
      split at htr <;> first | (cases htr; done) | skip
      rename_i n hi
      simp only [Option.some.injEq] at htr; subst htr
      simp only [I.eff] at hef
      split at hef <;> first | (cases hef; done) | skip
      · rename_i o rr off j e1 hj
        split at hef <;> first | (cases hef; done) | skip
        rename_i ob hob
        simp only [Option.some.injEq] at hef; subst hef
        rw [e1] at hx
        obtain ⟨d, hd⟩ := hS.alive o ob hob
        simp only [rd, hd] at hx
        obtain ⟨kd, m, hv, k1, k2, rfl, k3⟩ := asIdx_spec hj hy
        refine effOk_val hS (s := Instr.indexAt t (a.eval x) (a.eval ix)) rfl (by rw [hx, hv]; exact run_index_arr hu hi ⟨k1, k2⟩) ?_
        simp only [rd, hd, Nat.add_assoc]
      · rename_i row off j e1 hj
        simp only [Option.some.injEq] at hef; subst hef
        rw [e1] at hx
        simp only [rd] at hx
        obtain ⟨b, o, hx, hb⟩ := hx
        obtain ⟨kd, m, hv, k1, k2, rfl, k3⟩ := asIdx_spec hj hy
        refine effOk_val hS (s := Instr.indexAt t (a.eval x) (a.eval ix)) rfl (by rw [hx, hv]; exact run_index_arr hu hi ⟨k1, k2⟩) ?_
        simp only [rd]
        exact ⟨b, o, by rw [Nat.add_assoc], hb⟩
  | index t x ix =>
    simp only [trI] at htr
    split at htr <;> first | (cases htr; done) | skip
    · rename_i s r h1 h2 hu
      simp only [Option.some.injEq] at htr; subst htr
      have hx := rd_src he h1
      have hy := rd_src he h2
      simp only [I.eff] at hef
      split at hef <;> first | (cases hef; done) | skip
      rename_i l e1
      split at hef <;> first | (cases hef; done) | skip
      rename_i j hj
      simp only [Option.some.injEq] at hef; subst hef
      rw [e1] at hx
      simp only [rd] at hx
      obtain ⟨kd, n, hv, k1, k2, rfl, k3⟩ := asIdx_spec hj hy
      refine effOk_val hS (s := Instr.index t (a.eval x) (a.eval ix)) rfl (by rw [hx, hv]; exact run_index_str hu ⟨k1, k2⟩) (by simp only [rd])
    · rename_i s r cnt e h1 h2 hu
      split at htr <;> first | (cases htr; done) | skip
      rename_i n d hi hd
      split at htr <;> first | (cases htr; done) | skip
      rename_i hn
      simp only [Option.some.injEq] at htr; subst htr
      have hx := rd_src he h1
      have hy := rd_src he h2
      simp only [I.eff] at hef
      split at hef <;> first | (cases hef; done) | skip
      rename_i cs j e1 hj
      split at hef <;> first | (cases hef; done) | skip
      rename_i v hv
      simp only [Option.some.injEq] at hef; subst hef
      rw [e1] at hx
      simp only [rd] at hx
      obtain ⟨arr, hx, hl⟩ := hx
      obtain ⟨kd, m, hv2, k1, k2, rfl, k3⟩ := asIdx_spec hj hy
      obtain ⟨u, q1, q2⟩ := rdL_get _ _ hl _ v hv
      exact effOk_val hS (s := Instr.index t (a.eval x) (a.eval ix)) rfl (by rw [hx, hv2]; exact run_index_val hu hi hn.1 hd hn.2 ⟨k1, k2⟩ q1) q2
  | extract x ix =>
    simp only [trI, Option.map_eq_some_iff] at htr
    obtain ⟨s, h1, rfl⟩ := htr
    have hx := rd_src he h1
    simp only [I.eff] at hef
    split at hef <;> first | (cases hef; done) | skip
    rename_i vs e1
    split at hef <;> first | (cases hef; done) | skip
    rename_i v hv
    simp only [Option.some.injEq] at hef; subst hef
    rw [e1] at hx
    simp only [rd] at hx
    obtain ⟨arr, hx, hl⟩ := hx
    obtain ⟨u, k1, k2⟩ := rdL_get _ _ hl ix v hv
    refine effOk_val hS (s := Instr.extract (a.eval x) ix) rfl (by rw [hx]; simp only [Instr.extract]; rw [← Array.getElem?_toList, k1]; rfl) k2
  | call c =>
    obtain ⟨callee, args, argTypes⟩ := c
    cases callee with
    | invoke r m => simp [trI] at htr
    | value f =>
      cases f with
      | func f =>
        simp only [trI] at htr
        split at htr <;> first | (cases htr; done) | skip
        split at htr <;> first | (cases htr; done) | skip
        simp only [Option.some.injEq] at htr; subst htr
        simp [I.eff] at hef
      | _ => simp [trI] at htr
    | builtin b =>
    cases b with
    | len =>
      simp only [trI] at htr
      split at htr <;> first | (cases htr; done) | skip
      rename_i x t hargs hat
      have hargs' : args = #[x] := by rw [← Array.toArray_toList (xs := args)]; rw [hargs]
      have hat' : argTypes = #[t] := by rw [← Array.toArray_toList (xs := argTypes)]; rw [hat]
      subst hargs' hat'
      split at htr <;> first | (cases htr; done) | skip
      · rename_i s h1 hu
        simp only [Option.some.injEq] at htr; subst htr
        have hx := rd_src he h1
        simp only [I.eff] at hef
        split at hef <;> first | (cases hef; done) | skip
        rename_i l hl
        simp only [Option.some.injEq] at hef; subst hef
        rw [hl] at hx
        simp only [rd] at hx
        have k := run_len_str (w := w) (ty := type) (s := ⟨l.toArray⟩) hu
        refine ⟨.value (.int .i64 l.length), _, w, ?_, .inl rfl, done_val hS rfl⟩
        simp [execOp, Go.resolve, invoke, builtin, hx, k, ByteArray.size]
      · rename_i s e h1 hu
        simp only [Option.some.injEq] at htr; subst htr
        have hx := rd_src he h1
        simp only [I.eff] at hef
        split at hef <;> first | (cases hef; done) | skip
        rename_i n hn
        simp only [Option.some.injEq] at hef; subst hef
        obtain ⟨a0, cap, hv, _⟩ := lenOf_rd hS hn hx
        have k := run_len_sl (w := w) (ty := type) (a := a0) (n := n) (c := cap) hu
        refine ⟨.value (.int .i64 n), _, w, ?_, .inl rfl, done_val hS rfl⟩
        simp [execOp, Go.resolve, invoke, builtin, hv, k]
    | append =>
      simp only [trI] at htr
      split at htr <;> first | (cases htr; done) | skip
      rename_i x y t u hargs hat
      have hargs' : args = #[x, y] := by rw [← Array.toArray_toList (xs := args)]; rw [hargs]
      have hat' : argTypes = #[t, u] := by rw [← Array.toArray_toList (xs := argTypes)]; rw [hat]
      subst hargs' hat'
      split at htr <;> first | (cases htr; done) | skip
      rename_i s r e sz by_ e' h1 h2 h3 h4
      split at htr <;> first | (cases htr; done) | skip
      rename_i hz
      simp only [Option.some.injEq] at htr; subst htr
      obtain ⟨v, w', k1, k2⟩ := app_ok (ty := type) hS (hid rfl) h3 hz h4 (rd_src he h1) (rd_src he h2) rfl rfl hef
      refine ⟨.value v, v, w', ?_, .inl rfl, k2⟩
      simp only [execOp, Go.resolve, invoke, builtin, Sem.run_bind, Sem.run_pure, Result.andThen_ok]
      simp [k1]
    | max =>
      simp only [trI] at htr
      split at htr <;> first | (cases htr; done) | skip
      rename_i x y hargs
      have hargs' : args = #[x, y] := by rw [← Array.toArray_toList (xs := args)]; rw [hargs]
      subst hargs'
      split at htr <;> first | (cases htr; done) | skip
      rename_i s r h1 h2
      simp only [Option.some.injEq] at htr; subst htr
      have hx := rd_src he h1
      have hy := rd_src he h2
      simp only [I.eff] at hef
      split at hef <;> first | (cases hef; done) | skip
      rename_i k p k' q e1 e2
      split at hef <;> first | (cases hef; done) | skip
      rename_i hk
      subst hk
      simp only [Option.some.injEq] at hef; subst hef
      rw [e1] at hx; rw [e2] at hy
      simp only [rd] at hx hy
      refine ⟨.value (.int k (if q > p then q else p)), _, w, ?_, .inl rfl, done_val hS rfl⟩
      simp [execOp, Go.resolve, invoke, builtin, hx, hy, Builtin.max_, Builtin.max2]
    | _ => simp [trI] at htr
  | _ => simp [trI] at htr
end
end Go.Ml
end
section
namespace Go.Ml
def okDst (nt : Nat) : Option Nat → Bool
  | some d => decide (d < nt)
  | none => true
def trG (ops : Array Oper) : Option (Nat × Bool) → Option (Option (Nat × Bool))
  | none => some none
  | some (j, want) => match (ops[j]?).bind (·.dst) with
    | some t => some (some (t, want))
    | none => none
def trAft (o : Oper) : List Nat := (o.after.toList.filter (Region.binds .any)).map (·.on)
def trOp (P : Program) (ν : Nat → Option Nat) (ops : Array Oper) (dr : Bool) (nt m k : Nat) (o : Oper) : Option OpI :=
  match trI P ν o, trG ops o.guard with
  | some i, some g => if okDst nt o.dst = true then some ⟨g, o.dst, if i.makes then k else m, i, if dr then trAft o else []⟩ else none
  | _, _ => none
def trOps (P : Program) (ν : Nat → Option Nat) (ops : Array Oper) (dr : Bool) (nt m : Nat) : Nat → List Oper → Option (List OpI)
  | _, [] => some []
  | k, o :: l => match trOp P ν ops dr nt m k o with
    | some x => match trOps P ν ops dr nt m (if x.i.makes then k + 1 else k) l with
      | some r => some (x :: r)
      | none => none
    | none => none
def makersOf (P : Program) (ν : Nat → Option Nat) (ops : List Oper) : Nat := (ops.filter fun o => (trI P ν o).any (·.makes)).length
def trC (P : Program) (ν : Nat → Option Nat) (nt : Nat) : Code → Option C
  | .skip => some .skip
  | .region _ ops draw =>
    let m := makersOf P ν ops.toList
    (trOps P ν ops draw nt m 0 ops.toList).map (.reg draw m)
  | .seq a b => match trC P ν nt a, trC P ν nt b with
    | some x, some y => some (.seq x y)
    | _, _ => none
  | .cond c a b => match trS c, trC P ν nt a, trC P ν nt b with
    | some s, some x, some y => some (.cond s x y)
    | _, _, _ => none
  | .block id c => (trC P ν nt c).map (.block id)
  | .loop c => (trC P ν nt c).map .loop
  | .exit id => some (.exit id)
  | .ret => some .ret
  | _ => none
def trRes (P : Program) : ResultVar → Option Res
  | .tmp t => some (.tmp t)
  | .cell a t => (trAgg P t).map fun p => .cell a p.1 p.2
def trFn (P : Program) (ν : Nat → Option Nat) (fn : Func) : Option Fn :=
  match fn.body with
  | some c => match trC P ν fn.ntmps c, fn.results.toList.mapM (trRes P) with
    | some b, some rs => if fn.params.size ≤ fn.ntmps then some ⟨fn.params.size, fn.ntmps, rs, b⟩ else none
    | _, _ => none
  | none => none
def exOf : Ex → Exit
  | .normal => .normal
  | .exit id => .exit id
  | .ret => .ret
structure SR [Base] (nt : Nat) (M : Nat → Prop) (w0 : World) (D0 : DM) (st : St) (D : DM) (a : Act) (w : World) : Prop where
  env : ∀ t, rd w D (XS M D) (st.env t) (a.tmps.getD t undef)
  tm : a.tmps.size = nt
  df : a.defers = []
  store : SRel w D M st.objs
  gr : Gr (Own D0) w0 w
  fr : ∀ o d, D o = .live d → Own D0 d.blk ∨ w0.heap.size ≤ d.blk
  kp : ∀ o, o < st.keep → DSle (D0 o) (D o)
theorem getD_put {a : Act} {d t : Nat} {v : Value} (h : d < a.tmps.size) : (a.put (some d) v).tmps.getD t undef = if t = d then v else a.tmps.getD t undef := by
  simp only [Act.put, Array.getD_eq_getD_getElem?]
  rw [Array.getElem?_setIfInBounds]
  by_cases ht : t = d
  · subst ht; simp [h]
  · rw [if_neg (fun k => ht k.symm), if_neg ht]
section
variable {P : Program} {ν : Nat → Option Nat} {nt : Nat} {M : Nat → Prop} {w0 : World} {D0 : DM} {st : St} {D : DM} {a : Act} {w : World}
theorem rd_put [Base] {w' : World} {D' : DM} {X : Nat → Prop} {env : Nat → V} {dst : Option Nat} {x : V} {v : Value} (he : ∀ t, rd w' D' X (env t) (a.tmps.getD t undef))
    (hd : ∀ d, dst = some d → d < a.tmps.size) (h : rd w' D' X x v) : ∀ t, rd w' D' X (updO env dst x t) ((a.put dst v).tmps.getD t undef) := by
  intro t
  cases dst with
  | none => exact he t
  | some d =>
    rw [getD_put (hd d rfl)]
    simp only [updO, upd]
    split
    · subst_vars; exact h
    · exact he t
theorem SR.step [Base] (h : SR nt M w0 D0 st D a w) {id : Nat} {σ' : Store} {x : V} {v : Value} {w' : World} (hd : Done w D M id σ' x v w') {dst : Option Nat} (hdst : ∀ d, dst = some d → d < nt) :
    ∃ D', SR nt M w0 D0 { st with env := updO st.env dst x, objs := σ' } D' (a.put dst v) w' ∧ ∀ o, D o = .unborn → o ≠ id → D' o = .unborn := by
  obtain ⟨D', h1, h2, h3, h4, h5, h6⟩ := hd
  refine ⟨D', ⟨rd_put (fun t => rd_mono _ _ h2 (h.env t)) (fun d hd => by rw [h.tm]; exact hdst d hd) h6, ?_, ?_, h1, ?_, ?_, fun o ho => (h.kp o ho).trans (h2.ds o)⟩, h5⟩
  · rw [← h.tm]; cases dst <;> simp [Act.put]
  · rw [← h.df]; cases dst <;> rfl
  · exact h.gr.trans (h3.mono fun b _ ⟨o, d, ho, hb⟩ => hb ▸ h.fr o d ho)
  · intro o d' ho
    rcases h4 o d' ho with ⟨q, d, hq, hb⟩ | hb
    · rw [← hb]; exact h.fr q d hq
    · exact .inr (Nat.le_trans h.gr.size hb)
theorem SR.mem [Base] (h : SR nt M w0 D0 st D a w) (n : Nat) : SRel w D M (st.objs ++ List.replicate n none) := by
  have hat : ∀ o, objAt (st.objs ++ List.replicate n none) o = objAt st.objs o := by
    intro o
    unfold objAt
    by_cases ho : o < st.objs.length
    · rw [List.getElem?_append_left ho]
    · rw [List.getElem?_append_right (by omega), List.getElem?_eq_none (by omega : st.objs.length ≤ o)]
      simp only [List.getElem?_replicate]
      split <;> rfl
  refine ⟨?_, ?_, h.store.inj, fun o ho => h.store.far o (by simp at ho; omega), h.store.mlt, h.store.tab⟩
  · intro o d ho
    obtain ⟨ob, c, e, h1, h2⟩ := h.store.live o d ho
    exact ⟨ob, c, e, by rw [hat]; exact h1, h2⟩
  · intro o ob ho
    rw [hat] at ho
    exact h.store.alive o ob ho
end
end Go.Ml
end
section
namespace Go.Ml
section
variable {w : World} {X : Nat → Prop}
mutual
theorem rd_map {D D' : DM} {g : Nat → Option Nat} (hg : ∀ o o', g o = some o' → DSle (D o) (D' o')) : ∀ (x : V) (v : Value), rd w D X x v → rd w D' X (mapV g x) v
  | .any, _, _ => by simp [mapV, rd]
  | .one, _, h => by simpa [mapV, rd] using h
  | .int .., _, h => by simpa [mapV, rd] using h
  | .bool _, _, h => by simpa [mapV, rd] using h
  | .str _, _, h => by simpa [mapV, rd] using h
  | .nils, _, h => by simpa [mapV, rd] using h
  | .sl sz rows, v, h => by simpa only [mapV, rd] using h
  | .fptr row off, v, h => by simpa only [mapV, rd] using h
  | .agg cs, v, h => by
    simp only [rd, mapV] at h ⊢
    obtain ⟨a, rfl, h⟩ := h
    exact ⟨a, rfl, rdL_map hg cs _ h⟩
  | .tup cs, v, h => by
    simp only [rd, mapV] at h ⊢
    obtain ⟨a, rfl, h⟩ := h
    exact ⟨a, rfl, rdL_map hg cs _ h⟩
  | .msl o s l, v, h => by
    simp only [mapV]
    cases hgo : g o with
    | none =>
      simp only [rd] at h ⊢
      cases hD : D o with
      | unborn => simp [hD] at h
      | dead => rw [hD] at h; obtain ⟨_, _, _, rfl⟩ := h; rfl
      | live d => rw [hD] at h; obtain ⟨_, _, _, rfl, _⟩ := h; rfl
    | some o' =>
      have hle := hg o o' hgo
      simp only [rd] at h ⊢
      cases hD : D o with
      | unborn => simp [hD] at h
      | dead => rw [hD] at h hle; simp only [DSle] at hle; rw [hle]; exact h
      | live d =>
        rw [hD] at h hle
        rcases hle with h' | h' <;> rw [h']
        · exact h
        · obtain ⟨_, a, cap, h, _⟩ := h; exact ⟨a, l, cap, h⟩
  | .ptr o s l, v, h => by
    simp only [mapV]
    cases hgo : g o with
    | none =>
      simp only [rd] at h ⊢
      cases hD : D o with
      | unborn => simp [hD] at h
      | dead => rw [hD] at h; obtain ⟨_, rfl⟩ := h; rfl
      | live d => rw [hD] at h; simp only [] at h; subst h; rfl
    | some o' =>
      have hle := hg o o' hgo
      simp only [rd] at h ⊢
      cases hD : D o with
      | unborn => simp [hD] at h
      | dead => rw [hD] at h hle; simp only [DSle] at hle; rw [hle]; exact h
      | live d =>
        rw [hD] at h hle
        rcases hle with h' | h' <;> rw [h']
        · exact h
        · exact ⟨_, h⟩
theorem rdL_map {D D' : DM} {g : Nat → Option Nat} (hg : ∀ o o', g o = some o' → DSle (D o) (D' o')) : ∀ (xs : List V) (ys : List Value), rdL w D X xs ys → rdL w D' X (mapV.mapL g xs) ys
  | [], ys, h => by simpa [mapV.mapL, rdL] using h
  | x :: xs, ys, h => by
    simp only [rdL, mapV.mapL] at h ⊢
    obtain ⟨y, ys', rfl, h1, h2⟩ := h
    exact ⟨y, ys', rfl, rd_map hg x y h1, rdL_map hg xs ys' h2⟩
end
theorem leaf_map {g : Nat → Option Nat} {x : V} (h : x.leaf = true) : (mapV g x).leaf = true := by
  cases x <;> first | (simp [V.leaf] at h; done) | skip
  all_goals simp only [mapV]
  all_goals first | rfl | (split <;> rfl)
theorem rd_scalar {w w' : World} {D D' : DM} {X X' : Nat → Prop} : ∀ (n : Nat) (x : V) (v : Value), scalar n x = true → rd w D X x v → rd w' D' X' x v
  | 0, x, _, h, _ => by simp [scalar] at h
  | n + 1, x, v, h, hr => by
    have hl : ∀ (cs : List V), cs.all (scalar n) = true → ∀ (ys : List Value), rdL w D X cs ys → rdL w' D' X' cs ys := by
      intro cs
      induction cs with
      | nil => intro _ ys h; simpa only [rdL] using h
      | cons c cs ih =>
        intro hc ys h
        simp only [List.all_cons, Bool.and_eq_true] at hc
        simp only [rdL] at h ⊢
        obtain ⟨y, ys', rfl, h1, h2⟩ := h
        exact ⟨y, ys', rfl, rd_scalar n c y hc.1 h1, ih hc.2 ys' h2⟩
    cases x <;> simp only [scalar] at h <;> first | (cases h; done) | skip
    case int => simpa only [rd] using hr
    case bool => simpa only [rd] using hr
    case str => simpa only [rd] using hr
    case nils => simpa only [rd] using hr
    case agg cs =>
      simp only [rd] at hr ⊢
      obtain ⟨a, rfl, hr⟩ := hr
      exact ⟨a, rfl, hl cs h _ hr⟩
    case tup cs =>
      simp only [rd] at hr ⊢
      obtain ⟨a, rfl, hr⟩ := hr
      exact ⟨a, rfl, hl cs h _ hr⟩
theorem mapM_get {α β : Type} {f : α → Option β} : ∀ {l : List α} {l' : List β}, l.mapM f = some l' → l'.length = l.length ∧ ∀ (i : Nat) (y : β), l'[i]? = some y → ∃ x, l[i]? = some x ∧ f x = some y
  | [], l', h => by simp at h; subst h; simp
  | a :: l, l', h => by
    simp only [List.mapM_cons, Option.pure_def, Option.bind_eq_bind, Option.bind_eq_some_iff, Option.some.injEq] at h
    obtain ⟨b, h1, l2, h2, rfl⟩ := h
    obtain ⟨e1, e2⟩ := mapM_get h2
    refine ⟨by simp [e1], fun i y hi => ?_⟩
    cases i with
    | zero => simp at hi; subst hi; exact ⟨a, rfl, h1⟩
    | succ i => simpa using e2 i y (by simpa using hi)
theorem resolve_leaf {σ : Store} {n : Nat} {x y : V} (h : resolve σ n x = some y) (hl : x.leaf = true) : y.leaf = true := by
  cases n with
  | zero => simp [resolve] at h
  | succ n =>
    cases x <;> first | (simp [V.leaf] at hl; done) | skip
    all_goals simp only [resolve] at h
    all_goals first | (simp only [Option.some.injEq] at h; subst h; rfl) | skip
    · split at h <;> first | (cases h; done) | skip
      split at h <;> first | (cases h; done) | skip
      simp only [Option.map_eq_some_iff] at h
      obtain ⟨_, _, rfl⟩ := h; rfl
    · split at h <;> first | (cases h; done) | skip
      split at h <;> first | (cases h; done) | skip
      simp only [Option.map_eq_some_iff] at h
      obtain ⟨_, _, rfl⟩ := h; rfl
theorem rd_resolve [Base] {D : DM} {M : Nat → Prop} {σ : Store} (hS : SRel w D M σ) {R : List Nat} :
    ∀ (n : Nat) (x y : V) (v : Value), resolve σ n x = some y → (∀ o, o ∈ reach σ n x → o ∈ R) → rd w D (XS M D) x v →
      rd w DM.none (fun b => M b ∨ ∃ o d, D o = .live d ∧ d.blk = b ∧ o ∉ R) y v
  | 0, x, y, v, h, _, _ => by simp [resolve] at h
  | n + 1, x, y, v, h, hR, hr => by
    have E : Ext w DM.none (XS M D) w DM.none (fun b => M b ∨ ∃ o d, D o = .live d ∧ d.blk = b ∧ o ∉ R) :=
      ⟨Nat.le_refl _, fun _ _ _ => rfl, fun b _ h => h.imp id fun ⟨o, d, h1, h2, _⟩ => ⟨o, d, h1, h2⟩, fun _ => DSle.refl _⟩
    have hlist : ∀ (cs cs' : List V) (ys : List Value), cs.mapM (resolve σ n) = some cs' → (∀ o, o ∈ cs.flatMap (reach σ n) → o ∈ R) → rdL w D (XS M D) cs ys →
        rdL w DM.none (fun b => M b ∨ ∃ o d, D o = .live d ∧ d.blk = b ∧ o ∉ R) cs' ys := by
      intro cs
      induction cs with
      | nil => intro cs' ys h _ hr; simp at h; subst h; simpa only [rdL] using hr
      | cons c cs ih =>
        intro cs' ys h hR hr
        simp only [List.mapM_cons, Option.pure_def, Option.bind_eq_bind, Option.bind_eq_some_iff, Option.some.injEq] at h
        obtain ⟨c', h1, cs2, h2, rfl⟩ := h
        simp only [rdL] at hr ⊢
        obtain ⟨y, ys', rfl, k1, k2⟩ := hr
        refine ⟨y, ys', rfl, rd_resolve hS n c c' y h1 (fun o ho => hR o (by simp [ho])) k1, ih cs2 ys' h2 (fun o ho => hR o ?_) k2⟩
        simp only [List.flatMap_cons, List.mem_append]; exact .inr ho
    cases x with
    | any => simp [resolve] at h
    | one => simp only [resolve, Option.some.injEq] at h; subst h; simpa only [rd] using hr
    | int k i => simp only [resolve, Option.some.injEq] at h; subst h; simpa only [rd] using hr
    | bool b => simp only [resolve, Option.some.injEq] at h; subst h; simpa only [rd] using hr
    | str s => simp only [resolve, Option.some.injEq] at h; subst h; simpa only [rd] using hr
    | nils => simp only [resolve, Option.some.injEq] at h; subst h; simpa only [rd] using hr
    | sl sz rows =>
      simp only [resolve, Option.some.injEq] at h; subst h
      have hr' : rd w DM.none (XS M D) (.sl sz rows) v := by simpa only [rd] using hr
      exact rd_mono _ _ E hr'
    | fptr row off =>
      simp only [resolve, Option.some.injEq] at h; subst h
      have hr' : rd w DM.none (XS M D) (.fptr row off) v := by simpa only [rd] using hr
      exact rd_mono _ _ E hr'
    | agg cs =>
      simp only [resolve, Option.map_eq_some_iff] at h
      obtain ⟨cs', h1, rfl⟩ := h
      simp only [rd] at hr ⊢
      obtain ⟨a, rfl, hr⟩ := hr
      exact ⟨a, rfl, hlist cs cs' _ h1 (by simpa only [reach] using hR) hr⟩
    | tup cs =>
      simp only [resolve, Option.map_eq_some_iff] at h
      obtain ⟨cs', h1, rfl⟩ := h
      simp only [rd] at hr ⊢
      obtain ⟨a, rfl, hr⟩ := hr
      exact ⟨a, rfl, hlist cs cs' _ h1 (by simpa only [reach] using hR) hr⟩
    | msl o s l =>
      simp only [resolve] at h
      cases hob : objAt σ o with
      | none => simp [hob] at h
      | some ob =>
        simp only [hob] at h
        split at h <;> first | (cases h; done) | skip
        rename_i hsl
        simp only [Option.map_eq_some_iff] at h
        obtain ⟨rows', h1, rfl⟩ := h
        obtain ⟨d, hd⟩ := hS.alive o ob hob
        obtain ⟨ob', c, e0, g1, g2, g3, g4, g5, g6, g7, g8, g9, g10, g11⟩ := hS.live o d hd
        rw [hob] at g1; cases g1
        simp only [rd, hd] at hr
        obtain ⟨hn, a, cap, rfl, hcap, hwh⟩ := hr
        obtain ⟨e1, e2⟩ := mapM_get h1
        have hlen : rows'.length = l := by rw [e1]; simp; omega
        simp only [rd]
        refine ⟨a, cap, by rw [hlen], by rw [hlen]; exact hcap, ?_⟩
        rcases hwh with ⟨rfl, hfit⟩ | ⟨rfl, rfl⟩
        · refine .inr ⟨d.blk, d.bas + s * d.sz, rfl, g6, ?_, ?_⟩
          · rintro (hm | ⟨o', d', ho', hb, hnR⟩)
            · exact g5 hm
            · have := hS.inj o' o d' d ho' hd hb
              subst this
              exact hnR (hR _ (by simp [reach]))
          · rw [rdRows_iff]
            have hrowlen : ∀ r' ∈ rows', r'.length = ob.sz := by
              intro r' hr'
              obtain ⟨i, hi⟩ := List.mem_iff_getElem?.1 hr'
              obtain ⟨r, hr, hm⟩ := e2 i r' hi
              rw [(mapM_get hm).1]
              exact g10 r (List.mem_of_mem_drop (List.mem_of_mem_take (List.mem_of_getElem? hr)))
            refine ⟨hrowlen, ?_⟩
            rw [rdCells_iff]
            intro i z hz
            have hpos : 0 < ob.sz := by rw [← g2]; exact g4
            have hfl := flat_len hrowlen
            have hilt := (List.getElem?_eq_some_iff.1 hz).1
            have hrow : i / ob.sz < rows'.length := Nat.div_lt_of_lt_mul (by rw [Nat.mul_comm]; omega)
            obtain ⟨r, hr, hm⟩ := e2 (i / ob.sz) rows'[i / ob.sz] (by simp [hrow])
            have hmod : i % ob.sz < rows'[i / ob.sz].length := by rw [hrowlen _ (by simp)]; exact Nat.mod_lt _ hpos
            have hz' := flatten_get hrowlen (i := i / ob.sz) (j := i % ob.sz) (r := rows'[i / ob.sz]) (x := rows'[i / ob.sz][i % ob.sz]) (by simp [hrow]) (by simp [hmod])
            have hi : i / ob.sz * ob.sz + i % ob.sz = i := by rw [Nat.mul_comm]; exact Nat.div_add_mod i ob.sz
            rw [hi, hz] at hz'
            obtain ⟨z0, hz0, hres⟩ := (mapM_get hm).2 (i % ob.sz) z (by rw [Option.some.inj hz']; simp [hmod])
            have hr2 : ob.rows[s + i / ob.sz]? = some r := by
              rw [List.getElem?_take] at hr
              split at hr
              · rwa [List.getElem?_drop] at hr
              · cases hr
            obtain ⟨hlf, cv, k1, k2⟩ := g11 _ z0 (flatten_get g10 hr2 hz0)
            refine ⟨resolve_leaf hres hlf, cv, ?_, ?_⟩
            · simp only [World.cell?, g7]
              simp only [Option.isSome_none, Bool.false_eq_true, if_false]
              rw [← k1, g2]; congr 1; rw [Nat.add_mul]; omega
            · refine rd_resolve hS n z0 z cv hres (fun q hq => hR q ?_) k2
              simp only [reach, hob, List.mem_cons, List.mem_flatMap]
              exact .inr ⟨r, List.mem_of_getElem? hr2, z0, List.mem_of_getElem? hz0, hq⟩
        · refine .inl ?_
          apply List.eq_nil_of_length_eq_zero; exact hlen
    | ptr o r off =>
      simp only [resolve] at h
      cases hob : objAt σ o with
      | none => simp [hob] at h
      | some ob =>
        simp only [hob] at h
        split at h <;> first | (cases h; done) | skip
        rename_i row hrow
        simp only [Option.map_eq_some_iff] at h
        obtain ⟨row', h1, rfl⟩ := h
        obtain ⟨d, hd⟩ := hS.alive o ob hob
        obtain ⟨ob', c, e0, g1, g2, g3, g4, g5, g6, g7, g8, g9, g10, g11⟩ := hS.live o d hd
        rw [hob] at g1; cases g1
        simp only [rd, hd] at hr
        subst hr
        obtain ⟨e1, e2⟩ := mapM_get h1
        simp only [rd]
        refine ⟨d.blk, d.bas + r * d.sz, rfl, g6, ?_, ?_⟩
        · rintro (hm | ⟨o', d', ho', hb, hnR⟩)
          · exact g5 hm
          · have := hS.inj o' o d' d ho' hd hb
            subst this
            exact hnR (hR _ (by simp [reach]))
        · rw [rdCells_iff]
          intro i z hz
          obtain ⟨z0, hz0, hres⟩ := e2 i z hz
          obtain ⟨hlf, cv, k1, k2⟩ := g11 _ z0 (flatten_get g10 hrow hz0)
          refine ⟨resolve_leaf hres hlf, cv, ?_, ?_⟩
          · simp only [World.cell?, g7]
            simp only [Option.isSome_none, Bool.false_eq_true, if_false]
            rw [← k1, g2]; congr 1; omega
          · refine rd_resolve hS n z0 z cv hres (fun q hq => hR q ?_) k2
            simp only [reach, hob, List.mem_cons, List.mem_flatMap]
            exact .inr ⟨row, List.mem_of_getElem? hrow, z0, List.mem_of_getElem? hz0, hq⟩
end
end Go.Ml
end
section
set_option linter.unusedSimpArgs false
namespace Go.Ml
structure Dat where
  x : OpI
  R : List Nat
  v : V
  W : List (Nat × Option Obj)
  N : Option Store := none
def I.srcs : I → List Src
  | .mov x | .box x | .fld _ x | .len x | .lenS x | .un _ x | .conv _ x | .bstr x | .extr _ x | .chk x => [x]
  | .pick c a b => [c, a, b]
  | .alloc _ => []
  | .build _ ps => ps.map (·.2.2)
  | .mkSl _ _ _ ps => ps.map (·.2)
  | .make _ _ x => [x]
  | .load _ _ a => [a]
  | .store _ a x => [a, x]
  | .idx _ x i | .idxA _ _ x i | .idxS x i | .idxV _ x i => [x, i]
  | .bin _ x y | .beq _ x y | .aeq _ x y | .app _ _ x y | .max x y => [x, y]
  | .slice _ x lo hi | .sliceS x lo hi => x :: (lo.toList ++ hi.toList)
  | .call _ as => as
def Src.tmps : Src → List Nat
  | .t n => [n]
  | .c _ => []
def OpI.looks (o : OpI) : List Nat := o.i.srcs.flatMap Src.tmps ++ (match o.g with | some (g, _) => [g] | none => [])
def putW (σ : Store) (W : List (Nat × Option Obj)) : Store := W.foldl (fun s p => s.set p.1 p.2) σ
def Dat.go (d : Dat) (st : St) : St := { st with env := updO st.env d.x.dst d.v, objs := putW st.objs d.W ++ d.N.getD [] }
structure Agree (looks R : List Nat) (nl : Bool) (st st2 : St) : Prop where
  env : ∀ t, t ∈ looks → st2.env t = st.env t
  objs : ∀ o, o ∈ R → objAt st2.objs o = objAt st.objs o
  len : nl = true → st2.objs.length = st.objs.length
  base : st2.base = st.base
theorem go_val (o : OpI) (R : List Nat) (v : V) (st : St) : (⟨o, R, v, [], none⟩ : Dat).go st = { st with env := updO st.env o.dst v } := by
  simp only [Dat.go, putW, List.foldl_nil, Option.getD_none, List.append_nil]
def Fp (T : Nat → Option Fn) (d : Dat) (st : St) : Prop := ∀ st2, Agree d.x.looks d.R d.N.isSome st st2 → Run T (.op d.x st2) (.code .normal (d.go st2))
def dstIn (d : Option Nat) (l : List Nat) : Bool := match d with | some t => l.contains t | none => false
def below (L : Nat) (d e : Dat) : Bool := d.N.isNone || (e.N.isNone && e.R.all (fun o => decide (o < L)) && e.W.all fun p => decide (p.1 < L))
def apart (L : Nat) (d e : Dat) : Bool :=
  !dstIn d.x.dst e.x.looks && !dstIn e.x.dst d.x.looks && !(d.x.dst.isSome && d.x.dst == e.x.dst) &&
    d.W.all (fun p => !e.R.contains p.1 && e.W.all fun q => q.1 != p.1) && e.W.all (fun q => !d.R.contains q.1) && below L d e && below L e d
def Chain (T : Nat → Option Fn) : List Dat → St → Prop
  | [], _ => True
  | d :: l, st => Fp T d st ∧ Chain T l (d.go st)
def goAll : List Dat → St → St
  | [], st => st
  | d :: l, st => goAll l (d.go st)
theorem updO_env {env : Nat → V} {d : Option Nat} {v : V} {t : Nat} (h : dstIn d [t] = false) : updO env d v t = env t := by
  cases d with
  | none => rfl
  | some k =>
    simp only [dstIn, List.contains_cons, List.contains_nil, Bool.or_false, beq_eq_false_iff_ne, ne_eq] at h
    simp only [updO, upd]; rw [if_neg (fun e => h e.symm)]
theorem dstIn_mem {d : Option Nat} {l : List Nat} (h : dstIn d l = false) {t : Nat} (ht : t ∈ l) : dstIn d [t] = false := by
  cases d with
  | none => rfl
  | some k =>
    simp only [dstIn] at h ⊢
    simp only [List.contains_cons, List.contains_nil, Bool.or_false, beq_eq_false_iff_ne, ne_eq]
    rintro rfl
    simp [ht] at h
theorem putW_length : ∀ (W : List (Nat × Option Obj)) (σ : Store), (putW σ W).length = σ.length
  | [], _ => rfl
  | p :: W, σ => by simp only [putW, List.foldl_cons]; exact (putW_length W (σ.set p.1 p.2)).trans (by simp)
theorem putW_at : ∀ (W : List (Nat × Option Obj)) (σ : Store) (o : Nat), (∀ p ∈ W, p.1 ≠ o) → objAt (putW σ W) o = objAt σ o
  | [], _, _, _ => rfl
  | p :: W, σ, o, h => by
    simp only [putW, List.foldl_cons]
    have := putW_at W (σ.set p.1 p.2) o fun q hq => h q (by simp [hq])
    simp only [putW] at this
    rw [this]
    unfold objAt
    rw [List.getElem?_set, if_neg (h p (by simp))]
theorem putW_comm : ∀ (W1 W2 : List (Nat × Option Obj)) (σ : Store), (∀ p ∈ W1, ∀ q ∈ W2, q.1 ≠ p.1) → putW (putW σ W1) W2 = putW (putW σ W2) W1
  | [], _, _, _ => rfl
  | p :: W1, W2, σ, h => by
    have step : ∀ (W : List (Nat × Option Obj)) (σ : Store), (∀ q ∈ W, q.1 ≠ p.1) → putW (σ.set p.1 p.2) W = (putW σ W).set p.1 p.2 := by
      intro W
      induction W with
      | nil => intro σ _; rfl
      | cons q W ih =>
        intro σ hq
        simp only [putW, List.foldl_cons]
        rw [List.set_comm _ _ (hq q (by simp)).symm]
        exact ih (σ.set q.1 q.2) fun r hr => hq r (by simp [hr])
    have e1 : ∀ σ, putW σ (p :: W1) = putW (σ.set p.1 p.2) W1 := fun _ => rfl
    rw [e1, e1, putW_comm W1 W2 _ fun a ha => h a (by simp [ha]), step W2 σ fun q hq => h p (by simp) q hq]
def BelowD (L : Nat) (d e : Dat) : Prop := d.N = none ∨ (e.N = none ∧ (∀ o ∈ e.R, o < L) ∧ ∀ p ∈ e.W, p.1 < L)
theorem below_spec {L : Nat} {d e : Dat} (h : below L d e = true) : BelowD L d e := by
  unfold below at h
  simp only [Bool.or_eq_true, Bool.and_eq_true, Option.isNone_iff_eq_none, List.all_eq_true, decide_eq_true_eq] at h
  rcases h with h | ⟨⟨h1, h2⟩, h3⟩
  · exact .inl h
  · exact .inr ⟨h1, h2, h3⟩
theorem apart_spec {L : Nat} {d e : Dat} (h : apart L d e = true) : dstIn d.x.dst e.x.looks = false ∧ dstIn e.x.dst d.x.looks = false ∧ (∀ t, d.x.dst = some t → e.x.dst ≠ some t) ∧
    (∀ p ∈ d.W, p.1 ∉ e.R) ∧ (∀ p ∈ d.W, ∀ q ∈ e.W, q.1 ≠ p.1) ∧ (∀ q ∈ e.W, q.1 ∉ d.R) ∧ BelowD L d e ∧ BelowD L e d := by
  simp only [apart, Bool.and_eq_true, Bool.not_eq_true', List.all_eq_true, bne_iff_ne] at h
  obtain ⟨⟨⟨⟨⟨⟨h1, h2⟩, h3⟩, h4⟩, h5⟩, h6⟩, h7⟩ := h
  refine ⟨h1, h2, fun t ht he => ?_, fun p hp => ?_, fun p hp q hq => (h4 p hp).2 q hq, fun q hq => ?_, below_spec h6, below_spec h7⟩
  · rw [ht, he] at h3; simp at h3
  · simpa using (h4 p hp).1
  · simpa using h5 q hq
theorem putW_app : ∀ (W : List (Nat × Option Obj)) (σ N : Store), (∀ p ∈ W, p.1 < σ.length) → putW (σ ++ N) W = putW σ W ++ N
  | [], _, _, _ => rfl
  | p :: W, σ, N, h => by
    have e1 : ∀ σ, putW σ (p :: W) = putW (σ.set p.1 p.2) W := fun _ => rfl
    rw [e1, e1, List.set_append_left _ _ (h p (by simp))]
    exact putW_app W _ N fun q hq => by rw [List.length_set]; exact h q (by simp [hq])
theorem go_comm {L : Nat} {d e : Dat} (h : apart L d e = true) (st : St) (hL : L ≤ st.objs.length) : e.go (d.go st) = d.go (e.go st) := by
  obtain ⟨_, _, h3, _, h5, _, h6, h7⟩ := apart_spec h
  unfold Dat.go
  simp only []
  have hobj : putW (putW st.objs d.W ++ d.N.getD []) e.W ++ e.N.getD [] = putW (putW st.objs e.W ++ e.N.getD []) d.W ++ d.N.getD [] := by
    rcases h6 with h6 | ⟨k1, _, k3⟩
    · rcases h7 with h7 | ⟨j1, _, j3⟩
      · rw [h6, h7]; simp only [Option.getD_none, List.append_nil]; exact putW_comm d.W e.W st.objs h5
      · rw [h6]; simp only [Option.getD_none, List.append_nil]; rw [putW_app d.W _ _ (fun p hp => by rw [putW_length]; exact Nat.lt_of_lt_of_le (j3 p hp) hL), putW_comm d.W e.W st.objs h5]
    · rw [k1]; simp only [Option.getD_none, List.append_nil]; rw [putW_app e.W _ _ (fun p hp => by rw [putW_length]; exact Nat.lt_of_lt_of_le (k3 p hp) hL), putW_comm d.W e.W st.objs h5]
  rw [hobj]
  have : updO (updO st.env d.x.dst d.v) e.x.dst e.v = updO (updO st.env e.x.dst e.v) d.x.dst d.v := by
    cases hd : d.x.dst with
    | none => rfl
    | some a =>
      cases he : e.x.dst with
      | none => rfl
      | some b =>
        have hne : b ≠ a := fun k => h3 a hd (by rw [he, k])
        funext t
        simp only [updO, upd]
        by_cases h1 : t = b
        · subst h1; simp [hne]
        · simp [h1]
  rw [this]
theorem agree_go {L : Nat} {d e : Dat} (h1 : dstIn d.x.dst e.x.looks = false) (h2 : ∀ p ∈ d.W, p.1 ∉ e.R) (hb : BelowD L d e) (st : St) (hL : L ≤ st.objs.length) : Agree e.x.looks e.R e.N.isSome st (d.go st) := by
  refine ⟨fun t ht => updO_env (dstIn_mem h1 ht), fun o ho => ?_, fun hn => ?_, rfl⟩
  · rcases hb with hb | ⟨_, hb, _⟩
    · simp only [Dat.go, hb, Option.getD_none, List.append_nil]
      exact putW_at _ _ _ fun p hp he => h2 p hp (he ▸ ho)
    · simp only [Dat.go]
      have : objAt (putW st.objs d.W ++ d.N.getD []) o = objAt (putW st.objs d.W) o := by
        unfold objAt
        rw [List.getElem?_append_left (by rw [putW_length]; exact Nat.lt_of_lt_of_le (hb o ho) hL)]
      rw [this]
      exact putW_at _ _ _ fun p hp he => h2 p hp (he ▸ ho)
  · rcases hb with hb | ⟨hb, _⟩
    · simp only [Dat.go, hb, Option.getD_none, List.append_nil]; exact putW_length _ _
    · rw [hb] at hn; simp at hn
theorem go_len (d : Dat) (st : St) : st.objs.length ≤ (d.go st).objs.length := by
  simp only [Dat.go, List.length_append, putW_length]; omega
theorem Agree.symm {l R : List Nat} {n : Bool} {a b : St} (h : Agree l R n a b) : Agree l R n b a := ⟨fun t ht => (h.env t ht).symm, fun o ho => (h.objs o ho).symm, fun k => (h.len k).symm, h.base.symm⟩
theorem Agree.trans {l R : List Nat} {n : Bool} {a b c : St} (h : Agree l R n a b) (k : Agree l R n b c) : Agree l R n a c :=
  ⟨fun t ht => (k.env t ht).trans (h.env t ht), fun o ho => (k.objs o ho).trans (h.objs o ho), fun q => (k.len q).trans (h.len q), k.base.trans h.base⟩
theorem Fp.of {T} {d : Dat} {st st2 : St} (h : Fp T d st) (k : Agree d.x.looks d.R d.N.isSome st st2) : Fp T d st2 := fun st3 k3 => h st3 (k.trans k3)
theorem chain_pull {T} {L : Nat} {d : Dat} : ∀ (pre post : List Dat) (st : St), L ≤ st.objs.length → Chain T (pre ++ d :: post) st → (∀ e ∈ pre, apart L e d = true) →
    Fp T d st ∧ Chain T (pre ++ post) (d.go st) ∧ goAll (pre ++ d :: post) st = goAll (pre ++ post) (d.go st)
  | [], post, st, _, h, _ => ⟨h.1, h.2, rfl⟩
  | e :: pre, post, st, hL, h, ha => by
    obtain ⟨h1, h2⟩ := h
    obtain ⟨k1, k2, k3⟩ := chain_pull pre post (e.go st) (Nat.le_trans hL (go_len e st)) h2 fun q hq => ha q (by simp [hq])
    obtain ⟨a1, a2, a3, a4, a5, a6, a7, a8⟩ := apart_spec (ha e (by simp))
    have hd : Fp T d st := k1.of (agree_go a1 a4 a7 st hL).symm
    refine ⟨hd, ⟨h1.of (agree_go a2 a6 a8 st hL), ?_⟩, ?_⟩
    · rw [← go_comm (ha e (by simp)) st hL]; exact k2
    · simp only [List.cons_append, goAll]
      rw [k3, go_comm (ha e (by simp)) st hL]
def okD (L : Nat) (B : Nat → List Nat) (l : List (Nat × Dat)) : Bool :=
  match l with
  | [] => true
  | (i, d) :: l => l.all (fun p => (B p.1).contains i || apart L d p.2) && okD L B l
theorem okD_split {L : Nat} {B : Nat → List Nat} {i : Nat} {d : Dat} : ∀ (pre post : List (Nat × Dat)), okD L B (pre ++ (i, d) :: post) = true → (∀ q ∈ pre, (B i).contains q.1 = true ∨ apart L q.2 d = true) ∧ okD L B (pre ++ post) = true
  | [], post, h => by
    simp only [List.nil_append, okD, Bool.and_eq_true] at h
    exact ⟨by simp, h.2⟩
  | q :: pre, post, h => by
    obtain ⟨j, e⟩ := q
    simp only [List.cons_append, okD, Bool.and_eq_true, List.all_eq_true] at h
    obtain ⟨k1, k2⟩ := okD_split pre post h.2
    refine ⟨?_, ?_⟩
    · intro q hq
      rcases List.mem_cons.1 hq with rfl | hq
      · have := h.1 (i, d) (by simp)
        simpa [Bool.or_eq_true] using this
      · exact k1 q hq
    · simp only [List.cons_append, okD, Bool.and_eq_true, List.all_eq_true]
      refine ⟨fun p hp => h.1 p ?_, k2⟩
      rcases List.mem_append.1 hp with h | h
      · simp [h]
      · simp [h]
theorem run_any {T} {L : Nat} {l : List OpI} {B : Nat → List Nat} (hB : ∀ i o j, l[i]? = some o → j ∈ B i → j ∈ o.aft ∨ ∃ e ∈ o.aft, j ∈ B e) :
    ∀ (n : Nat) (rem : List (Nat × Dat)) (done : List Nat) (st : St), L ≤ st.objs.length → rem.length = n → okD L B rem = true → (∀ e ∈ done, ∀ j ∈ B e, j ∈ done) → Chain T (rem.map (·.2)) st →
    (rem.map (·.1)).Pairwise (· < ·) → (∀ p ∈ rem, l[p.1]? = some p.2.x ∧ p.1 ∉ done ∧ ∀ e ∈ p.2.x.aft, e < p.1) → (∀ i, i < l.length → i ∉ done → ∃ d, (i, d) ∈ rem) →
    Run T (.any l done st) (.code .normal (goAll (rem.map (·.2)) st))
  | 0, rem, done, st, _, hn, _, _, _, _, _, hall => by
    have : rem = [] := List.eq_nil_of_length_eq_zero hn
    subst this
    refine .anyN fun i => ?_
    cases h : readyB l done i with
    | false => rfl
    | true =>
      unfold readyB at h
      split at h <;> first | (cases h; done) | skip
      rename_i o ho
      simp only [Bool.and_eq_true, Bool.not_eq_true', List.all_eq_true] at h
      obtain ⟨d, hd⟩ := hall i (List.getElem?_eq_some_iff.1 ho).1 (by simpa using h.1)
      cases hd
  | n + 1, rem, done, st, hL, hn, hok, hcl, hch, hnd, hl, hall => by
    have pull : ∀ i, readyB l done i = true → ∃ d pre post, rem = pre ++ (i, d) :: post ∧ Fp T d st ∧ Run T (.any l (i :: done) (d.go st)) (.code .normal (goAll (rem.map (·.2)) st)) := by
      intro i hi
      unfold readyB at hi
      split at hi <;> first | (cases hi; done) | skip
      rename_i o ho
      simp only [Bool.and_eq_true, Bool.not_eq_true', List.all_eq_true] at hi
      have hnd' : i ∉ done := by simpa using hi.1
      obtain ⟨d, hd⟩ := hall i (List.getElem?_eq_some_iff.1 ho).1 hnd'
      obtain ⟨pre, post, rfl⟩ := List.append_of_mem hd
      obtain ⟨k1, k2⟩ := okD_split pre post hok
      have hdo : o = d.x := by
        have := (hl (i, d) hd).1
        rw [ho] at this; exact Option.some.inj this
      have hbd : ∀ j ∈ B i, j ∈ done := by
        intro j hj
        rcases hB i o j ho hj with h | ⟨e, he, h⟩
        · simpa using hi.2 j h
        · exact hcl e (by simpa using hi.2 e he) j h
      have hap : ∀ e ∈ pre.map (·.2), apart L e d = true := by
        intro e he
        obtain ⟨q, hq, rfl⟩ := List.mem_map.1 he
        rcases k1 q hq with h | h
        · exfalso
          exact (hl q (by simp [hq])).2.1 (hbd q.1 (by simpa using h))
        · exact h
      have hch' : Chain T (pre.map (·.2) ++ d :: post.map (·.2)) st := by simpa using hch
      obtain ⟨c1, c2, c3⟩ := chain_pull (pre.map (·.2)) (post.map (·.2)) st hL hch' hap
      refine ⟨d, pre, post, rfl, c1, ?_⟩
      have hnd2 : ((pre ++ post).map (·.1)).Pairwise (· < ·) ∧ ∀ p ∈ pre ++ post, p.1 ≠ i := by
        simp only [List.map_append, List.map_cons] at hnd ⊢
        rw [List.pairwise_append] at hnd ⊢
        obtain ⟨a1, a2, a3⟩ := hnd
        rw [List.pairwise_cons] at a2
        refine ⟨⟨a1, a2.2, fun x hx y hy => a3 x hx y (by simp [hy])⟩, fun p hp => ?_⟩
        rcases List.mem_append.1 hp with h | h
        · have := a3 p.1 (List.mem_map_of_mem h) i (by simp); omega
        · have := a2.1 p.1 (List.mem_map_of_mem h); omega
      have ih := run_any hB n (pre ++ post) (i :: done) (d.go st) (Nat.le_trans hL (go_len d st)) (by simp at hn ⊢; omega) k2 (fun e he j hj => by
          rcases List.mem_cons.1 he with rfl | he
          · exact List.mem_cons_of_mem _ (hbd j hj)
          · exact List.mem_cons_of_mem _ (hcl e he j hj)) (by simpa using c2) hnd2.1
        (fun p hp => by
          have hp' : p ∈ pre ++ (i, d) :: post := by rcases List.mem_append.1 hp with h | h <;> simp [h]
          refine ⟨(hl p hp').1, ?_, (hl p hp').2.2⟩
          simp only [List.mem_cons, not_or]
          exact ⟨hnd2.2 p hp, (hl p hp').2.1⟩)
        (fun j hj hjd => by
          simp only [List.mem_cons, not_or] at hjd
          obtain ⟨e, he⟩ := hall j hj hjd.2
          refine ⟨e, ?_⟩
          rcases List.mem_append.1 he with h | h
          · exact List.mem_append.2 (.inl h)
          · rcases List.mem_cons.1 h with h | h
            · cases h; exact absurd rfl hjd.1
            · exact List.mem_append.2 (.inr h))
      have e1 : goAll ((pre ++ (i, d) :: post).map (·.2)) st = goAll ((pre ++ post).map (·.2)) (d.go st) := by simpa using c3
      rw [e1]; exact ih
    obtain ⟨⟨i0, d0⟩, rem', hrem⟩ : ∃ p r, rem = p :: r := by
      cases rem with
      | nil => simp at hn
      | cons p r => exact ⟨p, r, rfl⟩
    have h0 : readyB l done i0 = true := by
      obtain ⟨g1, g2, g3⟩ := hl (i0, d0) (by rw [hrem]; simp)
      unfold readyB
      simp only [] at g1
      rw [g1]
      simp only [Bool.and_eq_true, Bool.not_eq_true', List.all_eq_true]
      refine ⟨by simpa using g2, fun e he => ?_⟩
      have hlt := g3 e he
      simp only [] at hlt
      have hil := (List.getElem?_eq_some_iff.1 g1).1
      by_cases hed : e ∈ done
      · simpa using hed
      · exfalso
        obtain ⟨d, hd⟩ := hall e (by omega) hed
        rw [hrem] at hd hnd
        simp only [List.map_cons, List.pairwise_cons] at hnd
        rcases List.mem_cons.1 hd with h | h
        · cases h; omega
        · have := hnd.1 e (List.mem_map_of_mem (f := (·.1)) h); omega
    have hex : ∀ i, ∃ d : Dat, readyB l done i = true → l[i]? = some d.x ∧ Fp T d st ∧ Run T (.any l (i :: done) (d.go st)) (.code .normal (goAll (rem.map (·.2)) st)) := by
      intro i
      by_cases hi : readyB l done i = true
      · obtain ⟨d, pre, post, e, h1, h2⟩ := pull i hi
        exact ⟨d, fun _ => ⟨(hl (i, d) (by rw [e]; simp)).1, h1, h2⟩⟩
      · exact ⟨⟨⟨none, none, 0, .alloc [], []⟩, [], .any, [], none⟩, fun h => absurd h hi⟩
    obtain ⟨f, hf⟩ := Classical.axiomOfChoice hex
    refine .anyC i0 h0 (fun i => (f i).go st) (fun i o ho hi => ?_) (fun i hi => (hf i hi).2.2)
    obtain ⟨g1, g2, _⟩ := hf i hi
    rw [ho] at g1; cases g1
    exact g2 st ⟨fun _ _ => rfl, fun _ _ => rfl, fun _ => rfl, rfl⟩
end Go.Ml
end
section
set_option linter.unusedSimpArgs false
namespace Go.Ml
def refs1 : V → List Nat
  | .msl o _ _ => [o]
  | .ptr o _ _ => [o]
  | _ => []
def I.mems : I → List Src
  | .load _ _ a => [a]
  | .store _ a _ => [a]
  | .fld _ a => [a]
  | .idx _ x _ => [x]
  | .idxA _ _ x _ => [x]
  | .len x => [x]
  | .bstr x => [x]
  | .slice _ x _ _ => [x]
  | .app _ _ x y => [x, y]
  | .chk x => [x]
  | _ => []
def I.reads (env : Nat → V) (i : I) : List Nat := i.mems.flatMap fun s => refs1 (s.ev env)
theorem src_congr {env env2 : Nat → V} {s : Src} (h : ∀ t, t ∈ s.tmps → env2 t = env t) : s.ev env2 = s.ev env := by
  cases s with
  | t n => exact h n (by simp [Src.tmps])
  | c v => rfl
section
variable {σ σ2 : Store} {env env2 : Nat → V}
theorem rowAt_congr {x : V} (h : ∀ o, o ∈ refs1 x → objAt σ2 o = objAt σ o) : rowAt σ2 x = rowAt σ x := by
  cases x <;> first | rfl | skip
  simp only [rowAt]
  rw [h _ (by simp [refs1])]
theorem rowsOf_congr {x : V} (h : ∀ o, o ∈ refs1 x → objAt σ2 o = objAt σ o) : rowsOf σ2 x = rowsOf σ x := by
  cases x <;> first | rfl | skip
  simp only [rowsOf]
  rw [h _ (by simp [refs1])]
theorem lenOf_congr {x : V} (h : ∀ o, o ∈ refs1 x → objAt σ2 o = objAt σ o) : lenOf σ2 x = lenOf σ x := by
  cases x <;> first | rfl | skip
  simp only [lenOf]
  rw [h _ (by simp [refs1])]
theorem fillRow_congr : ∀ (ps : List (Nat × Nat × Src)) (row : List V), (∀ s, s ∈ ps.map (·.2.2) → s.ev env2 = s.ev env) → fillRow env2 row ps = fillRow env row ps
  | [], _, _ => rfl
  | (off, n, s) :: ps, row, h => by
    simp only [fillRow]
    rw [h s (by simp)]
    split
    · split
      · exact fillRow_congr ps _ fun s hs => h s (by simp [hs])
      · rfl
    · rfl
theorem fillRows_congr {sz : Nat} : ∀ (ps : List (Nat × Src)) (rows : List (List V)), (∀ s, s ∈ ps.map (·.2) → s.ev env2 = s.ev env) → fillRows env2 sz rows ps = fillRows env sz rows ps
  | [], _, _ => rfl
  | (i, s) :: ps, rows, h => by
    simp only [fillRows]
    rw [h s (by simp)]
    split
    · split
      · exact fillRows_congr ps _ fun s hs => h s (by simp [hs])
      · rfl
    · rfl
theorem eff_congr (i : I) (hs : ∀ s, s ∈ i.srcs → s.ev env2 = s.ev env) (ho : ∀ o, o ∈ i.reads env → objAt σ2 o = objAt σ o) : i.eff env2 σ2 = i.eff env σ := by
  have hr : ∀ s, s ∈ i.mems → ∀ o, o ∈ refs1 (s.ev env) → objAt σ2 o = objAt σ o := fun s hs' o ho' => ho o (List.mem_flatMap.2 ⟨s, hs', ho'⟩)
  cases i with
  | mov x => simp only [I.eff]; rw [hs x (by simp [I.srcs])]
  | pick c a b => simp only [I.eff]; rw [hs c (by simp [I.srcs]), hs a (by simp [I.srcs]), hs b (by simp [I.srcs])]
  | alloc z => rfl
  | box x => simp only [I.eff]; rw [hs x (by simp [I.srcs])]
  | build z ps => simp only [I.eff]; rw [fillRow_congr ps z (fun s h => hs s (by simpa [I.srcs] using h))]
  | mkSl sz z ln ps => simp only [I.eff]; rw [fillRows_congr ps _ (fun s h => hs s (by simpa [I.srcs] using h))]
  | make z b x => simp only [I.eff]; rw [hs x (by simp [I.srcs])]
  | load n g a => simp only [I.eff]; rw [hs a (by simp [I.srcs]), rowAt_congr (hr a (by simp [I.mems]))]
  | store n a x =>
    simp only [I.eff]
    rw [hs a (by simp [I.srcs]), hs x (by simp [I.srcs])]
    have := hr a (by simp [I.mems])
    split
    · rename_i o r off cs e1 e2
      rw [this o (by rw [e1]; simp [refs1])]
    · rfl
  | fld d a =>
    simp only [I.eff]
    rw [hs a (by simp [I.srcs])]
    have := hr a (by simp [I.mems])
    split
    · rename_i o r off e1
      rw [this o (by rw [e1]; simp [refs1])]
    · rfl
    · rfl
  | idx sz x i =>
    simp only [I.eff]
    rw [hs x (by simp [I.srcs]), hs i (by simp [I.srcs])]
    have := hr x (by simp [I.mems])
    split
    · rename_i o s l e1
      rw [this o (by rw [e1]; simp [refs1])]
    · rfl
    · rfl
  | idxA c sz x i =>
    simp only [I.eff]
    rw [hs x (by simp [I.srcs]), hs i (by simp [I.srcs])]
    have := hr x (by simp [I.mems])
    split
    · rename_i o r off j e1 e2
      rw [this o (by rw [e1]; simp [refs1])]
    · rfl
    · rfl
  | idxS x i => simp only [I.eff]; rw [hs x (by simp [I.srcs]), hs i (by simp [I.srcs])]
  | len x => simp only [I.eff]; rw [hs x (by simp [I.srcs]), lenOf_congr (hr x (by simp [I.mems]))]
  | lenS x => simp only [I.eff]; rw [hs x (by simp [I.srcs])]
  | bin op x y => simp only [I.eff]; rw [hs x (by simp [I.srcs]), hs y (by simp [I.srcs])]
  | beq ne x y => simp only [I.eff]; rw [hs x (by simp [I.srcs]), hs y (by simp [I.srcs])]
  | aeq ne x y => simp only [I.eff]; rw [hs x (by simp [I.srcs]), hs y (by simp [I.srcs])]
  | un op x => simp only [I.eff]; rw [hs x (by simp [I.srcs])]
  | conv k x => simp only [I.eff]; rw [hs x (by simp [I.srcs])]
  | bstr x => simp only [I.eff]; rw [hs x (by simp [I.srcs]), rowsOf_congr (hr x (by simp [I.mems]))]
  | slice sz x lo hi =>
    have hl : ∀ n, loB env2 n lo = loB env n lo := by
      intro n
      cases lo with
      | none => rfl
      | some l => simp only [loB]; rw [hs l (by simp [I.srcs])]
    have hh : ∀ n, hiB env2 n hi = hiB env n hi := by
      intro n
      cases hi with
      | none => rfl
      | some l => simp only [hiB]; rw [hs l (by simp [I.srcs])]
    have := hr x (by simp [I.mems])
    simp only [I.eff]
    rw [hs x (by simp [I.srcs]), lenOf_congr this]
    simp only [hl, hh]
    split
    · split
      · split
        · split
          · rfl
          · rfl
          · rename_i o s l e1
            rw [this o (by rw [e1]; simp [refs1])]
          · rfl
        · rfl
      · rfl
    · rfl
  | sliceS x lo hi =>
    have hl : ∀ n, loB env2 n lo = loB env n lo := by
      intro n
      cases lo with
      | none => rfl
      | some l => simp only [loB]; rw [hs l (by simp [I.srcs])]
    have hh : ∀ n, hiB env2 n hi = hiB env n hi := by
      intro n
      cases hi with
      | none => rfl
      | some l => simp only [hiB]; rw [hs l (by simp [I.srcs])]
    simp only [I.eff]
    rw [hs x (by simp [I.srcs])]
    simp only [hl, hh]
  | app sz b x y =>
    have h1 := hr x (by simp [I.mems])
    have h2 := hr y (by simp [I.mems])
    simp only [I.eff]
    rw [hs x (by simp [I.srcs]), hs y (by simp [I.srcs]), rowsOf_congr h1, rowsOf_congr h2]
    split
    · split
      · rfl
      · split
        · split
          · rfl
          · rename_i o s l e1
            rw [h1 o (by rw [e1]; simp [refs1])]
          · rfl
        · rfl
    · rfl
  | max x y => simp only [I.eff]; rw [hs x (by simp [I.srcs]), hs y (by simp [I.srcs])]
  | extr i x => simp only [I.eff]; rw [hs x (by simp [I.srcs])]
  | chk x =>
    simp only [I.eff]
    rw [hs x (by simp [I.srcs])]
    have := hr x (by simp [I.mems])
    split
    · rename_i o r off e1
      rw [this o (by rw [e1]; simp [refs1])]
    · rfl
    · rfl
  | call f as => rfl
  | idxV c x i => simp only [I.eff]; rw [hs x (by simp [I.srcs]), hs i (by simp [I.srcs])]
theorem reach_congr : ∀ (n : Nat) (x : V), (∀ o, o ∈ reach σ n x → objAt σ2 o = objAt σ o) → resolve σ2 n x = resolve σ n x ∧ reach σ2 n x = reach σ n x
  | 0, x, _ => ⟨rfl, rfl⟩
  | n + 1, x, h => by
    have hl : ∀ (cs : List V), (∀ o, o ∈ cs.flatMap (reach σ n) → objAt σ2 o = objAt σ o) → cs.mapM (resolve σ2 n) = cs.mapM (resolve σ n) ∧ cs.flatMap (reach σ2 n) = cs.flatMap (reach σ n) := by
      intro cs
      induction cs with
      | nil => intro _; exact ⟨rfl, rfl⟩
      | cons c cs ih =>
        intro h
        simp only [List.flatMap_cons, List.mem_append] at h
        obtain ⟨a1, a2⟩ := reach_congr n c fun o ho => h o (.inl ho)
        obtain ⟨b1, b2⟩ := ih fun o ho => h o (.inr ho)
        simp only [List.mapM_cons, List.flatMap_cons, a1, a2, b1, b2, and_self]
    have hll : ∀ (rows : List (List V)), (∀ o, o ∈ (rows.flatMap fun r => r.flatMap (reach σ n)) → objAt σ2 o = objAt σ o) →
        (rows.mapM fun (r : List V) => r.mapM (resolve σ2 n)) = (rows.mapM fun (r : List V) => r.mapM (resolve σ n)) ∧ (rows.flatMap fun (r : List V) => r.flatMap (reach σ2 n)) = (rows.flatMap fun (r : List V) => r.flatMap (reach σ n)) := by
      intro rows
      induction rows with
      | nil => intro _; exact ⟨rfl, rfl⟩
      | cons c cs ih =>
        intro h
        simp only [List.flatMap_cons, List.mem_append] at h
        obtain ⟨a1, a2⟩ := hl c fun o ho => h o (.inl ho)
        obtain ⟨b1, b2⟩ := ih fun o ho => h o (.inr ho)
        simp only [List.mapM_cons, List.flatMap_cons, a1, a2, b1, b2, and_self]
    cases x <;> first | exact ⟨rfl, rfl⟩ | skip
    case agg cs =>
      simp only [reach] at h
      obtain ⟨a1, a2⟩ := hl cs h
      simp only [resolve, reach, a1, a2, and_self]
    case tup cs =>
      simp only [reach] at h
      obtain ⟨a1, a2⟩ := hl cs h
      simp only [resolve, reach, a1, a2, and_self]
    case msl o s l =>
      have ho : objAt σ2 o = objAt σ o := h o (by simp [reach])
      simp only [reach] at h
      simp only [resolve, reach, ho]
      cases hob : objAt σ o with
      | none => exact ⟨rfl, rfl⟩
      | some ob =>
        simp only [hob, List.mem_cons] at h
        obtain ⟨b1, b2⟩ := hll ob.rows fun q hq => h q (.inr hq)
        obtain ⟨c1, _⟩ := hll ((ob.rows.drop s).take l) fun q hq => h q (.inr (by
          obtain ⟨r, hr, hq⟩ := List.mem_flatMap.1 hq
          exact List.mem_flatMap.2 ⟨r, List.mem_of_mem_drop (List.mem_of_mem_take hr), hq⟩))
        simp only [b2, c1, and_self]
    case ptr o s l =>
      have ho : objAt σ2 o = objAt σ o := h o (by simp [reach])
      simp only [reach] at h
      simp only [resolve, reach, ho]
      cases hob : objAt σ o with
      | none => exact ⟨rfl, rfl⟩
      | some ob =>
        simp only [hob, List.mem_cons] at h
        obtain ⟨b1, b2⟩ := hll ob.rows fun q hq => h q (.inr hq)
        refine ⟨?_, by simp only [b2]⟩
        simp only []
        cases hrow : ob.rows[s]? with
        | none => rfl
        | some row =>
          simp only []
          obtain ⟨c1, _⟩ := hl row fun q hq => h q (.inr (List.mem_flatMap.2 ⟨row, List.mem_of_getElem? hrow, hq⟩))
          rw [c1]
end
def Eff.writes (id : Nat) : Eff → List (Nat × Option Obj)
  | .val _ => []
  | .newP ob => [(id, some ob)]
  | .newS ob _ => [(id, some ob)]
  | .upd o ob => [(o, some ob)]
  | .mov o ob _ => [(o, none), (id, some ob)]
theorem putW_eff (ef : Eff) (σ : Store) (id : Nat) : putW σ (ef.writes id) = ef.store σ id := by cases ef <;> rfl
theorem looks_src {x : OpI} {s : Src} (h : s ∈ x.i.srcs) {t : Nat} (ht : t ∈ s.tmps) : t ∈ x.looks := by
  simp only [OpI.looks, List.mem_append, List.mem_flatMap]; exact .inl ⟨s, h, ht⟩
theorem looks_g {x : OpI} {g : Nat} {want : Bool} (h : x.g = some (g, want)) : g ∈ x.looks := by
  simp [OpI.looks, h]
theorem fp_eff {T : Nat → Option Fn} {x : OpI} {st : St} {ef : Eff} (hg : ∀ g want, x.g = some (g, want) → st.env g = .bool want) (h : x.i.eff st.env st.objs = some ef) :
    Fp T ⟨x, x.i.reads st.env, ef.dv (st.base + x.k), ef.writes (st.base + x.k), none⟩ st := by
  intro st2 hag
  have h2 : x.i.eff st2.env st2.objs = some ef := by
    rw [← h]
    exact eff_congr x.i (fun s hs => src_congr fun t ht => hag.env t (looks_src hs ht)) (fun o ho => hag.objs o ho)
  have := Run.op (T := T) (st := st2) (fun g want hgw => (hag.env g (looks_g hgw)).trans (hg g want hgw)) h2
  have e : (⟨x, x.i.reads st.env, ef.dv (st.base + x.k), ef.writes (st.base + x.k), none⟩ : Dat).go st2 = ef.go st2 x.dst (st2.base + x.k) := by
    simp only [Dat.go, Eff.go, putW_eff, hag.base, Option.getD_none, List.append_nil]
  rw [e]; exact this
theorem fp_off {T : Nat → Option Fn} {x : OpI} {st : St} {g : Nat} {want : Bool} (hg : x.g = some (g, want)) (he : OffV want (st.env g)) : Fp T ⟨x, [], .tup [], [], none⟩ st := by
  intro st2 hag
  have e : (⟨x, [], .tup [], [], none⟩ : Dat).go st2 = { st2 with env := updO st2.env x.dst (.tup []) } := by
    simp only [Dat.go, putW, List.foldl_nil, Option.getD_none, List.append_nil]
  rw [e]
  exact Run.off hg (by rw [hag.env g (looks_g hg)]; exact he)
end Go.Ml
end
section
set_option linter.unusedSimpArgs false
namespace Go.Ml
def Post [Base] (M : Nat → Prop) (D : DM) (w : World) (k : Nat) (r : V) (σ' : Store) : Ending → World → Prop := fun e w' =>
  ∃ v D', e = .returned v ∧ rd w' D' (XS M D') r v ∧ SRel w' D' M σ' ∧ Gr (Own D) w w' ∧ (∀ o d, D' o = .live d → Own D d.blk ∨ w.heap.size ≤ d.blk) ∧ ∀ o, o < k → DSle (D o) (D' o)
section
variable (P : Program) (ν : Nat → Option Nat)
def FnOk [Base] (f : Nat) (args : List V) (σ : Store) (r : V) (σ' : Store) : Prop :=
  ∀ fid, ν fid = some f → ∀ w M D (vals : Array Value), rdL w D (XS M D) args vals.toList → SRel w D M σ → Calls P fid vals w (Post M D w σ.length r σ')
def OpOk [Base] (x : OpI) (st st' : St) : Prop :=
  st'.base = st.base ∧ st'.keep = st.keep ∧ st.objs.length ≤ st'.objs.length ∧
  ∀ (ops : Array Oper) (dr : Bool) (nt m k : Nat) (o : Oper), trOp P ν ops dr nt m k o = some x → ∀ M w0 D0 D a w, SR nt M w0 D0 st D a w →
    (x.i.makes = true → st.base + x.k < st.objs.length ∧ D (st.base + x.k) = .unborn) → ∀ (K : Act → World → Prop) (Q : Exit → Act → World → Prop),
    (∀ D' a' w', SR nt M w0 D0 st' D' a' w' → (∀ o, st.base ≤ o → o < st.objs.length → D o = .unborn → o ≠ st.base + x.k → D' o = .unborn) → K a' w') →
    if Region.wanted o (yielded ops a.tmps) then o.wp P a w K Q else K (a.put o.dst undef) w
def OpsOk [Base] (l : List OpI) (st st' : St) : Prop :=
  st'.base = st.base ∧ st'.keep = st.keep ∧ st.objs.length ≤ st'.objs.length ∧
  ∀ (ops : Array Oper) (dr : Bool) (nt m k : Nat) (rest : List Oper), trOps P ν ops dr nt m k rest = some l → okK m l = true → ∀ M w0 D0 D a w, SR nt M w0 D0 st D a w →
    (∀ x ∈ l, x.i.makes = true → st.base + x.k < st.objs.length ∧ D (st.base + x.k) = .unborn) → ∀ (Q : Exit → Act → World → Prop),
    (∀ D' a' w', SR nt M w0 D0 st' D' a' w' → Q .normal a' w') → wpList P ops Q rest a w
def AnyOk [Base] (l : List OpI) (done : List Nat) (st st' : St) : Prop :=
  st'.base = st.base ∧ st'.keep = st.keep ∧ st.objs.length ≤ st'.objs.length ∧
  ∀ (ops : Array Oper) (nt m : Nat), trOps P ν ops true nt m 0 ops.toList = some l → okK m l = true → ∀ M w0 D0 D a w, SR nt M w0 D0 st D a w →
    (∀ i x, l[i]? = some x → i ∉ done → x.i.makes = true → st.base + x.k < st.objs.length ∧ D (st.base + x.k) = .unborn) → ∀ (Q : Exit → Act → World → Prop),
    (∀ D' a' w', SR nt M w0 D0 st' D' a' w' → Q .normal a' w') → ∀ (fuel : Nat) (listed : Array Bool), listed.size = ops.size → (∀ i, listed.getD i false = true ↔ i ∈ done) → listed.toList.count false ≤ fuel → wpAny P .any ops Q fuel listed a w
def CodeOk [Base] (c : C) (e : Ex) (st st' : St) : Prop :=
  st'.keep = st.keep ∧
  ∀ (nt : Nat) (cc : Code), trC P ν nt cc = some c → ∀ M w0 D0 D a w, SR nt M w0 D0 st D a w → ∀ (Q : Exit → Act → World → Prop),
    (∀ D' a' w', SR nt M w0 D0 st' D' a' w' → Q (exOf e) a' w') → cc.wp P Q a w
def LoopOk [Base] (c : C) (e : Ex) (st st' : St) : Prop :=
  ∀ (nt : Nat) (cc : Code), trC P ν nt cc = some c → ∀ M w0 D0 D a w, SR nt M w0 D0 st D a w → ∀ (Q : Exit → Act → World → Prop),
    (∀ D' a' w', SR nt M w0 D0 st' D' a' w' → Q (exOf e) a' w') → ∀ b k cs, ∃ x a' w', Q x a' w' ∧ Arrives P (lone (b.at a (.code cc :: .inLoop cc :: k)) cs w) b k cs x a' w'
def Sound [Base] : Job → Out → Prop
  | .code c st, .code e st' => CodeOk P ν c e st st' ∧ ∀ x, c = .loop x → LoopOk P ν x e st st'
  | .ops l st, .code e st' => e = .normal ∧ OpsOk P ν l st st'
  | .op o st, .code e st' => e = .normal ∧ OpOk P ν o st st'
  | .any l done st, .code e st' => e = .normal ∧ AnyOk P ν l done st st'
  | .fn f args σ, .fn r σ' => FnOk P ν f args σ r σ'
  | _, _ => True
end
section
variable {P : Program} {ν : Nat → Option Nat} {nt : Nat} {M : Nat → Prop} {w0 : World} {D0 : DM} {st : St} {D : DM} {a : Act} {w : World}
theorem trOp_spec {ops : Array Oper} {dr : Bool} {m k : Nat} {o : Oper} {x : OpI} (h : trOp P ν ops dr nt m k o = some x) :
    trI P ν o = some x.i ∧ o.dst = x.dst ∧ (∀ d, o.dst = some d → d < nt) ∧
      ((o.guard = none ∧ x.g = none) ∨ ∃ j want t, o.guard = some (j, want) ∧ (ops[j]?).bind (·.dst) = some t ∧ x.g = some (t, want)) := by
  unfold trOp at h
  split at h <;> first | (cases h; done) | skip
  rename_i i g hi hg
  split at h <;> first | (cases h; done) | skip
  rename_i hd
  simp only [Option.some.injEq] at h; subst h
  refine ⟨hi, rfl, fun d hd' => by simp [hd', okDst] at hd; exact hd, ?_⟩
  unfold trG at hg
  split at hg
  · rename_i h1
    simp only [Option.some.injEq] at hg
    exact .inl ⟨h1, hg.symm⟩
  · rename_i j want h1
    split at hg <;> first | (cases hg; done) | skip
    rename_i t ht
    simp only [Option.some.injEq] at hg
    exact .inr ⟨j, want, t, h1, ht, hg.symm⟩
theorem tmps_bool {t : Nat} {b : Bool} (h : a.tmps.getD t undef = .bool b) : a.tmps[t]? = some (.bool b) := by
  rw [Array.getD_eq_getD_getElem?] at h
  cases ht : a.tmps[t]? with
  | none => rw [ht] at h; simp [undef] at h
  | some v => rw [ht] at h; simp at h; rw [h]
theorem wanted_iff [Base] {ops : Array Oper} {o : Oper} {x : OpI} (hs : SR nt M w0 D0 st D a w)
    (hg : (o.guard = none ∧ x.g = none) ∨ ∃ j want t, o.guard = some (j, want) ∧ (ops[j]?).bind (·.dst) = some t ∧ x.g = some (t, want)) :
    ((∀ g want, x.g = some (g, want) → st.env g = .bool want) → Region.wanted o (yielded ops a.tmps) = true) ∧
      (∀ g want, x.g = some (g, want) → OffV want (st.env g) → Region.wanted o (yielded ops a.tmps) = false) := by
  rcases hg with ⟨h1, h2⟩ | ⟨j, want, t, h1, h2, h3⟩
  · exact ⟨fun _ => by simp [Region.wanted, h1], fun g want h => by rw [h2] at h; cases h⟩
  · have key : ∀ b, st.env t = .bool b → yielded ops a.tmps j = some b := by
      intro b hb
      have := hs.env t
      rw [hb] at this
      simp only [rd] at this
      simp only [yielded, h2, Option.bind_some, tmps_bool this]
    have key2 : st.env t = .tup [] → yielded ops a.tmps j = none := by
      intro hb
      have := hs.env t
      rw [hb] at this
      simp only [rd, rdL] at this
      obtain ⟨q, e1, e2⟩ := this
      have e3 : q = #[] := by cases q; simp_all
      simp only [yielded, h2, Option.bind_some]
      cases e : a.tmps[t]? with
      | none => rfl
      | some v =>
        rw [Array.getD_eq_getD_getElem?, e] at e1
        simp only [Option.getD_some] at e1
        rw [e1]
    refine ⟨fun h => ?_, fun g want' h hoff => ?_⟩
    · simp only [Region.wanted, h1, key _ (h t want h3)]; simp
    · rw [h3] at h; cases h
      rcases hoff with hu | ⟨b, hb, hne⟩
      · simp only [Region.wanted, h1, key2 hu]; rfl
      · simp only [Region.wanted, h1, key _ hb]
        simpa using hne
theorem op_wp {o : Oper} {K : Act → World → Prop} {Q : Exit → Act → World → Prop} {r : Next} {v : Value} {w' : World} (h : (execOp a.eval o).run P w = .ok r w') (hg : Gives r v) (hK : K (a.put o.dst v) w') : o.wp P a w K Q := by
  unfold Oper.wp
  rw [h]
  rcases hg with rfl | ⟨rfl, rfl⟩ <;> exact hK
theorem storeLen (σ : Store) (id : Nat) (ef : Eff) : (ef.store σ id).length = σ.length := by cases ef <;> simp [Eff.store]
theorem opOk_op [Base] {x : OpI} {ef : Eff} (hg : ∀ g want, x.g = some (g, want) → st.env g = .bool want) (h : x.i.eff st.env st.objs = some ef) : OpOk P ν x st (ef.go st x.dst (st.base + x.k)) := by
  refine ⟨rfl, rfl, by simp [Eff.go, storeLen], ?_⟩
  intro ops dr nt m k o htr M w0 D0 D a w hs hid K Q hK
  obtain ⟨t1, t2, t3, t4⟩ := trOp_spec htr
  rw [if_pos ((wanted_iff hs t4).1 hg)]
  obtain ⟨r, v, w', e1, e2, e3⟩ := eff_ok o t1 h hs.store hs.env hid
  obtain ⟨D', s1, s2⟩ := hs.step e3 (dst := x.dst) (fun d hd => t3 d (t2.trans hd))
  refine op_wp e1 e2 ?_
  rw [t2]
  exact hK D' _ w' s1 fun o _ _ => s2 o
theorem opOk_off [Base] {x : OpI} {g : Nat} {want : Bool} (hg : x.g = some (g, want)) (he : OffV want (st.env g)) : OpOk P ν x st { st with env := updO st.env x.dst (.tup []) } := by
  refine ⟨rfl, rfl, Nat.le_refl _, ?_⟩
  intro ops dr nt m k o htr M w0 D0 D a w hs hid K Q hK
  obtain ⟨t1, t2, t3, t4⟩ := trOp_spec htr
  rw [if_neg (by rw [(wanted_iff hs t4).2 g want hg he]; simp)]
  obtain ⟨D', s1, s2⟩ := hs.step (done_val (id := 0) hs.store (x := .tup []) (v := undef) (by simp only [rd, rdL]; exact ⟨#[], rfl, rfl⟩)) (dst := x.dst) (fun d hd => t3 d (t2.trans hd))
  have : D' = D' := rfl
  rw [t2]
  refine hK D _ w ⟨rd_put hs.env (fun d hd => by rw [hs.tm]; exact t3 d (t2.trans hd)) (by simp only [rd, rdL]; exact ⟨#[], rfl, rfl⟩), ?_, ?_, hs.store, hs.gr, hs.fr, hs.kp⟩ fun _ _ _ h _ => h
  · rw [← hs.tm]; cases x.dst <;> simp [Act.put]
  · rw [← hs.df]; cases x.dst <;> rfl
end
end Go.Ml
end
section
set_option linter.unusedSimpArgs false
namespace Go.Ml
theorem objAt_kill : ∀ (R : List Nat) (σ : Store) (o : Nat), objAt (killAll σ R) o = if o ∈ R then none else objAt σ o
  | [], σ, o => by simp [killAll]
  | r :: R, σ, o => by
    have ih := objAt_kill R (σ.set r none) o
    simp only [killAll, List.foldl_cons] at ih ⊢
    rw [ih]
    by_cases h1 : o ∈ R
    · simp [h1]
    · by_cases h2 : o = r
      · subst h2
        simp only [h1, if_false, List.mem_cons, true_or, if_true]
        unfold objAt
        rw [List.getElem?_set]
        simp only [if_true]
        split <;> rfl
      · simp only [h1, if_false, List.mem_cons, h2, or_self]
        unfold objAt
        rw [List.getElem?_set, if_neg (fun k => h2 k.symm)]
theorem len_kill : ∀ (R : List Nat) (σ : Store), (killAll σ R).length = σ.length
  | [], _ => rfl
  | r :: R, σ => by simpa [killAll] using len_kill R (σ.set r none)
def DM.kill (D : DM) (R : List Nat) : DM := fun o => if o ∈ R then (match D o with | .unborn => .unborn | _ => .dead) else D o
theorem kill_le (D : DM) (R : List Nat) (o : Nat) : DSle (D o) (D.kill R o) := by
  unfold DM.kill
  split
  · cases D o <;> simp [DSle]
  · exact DSle.refl _
theorem kill_live {D : DM} {R : List Nat} {o : Nat} {d : Desc} (h : D.kill R o = .live d) : D o = .live d ∧ o ∉ R := by
  unfold DM.kill at h
  split at h
  · cases hD : D o <;> simp [hD] at h
  · rename_i hn; exact ⟨h, hn⟩
theorem SRel.killed [Base] {w w' : World} {D : DM} {M : Nat → Prop} {σ : Store} (h : SRel w D M σ) (R : List Nat) (hsz : w.heap.size ≤ w'.heap.size) (hb : ∀ b, b < w.heap.size → w'.heap[b]? = w.heap[b]?) :
    SRel w' (D.kill R) M (killAll σ R) ∧ Ext w D (XS M D) w' (D.kill R) (XS M (D.kill R)) := by
  have E : Ext w D (XS M D) w' (D.kill R) (XS M (D.kill R)) :=
    ⟨hsz, fun b hb' _ => hb b hb', fun b _ k => k.imp id fun ⟨o, d, h1, h2⟩ => ⟨o, d, (kill_live h1).1, h2⟩, kill_le D R⟩
  refine ⟨⟨?_, ?_, ?_, ?_, fun b hM => Nat.lt_of_lt_of_le (h.mlt b hM) hsz, h.tab.ext E⟩, E⟩
  · intro o d ho
    obtain ⟨ho, hR⟩ := kill_live ho
    obtain ⟨ob, c, e, h1, h2, h3, h4, h5, h6, h7, h8, h9, h10, h11⟩ := h.live o d ho
    refine ⟨ob, c, e, by rw [objAt_kill, if_neg hR]; exact h1, h2, h3, h4, h5, Nat.lt_of_lt_of_le h6 hsz, by rw [hb _ h6]; exact h7, h8, h9, h10, fun i x hi => ?_⟩
    obtain ⟨k0, y, k1, k2⟩ := h11 i x hi
    exact ⟨k0, y, k1, rd_mono _ _ E k2⟩
  · intro o ob ho
    rw [objAt_kill] at ho
    split at ho
    · cases ho
    · rename_i hR
      obtain ⟨d, hd⟩ := h.alive o ob ho
      exact ⟨d, by simp only [DM.kill, if_neg hR]; exact hd⟩
  · intro o o' d d' ho ho' hbb
    exact h.inj o o' d d' (kill_live ho).1 (kill_live ho').1 hbb
  · intro o ho
    rw [len_kill] at ho
    have := h.far o ho
    simp only [DM.kill, this]
    split <;> rfl
section
variable {P : Program} {ν : Nat → Option Nat} {nt : Nat} {M : Nat → Prop} {w0 : World} {D0 : DM} {st : St} {D : DM} {a : Act} {w : World}
theorem run_call_op {o : Oper} {f : Nat} {as : List Src} (h : trI P ν o = some (.call f as)) : ∃ fid xs, ν fid = some f ∧ trArgs xs = some as ∧
    ∀ (a : Act) (w : World), (execOp a.eval o).run P w = .ok (.enter fid (xs.map a.eval).toArray) w := by
  obtain ⟨dst, op, type, pos, after, guard⟩ := o
  cases op with
  | call c =>
    obtain ⟨callee, args, argTypes⟩ := c
    cases callee with
    | invoke r m => simp [trI] at h
    | builtin b =>
      cases b <;> simp [trI] at h
      all_goals (repeat (split at h <;> first | (cases h; done) | skip))
    | value f' =>
      cases f' with
      | func fid =>
        simp only [trI] at h
        split at h <;> first | (cases h; done) | skip
        rename_i n fn as' h1 h2 h3
        split at h <;> first | (cases h; done) | skip
        rename_i hc
        simp only [Option.some.injEq, I.call.injEq] at h
        obtain ⟨rfl, rfl⟩ := h
        refine ⟨fid, args.toList, h1, h3, fun a w => ?_⟩
        have hb : fn.body.isNone = false := by
          have := hc.1
          cases hb : fn.body <;> simp_all
        have harr : (args.toList.map a.eval).toArray = args.map a.eval := by apply Array.ext'; simp
        simp only [execOp, Go.resolve, invoke, Sem.run_bind, Deferred.ofValue, Act.eval, Sem.run_pure, Result.andThen_ok, callFunc, run_program, h2, hc.2, hb, Bool.false_eq_true, if_false, Array.append_empty, Array.empty_append, harr]
      | _ => simp [trI] at h
  | slice t x lo hi mx =>
    exfalso
    cases mx with
    | some m => simp [trI] at h
    | none =>
      simp only [trI] at h
      repeat (split at h <;> first | (cases h; done) | skip)
  | build t parts =>
    exfalso
    simp only [trI] at h
    split at h <;> first | (cases h; done) | skip
    split at h <;> first | (cases h; done) | skip
    simp [Option.map_eq_some_iff] at h
  | _ =>
    exfalso
    simp only [trI] at h
    first
      | (simp [Option.map_eq_some_iff] at h; done)
      | (repeat (split at h <;> first | (cases h; done) | skip))
theorem trArgs_rd [Base] {σ : Store} (hS : SRel w D M σ) {env : Nat → V} (he : ∀ t, rd w D (XS M D) (env t) (a.tmps.getD t undef)) {R : List Nat} :
    ∀ (xs : List Operand) {as : List Src} {as' : List V}, trArgs xs = some as → as.mapM (fun s => resolve σ FD (s.ev env)) = some as' → (∀ o, o ∈ as.flatMap (fun s => reach σ FD (s.ev env)) → o ∈ R) →
      rdL w DM.none (fun b => M b ∨ ∃ o d, D o = .live d ∧ d.blk = b ∧ o ∉ R) as' (xs.map a.eval)
  | [], as, as', h, hm, _ => by
    simp only [trArgs, Option.some.injEq] at h; subst h
    simp at hm; subst hm
    simp [rdL]
  | x :: xs, as, as', h, hm, hR => by
    simp only [trArgs] at h
    split at h <;> first | (cases h; done) | skip
    rename_i s r h1 h2
    simp only [Option.some.injEq] at h; subst h
    simp only [List.mapM_cons, Option.pure_def, Option.bind_eq_bind, Option.bind_eq_some_iff, Option.some.injEq] at hm
    obtain ⟨v, k1, r', k2, rfl⟩ := hm
    simp only [List.map_cons, rdL]
    refine ⟨_, _, rfl, rd_resolve hS FD _ _ _ k1 (fun o ho => hR o (by simp [ho])) (rd_src he h1), trArgs_rd hS he xs h2 k2 (fun o ho => hR o ?_)⟩
    simp only [List.flatMap_cons, List.mem_append]; exact .inr ho
theorem trArgs_map [Base] {env : Nat → V} (he : ∀ t, rd w D (XS M D) (env t) (a.tmps.getD t undef)) {D' : DM} {g : Nat → Option Nat} (hg : ∀ o o', g o = some o' → DSle (D o) (D' o')) :
    ∀ (xs : List Operand) {as : List Src}, trArgs xs = some as → rdL w D' (XS M D) (as.map fun s => mapV g (s.ev env)) (xs.map a.eval)
  | [], as, h => by simp only [trArgs, Option.some.injEq] at h; subst h; simp [rdL]
  | x :: xs, as, h => by
    simp only [trArgs] at h
    split at h <;> first | (cases h; done) | skip
    rename_i s r h1 h2
    simp only [Option.some.injEq] at h; subst h
    simp only [List.map_cons, rdL]
    exact ⟨_, _, rfl, rd_map hg _ _ (rd_src he h1), trArgs_map he hg xs h2⟩
theorem rdL_mono' {X X' : Nat → Prop} {xs : List V} {ys : List Value} (h : rdL w D X xs ys) (hX : ∀ b, X' b → X b) : rdL w D X' xs ys :=
  rdL_mono xs ys ⟨Nat.le_refl _, fun _ _ _ => rfl, fun b _ => hX b, fun _ => DSle.refl _⟩ h
theorem enter_wp {o : Oper} {K : Act → World → Prop} {Q : Exit → Act → World → Prop} {f : FuncId} {args : Array Value} (h : (execOp a.eval o).run P w = .ok (.enter f args) w)
    {R : Value → World → Prop} (hc : Calls P f args w fun e w' => ∃ v, e = .returned v ∧ R v w') (hK : ∀ v w', R v w' → K (a.put o.dst v) w') : o.wp P a w K Q := by
  unfold Oper.wp
  rw [h]
  refine hc.mono ?_
  rintro e w' ⟨v, rfl, hr⟩
  exact hK v w' hr
theorem opOk_callP [Base] {x : OpI} {f : Nat} {as : List Src} {as' : List V} {r : V} {R : List Nat} (hg : ∀ g want, x.g = some (g, want) → st.env g = .bool want) (hi : x.i = .call f as)
    (ha : as.mapM (fun s => resolve st.objs FD (s.ev st.env)) = some as') (ih : FnOk P ν f as' [] r [])
    (hR : R = if scalar SD r then [] else as.flatMap fun s => reach st.objs FD (s.ev st.env)) :
    OpOk P ν x st { st with env := updO st.env x.dst r, objs := killAll st.objs R } := by
  refine ⟨rfl, rfl, by simp [len_kill], ?_⟩
  intro ops dr nt m k o htr M w0 D0 D a w hs _ K Q hK
  obtain ⟨t1, t2, t3, t4⟩ := trOp_spec htr
  rw [if_pos ((wanted_iff hs t4).1 hg)]
  rw [hi] at t1
  obtain ⟨fid, xs, c1, c2, c3⟩ := run_call_op t1
  have hrd := trArgs_rd hs.store hs.env xs c2 ha (R := as.flatMap fun s => reach st.objs FD (s.ev st.env)) (fun o h => h)
  let X' : Nat → Prop := fun b => M b ∨ ∃ o d, D o = .live d ∧ d.blk = b ∧ o ∉ as.flatMap fun s => reach st.objs FD (s.ev st.env)
  have hX : ∀ b, XS X' DM.none b → X' b := by
    rintro b (h | ⟨o, d, h, _⟩)
    · exact h
    · simp [DM.none] at h
  have hlt : ∀ b, X' b → b < w.heap.size := by
    rintro b (h | ⟨o, d, h, rfl, _⟩)
    · exact hs.store.mlt b h
    · obtain ⟨_, _, _, _, _, _, _, _, h6, _⟩ := hs.store.live o d h
      exact h6
  have hcall := ih fid c1 w X' DM.none (xs.map a.eval).toArray (by simpa using rdL_mono' hrd hX)
    ⟨fun o d h => by simp [DM.none] at h, fun o ob h => by simp [objAt] at h, fun o o' d d' h => by simp [DM.none] at h, fun _ _ => rfl, hlt, hs.store.tab.sub fun b hb => (hX b hb).imp id fun ⟨o, d, h, k, _⟩ => ⟨o, d, h, k⟩⟩
  refine enter_wp (c3 a w) (R := fun v w' => ∃ D'c, rd w' D'c (XS X' D'c) r v ∧ SRel w' D'c X' [] ∧ Gr (Own DM.none) w w') (hcall.mono ?_) ?_
  · rintro e w' ⟨v, D', rfl, h1, h2, h3, _⟩
    exact ⟨v, rfl, D', h1, h2, h3⟩
  · rintro v w' ⟨D'c, h1, h2, h3⟩
    have hsame : ∀ b, b < w.heap.size → w'.heap[b]? = w.heap[b]? := fun b hb => h3.block b hb (by rintro ⟨o, d, h, _⟩; simp [DM.none] at h)
    have hk := hs.store.killed R h3.size hsame
    have hr : rd w' (D.kill R) (XS M (D.kill R)) r v := by
      by_cases hsc : scalar SD r = true
      · exact rd_scalar SD r v hsc h1
      · rw [if_neg hsc] at hR
        refine rd_mono r v ⟨Nat.le_refl _, fun _ _ _ => rfl, fun b _ hb => ?_, fun o => by rw [h2.far o (Nat.zero_le _)]; trivial⟩ h1
        rcases hb with h | ⟨o, d, ho, hbb⟩
        · exact .inl (.inl h)
        · obtain ⟨k1, k2⟩ := kill_live ho
          exact .inl (.inr ⟨o, d, k1, hbb, by rw [← hR]; exact k2⟩)
    rw [t2]
    refine hK (D.kill R) _ w' ⟨rd_put (fun t => rd_mono _ _ hk.2 (hs.env t)) (fun d hd => by rw [hs.tm]; exact t3 d (t2.trans hd)) hr, ?_, ?_, hk.1, ?_, ?_, fun o ho => (hs.kp o ho).trans (kill_le D R o)⟩ ?_
    · rw [← hs.tm]; cases x.dst <;> simp [Act.put]
    · rw [← hs.df]; cases x.dst <;> rfl
    · exact hs.gr.trans (h3.mono fun b _ ⟨o, d, h, _⟩ => by simp [DM.none] at h)
    · intro o d ho; exact hs.fr o d (kill_live ho).1
    · intro o _ _ h _; simp only [DM.kill, h]; split <;> rfl
end
end Go.Ml
end
section
set_option linter.unusedSimpArgs false
namespace Go.Ml
theorem place_some : ∀ {ρ : List Nat} {o j : Nat}, place ρ o = some j → ρ[j]? = some o
  | [], o, j, h => by simp [place] at h
  | r :: ρ, o, j, h => by
    simp only [place] at h
    split at h
    · rename_i e; cases h; simp [e]
    · simp only [Option.map_eq_some_iff] at h
      obtain ⟨k, h1, rfl⟩ := h
      simpa using place_some h1
theorem place_none : ∀ {ρ : List Nat} {o : Nat}, place ρ o = none → o ∉ ρ
  | [], _, _ => by simp
  | r :: ρ, o, h => by
    simp only [place] at h
    split at h
    · cases h
    · rename_i e
      simp only [Option.map_eq_none_iff] at h
      simp only [List.mem_cons, not_or]
      exact ⟨fun k => e k.symm, place_none h⟩
theorem place_get [Base] {ρ : List Nat} (hn : ρ.Nodup) {o j : Nat} (h : ρ[j]? = some o) : place ρ o = some j := by
  cases hp : place ρ o with
  | none => exact absurd (List.mem_of_getElem? h) (place_none hp)
  | some i =>
    have := place_some hp
    have hi := (List.getElem?_eq_some_iff.1 this)
    have hj := (List.getElem?_eq_some_iff.1 h)
    congr 1
    exact (List.getElem_inj (h₀ := hi.1) (h₁ := hj.1) hn).1 (hi.2.trans hj.2.symm)
def DM.pick (D : DM) (ρ : List Nat) : DM := fun j => match ρ[j]? with
  | .some o => D o
  | .none => .unborn
theorem pick_place [Base] {D : DM} {ρ : List Nat} (o j : Nat) (h : place ρ o = some j) : DSle (D o) (D.pick ρ j) := by
  simp only [DM.pick, place_some h]; exact DSle.refl _
theorem objAt_gcS {ρ : List Nat} {σ : Store} {j : Nat} : objAt (gcS ρ σ) j = match ρ[j]? with
    | some o => (objAt σ o).map (mapO (place ρ))
    | none => none := by
  unfold gcS
  rw [objAt, List.getElem?_map]
  cases ρ[j]? <;> rfl
theorem flatten_mapO {g : Nat → Option Nat} (ob : Obj) : (mapO g ob).rows.flatten = ob.rows.flatten.map (mapV g) := by
  simp [mapO, List.map_flatten]
section
variable {w : World} {D : DM} {M M' : Nat → Prop} {σ : Store} {ρ : List Nat}
theorem xs_pick (hM : ∀ b, M' b → XS M D b) : ∀ b, XS M' (D.pick ρ) b → XS M D b := by
  rintro b (h | ⟨j, d, hj, rfl⟩)
  · exact hM b h
  · simp only [DM.pick] at hj
    split at hj
    · exact .inr ⟨_, d, hj, rfl⟩
    · cases hj
theorem SRel.gcS [Base] (h : SRel w D M σ) (hn : ρ.Nodup) (hM : ∀ b, M' b → M b ∨ ∃ o d, D o = .live d ∧ d.blk = b ∧ o ∉ ρ) : SRel w (D.pick ρ) M' (gcS ρ σ) := by
  have hX : ∀ b, XS M' (D.pick ρ) b → XS M D b := xs_pick fun b hb => (hM b hb).imp id fun ⟨o, d, h1, h2, _⟩ => ⟨o, d, h1, h2⟩
  have live' : ∀ j d, D.pick ρ j = .live d → ∃ o, ρ[j]? = some o ∧ D o = .live d := by
    intro j d hj
    simp only [DM.pick] at hj
    split at hj
    · exact ⟨_, by assumption, hj⟩
    · cases hj
  refine ⟨?_, ?_, ?_, ?_, ?_, h.tab.sub hX⟩
  · intro j d hj
    obtain ⟨o, ho, hd⟩ := live' j d hj
    obtain ⟨ob, c, e, h1, h2, h3, h4, h5, h6, h7, h8, h9, h10, h11⟩ := h.live o d hd
    refine ⟨mapO (place ρ) ob, c, e, by rw [objAt_gcS, ho]; simp [h1], h2, by simp [mapO, h3], h4, ?_, h6, h7, h8, h9, ?_, fun i x hi => ?_⟩
    · intro hb
      rcases hM _ hb with hb | ⟨o', d', ho', hbb, hnr⟩
      · exact h5 hb
      · exact hnr (h.inj o' o d' d ho' hd hbb ▸ List.mem_of_getElem? ho)
    · intro r hr
      simp only [mapO, List.mem_map] at hr
      obtain ⟨r0, hr0, rfl⟩ := hr
      simpa [mapO] using h10 r0 hr0
    · rw [flatten_mapO, List.getElem?_map, Option.map_eq_some_iff] at hi
      obtain ⟨x0, hx0, rfl⟩ := hi
      obtain ⟨k0, y, k1, k2⟩ := h11 i x0 hx0
      refine ⟨leaf_map k0, y, k1, ?_⟩
      exact rd_mono _ _ ⟨Nat.le_refl _, fun _ _ _ => rfl, fun b _ => hX b, fun _ => DSle.refl _⟩ (rd_map (D' := D.pick ρ) (fun o j => pick_place o j) x0 y k2)
  · intro j ob hj
    rw [objAt_gcS] at hj
    split at hj
    · rename_i o ho
      simp only [Option.map_eq_some_iff] at hj
      obtain ⟨ob0, h1, _⟩ := hj
      obtain ⟨d, hd⟩ := h.alive o ob0 h1
      exact ⟨d, by simp only [DM.pick, ho]; exact hd⟩
    · cases hj
  · intro j j' d d' hj hj' hb
    obtain ⟨o, ho, hd⟩ := live' j d hj
    obtain ⟨o', ho', hd'⟩ := live' j' d' hj'
    have := h.inj o o' d d' hd hd' hb
    subst this
    have e1 := place_get hn ho
    have e2 := place_get hn ho'
    rw [e1] at e2; exact Option.some.inj e2
  · intro j hj
    simp only [DM.pick]
    rw [List.getElem?_eq_none (by simpa [Ml.gcS] using hj)]
  · intro b hb
    rcases hM b hb with hb | ⟨o, d, ho, rfl, _⟩
    · exact h.mlt b hb
    · obtain ⟨_, _, _, _, _, _, _, _, h6, _⟩ := h.live o d ho
      exact h6
end
section
variable {P : Program} {ν : Nat → Option Nat} {nt : Nat} {M : Nat → Prop} {w0 : World} {D0 : DM} {st : St} {D : DM} {a : Act} {w : World}
theorem rd_pick [Base] {ρ : List Nat} {x : V} {v : Value} (h : rd w D (XS M D) x v) : rd w (D.pick ρ) (XS M (D.pick ρ)) (mapV (place ρ) x) v :=
  rd_mono _ _ ⟨Nat.le_refl _, fun _ _ _ => rfl, fun b _ => xs_pick (fun _ h => .inl h) b, fun _ => DSle.refl _⟩ (rd_map (D' := D.pick ρ) (fun o j => pick_place o j) x v h)
theorem SR.gc [Base] {ρ : List Nat} (h : SR nt M w0 D0 st D a w) (hn : ρ.Nodup) (hρ : ∀ i, i < st.keep → ρ[i]? = some i) : SR nt M w0 D0 (st.gc ρ) (D.pick ρ) a w := by
  refine ⟨fun t => rd_pick (h.env t), h.tm, h.df, h.store.gcS hn (fun b hb => .inl hb), h.gr, ?_, ?_⟩
  · intro j d hj
    simp only [DM.pick] at hj
    split at hj
    · exact h.fr _ d hj
    · cases hj
  · intro o ho
    have ho' : o < st.keep := ho
    simp only [DM.pick, hρ o ho']
    exact h.kp o ho'
theorem fnOk_gcF [Base] {f : Nat} {args : List V} {σ σ' : Store} {r : V} {ρ : List Nat} (hn : ρ.Nodup) (hρ : ∀ i, i < σ.length → ρ[i]? = some i) (ih : FnOk P ν f args σ r σ') :
    FnOk P ν f args σ (mapV (place ρ) r) (gcS ρ σ') := by
  intro fid hf w M D vals h1 h2
  refine (ih fid hf w M D vals h1 h2).mono ?_
  rintro e w' ⟨v, D', rfl, k1, k2, k3, k4, k5⟩
  refine ⟨v, D'.pick ρ, rfl, rd_pick k1, k2.gcS hn (fun b hb => .inl hb), k3, ?_, ?_⟩
  · intro j d hj
    simp only [DM.pick] at hj
    split at hj
    · exact k4 _ d hj
    · cases hj
  · intro o ho
    simp only [DM.pick, hρ o ho]
    exact k5 o ho
theorem fnOk_frz [Base] {f : Nat} {args : List V} {σ' : Store} {r r' : V} (hr : resolve σ' FD r = some r') (ih : FnOk P ν f args [] r σ') : FnOk P ν f args [] r' [] := by
  intro fid hf w M D vals h1 h2
  refine (ih fid hf w M D vals h1 h2).mono ?_
  rintro e w' ⟨v, D', rfl, k1, k2, k3, k4, k5⟩
  refine ⟨v, DM.none, rfl, ?_, ?_, k3, fun o d h => by simp [DM.none] at h, fun o ho => by simp at ho⟩
  · have := rd_resolve k2 (R := reach σ' FD r) FD r r' v hr (fun o h => h) k1
    refine rd_mono _ _ ⟨Nat.le_refl _, fun _ _ _ => rfl, fun b _ hb => ?_, fun _ => DSle.refl _⟩ this
    rcases hb with h | ⟨o, d, h, _⟩
    · exact .inl h
    · simp [DM.none] at h
  · exact ⟨fun o d h => by simp [DM.none] at h, fun o ob h => by simp [objAt] at h, fun o o' d d' h => by simp [DM.none] at h, fun _ _ => rfl, k2.mlt, k2.tab.sub fun b hb => .inl (hb.elim id fun ⟨o, d, h, _⟩ => by simp [DM.none] at h)⟩
theorem objAt_putBack {ρ : List Nat} {σ σ' : Store} {o : Nat} : objAt (putBack ρ σ σ') o = if o < σ.length then
      (match place ρ o with | some j => (objAt σ' j).map (mapO (back ρ σ.length)) | none => objAt σ o)
    else (objAt σ' (ρ.length + (o - σ.length))).map (mapO (back ρ σ.length)) := by
  unfold putBack
  rw [objAt]
  by_cases h : o < σ.length
  · rw [List.getElem?_append_left (by simpa using h), if_pos h, List.getElem?_mapIdx, List.getElem?_eq_getElem h]
    simp only [Option.map_some, Option.getD_some]
    cases place ρ o with
    | some j => rfl
    | none => simp [objAt, h]
  · rw [List.getElem?_append_right (by simpa using h), if_neg h]
    simp only [List.length_mapIdx, List.getElem?_map, List.getElem?_drop]
    unfold objAt
    cases σ'[ρ.length + (o - σ.length)]? <;> rfl
theorem opOk_callR [Base] {x : OpI} {f : Nat} {as : List Src} {r : V} {σ' : Store} {ρ : List Nat} (hn : ρ.Nodup) (hρ : ∀ o, o ∈ ρ → (objAt st.objs o).isSome = true) (hg : ∀ g want, x.g = some (g, want) → st.env g = .bool want) (hi : x.i = .call f as)
    (ih : FnOk P ν f (as.map fun s => mapV (place ρ) (s.ev st.env)) (gcS ρ st.objs) r σ') :
    OpOk P ν x st { st with env := updO st.env x.dst (mapV (back ρ st.objs.length) r), objs := putBack ρ st.objs σ' } := by
  refine ⟨rfl, rfl, by simp [putBack], ?_⟩
  intro ops dr nt m k o htr M w0 D0 D a w hs _ K Q hK
  obtain ⟨t1, t2, t3, t4⟩ := trOp_spec htr
  rw [if_pos ((wanted_iff hs t4).1 hg)]
  rw [hi] at t1
  obtain ⟨fid, xs, c1, c2, c3⟩ := run_call_op t1
  let Mc : Nat → Prop := fun b => M b ∨ ∃ o d, D o = .live d ∧ d.blk = b ∧ o ∉ ρ
  have hMc : ∀ b, Mc b → XS M D b := fun b hb => hb.imp id fun ⟨o, d, h1, h2, _⟩ => ⟨o, d, h1, h2⟩
  have hargs := trArgs_map (D' := D.pick ρ) hs.env (fun o j => pick_place (D := D) (ρ := ρ) o j) xs c2
  have hcall := ih fid c1 w Mc (D.pick ρ) (xs.map a.eval).toArray (by simpa using rdL_mono' hargs (xs_pick hMc)) (hs.store.gcS hn (fun b hb => hb))
  have hρlt : ∀ o, o ∈ ρ → o < st.objs.length := by
    intro o ho
    have := hρ o ho
    rcases Nat.lt_or_ge o st.objs.length with h | h
    · exact h
    · rw [objAt, List.getElem?_eq_none h] at this; cases this
  have hρD : ∀ o, o ∈ ρ → ∃ d, D o = .live d := by
    intro o ho
    obtain ⟨ob, hob⟩ := Option.isSome_iff_exists.1 (hρ o ho)
    exact hs.store.alive o ob hob
  have hlen : (gcS ρ st.objs).length = ρ.length := by simp [gcS]
  refine enter_wp (c3 a w) (R := fun v w' => ∃ D'c, rd w' D'c (XS Mc D'c) r v ∧ SRel w' D'c Mc σ' ∧ Gr (Own (D.pick ρ)) w w' ∧ (∀ o d, D'c o = .live d → Own (D.pick ρ) d.blk ∨ w.heap.size ≤ d.blk) ∧ ∀ j, j < ρ.length → DSle (D.pick ρ j) (D'c j)) (hcall.mono ?_) ?_
  · rintro e w' ⟨v, D', rfl, h1, h2, h3, h4, h5⟩
    exact ⟨v, rfl, D', h1, h2, h3, h4, fun j hj => h5 j (by rw [hlen]; exact hj)⟩
  · rintro v w' ⟨Dc, h1, h2, h3, h4, h5⟩
    let n := st.objs.length
    let D' : DM := fun o => match place ρ o with
      | some j => Dc j
      | none => if n ≤ o then Dc (ρ.length + (o - n)) else D o
    have dPlace : ∀ o j, place ρ o = some j → D' o = Dc j := fun o j h => by simp only [D', h]
    have dFar : ∀ o, n ≤ o → D' o = Dc (ρ.length + (o - n)) := by
      intro o ho
      have : place ρ o = none := by
        cases hp : place ρ o with
        | none => rfl
        | some j => have := hρlt o (List.mem_of_getElem? (place_some hp)); omega
      simp only [D', this, if_pos ho]
    have dOld : ∀ o, o < n → o ∉ ρ → D' o = D o := by
      intro o ho hno
      have : place ρ o = none := by
        cases hp : place ρ o with
        | none => rfl
        | some j => exact absurd (List.mem_of_getElem? (place_some hp)) hno
      simp only [D', this, if_neg (by omega : ¬ n ≤ o)]
    have dFrom : ∀ o d, D' o = .live d → (∃ j, Dc j = .live d ∧ back ρ n j = some o) ∨ (o < n ∧ o ∉ ρ ∧ D o = .live d) := by
      intro o d ho
      cases hp : place ρ o with
      | some j =>
        rw [dPlace o j hp] at ho
        have hj := place_some hp
        exact .inl ⟨j, ho, by simp only [back]; rw [if_pos (List.getElem?_eq_some_iff.1 hj).1]; exact hj⟩
      | none =>
        by_cases hno : n ≤ o
        · rw [dFar o hno] at ho
          exact .inl ⟨_, ho, by simp only [back]; rw [if_neg (by omega)]; congr 1; omega⟩
        · have := place_none hp
          rw [dOld o (by omega) this] at ho
          exact .inr ⟨by omega, this, ho⟩
    have dBack : ∀ j o, back ρ n j = some o → D' o = Dc j := by
      intro j o hj
      simp only [back] at hj
      split at hj
      · exact dPlace o j (place_get hn hj)
      · simp only [Option.some.injEq] at hj
        rw [dFar o (by omega)]; congr 1; omega
    have hback : ∀ j o, back ρ n j = some o → DSle (Dc j) (D' o) := fun j o h => by rw [dBack j o h]; exact DSle.refl _
    have hX : ∀ b, XS M D' b → XS Mc Dc b := by
      rintro b (h | ⟨o, d, ho, rfl⟩)
      · exact .inl (.inl h)
      · rcases dFrom o d ho with ⟨j, hj, _⟩ | ⟨_, hno, hd⟩
        · exact .inr ⟨j, d, hj, rfl⟩
        · exact .inl (.inr ⟨o, d, hd, rfl, hno⟩)
    have hown : ∀ b, Own (D.pick ρ) b → Own D b := by
      rintro b ⟨j, d, hj, rfl⟩
      simp only [DM.pick] at hj
      split at hj
      · exact ⟨_, d, hj, rfl⟩
      · cases hj
    have E : Ext w D (XS M D) w' D' (XS M D') := by
      refine ⟨h3.size, fun b hb hx => h3.block b hb (fun ho => hx (.inr (hown b ho))), ?_, ?_⟩
      · rintro b hb (h | ⟨o, d, ho, rfl⟩)
        · exact .inl h
        · rcases dFrom o d ho with ⟨j, hj, _⟩ | ⟨_, _, hd⟩
          · rcases h4 j d hj with h | h
            · exact .inr (hown _ h)
            · omega
          · exact .inr ⟨o, d, hd, rfl⟩
      · intro o
        cases hp : place ρ o with
        | some j =>
          rw [dPlace o j hp]
          have hj := place_some hp
          have := h5 j (List.getElem?_eq_some_iff.1 hj).1
          simp only [DM.pick, hj] at this
          exact this
        | none =>
          by_cases hno : n ≤ o
          · rw [hs.store.far o hno]; trivial
          · rw [dOld o (by omega) (place_none hp)]; exact DSle.refl _
    have hmapX : ∀ {x : V} {v : Value}, rd w' Dc (XS Mc Dc) x v → rd w' D' (XS M D') (mapV (back ρ n) x) v := fun h =>
      rd_mono _ _ ⟨Nat.le_refl _, fun _ _ _ => rfl, fun b _ => hX b, fun _ => DSle.refl _⟩ (rd_map (D' := D') hback _ _ h)
    have hnew : ∀ o j, D' o = Dc j → objAt (putBack ρ st.objs σ') o = (objAt σ' j).map (mapO (back ρ n)) → ∀ d, Dc j = .live d → ∃ ob c e, objAt (putBack ρ st.objs σ') o = some ob ∧ d.sz = ob.sz ∧ d.n = ob.rows.length ∧ 0 < d.sz ∧ ¬ M d.blk ∧ d.blk < w'.heap.size ∧
        w'.heap[d.blk]? = some (.cells c e (0, 0)) ∧ c.size = d.cap ∧ d.bas + d.n * d.sz ≤ d.cap ∧ (∀ r ∈ ob.rows, r.length = ob.sz) ∧
        ∀ (i : Nat) (x : V), ob.rows.flatten[i]? = some x → x.leaf = true ∧ ∃ y, c[d.bas + i]? = some y ∧ rd w' D' (XS M D') x y := by
      intro o j _ hat d hd
      obtain ⟨ob, c, e, g1, g2, g3, g4, g5, g6, g7, g8, g9, g10, g11⟩ := h2.live j d hd
      refine ⟨mapO (back ρ n) ob, c, e, by rw [hat, g1]; rfl, g2, by simp [mapO, g3], g4, fun hm => g5 (.inl hm), g6, g7, g8, g9, ?_, fun i x hi => ?_⟩
      · intro r hr
        simp only [mapO, List.mem_map] at hr
        obtain ⟨r0, hr0, rfl⟩ := hr
        simpa [mapO] using g10 r0 hr0
      · rw [flatten_mapO, List.getElem?_map, Option.map_eq_some_iff] at hi
        obtain ⟨x0, hx0, rfl⟩ := hi
        obtain ⟨k0, y, k1, k2⟩ := g11 i x0 hx0
        exact ⟨leaf_map k0, y, k1, hmapX k2⟩
    have hst : SRel w' D' M (putBack ρ st.objs σ') := by
      refine ⟨?_, ?_, ?_, ?_, fun b hb => Nat.lt_of_lt_of_le (hs.store.mlt b hb) h3.size, hs.store.tab.ext E⟩
      · intro o d ho
        cases hp : place ρ o with
        | some j =>
          rw [dPlace o j hp] at ho
          refine hnew o j (dPlace o j hp) ?_ d ho
          rw [objAt_putBack, if_pos (hρlt o (List.mem_of_getElem? (place_some hp))), hp]
        | none =>
          by_cases hno : n ≤ o
          · rw [dFar o hno] at ho
            refine hnew o _ (dFar o hno) ?_ d ho
            rw [objAt_putBack, if_neg (by omega)]
          · have hnp := place_none hp
            rw [dOld o (by omega) hnp] at ho
            obtain ⟨ob, c, e, g1, g2, g3, g4, g5, g6, g7, g8, g9, g10, g11⟩ := hs.store.live o d ho
            have hnotown : ¬ Own (D.pick ρ) d.blk := by
              rintro ⟨j, d', hj, hb⟩
              simp only [DM.pick] at hj
              split at hj
              · rename_i o' ho'
                have := hs.store.inj _ _ _ _ hj ho hb
                subst this
                exact hnp (List.mem_of_getElem? ho')
              · cases hj
            refine ⟨ob, c, e, by rw [objAt_putBack, if_pos (by omega), hp]; exact g1, g2, g3, g4, g5, Nat.lt_of_lt_of_le g6 h3.size, by rw [h3.block _ g6 hnotown]; exact g7, g8, g9, g10, fun i x hi => ?_⟩
            obtain ⟨k0, y, k1, k2⟩ := g11 i x hi
            exact ⟨k0, y, k1, rd_mono _ _ E k2⟩
      · intro o ob ho
        rw [objAt_putBack] at ho
        split at ho
        · split at ho
          · rename_i j hp
            simp only [Option.map_eq_some_iff] at ho
            obtain ⟨ob0, h, _⟩ := ho
            rw [dPlace o j hp]
            exact h2.alive j ob0 h
          · rename_i hp
            rw [dOld o (by assumption) (place_none hp)]
            exact hs.store.alive o ob ho
        · rename_i hlt
          simp only [Option.map_eq_some_iff] at ho
          obtain ⟨ob0, h, _⟩ := ho
          rw [dFar o (by omega)]
          exact h2.alive _ ob0 h
      · intro o o' d d' ho ho' hb
        rcases dFrom o d ho with ⟨j, hj, hbk⟩ | ⟨a1, a2, a3⟩ <;> rcases dFrom o' d' ho' with ⟨j', hj', hbk'⟩ | ⟨b1, b2, b3⟩
        · have := h2.inj j j' d d' hj hj' hb
          subst this
          rw [hbk] at hbk'; exact Option.some.inj hbk'
        · obtain ⟨_, _, _, _, _, _, _, g5, _⟩ := h2.live j d hj
          exact absurd (.inr ⟨o', d', b3, hb.symm, b2⟩) g5
        · obtain ⟨_, _, _, _, _, _, _, g5, _⟩ := h2.live j' d' hj'
          exact absurd (.inr ⟨o, d, a3, hb, a2⟩) g5
        · exact hs.store.inj o o' d d' a3 b3 hb
      · intro o ho
        have hlo : n + (σ'.length - ρ.length) ≤ o := by simpa [putBack] using ho
        rw [dFar o (by omega)]
        exact h2.far _ (by omega)
    rw [t2]
    refine hK D' _ w' ⟨rd_put (fun t => rd_mono _ _ E (hs.env t)) (fun d hd => by rw [hs.tm]; exact t3 d (t2.trans hd)) (hmapX h1), ?_, ?_, hst, ?_, ?_, fun o ho => (hs.kp o ho).trans (E.ds o)⟩ ?_
    · rw [← hs.tm]; cases x.dst <;> simp [Act.put]
    · rw [← hs.df]; cases x.dst <;> rfl
    · exact hs.gr.trans (h3.mono fun b _ ho => by obtain ⟨o, d, h, hb⟩ := hown b ho; rw [← hb]; exact hs.fr o d h)
    · intro o d ho
      rcases dFrom o d ho with ⟨j, hj, _⟩ | ⟨_, _, hd⟩
      · rcases h4 j d hj with h | h
        · obtain ⟨q, d', hq, hb⟩ := hown _ h
          rw [← hb]; exact hs.fr q d' hq
        · exact .inr (Nat.le_trans hs.gr.size h)
      · exact hs.fr o d hd
    · intro o _ ho hu _
      have hno : o ∉ ρ := fun h => by obtain ⟨d, hd⟩ := hρD o h; rw [hd] at hu; cases hu
      rw [dOld o ho hno]; exact hu
end
end Go.Ml
end
section
namespace Go.Ml
theorem mapM_congr_mem {α β : Type} {f g : α → Option β} : ∀ (l : List α), (∀ s, s ∈ l → f s = g s) → l.mapM f = l.mapM g
  | [], _ => rfl
  | a :: l, h => by
    simp only [List.mapM_cons]
    rw [h a (by simp), mapM_congr_mem l fun s hs => h s (by simp [hs])]
theorem flatMap_congr_mem {α β : Type} {f g : α → List β} : ∀ (l : List α), (∀ s, s ∈ l → f s = g s) → l.flatMap f = l.flatMap g
  | [], _ => rfl
  | a :: l, h => by
    simp only [List.flatMap_cons]
    rw [h a (by simp), flatMap_congr_mem l fun s hs => h s (by simp [hs])]
theorem fp_callP {T : Nat → Option Fn} {x : OpI} {st : St} {f : Nat} {as : List Src} {as' : List V} {r : V} (hg : ∀ g want, x.g = some (g, want) → st.env g = .bool want) (hi : x.i = .call f as)
    (ha : as.mapM (fun s => resolve st.objs FD (s.ev st.env)) = some as') (h : Run T (.fn f as' []) (.fn r [])) (hR : scalar SD r = true ∨ (as.flatMap fun s => reach st.objs FD (s.ev st.env)) = []) :
    Fp T ⟨x, as.flatMap fun s => reach st.objs FD (s.ev st.env), r, [], none⟩ st := by
  intro st2 hag
  have hsrc : ∀ s, s ∈ as → s.ev st2.env = s.ev st.env := fun s hs => src_congr fun t ht => hag.env t (looks_src (by rw [hi]; exact hs) ht)
  have hcong : ∀ s, s ∈ as → resolve st2.objs FD (s.ev st.env) = resolve st.objs FD (s.ev st.env) ∧ reach st2.objs FD (s.ev st.env) = reach st.objs FD (s.ev st.env) := fun s hs =>
    reach_congr FD _ fun o ho => hag.objs o (List.mem_flatMap.2 ⟨s, hs, ho⟩)
  have e1 : as.mapM (fun s => resolve st2.objs FD (s.ev st2.env)) = some as' := by
    rw [← ha]
    exact mapM_congr_mem as fun s hs => by rw [hsrc s hs]; exact (hcong s hs).1
  have e2 : (as.flatMap fun s => reach st2.objs FD (s.ev st2.env)) = as.flatMap fun s => reach st.objs FD (s.ev st.env) :=
    flatMap_congr_mem as fun s hs => by rw [hsrc s hs]; exact (hcong s hs).2
  have hR' : ([] : List Nat) = if scalar SD r then [] else (as.flatMap fun s => reach st2.objs FD (s.ev st2.env)) := by
    rw [e2]
    rcases hR with h | h
    · rw [if_pos h]
    · rw [h, ite_self]
  have hg2 : ∀ g want, x.g = some (g, want) → st2.env g = .bool want := fun g want hgw => (hag.env g (looks_g hgw)).trans (hg g want hgw)
  have e3 : (⟨x, as.flatMap fun s => reach st.objs FD (s.ev st.env), r, [], none⟩ : Dat).go st2 = { st2 with env := updO st2.env x.dst r, objs := killAll st2.objs [] } := by
    simp only [Dat.go, putW, List.foldl_nil, Option.getD_none, List.append_nil, killAll]
  rw [e3]
  exact Run.callP hg2 hi e1 h hR'
theorem putW_kill : ∀ (R : List Nat) (σ : Store), putW σ (R.map fun o => (o, none)) = killAll σ R
  | [], _ => rfl
  | o :: R, σ => putW_kill R (σ.set o none)
theorem fp_callK {T : Nat → Option Fn} {x : OpI} {st : St} {f : Nat} {as : List Src} {as' : List V} {r : V} (hg : ∀ g want, x.g = some (g, want) → st.env g = .bool want) (hi : x.i = .call f as)
    (ha : as.mapM (fun s => resolve st.objs FD (s.ev st.env)) = some as') (h : Run T (.fn f as' []) (.fn r [])) (hR : scalar SD r = false) :
    Fp T ⟨x, as.flatMap fun s => reach st.objs FD (s.ev st.env), r, (as.flatMap fun s => reach st.objs FD (s.ev st.env)).map fun o => (o, none), none⟩ st := by
  intro st2 hag
  have hsrc : ∀ s, s ∈ as → s.ev st2.env = s.ev st.env := fun s hs => src_congr fun t ht => hag.env t (looks_src (by rw [hi]; exact hs) ht)
  have hcong : ∀ s, s ∈ as → resolve st2.objs FD (s.ev st.env) = resolve st.objs FD (s.ev st.env) ∧ reach st2.objs FD (s.ev st.env) = reach st.objs FD (s.ev st.env) := fun s hs =>
    reach_congr FD _ fun o ho => hag.objs o (List.mem_flatMap.2 ⟨s, hs, ho⟩)
  have e1 : as.mapM (fun s => resolve st2.objs FD (s.ev st2.env)) = some as' := by
    rw [← ha]
    exact mapM_congr_mem as fun s hs => by rw [hsrc s hs]; exact (hcong s hs).1
  have e2 : (as.flatMap fun s => reach st2.objs FD (s.ev st2.env)) = as.flatMap fun s => reach st.objs FD (s.ev st.env) :=
    flatMap_congr_mem as fun s hs => by rw [hsrc s hs]; exact (hcong s hs).2
  have hR' : (as.flatMap fun s => reach st.objs FD (s.ev st.env)) = if scalar SD r then [] else (as.flatMap fun s => reach st2.objs FD (s.ev st2.env)) := by
    rw [e2, hR]; rfl
  have hg2 : ∀ g want, x.g = some (g, want) → st2.env g = .bool want := fun g want hgw => (hag.env g (looks_g hgw)).trans (hg g want hgw)
  have e3 : (⟨x, as.flatMap fun s => reach st.objs FD (s.ev st.env), r, (as.flatMap fun s => reach st.objs FD (s.ev st.env)).map fun o => (o, none), none⟩ : Dat).go st2 =
      { st2 with env := updO st2.env x.dst r, objs := killAll st2.objs (as.flatMap fun s => reach st.objs FD (s.ev st.env)) } := by
    simp only [Dat.go, putW_kill, Option.getD_none, List.append_nil]
  rw [e3]
  exact Run.callP hg2 hi e1 h hR'
theorem fp_callG {T : Nat → Option Fn} {x : OpI} {st : St} {f : Nat} {as : List Src} {as' : List V} {r : V} {σ' : Store} (hg : ∀ g want, x.g = some (g, want) → st.env g = .bool want) (hi : x.i = .call f as)
    (ha : as.mapM (fun s => resolve st.objs FD (s.ev st.env)) = some as') (h : Run T (.fn f as' []) (.fn r σ')) (hR : (noFrz r && freshS σ') = true) :
    Fp T ⟨x, as.flatMap fun s => reach st.objs FD (s.ev st.env), mapV (shiftN st.objs.length) r, [], some (σ'.map (Option.map (mapO (shiftN st.objs.length))))⟩ st := by
  intro st2 hag
  have hlen : st2.objs.length = st.objs.length := hag.len rfl
  have hsrc : ∀ s, s ∈ as → s.ev st2.env = s.ev st.env := fun s hs => src_congr fun t ht => hag.env t (looks_src (by rw [hi]; exact hs) ht)
  have hcong : ∀ s, s ∈ as → resolve st2.objs FD (s.ev st.env) = resolve st.objs FD (s.ev st.env) ∧ reach st2.objs FD (s.ev st.env) = reach st.objs FD (s.ev st.env) := fun s hs =>
    reach_congr FD _ fun o ho => hag.objs o (List.mem_flatMap.2 ⟨s, hs, ho⟩)
  have e1 : as.mapM (fun s => resolve st2.objs FD (s.ev st2.env)) = some as' := by
    rw [← ha]
    exact mapM_congr_mem as fun s hs => by rw [hsrc s hs]; exact (hcong s hs).1
  have hg2 : ∀ g want, x.g = some (g, want) → st2.env g = .bool want := fun g want hgw => (hag.env g (looks_g hgw)).trans (hg g want hgw)
  have := Run.callG (T := T) (st := st2) hg2 hi e1 h (R := []) (by rw [if_pos hR])
  have e3 : (⟨x, as.flatMap fun s => reach st.objs FD (s.ev st.env), mapV (shiftN st.objs.length) r, [], some (σ'.map (Option.map (mapO (shiftN st.objs.length))))⟩ : Dat).go st2 =
      { st2 with env := updO st2.env x.dst (mapV (shiftN st2.objs.length) r), objs := addS (killAll st2.objs []) σ' } := by
    simp only [Dat.go, putW, List.foldl_nil, killAll, addS, hlen, Option.getD_some]
  rw [e3]
  exact this
theorem putBack_still {ρ : List Nat} {σ : Store} (hρ : ∀ o, o ∈ ρ → ∃ ob, objAt σ o = some ob ∧ ∀ g, mapO g ob = ob) : putBack ρ σ (gcS ρ σ) = σ := by
  have hlen : (gcS ρ σ).length = ρ.length := by simp [gcS]
  unfold putBack
  rw [List.drop_of_length_le (by rw [hlen]; exact Nat.le_refl _), List.map_nil, List.append_nil]
  apply List.ext_getElem?
  intro q
  rw [List.getElem?_mapIdx]
  cases hq : σ[q]? with
  | none => rfl
  | some x =>
    simp only [Option.map_some, Option.some.injEq]
    cases hp : place ρ q with
    | none => rfl
    | some j =>
      have hj := place_some hp
      obtain ⟨ob, h1, h2⟩ := hρ q (List.mem_of_getElem? hj)
      simp only []
      rw [objAt_gcS, hj]
      simp only [h1, Option.map_some, h2]
      have : objAt σ q = x := by simp [objAt, hq]
      rw [← this, h1]
theorem gcS_congr {ρ : List Nat} {σ σ2 : Store} (h : ∀ o, o ∈ ρ → objAt σ2 o = objAt σ o) : gcS ρ σ2 = gcS ρ σ := by
  unfold gcS
  exact List.map_congr_left fun o ho => by rw [h o ho]
theorem fp_callN {T : Nat → Option Fn} {x : OpI} {st : St} {f : Nat} {as : List Src} {r v : V} {ρ : List Nat} (hg : ∀ g want, x.g = some (g, want) → st.env g = .bool want) (hi : x.i = .call f as) (hn : ρ.Nodup)
    (hρ : ∀ o, o ∈ ρ → ∃ ob, objAt st.objs o = some ob ∧ ∀ g, mapO g ob = ob) (h : Run T (.fn f (as.map fun s => mapV (place ρ) (s.ev st.env)) (gcS ρ st.objs)) (.fn r (gcS ρ st.objs))) (hv : ∀ n, mapV (back ρ n) r = v) :
    Fp T ⟨x, ρ, v, [], none⟩ st := by
  intro st2 hag
  have hsrc : ∀ s, s ∈ as → s.ev st2.env = s.ev st.env := fun s hs => src_congr fun t ht => hag.env t (looks_src (by rw [hi]; exact hs) ht)
  have ho := hag.objs
  have hρ2 : ∀ o, o ∈ ρ → ∃ ob, objAt st2.objs o = some ob ∧ ∀ g, mapO g ob = ob := fun o h => by rw [ho o h]; exact hρ o h
  have e1 : (as.map fun s => mapV (place ρ) (s.ev st2.env)) = as.map fun s => mapV (place ρ) (s.ev st.env) := List.map_congr_left fun s hs => by rw [hsrc s hs]
  have e2 := gcS_congr ho
  have hg2 : ∀ g want, x.g = some (g, want) → st2.env g = .bool want := fun g want hgw => (hag.env g (looks_g hgw)).trans (hg g want hgw)
  have := Run.callR (T := T) (st := st2) ρ hn (fun o h => by obtain ⟨ob, h1, _⟩ := hρ2 o h; rw [h1]; rfl) hg2 hi (r := r) (σ' := gcS ρ st2.objs) (by rw [e1, e2]; exact h)
  rw [hv, putBack_still hρ2] at this
  have e3 : (⟨x, ρ, v, [], none⟩ : Dat).go st2 = { st2 with env := updO st2.env x.dst v, objs := st2.objs } := by
    simp only [Dat.go, putW, List.foldl_nil, Option.getD_none, List.append_nil]
  rw [e3]
  exact this
theorem store_ext {σ τ : Store} (hl : σ.length = τ.length) (h : ∀ o, o < τ.length → objAt σ o = objAt τ o) : σ = τ := by
  apply List.ext_getElem?
  intro o
  by_cases ho : o < τ.length
  · have := h o ho
    unfold objAt at this
    rw [List.getElem?_eq_getElem ho, List.getElem?_eq_getElem (by omega)] at this ⊢
    simpa using this
  · rw [List.getElem?_eq_none (by omega), List.getElem?_eq_none (by omega)]
theorem putW_range (τ : Store) : ∀ (n : Nat) (σ : Store), n ≤ σ.length → (∀ o, o < n → objAt (putW σ ((List.range n).map fun o => (o, objAt τ o))) o = objAt τ o)
  | 0, σ, _, o, ho => absurd ho (Nat.not_lt_zero _)
  | n + 1, σ, hn, o, ho => by
    have ih := putW_range τ n σ (by omega)
    rw [List.range_succ, List.map_append]
    have e : putW σ ((List.range n).map (fun o => (o, objAt τ o)) ++ [n].map fun o => (o, objAt τ o)) = (putW σ ((List.range n).map fun o => (o, objAt τ o))).set n (objAt τ n) := by
      unfold putW
      rw [List.foldl_append]; rfl
    rw [e]
    unfold objAt
    rw [List.getElem?_set]
    by_cases h : n = o
    · subst h
      rw [if_pos rfl, if_pos (by rw [putW_length]; omega)]; rfl
    · rw [if_neg h]
      exact ih o (by omega)
theorem putW_all {σ τ : Store} (hl : σ.length ≤ τ.length) : putW σ ((List.range σ.length).map fun o => (o, objAt τ o)) ++ τ.drop σ.length = τ := by
  refine store_ext (by simp [putW_length]; omega) fun o ho => ?_
  by_cases h : o < σ.length
  · have := putW_range τ σ.length σ (Nat.le_refl _) o h
    unfold objAt at this ⊢
    rw [List.getElem?_append_left (by rw [putW_length]; exact h)]
    exact this
  · unfold objAt
    rw [List.getElem?_append_right (by rw [putW_length]; omega), putW_length, List.getElem?_drop]
    congr 2; omega
theorem fp_callW {T : Nat → Option Fn} {x : OpI} {st : St} {f : Nat} {as : List Src} {r : V} {σ' : Store} (hg : ∀ g want, x.g = some (g, want) → st.env g = .bool want) (hi : x.i = .call f as)
    (h : Run T (.fn f (as.map fun s => s.ev st.env) st.objs) (.fn r σ')) (hl : st.objs.length ≤ σ'.length) (hb : st.objs.length ≤ st.base) :
    Fp T ⟨x, List.range st.objs.length, r, (List.range st.objs.length).map fun o => (o, objAt σ' o), some (σ'.drop st.objs.length)⟩ st := by
  intro st2 hag
  have hlen : st2.objs.length = st.objs.length := hag.len rfl
  have hsrc : ∀ s, s ∈ as → s.ev st2.env = s.ev st.env := fun s hs => src_congr fun t ht => hag.env t (looks_src (by rw [hi]; exact hs) ht)
  have hobj : st2.objs = st.objs := store_ext hlen fun o ho => hag.objs o (List.mem_range.2 ho)
  have e1 : (as.map fun s => s.ev st2.env) = as.map fun s => s.ev st.env := List.map_congr_left fun s hs => hsrc s hs
  have hg2 : ∀ g want, x.g = some (g, want) → st2.env g = .bool want := fun g want hgw => (hag.env g (looks_g hgw)).trans (hg g want hgw)
  have := Run.callI (T := T) (st := st2) hg2 hi (by rw [e1, hobj]; exact h) (by rw [hobj]; exact hl) (by rw [hobj, hag.base]; exact hb)
  have e3 : (⟨x, List.range st.objs.length, r, (List.range st.objs.length).map fun o => (o, objAt σ' o), some (σ'.drop st.objs.length)⟩ : Dat).go st2 = { st2 with env := updO st2.env x.dst r, objs := σ' } := by
    simp only [Dat.go, Option.getD_some]
    congr 1
    rw [hobj]
    exact putW_all hl
  rw [e3]
  exact this
end Go.Ml
end
