/- Contracts of functions. -/
import Derived.Calls
import Derived.Orders
import Derived.Laws.Sem
import Derived.RowKit3
import Derived.Laws.CopyRow
import Derived.Laws.Entries
import Derived.ChangeKeysEq
import Derived.Laws.Small
import Derived.Lib.Strings
import Derived.IntWalk
import Derived.Laws.BytesString
import Derived.Tactics
import Derived.ProofKit
import Derived.SliceStrings
set_option linter.unusedSimpArgs false
set_option linter.unusedVariables false
set_option maxRecDepth 100000
set_option maxHeartbeats 16000000
section
namespace Go.Ml
theorem ah{a b:Prop}(x:a)(y:b):a/\b:=⟨x,y⟩
theorem aj:type_of%@List.getD_eq_getElem?_getD:=@List.getD_eq_getElem?_getD
theorem ak:type_of%@List.getElem?_eq_getElem:=@List.getElem?_eq_getElem
theorem au:type_of%@List.length_cons:=@List.length_cons
theorem aB:type_of%@Option.some.injEq:=@Option.some.injEq
theorem aC:True:=True.intro
theorem aG:type_of%@List.length_nil:=@List.length_nil
theorem aH:type_of%@Bool.and_eq_true:=@Bool.and_eq_true
theorem aI:type_of%@List.mem_cons:=@List.mem_cons
theorem aJ:type_of%@Nat.le_refl:=@Nat.le_refl
theorem aK:type_of%@List.mem_append:=@List.mem_append
theorem aN:type_of%@if_neg:=@if_neg
theorem aO:type_of%@Option.map_eq_some_iff:=@Option.map_eq_some_iff
theorem aP:type_of%@List.getElem?_eq_some_iff:=@List.getElem?_eq_some_iff
theorem aQ:type_of%@if_pos:=@if_pos
theorem aS:type_of%@List.length_append:=@List.length_append
theorem aT:type_of%@decide_eq_true:=@decide_eq_true
theorem aU:type_of%@List.append_nil:=@List.append_nil
theorem aV:type_of%@List.length_map:=@List.length_map
theorem aW:type_of%@List.mem_singleton:=@List.mem_singleton
theorem aX:type_of%@Nat.zero_add:=@Nat.zero_add
theorem aY:type_of%@List.eq_nil_of_length_eq_zero:=@List.eq_nil_of_length_eq_zero
theorem aZ:type_of%@decide_eq_true_eq:=@decide_eq_true_eq
theorem bf:type_of%@List.nodup_append:=@List.nodup_append
theorem bg:type_of%@List.all_eq_true:=@List.all_eq_true
theorem bn:type_of%@List.mem_of_getElem?:=@List.mem_of_getElem?
theorem bC:type_of%@List.getElem?_eq_none:=@List.getElem?_eq_none
theorem bD:type_of%@Nat.lt_of_lt_of_le:=@Nat.lt_of_lt_of_le
theorem bF:type_of%@List.mem_map:=@List.mem_map
theorem bG:type_of%@List.take_of_length_le:=@List.take_of_length_le
theorem bH:type_of%@decide_eq_false:=@decide_eq_false
theorem bI:type_of%@List.take_length:=@List.take_length
theorem bJ:type_of%@List.mem_iff_getElem?:=@List.mem_iff_getElem?
theorem bK:type_of%@List.getElem?_append_left:=@List.getElem?_append_left
theorem bM:type_of%@Bool.false_eq_true:=@Bool.false_eq_true
theorem bP:type_of%@List.getElem?_map:=@List.getElem?_map
theorem bQ:type_of%@Result.andThen_ok:=@Result.andThen_ok
theorem bT:type_of%@List.map_cons:=@List.map_cons
theorem bU:type_of%@List.map_append:=@List.map_append
theorem bV:type_of%@List.length_set:=@List.length_set
theorem bW:type_of%@List.getElem?_append_right:=@List.getElem?_append_right
theorem bY:type_of%@List.not_mem_nil:=@List.not_mem_nil
theorem bZ:type_of%@List.mapM_cons:=@List.mapM_cons
theorem cO:type_of%@List.append_assoc:=@List.append_assoc
theorem cZ:type_of%@Bool.true_and:=@Bool.true_and
theorem dh:type_of%@Option.map_some:=@Option.map_some
theorem dw:type_of%@Nat.le_trans:=@Nat.le_trans
theorem dA:type_of%@List.drop_zero:=@List.drop_zero
theorem dB:type_of%@Nat.not_lt_zero:=@Nat.not_lt_zero
theorem dD:type_of%@List.all_cons:=@List.all_cons
theorem dF:type_of%@Int.natAbs_natCast:=@Int.natAbs_natCast
theorem dG:type_of%@Nat.mul_le_mul_right:=@Nat.mul_le_mul_right
theorem dH:type_of%@List.mem_of_mem_take:=@List.mem_of_mem_take
theorem dI:type_of%@List.cons_append:=@List.cons_append
theorem dJ:type_of%@Bool.and_true:=@Bool.and_true
theorem dK:type_of%@List.drop_eq_getElem_cons:=@List.drop_eq_getElem_cons
theorem dL:type_of%@List.mem_append_right:=@List.mem_append_right
theorem dM:type_of%@List.getElem?_range:=@List.getElem?_range
theorem dO:type_of%@List.flatten_cons:=@List.flatten_cons
theorem dP:type_of%@Array.getD_eq_getD_getElem?:=@Array.getD_eq_getD_getElem?
theorem dQ:type_of%@Bool.false_and:=@Bool.false_and
theorem dS:type_of%@Nat.mul_comm:=@Nat.mul_comm
theorem dU:type_of%@List.all_nil:=@List.all_nil
theorem dV:type_of%@List.getElem?_drop:=@List.getElem?_drop
theorem dW:type_of%@Nat.lt_or_ge:=@Nat.lt_or_ge
theorem dX:type_of%@Bool.or_eq_true:=@Bool.or_eq_true
theorem dY:type_of%@Rat.add_zero:=@Rat.add_zero
theorem dZ:type_of%@Rat.intCast_mul:=@Rat.intCast_mul
theorem eu:type_of%@List.length_take:=@List.length_take
theorem eF:type_of%@Rat.div_def:=@Rat.div_def
theorem eG:type_of%@List.mem_append_left:=@List.mem_append_left
theorem eH:type_of%@Nat.zero_le:=@Nat.zero_le
theorem eP:type_of%@List.drop_eq_nil_of_le:=@List.drop_eq_nil_of_le
theorem eU:type_of%@List.nodup_cons:=@List.nodup_cons
theorem fA:type_of%@Nat.succ_mul:=@Nat.succ_mul
theorem fB:type_of%@List.pairwise_cons:=@List.pairwise_cons
theorem fC:type_of%@List.mem_of_mem_drop:=@List.mem_of_mem_drop
theorem fD:type_of%@Option.bind_eq_some_iff:=@Option.bind_eq_some_iff
theorem fE:type_of%@Bool.false_or:=@Bool.false_or
theorem fF:type_of%@List.mem_range:=@List.mem_range
theorem fG:type_of%@List.mem_filter:=@List.mem_filter
theorem fH:type_of%@List.getElem?_set:=@List.getElem?_set
theorem fJ:type_of%@Option.getD_none:=@Option.getD_none
theorem fK:type_of%@Int.mul_le_mul_of_nonneg_left:=@Int.mul_le_mul_of_nonneg_left
theorem fM:type_of%@List.forall_mem_cons:=@List.forall_mem_cons
theorem fO:type_of%@List.append_inj:=@List.append_inj
theorem fP:type_of%@Bool.or_false:=@Bool.or_false
theorem fQ:type_of%@List.map_map:=@List.map_map
theorem fU:type_of%@List.pairwise_iff_getElem:=@List.pairwise_iff_getElem
theorem fV:type_of%@List.ext_getElem?:=@List.ext_getElem?
theorem fZ:type_of%@List.mem_flatMap:=@List.mem_flatMap
theorem gq:type_of%@List.flatten_append:=@List.flatten_append
theorem gu:type_of%@List.map_congr_left:=@List.map_congr_left
theorem gG:type_of%@List.mem_cons_of_mem:=@List.mem_cons_of_mem
theorem gI:type_of%@Nat.pow_le_pow_right:=@Nat.pow_le_pow_right
theorem gJ:type_of%@Nat.add_mul:=@Nat.add_mul
theorem gQ:type_of%@Int.tdiv_eq_ediv_of_nonneg:=@Int.tdiv_eq_ediv_of_nonneg
theorem gU:type_of%@Int.toNat_natCast:=@Int.toNat_natCast
theorem gV:type_of%@of_eq_true:=@of_eq_true
theorem gZ:type_of%@List.take_append_drop:=@List.take_append_drop
theorem ig:type_of%@Nat.mul_assoc:=@Nat.mul_assoc
theorem iq:type_of%@Bool.true_or:=@Bool.true_or
theorem iw:type_of%@Nat.eq_zero_or_pos:=@Nat.eq_zero_or_pos
theorem iy:type_of%@eq_true:=@eq_true
theorem iC:type_of%@Classical.byContradiction:=@Classical.byContradiction
theorem iD:type_of%@eq_false:=@eq_false
theorem iE:type_of%@List.foldl_cons:=@List.foldl_cons
theorem iF:type_of%@List.cons.injEq:=@List.cons.injEq
theorem iG:type_of%@Nat.lt_of_le_of_lt:=@Nat.lt_of_le_of_lt
theorem iH:type_of%@Array.getElem?_toList:=@Array.getElem?_toList
theorem iI:type_of%@Option.bind_eq_bind:=@Option.bind_eq_bind
theorem iJ:type_of%@List.map_eq_nil_iff:=@List.map_eq_nil_iff
theorem iK:type_of%@List.length_drop:=@List.length_drop
theorem iL:type_of%@Bool.not_eq_true':=@Bool.not_eq_true'
theorem iM:type_of%@List.pairwise_map:=@List.pairwise_map
theorem iO:type_of%@Nat.mul_le_mul:=@Nat.mul_le_mul
theorem iP:type_of%@Nat.add_zero:=@Nat.add_zero
theorem iQ:type_of%@List.map_nil:=@List.map_nil
theorem iR:type_of%@Rat.zero_add:=@Rat.zero_add
theorem iT:type_of%@Rat.zero_mul:=@Rat.zero_mul
theorem iU:type_of%@List.nil_append:=@List.nil_append
theorem iV:type_of%@List.range_succ:=@List.range_succ
theorem iW:type_of%@Int.natAbs_mul:=@Int.natAbs_mul
theorem iY:type_of%@List.take_add_one:=@List.take_add_one
theorem iZ:type_of%@Int.tmod_eq_emod_of_nonneg:=@Int.tmod_eq_emod_of_nonneg
theorem jc:type_of%@Array.toArray_toList:=@Array.toArray_toList
theorem jd:type_of%@List.mem_or_eq_of_mem_set:=@List.mem_or_eq_of_mem_set
theorem jf:type_of%@List.foldl_nil:=@List.foldl_nil
theorem jg:type_of%@Nat.lt_irrefl:=@Nat.lt_irrefl
theorem jh:type_of%@List.mem_map_of_mem:=@List.mem_map_of_mem
theorem ji:type_of%@Option.isSome_iff_exists:=@Option.isSome_iff_exists
theorem jk:type_of%@Nat.pow_succ:=@Nat.pow_succ
theorem jl:type_of%@Option.pure_def:=@Option.pure_def
theorem jq:type_of%@Nat.add_assoc:=@Nat.add_assoc
theorem jr:type_of%@List.getElem?_replicate:=@List.getElem?_replicate
theorem jw:type_of%@Nat.div_lt_of_lt_mul:=@Nat.div_lt_of_lt_mul
theorem jy:type_of%@List.getElem_mem:=@List.getElem_mem
theorem jA:type_of%@List.drop_length:=@List.drop_length
theorem jB:type_of%@Array.getElem?_eq_some_iff:=@Array.getElem?_eq_some_iff
theorem jC:type_of%@Nat.mul_add:=@Nat.mul_add
theorem jD:type_of%@List.eq_of_mem_replicate:=@List.eq_of_mem_replicate
theorem jE:type_of%@Nat.gcd_pos_of_pos_right:=@Nat.gcd_pos_of_pos_right
theorem jF:type_of%@Option.getD_some:=@Option.getD_some
theorem jG:type_of%@List.pairwise_append:=@List.pairwise_append
theorem jH:type_of%@List.all_map:=@List.all_map
theorem jI:type_of%@Bool.and_false:=@Bool.and_false
theorem jJ:type_of%@List.flatMap_cons:=@List.flatMap_cons
theorem jL:type_of%@List.getElem?_take_of_lt:=@List.getElem?_take_of_lt
theorem jM:type_of%@List.length_range:=@List.length_range
theorem jO:type_of%@List.take_succ_cons:=@List.take_succ_cons
theorem jP:type_of%@List.getElem?_cons_zero:=@List.getElem?_cons_zero
theorem jR:type_of%@List.set_cons_zero:=@List.set_cons_zero
theorem jS:type_of%@Nat.pos_of_ne_zero:=@Nat.pos_of_ne_zero
theorem jT:type_of%@List.getElem?_toArray:=@List.getElem?_toArray
theorem jU:type_of%@Bool.and_eq_false_iff:=@Bool.and_eq_false_iff
theorem jV:type_of%@Bool.eq_iff_iff:=@Bool.eq_iff_iff
theorem jW:type_of%@List.contains_iff_mem:=@List.contains_iff_mem
theorem jX:type_of%@Nat.gcd_comm:=@Nat.gcd_comm
theorem jY:type_of%@List.length_filter_le:=@List.length_filter_le
theorem jZ:type_of%@List.foldl_append:=@List.foldl_append
theorem ku:type_of%@List.all_eq_false:=@List.all_eq_false
theorem kD:type_of%@List.getElem?_mapIdx:=@List.getElem?_mapIdx
theorem kE:type_of%@Bool.not_false:=@Bool.not_false
theorem kG:type_of%@Int.natCast_emod:=@Int.natCast_emod
theorem kH:type_of%@List.replicate_succ:=@List.replicate_succ
theorem kJ:type_of%@Nat.zero_mul:=@Nat.zero_mul
theorem kK:type_of%@Nat.mod_lt:=@Nat.mod_lt
theorem kL:type_of%@Nat.mul_zero:=@Nat.mul_zero
theorem kP:type_of%@List.map_drop:=@List.map_drop
theorem kT:type_of%@Nat.sub_self:=@Nat.sub_self
inductive V where
 |any
 |one
 |int (k:IntKind) (n:Int)
 |bool (b:Bool)
 |str (s:List UInt8)
 |agg (cs:List V)
 |oU (vs:List V)
 |kC
 |sl (sz:Nat) (rows:List (List V))
 |lQ (o start len:Nat)
 |ptr (o row off:Nat)
 |qw (row:List V) (off:Nat)
 deriving Inhabited
def V.leaf:V->Bool
 |.one | .int .. | .bool _ | .str _ | .kC | .sl .. | .lQ .. | .ptr .. | .qw ..=>true
 |_=>false
def V.cells? : V->Option (List V)
 |.agg cs=>if cs.all V.leaf then some cs else none
 |x=>if x.leaf then some [x]else none
structure ajv where
 blk:Nat
 ML:Nat
 sz:Nat
 n:Nat
 cap:Nat
inductive DS where
 |oM
 |dead
 |live (d:ajv)
abbrev DM:=Nat->DS
def DM.none:DM:=fun _=>.oM
section
variable (w : World)
mutual
def rd(D:DM)(X:Nat->Prop):V->Value->Prop
 |.any,_=>True
 |.one,v=>v.oneCell'=true
 |.int k n,v=>v=.int k n
 |.bool b,v=>v=.bool b
 |.str s,v=>v=.string ⟨s.toArray⟩
 |.agg cs,v=>∃a:Array Value,v=.agg a/\qH D X cs a.toList
 |.oU cs,v=>∃a:Array Value,v=.tuple a/\qH D X cs a.toList
 |.kC,v=>∃a,v=.slice a 0 0
 |.sl sz rows,v=>∃a cap,v=.slice a rows.length cap/\rows.length<=cap/\(rows=[]\/∃b off,a=some ⟨b,off,none⟩/\b<w.heap.size/\¬X b/\sD DM.none X b sz off rows)
 |
  .lQ o start len,v=>match D o with
  |.oM=>False
  |.dead=>∃a l c,v=.slice a l c
  |.live d=>start+len<=d.n/\∃a cap,v=.slice a len cap/\len<=cap /\
    ((a=some ⟨d.blk,d.ML+start*d.sz,none⟩/\d.ML+(start+cap)*d.sz<=d.cap)\/(len=0/\cap=0))
 |
  .ptr o row off,v=>match D o with
  |.oM=>False
  |.dead=>∃a,v=.pointer a
  |.live d=>v=.pointer (some ⟨d.blk,d.ML+row*d.sz+off,none⟩)
 |.qw row off,v=>∃b o,v=.pointer (some ⟨b,o+off,none⟩)/\b<w.heap.size/\¬X b/\pJ DM.none X b o row
def qH(D:DM)(X:Nat->Prop):List V->List Value->Prop
 | [],ys=>ys=[]
 |x::xs,ys=>∃y ys',ys=y::ys'/\rd D X x y/\qH D X xs ys'
def pJ(D:DM)(X:Nat->Prop)(b:Nat):Nat->List V->Prop
 |_,[]=>True
 |off,x::xs=>x.leaf=true/\(∃c,w.cell? ⟨b,off,none⟩=some c/\rd D X x c)/\pJ D X b (off+1) xs
def sD(D:DM)(X:Nat->Prop)(b:Nat)(sz:Nat):Nat->List (List V)->Prop
 |_,[]=>True
 |off,r::rs=>r.length=sz/\pJ D X b off r/\sD D X b sz (off+sz) rs
end
end
structure Obj where
 sz:Nat
 rows:List (List V)
abbrev Store:=List (Option Obj)
inductive Src where
 |t (n:Nat)
 |c (v:V)
inductive I where
 |qC (x:Src)
 |pick (c a b:Src)
 |alloc (zero:List V)
 |box (x:Src)
 |build (zero:List V) (parts:List (Nat×Nat×Src))
 |nO (sz:Nat) (zero:List V) (len:Nat) (parts:List (Nat×Src))
 |make (zero:List V) (bytes:Nat) (x:Src)
 |load (n:Nat) (isAgg:Bool) (a:Src)
 |store (n:Nat) (a x:Src)
 |fld (off:Nat) (a:Src)
 |idx (sz:Nat) (x i:Src)
 |abr (cnt sz:Nat) (x i:Src)
 |adg (x i:Src)
 |len (x:Src)
 |adh (x:Src)
 |bin (op:BinOp) (x y:Src)
 |beq (ne:Bool) (x y:Src)
 |un (op:UnOp) (x:Src)
 |conv (k:IntKind) (x:Src)
 |akX (x:Src)
 |slice (sz:Nat) (x:Src) (lo hi:Option Src)
 |RG (x:Src) (lo hi:Option Src)
 |app (sz bytes:Nat) (x y:Src)
 |max (x y:Src)
 |ZJ (i:Nat) (x:Src)
 |chk (x:Src)
 |call (f:Nat) (args:List Src)
 |adi (cnt:Nat) (x i:Src)
structure qJ where
 g:Option (Nat×Bool)
 dst:Option Nat
 k:Nat
 i:I
 aft:List Nat:=[]
inductive afI where
 |akY
inductive C where
 |skip
 |reg (draw:Bool) (m:Nat) (ops:List qJ)
 |seq (a b:C)
 |cond (x:Src) (a b:C)
 |block (id:Nat) (c:C)
 |loop (c:C)
 |exit (id:Nat)
 |ret
 |lib (o:afI)
inductive O6 where
 |tmp (t:Nat)
 |cell (t n:Nat) (isAgg:Bool)
structure Fn where
 nargs:Nat
 ntmps:Nat
 res:List O6
 body:C
structure St where
 env:Nat->V
 objs:Store
 keep:Nat:=0
 base:Nat:=0
 rds:List Nat:=[]
 muts:List Nat:=[]
def upd(env:Nat->V)(t:Nat)(v:V)(s:Nat):V:=if s=t then v else env s
def oO(env:Nat->V):Option Nat->V->Nat->V
 |some t,v=>upd env t v
 |none,_=>env
def Src.ev(env:Nat->V):Src->V
 |.t n=>env n
 |.c v=>v
def splice(row:List V)(off:Nat)(cs:List V):List V:=row.take off++cs++row.drop (off+cs.length)
def jQ(σ:Store)(o:Nat):Option Obj:=(σ[o]?).getD none
def CQ(env:Nat->V):List V->List (Nat×Nat×Src)->Option (List V)
 |row,[]=>some row
 |
  row,(off,n,s)::rest=>match (s.ev env).cells? with
  |some cs=>if cs.length=n/\off+n<=row.length then CQ env (splice row off cs) rest else none
  |none=>none
def vI(env:Nat->V)(sz:Nat):List (List V)->List (Nat×Src)->Option (List (List V))
 |rows,[]=>some rows
 |
  rows,(i,s)::rest=>match (s.ev env).cells? with
  |some cs=>if cs.length=sz/\i<rows.length then vI env sz (rows.set i cs) rest else none
  |none=>none
def KA(k:IntKind)(a b:Int):Int:=k.wrap (BitVec.ofInt k.bits a &&& BitVec.ofInt k.bits b).toNat
def Xk(k:IntKind)(a b:Int):Int:=k.wrap (BitVec.ofInt k.bits a ^^^ BitVec.ofInt k.bits b).toNat
def aak:BinOp->V->V->Option V
 |.add,.int k a,.int k' b=>if k=k' then some (.int k (k.wrap (a+b)))else none
 |.sub,.int k a,.int k' b=>if k=k' then some (.int k (k.wrap (a-b)))else none
 |.mul,.int k a,.int k' b=>if k=k' then some (.int k (k.wrap (a*b)))else none
 |.quo,.int k a,.int k' b=>if k=k'/\b≠0 then some (.int k (k.wrap (a.tdiv b)))else none
 |.rem,.int k a,.int k' b=>if k=k'/\b≠0 then some (.int k (a.tmod b))else none
 |.eql,.int k a,.int k' b=>if k=k' then some (.bool (a == b))else none
 |.neq,.int k a,.int k' b=>if k=k' then some (.bool (a != b))else none
 |.lss,.int k a,.int k' b=>if k=k' then some (.bool (a<b))else none
 |.leq,.int k a,.int k' b=>if k=k' then some (.bool (a<=b))else none
 |.gtr,.int k a,.int k' b=>if k=k' then some (.bool (a>b))else none
 |.geq,.int k a,.int k' b=>if k=k' then some (.bool (a>=b))else none
 |.eql,.str a,.str b=>some (.bool (a == b))
 |.neq,.str a,.str b=>some (.bool (!(a == b)))
 |.add,.str a,.str b=>if a.length+b.length<2 ^ 62 then some (.str (a++b))else none
 |.shr,.int k a,.int _ b=>if 0<=b then some (.int k (a.fdiv (2 ^ (min b.toNat k.bits))))else none
 |.and,.int k a,.int k' b=>if k=k' then some (.int k (KA k a b))else none
 |.xor,.int k a,.int k' b=>if k=k' then some (.int k (Xk k a b))else none
 |_,_,_=>none
def akZ:UnOp->V->Option V
 |.neg,.int k n=>some (.int k (k.wrap (0-n)))
 |.not,.bool b=>some (.bool (!b))
 |_,_=>none
def rowAt(σ:Store):V->Option (List V×Nat)
 |
  .ptr o r off=>match jQ σ o with
  |some ob=>(ob.rows[r]?).map (·,off)
  |none=>none
 |.qw row off=>some (row,off)
 |_=>none
def rowsOf(σ:Store):V->Option (Nat×List (List V))
 |.kC=>some (0,[])
 |.sl sz rows=>some (sz,rows)
 |
  .lQ o s l=>match jQ σ o with
  |some ob=>if s+l<=ob.rows.length then some (ob.sz,(ob.rows.drop s).take l)else none
  |none=>none
 |_=>none
def lenOf(σ:Store):V->Option Nat
 |.kC=>some 0
 |.sl _ rows=>some rows.length
 |.lQ o _ l=>(jQ σ o).map fun _=>l
 |_=>none
inductive Eff where
 |val (v:V)
 |newP (ob:Obj)
 |newS (ob:Obj) (len:Nat)
 |upd (o:Nat) (ob:Obj)
 |qC (o:Nat) (ob:Obj) (len:Nat)
def TL(n:Nat):V->Option Nat
 |.int _ i=>if 0<=i/\i<n then some i.toNat else none
 |_=>none
def KC(n:Nat):V->Option Nat
 |.int _ i=>if 0<=i/\i<=n then some i.toNat else none
 |_=>none
def hiB(env:Nat->V)(n:Nat):Option Src->Option Nat
 |some h=>KC n (h.ev env)
 |none=>some n
def loB(env:Nat->V)(n:Nat):Option Src->Option Nat
 |some l=>KC n (l.ev env)
 |none=>some 0
def bytesOf:List (List V)->Option (List UInt8)
 | []=>some []
 | [.int .u8 n]::rest=>if 0<=n/\n<256 then(bytesOf rest).map (UInt8.ofNat n.toNat :: ·)else none
 |_=>none
def I.eff(env:Nat->V)(σ:Store):I->Option Eff
 |.qC x=>some (.val (x.ev env))
 |
  .pick c a b=>match c.ev env with
  |.bool t=>some (.val (if t then a.ev env else b.ev env))
  |_=>none
 |.alloc zero=>some (.newP ⟨zero.length,[zero]⟩)
 |
  .box x=>match (x.ev env).cells? with
  |some (c::cs)=>some (.newP ⟨(c::cs).length,[c::cs]⟩)
  |_=>none
 |
  .build zero parts=>match CQ env zero parts with
  |some cs=>some (.val (.agg cs))
  |none=>none
 |
  .nO sz zero ln parts=>match vI env sz (List.replicate ln zero) parts with
  |some rows=>if ln=0 then some (.val .kC)else some (.newS ⟨sz,rows⟩ ln)
  |none=>none
 |
  .make zero bytes x=>match x.ev env with
  |.int .i64 n=>if 0<=n/\n<=2 ^ 47/\n*bytes<=2 ^ 47 then some (.newS ⟨zero.length,List.replicate n.toNat zero⟩ n.toNat)else none
  |_=>none
 |
  .load n isAgg a=>match rowAt σ (a.ev env)with
  |
   some (row,off) =>
   if isAgg then(if off+n<=row.length then some (.val (.agg ((row.drop off).take n)))else none)
   else match row[off]? with
    |some v=>some (.val v)
    |none=>none
  |none=>none
 |
  .store n a x=>match a.ev env,(x.ev env).cells? with
  |
   .ptr o r off,some cs=>match jQ σ o with
   |
    some ob=>match ob.rows[r]? with
    |some row=>if cs.length=n/\off+n<=row.length then some (.upd o ⟨ob.sz,ob.rows.set r (splice row off cs)⟩)else none
    |none=>none
   |none=>none
  |_,_=>none
 |
  .fld d a=>match a.ev env with
  |
   .ptr o r off=>match jQ σ o with
   |some _=>some (.val (.ptr o r (off+d)))
   |none=>none
  |.qw row off=>some (.val (.qw row (off+d)))
  |_=>none
 |
  .idx sz x i=>match x.ev env with
  |
   .lQ o s l=>match jQ σ o,TL l (i.ev env)with
   |some ob,some j=>if ob.sz=sz then some (.val (.ptr o (s+j) 0))else none
   |_,_=>none
  |
   .sl sz' rows=>match TL rows.length (i.ev env)with
   |some j=>if sz'=sz then some (.val (.qw (rows.getD j []) 0))else none
   |none=>none
  |_=>none
 |
  .abr cnt sz x i=>match x.ev env,TL cnt (i.ev env)with
  |
   .ptr o r off,some j=>match jQ σ o with
   |some _=>some (.val (.ptr o r (off+j*sz)))
   |none=>none
  |.qw row off,some j=>some (.val (.qw row (off+j*sz)))
  |_,_=>none
 |
  .adg x i=>match x.ev env with
  |
   .str s=>match TL s.length (i.ev env)with
   |some j=>some (.val (.int .u8 (s.getD j 0).toNat))
   |none=>none
  |_=>none
 |
  .len x=>match lenOf σ (x.ev env)with
  |some n=>some (.val (.int .i64 n))
  |none=>none
 |
  .adh x=>match x.ev env with
  |.str s=>some (.val (.int .i64 s.length))
  |_=>none
 |
  .bin op x y=>match aak op (x.ev env) (y.ev env)with
  |some v=>some (.val v)
  |none=>none
 |
  .beq ne x y=>match x.ev env,y.ev env with
  |.bool a,.bool b=>some (.val (.bool (if ne then !(a == b)else a == b)))
  |_,_=>none
 |
  .un op x=>match akZ op (x.ev env)with
  |some v=>some (.val v)
  |none=>none
 |
  .conv k x=>match x.ev env with
  |.int _ n=>some (.val (.int k (k.wrap n)))
  |_=>none
 |
  .akX x=>match rowsOf σ (x.ev env)with
  |
   some (_,rows)=>match bytesOf rows with
   |some s=>some (.val (.str s))
   |none=>none
  |none=>none
 |
  .RG x lo hi=>match x.ev env with
  |
   .str s=>match hiB env s.length hi with
   |
    some h=>match loB env h lo with
    |some l=>some (.val (.str ((s.take h).drop l)))
    |none=>none
   |none=>none
  |_=>none
 |
  .slice sz x lo hi=>match lenOf σ (x.ev env)with
  |
   some n=>match hiB env n hi with
   |
    some h=>match loB env h lo with
    |
     some l=>match x.ev env with
     |.kC=>some (.val .kC)
     |.sl sz' rows=>if sz'=sz then some (.val (.sl sz' ((rows.take h).drop l)))else none
     |
      .lQ o s _=>match jQ σ o with
      |some ob=>if ob.sz=sz then some (.val (.lQ o (s+l) (h-l)))else none
      |none=>none
     |_=>none
    |none=>none
   |none=>none
  |none=>none
 |
  .app sz bytes x y=>match rowsOf σ (x.ev env),rowsOf σ (y.ev env)with
  |
   some (_,old),some (sz',new) =>
   if new=[]then some (.val (x.ev env))
   else if sz'=sz/\(old.length+new.length)*bytes<=2 ^ 40/\old.length+new.length<=2 ^ 40 then
    match x.ev env with
    |.kC=>some (.newS ⟨sz,new⟩ new.length)
    |
     .lQ o _ _=>match jQ σ o with
     |some ob=>if ob.sz=sz then some (.qC o ⟨sz,old++new⟩ (old.length+new.length))else none
     |none=>none
    |_=>none
   else none
  |_,_=>none
 |
  .max x y=>match x.ev env,y.ev env with
  |.int k a,.int k' b=>if k=k' then some (.val (.int k (if b>a then b else a)))else none
  |_,_=>none
 |
  .ZJ i x=>match x.ev env with
  |
   .oU vs=>match vs[i]? with
   |some v=>some (.val v)
   |none=>none
  |_=>none
 |
  .chk x=>match x.ev env with
  |
   .ptr o r off=>match jQ σ o with
   |some _=>some (.val (.ptr o r off))
   |none=>none
  |.qw row off=>some (.val (.qw row off))
  |_=>none
 |.call ..=>none
 |
  .adi cnt x i=>match x.ev env,TL cnt (i.ev env)with
  |
   .agg cs,some j=>match cs[j]? with
   |some v=>some (.val v)
   |none=>none
  |_,_=>none
def Eff.dv(id:Nat):Eff->V
 |.val v=>v
 |.newP _=>.ptr id 0 0
 |.newS _ len=>.lQ id 0 len
 |.upd _ _=>.any
 |.qC _ _ len=>.lQ id 0 len
def Eff.store(σ:Store)(id:Nat):Eff->Store
 |.val _=>σ
 |.newP ob=>σ.set id (some ob)
 |.newS ob _=>σ.set id (some ob)
 |.upd o ob=>σ.set o (some ob)
 |.qC o ob _=>(σ.set o none).set id (some ob)
def Eff.go(st:St)(dst:Option Nat)(id:Nat)(ef:Eff):St :=
 { st with env:=oO st.env dst (ef.dv id),objs:=ef.store st.objs id }
def FD:Nat:=12
def SD:Nat:=4
def resolve(σ:Store):Nat->V->Option V
 |0,_=>none
 |
  n+1,v=>match v with
  |
   .lQ o s l=>match jQ σ o with
   |some ob=>if s+l<=ob.rows.length then(((ob.rows.drop s).take l).mapM fun (r:List V)=>r.mapM (resolve σ n)).map (.sl ob.sz)else none
   |none=>none
  |
   .ptr o r off=>match jQ σ o with
   |
    some ob=>match ob.rows[r]? with
    |some row=>(row.mapM (resolve σ n)).map (.qw · off)
    |none=>none
   |none=>none
  |.agg cs=>(cs.mapM (resolve σ n)).map .agg
  |.oU cs=>(cs.mapM (resolve σ n)).map .oU
  |.any=>none
  |v=>some v
def reach(σ:Store):Nat->V->List Nat
 |0,_=>[]
 |
  n+1,v=>match v with
  |
   .lQ o _ _ | .ptr o _ _=>o::match jQ σ o with
   |some ob=>ob.rows.flatMap fun (r:List V)=>r.flatMap (reach σ n)
   |none=>[]
  |.agg cs | .oU cs=>cs.flatMap (reach σ n)
  |_=>[]
def scalar:Nat->V->Bool
 |0,_=>false
 |
  n+1,v=>match v with
  |.int .. | .bool _ | .str _ | .kC=>true
  |.agg cs | .oU cs=>cs.all (scalar n)
  |_=>false
def lS(g:Nat->Option Nat):V->V
 |
  .lQ o s l=>match g o with
  |some o'=>.lQ o' s l
  |none=>.one
 |
  .ptr o r off=>match g o with
  |some o'=>.ptr o' r off
  |none=>.one
 |.agg cs=>.agg (IZ g cs)
 |.oU cs=>.oU (IZ g cs)
 |v=>v
where IZ (g:Nat->Option Nat):List V->List V
 | []=>[]
 |c::cs=>lS g c::IZ g cs
def rD(g:Nat->Option Nat)(ob:Obj):Obj:=⟨ob.sz,ob.rows.map fun r=>r.map (lS g)⟩
def place:List Nat->Nat->Option Nat
 | [],_=>none
 |r::ρ,o=>if r=o then some 0 else(place ρ o).map (· + 1)
def Ij(ρ:List Nat)(σ:Store):Store:=ρ.map fun o=>(jQ σ o).map (rD (place ρ))
def gcE(ρ:List Nat)(env:Nat->V)(t:Nat):V:=lS (place ρ) (env t)
def St.gc(ρ:List Nat)(st:St):St:={ st with env:=gcE ρ st.env,objs:=Ij ρ st.objs }
def back(ρ:List Nat)(n:Nat)(j:Nat):Option Nat:=if j<ρ.length then ρ[j]? else some (n+(j-ρ.length))
def uO(ρ:List Nat)(σ σ':Store):Store :=
 (σ.mapIdx fun o ob=>match place ρ o with
  |some j=>(jQ σ' j).map (rD (back ρ σ.length))
  |none=>ob)++(σ'.drop ρ.length).map (Option.map (rD (back ρ σ.length)))
def nT(σ:Store)(l:List Nat):Store:=l.foldl (fun s o=>s.set o none) σ
mutual
def nG:V->V->Prop
 |.sl sz rows,y=>(rows=[]/\(y=.kC\/∃sz',y=.sl sz' []))\/∃rows',y=.sl sz rows'/\ZK rows rows'
 |.agg cs,y=>∃cs',y=.agg cs'/\wJ cs cs'
 |.oU cs,y=>∃cs',y=.oU cs'/\wJ cs cs'
 |.any,y=>y=.any
 |.one,y=>y=.one
 |.int k n,y=>y=.int k n
 |.bool b,y=>y=.bool b
 |.str s,y=>y=.str s
 |.kC,y=>y=.kC
 |.lQ o s l,y=>y=.lQ o s l
 |.ptr o r off,y=>y=.ptr o r off
 |.qw row off,y=>∃row',y=.qw row' off/\wJ row row'
def wJ:List V->List V->Prop
 | [],ys=>ys=[]
 |x::xs,ys=>∃y ys',ys=y::ys'/\nG x y/\wJ xs ys'
def ZK:List (List V)->List (List V)->Prop
 | [],ys=>ys=[]
 |x::xs,ys=>∃y ys',ys=y::ys'/\wJ x y/\ZK xs ys'
end
abbrev Px:=List (Option (Nat×Nat×Nat))
mutual
def yA(W:Px)(σ:Store):V->V->Prop
 |.lQ o s l,y=>(∃k s0 l0,W[k]? = some (some (o,s0,l0))/\s0<=s/\s+l<=s0+l0/\y=.lQ k (s-s0) l)\/(l=0/\(jQ σ o).isSome=true/\∃sz,y=.sl sz []) \/
   (resolve σ FD (.lQ o s l)=some y/\∀q,q∈reach σ FD (.lQ o s l)->∀(k s0 l0:Nat),W[k]? ≠ some (some (q,s0,l0)))
 |.ptr o r off,y=>(∃k s0 l0,W[k]? = some (some (o,s0,l0))/\s0<=r/\r<s0+l0/\y=.ptr k (r-s0) off) \/
   (resolve σ FD (.ptr o r off)=some y/\∀q,q∈reach σ FD (.ptr o r off)->∀(k s0 l0:Nat),W[k]? ≠ some (some (q,s0,l0)))
 |.agg cs,y=>∃ds,y=.agg ds/\yB W σ cs ds
 |.oU cs,y=>∃ds,y=.oU ds/\yB W σ cs ds
 |.kC,y=>y=.kC\/∃sz,y=.sl sz []
 |.sl sz rows,y=>nG y (.sl sz rows)
 |.qw row off,y=>nG y (.qw row off)
 |.any,y=>y=.any
 |.one,y=>y=.one
 |.int k n,y=>y=.int k n
 |.bool b,y=>y=.bool b
 |.str s,y=>y=.str s
def yB(W:Px)(σ:Store):List V->List V->Prop
 | [],ys=>ys=[]
 |x::xs,ys=>∃y ys',ys=y::ys'/\yA W σ x y/\yB W σ xs ys'
end
structure ReS (W:Px) (σ σ2:Store):Prop where
 len:σ2.length=W.length
 nd:∀(i j o s l s' l':Nat),W[i]? = some (some (o,s,l))->W[j]? = some (some (o,s',l'))->i=j
 win:∀(k o s l:Nat),W[k]? = some (some (o,s,l))->∃ob ob2,jQ σ o=some ob/\s+l<=ob.rows.length/\jQ σ2 k=some ob2/\ob2.sz=ob.sz /\
  ob2.rows.length=l/\∀(i:Nat) (r r2:List V),ob.rows[s+i]? = some r->ob2.rows[i]? = some r2->yB W σ r r2
 hole:∀k:Nat,W[k]? = some none->jQ σ2 k=none
structure atB (W:Px) (st st2:St):Prop where
 objs:ReS W st.objs st2.objs
 keep:st2.keep=st.keep
 kp:∀i:Nat,i<st.keep->(∃ob,jQ st.objs i=some ob/\W[i]? = some (some (i,0,ob.rows.length)))\/(jQ st.objs i=none/\W[i]? = some none)
 env:∀t,st2.env t=.any\/yA W st.objs (st.env t) (st2.env t)
def ou:V->Bool
 |.sl _ rows=>rows.isEmpty
 |.qw ..=>false
 |.agg cs=>xM cs
 |.oU cs=>xM cs
 |_=>true
where xM:List V->Bool
 | []=>true
 |c::cs=>ou c&&xM cs
def FP(σ:Store):Bool:=σ.all fun o=>match o with
 |some ob=>ob.rows.all fun r=>r.all ou
 |none=>true
def mV(n j:Nat):Option Nat:=some (n+j)
def zW(σ σ':Store):Store:=σ++σ'.map (Option.map (rD (mV σ.length)))
def I.makes:I->Bool
 |.alloc _ | .box _ | .nO .. | .make .. | .app ..=>true
 |_=>false
def okK(m:Nat):List qJ->Bool
 | []=>true
 |o::l=>(if o.i.makes then decide (o.k<m)&&l.all (fun p=>!p.i.makes||p.k != o.k)else o.k == m)&&okK m l
inductive Ex where
 |normal
 |exit (id:Nat)
 |ret
 deriving DecidableEq
inductive Job where
 |code (c:C) (st:St)
 |ops (l:List qJ) (st:St)
 |op (o:qJ) (st:St)
 |any (l:List qJ) (done:List Nat) (st:St)
 |fn (f:Nat) (args:List V) (σ:Store)
inductive Out where
 |code (e:Ex) (st:St)
 |fn (r:V) (σ:Store)
def O6.get(st:St):O6->Option V
 |.tmp t=>some (st.env t)
 |
  .cell t n isAgg=>match rowAt st.objs (st.env t)with
  |
   some (row,off) =>
   if isAgg then(if off+n<=row.length then some (.agg ((row.drop off).take n))else none)
   else row[off]?
  |none=>none
def wu:List V->V
 | [v]=>v
 |vs=>.oU vs
def adk(id:Nat):Ex->Ex
 |.exit id'=>if id'=id then .normal else .exit id'
 |e=>e
def mJ(args:List V)(t:Nat):V:=args.getD t .any
def ajx(want:Bool)(v:V):Prop:=v=.oU []\/∃b,v=.bool b/\b≠want
def St.enter(args:List V)(σ:Store):St:={ env:=mJ args,objs:=σ,keep:=σ.length }
def zI(l:List qJ)(done:List Nat)(i:Nat):Bool :=
 match l[i]? with
 |some o=>!done.contains i&&o.aft.all done.contains
 |none=>false
def Wh(l:List Int):List Int:=l.mergeSort fun x y=>decide (x<=y)
def afI.sem:afI->List V->Store->V->Store->Prop
 |.akY,args,σ,r,σ'=>∃o zs,args=[.lQ o 0 zs.length]/\0<zs.length/\zs.length<=1099511627776/\jQ σ o=some ⟨1,zs.map fun z=>[.int .i64 z]⟩/\r=.oU []/\σ'=σ.set o (some ⟨1,(Wh zs).map fun z=>[.int .i64 z]⟩)
abbrev Tb:=Nat->Option Fn
inductive Run (T:Tb):Job->Out->Prop
 |skip (st):Run T (.code .skip st) (.code .normal st)
 |reg {m l st st'} (hk:okK m l=true)
   (h:Run T (.ops l { st with objs:=st.objs++List.replicate m none,base:=st.objs.length,rds:=[],muts:=[] }) (.code .normal st')) :
   Run T (.code (.reg false m l) st) (.code .normal st')
 |atC {m l st st'} (hk:okK m l=true)
   (h:Run T (.any l [] { st with objs:=st.objs++List.replicate m none,base:=st.objs.length,rds:=[],muts:=[] }) (.code .normal st')) :
   Run T (.code (.reg true m l) st) (.code .normal st')
 |axW {l done st} (h:∀i,zI l done i=false):Run T (.any l done st) (.code .normal st)
 |axX {l done st st'} (i0:Nat) (h0:zI l done i0=true) (f:Nat->St) (h:∀i o,l[i]? = some o->zI l done i=true->Run T (.op o st) (.code .normal (f i)))
   (h':∀i,zI l done i=true->Run T (.any l (i::done) (f i)) (.code .normal st')):Run T (.any l done st) (.code .normal st')
 |axY {a b st st1 o} (h:Run T (.code a st) (.code .normal st1)) (h':Run T (.code b st1) o):Run T (.code (.seq a b) st) o
 |atD {a b st e st1} (he:e≠.normal) (h:Run T (.code a st) (.code e st1)):Run T (.code (.seq a b) st) (.code e st1)
 |cond {x a b st t o} (hx:x.ev st.env=.bool t) (h:Run T (.code (if t then a else b) st) o):Run T (.code (.cond x a b) st) o
 |block {id c st e st1} (h:Run T (.code c st) (.code e st1)):Run T (.code (.block id c) st) (.code (adk id e) st1)
 |ak3 {c st st1 o} (h:Run T (.code c st) (.code .normal st1)) (h':Run T (.code (.loop c) st1) o):Run T (.code (.loop c) st) o
 |adl {c st e st1} (he:e≠.normal) (h:Run T (.code c st) (.code e st1)):Run T (.code (.loop c) st) (.code e st1)
 |exit (id st):Run T (.code (.exit id) st) (.code (.exit id) st)
 |ret (st):Run T (.code .ret st) (.code .ret st)
 |gc {c st o} (ρ:List Nat) (hn:ρ.Nodup) (hρ:∀i,i<st.keep->ρ[i]? = some i) (h:Run T (.code c (st.gc ρ)) o):Run T (.code c st) o
 |nil (st):Run T (.ops [] st) (.code .normal st)
 |cons {o l st st1 out} (h:Run T (.op o st) (.code .normal st1)) (h':Run T (.ops l st1) out):Run T (.ops (o::l) st) out
 |off {o st g want} (hg:o.g=some (g,want)) (he:ajx want (st.env g)) :
   Run T (.op o st) (.code .normal { st with env:=oO st.env o.dst (.oU []) })
 |op {o st ef} (hg:∀g want,o.g=some (g,want)->st.env g=.bool want) (h:o.i.eff st.env st.objs=some ef) :
   Run T (.op o st) (.code .normal (ef.go st o.dst (st.base+o.k)))
 |adn {o st f as as' r R} (hg:∀g want,o.g=some (g,want)->st.env g=.bool want) (hi:o.i=.call f as)
   (ha:as.mapM (fun s=>resolve st.objs FD (s.ev st.env))=some as') (h:Run T (.fn f as' []) (.fn r []))
   (hR:R=if scalar SD r then []else as.flatMap fun s=>reach st.objs FD (s.ev st.env)) :
   Run T (.op o st) (.code .normal { st with env:=oO st.env o.dst r,objs:=nT st.objs R })
 |ak4 {o st f as r σ'} (ρ:List Nat) (hn:ρ.Nodup) (hρ:∀o,o∈ρ->(jQ st.objs o).isSome=true) (hg:∀g want,o.g=some (g,want)->st.env g=.bool want) (hi:o.i=.call f as)
   (h:Run T (.fn f (as.map fun s=>lS (place ρ) (s.ev st.env)) (Ij ρ st.objs)) (.fn r σ')) :
   Run T (.op o st) (.code .normal { st with env:=oO st.env o.dst (lS (back ρ st.objs.length) r),objs:=uO ρ st.objs σ' })
 |fn {f args σ F e st' rs} (hf:T f=some F) (hl:args.length=F.nargs) (h:Run T (.code F.body (St.enter args σ)) (.code e st'))
   (he:e=.normal\/e=.ret) (hr:F.res.mapM (O6.get st')=some rs):Run T (.fn f args σ) (.fn (wu rs) st'.objs)
 |lib {f args σ F o r σ'} (hf:T f=some F) (hb:F.body=.lib o) (h:o.sem args σ r σ'):Run T (.fn f args σ) (.fn r σ')
 |XZ {f args r σ' r'} (h:Run T (.fn f args []) (.fn r σ')) (hr:resolve σ' FD r=some r'):Run T (.fn f args []) (.fn r' [])
 |gcF {f args σ r σ'} (ρ:List Nat) (hn:ρ.Nodup) (hρ:∀i,i<σ.length->ρ[i]? = some i) (h:Run T (.fn f args σ) (.fn r σ')) :
   Run T (.fn f args σ) (.fn (lS (place ρ) r) (Ij ρ σ'))
 |forget {c st st2 o} (he:∀t,st2.env t=.any\/nG (st2.env t) (st.env t)) (ho:st2.objs=st.objs) (hk:st2.keep=st.keep) (h':Run T (.code c st2) o):Run T (.code c st) o
 |re {c st st2 o} (W:Px) (h:atB W st st2) (h':Run T (.code c st2) o):Run T (.code c st) o
 |reF {f args args2 r σ' r2 σ2} (W:Px) (ha:wJ args args2) (h:Run T (.fn f args []) (.fn r σ')) (hs:ReS W σ' σ2) (hr:yA W σ' r r2):Run T (.fn f args2 []) (.fn r2 σ2)
 |abt {f args args2 σ r r2 σ'} (ha:wJ args args2) (h:Run T (.fn f args σ) (.fn r σ')) (hr:nG r2 r):Run T (.fn f args2 σ) (.fn r2 σ')
 |ak5 {o st f as as' r σ' R} (hg:∀g want,o.g=some (g,want)->st.env g=.bool want) (hi:o.i=.call f as)
   (ha:as.mapM (fun s=>resolve st.objs FD (s.ev st.env))=some as') (h:Run T (.fn f as' []) (.fn r σ'))
   (hR:R=if ou r&&FP σ' then []else as.flatMap fun s=>reach st.objs FD (s.ev st.env)) :
   Run T (.op o st) (.code .normal { st with env:=oO st.env o.dst (lS (mV st.objs.length) r),objs:=zW (nT st.objs R) σ' })
 |ak6 {o st f as r σ'} (hg:∀g want,o.g=some (g,want)->st.env g=.bool want) (hi:o.i=.call f as)
   (h:Run T (.fn f (as.map fun s=>s.ev st.env) st.objs) (.fn r σ')) (hl:st.objs.length<=σ'.length) (hb:st.objs.length<=st.base) :
   Run T (.op o st) (.code .normal { st with env:=oO st.env o.dst r,objs:=σ' })
def vJ:DS->DS->Prop
 |.oM,_=>True
 |.dead,x=>x=.dead
 |.live d,x=>x=.live d\/x=.dead
theorem vJ.refl(x:DS):vJ x x:=by cases x<;>simp [vJ]
theorem vJ.trans{x y z:DS}(h:vJ x y)(k:vJ y z):vJ x z:=by
 cases x<;>simp [vJ]at *
 ·subst h;exact k
 rcases h with h|h<;>subst h<;>simp at k
 ·exact k
 exact .inr k
structure Ext (w:World) (D:DM) (X:Nat->Prop) (w':World) (D':DM) (X':Nat->Prop):Prop where
 size:w.heap.size<=w'.heap.size
 same:∀b,b<w.heap.size->¬X b->w'.heap[b]? = w.heap[b]?
 less:∀b,b<w.heap.size->X' b->X b
 ds:∀o,vJ (D o) (D' o)
theorem Ext.none{w D X w' D' X'}(E:Ext w D X w' D' X'):Ext w DM.none X w' DM.none X':=⟨E.size,E.same,E.less,fun _=>vJ.refl _⟩
theorem Ext.refl(w D X):Ext w D X w D X:=⟨aJ _,fun _ _ _=>rfl,fun _ _ h=>h,fun _=>vJ.refl _⟩
theorem cellOf{w w':World}{a:Addr}(h:w'.heap[a.block]? = w.heap[a.block]?):w'.cell? a=w.cell? a:=by simp [World.cell?,h]
theorem Ext.trans{w D X w1 D1 X1 w2 D2 X2}(h:Ext w D X w1 D1 X1)(k:Ext w1 D1 X1 w2 D2 X2):Ext w D X w2 D2 X2 :=
 ⟨dw h.size k.size,fun b hb hx=>(k.same b (bD hb h.size) fun j=>hx (h.less b hb j)).trans (h.same b hb hx),
  fun b hb j=>h.less b hb (k.less b (bD hb h.size) j),fun o=>(h.ds o).trans (k.ds o)⟩
mutual
theorem oP{w w':World}{X X':Nat->Prop}:∀{D D':DM} (V:V) (v:Value),Ext w D X w' D' X'->rd w D X V v->rd w' D' X' V v
 |_,_,.any,_,_,_=>by simp [rd]
 |_,_,.one,_,_,h=>by simpa [rd]using h
 |_,_,.int ..,_,_,h=>by simpa [rd]using h
 |_,_,.bool _,_,_,h=>by simpa [rd]using h
 |_,_,.str _,_,_,h=>by simpa [rd]using h
 |_,_,.kC,_,_,h=>by simpa [rd]using h
 |
  _,_,.agg cs,v,E,h=>by
  simp only [rd]at h ⊢;obtain⟨a,rfl,h⟩:=h;exact⟨a,rfl,Py cs _ E h⟩
 |
  _,_,.oU cs,v,E,h=>by
  simp only [rd]at h ⊢;obtain⟨a,rfl,h⟩:=h;exact⟨a,rfl,Py cs _ E h⟩
 |
  _,_,.sl sz rows,v,E,h=>by
  simp only [rd]at h ⊢;obtain⟨a,cap,rfl,hcap,h⟩:=h;refine⟨a,cap,rfl,hcap,h.imp id ?_⟩;rintro⟨b,off,rfl,hb,hx,h⟩;refine⟨b,off,rfl,bD hb E.size,fun k=>hx (E.less b hb k),Wi sz off rows E.none (fun o=>?_) h⟩;exact cellOf (a:=⟨b,_,none⟩) (E.same b hb hx)
 |
  D,D',.lQ o start len,v,E,h=>by
  simp only [rd]at h ⊢;have:=E.ds o
  cases hD:D o with
  |oM=>simp [hD]at h
  |dead=>rw [hD]at this h;simp only [vJ]at this;rw [this];exact h
  |
   live d =>
   rw [hD]at this h;rcases this with h'|h'<;>rw [h']
   ·exact h
   obtain⟨_,a,cap,h,_⟩:=h;exact⟨a,len,cap,h⟩
 |
  D,D',.ptr o row off,v,E,h=>by
  simp only [rd]at h ⊢;have:=E.ds o
  cases hD:D o with
  |oM=>simp [hD]at h
  |dead=>rw [hD]at this h;simp only [vJ]at this;rw [this];exact h
  |
   live d =>
   rw [hD]at this h;rcases this with h'|h'<;>rw [h']
   ·exact h
   exact⟨_,h⟩
 |
  _,_,.qw row off,v,E,h=>by
  simp only [rd]at h ⊢;obtain⟨b,o,rfl,hb,hx,h⟩:=h;exact⟨b,o,rfl,bD hb E.size,fun k=>hx (E.less b hb k),ND o row E.none (fun _=>cellOf (a:=⟨b,_,none⟩) (E.same b hb hx)) h⟩
theorem Py{w w':World}{X X':Nat->Prop}:∀{D D':DM} (xs:List V) (ys:List Value),Ext w D X w' D' X'->qH w D X xs ys->qH w' D' X' xs ys
 |_,_,[],_,_,h=>by simpa [qH]using h
 |
  _,_,x::xs,ys,E,h=>by
  simp only [qH]at h ⊢;obtain⟨y,ys',rfl,h1,h2⟩:=h;exact⟨y,ys',rfl,oP x y E h1,Py xs ys' E h2⟩
theorem ND{w w':World}{X X':Nat->Prop}{b:Nat}:∀{D D':DM} (off:Nat) (xs:List V),Ext w D X w' D' X' ->
  (∀o,w'.cell? ⟨b,o,none⟩=w.cell? ⟨b,o,none⟩)->pJ w D X b off xs->pJ w' D' X' b off xs
 |_,_,_,[],_,_,_=>by simp [pJ]
 |
  _,_,off,x::xs,E,hc,h=>by
  simp only [pJ]at h ⊢;obtain⟨hl,⟨c,h1,h2⟩,h3⟩:=h;exact⟨hl,⟨c,by rw [hc];exact h1,oP x c E h2⟩,ND (off+1) xs E hc h3⟩
theorem Wi{w w':World}{X X':Nat->Prop}{b:Nat}:∀{D D':DM} (sz off:Nat) (rs:List (List V)),Ext w D X w' D' X' ->
  (∀o,w'.cell? ⟨b,o,none⟩=w.cell? ⟨b,o,none⟩)->sD w D X b sz off rs->sD w' D' X' b sz off rs
 |_,_,_,_,[],_,_,_=>by simp [sD]
 |
  _,_,sz,off,r::rs,E,hc,h=>by
  simp only [sD]at h ⊢;exact⟨h.1,ND off r E hc h.2.1,Wi sz (off+sz) rs E hc h.2.2⟩
end
theorem Pz{w D X b}:∀(off:Nat) (xs ys:List V),pJ w D X b off (xs++ys)↔pJ w D X b off xs/\pJ w D X b (off+xs.length) ys
 |off,[],ys=>by simp [pJ]
 |
  off,x::xs,ys=>by
  simp only [dI,pJ,au,Pz (off+1) xs ys];rw [show off+1+xs.length=off+(xs.length+1) by omega,and_assoc,and_assoc]
theorem PD{w D X b}:∀(off:Nat) (xs:List V),pJ w D X b off xs->∀(i:Nat) (x:V),xs[i]? = some x ->
  x.leaf=true/\∃c,w.cell? ⟨b,off+i,none⟩=some c/\rd w D X x c
 |_,[],_,_,_,hi=>by simp at hi
 |
  off,y::ys,h,0,x,hi=>by
  simp only [pJ]at h;simp at hi;subst hi;exact⟨h.1,h.2.1⟩
 |
  off,y::ys,h,i+1,x,hi=>by
  simp only [pJ]at h;have:=PD (off+1) ys h.2.2 i x (by simpa using hi)
  rwa [show off+1+i=off+(i+1) by omega]at this
theorem X0{w D X b sz}:∀(off:Nat) (rs:List (List V)),sD w D X b sz off rs->∀(i:Nat) (r:List V),rs[i]? = some r ->
  r.length=sz/\pJ w D X b (off+i*sz) r
 |_,[],_,_,_,hi=>by simp at hi
 |
  off,y::ys,h,0,r,hi=>by
  simp only [sD]at h;simp at hi;subst hi;simpa using ⟨h.1,h.2.1⟩
 |
  off,y::ys,h,i+1,r,hi=>by
  simp only [sD]at h;have:=X0 (off+sz) ys h.2.2 i r (by simpa using hi)
  rwa [show off+sz+i*sz=off+(i+1)*sz by rw [fA];omega]at this
theorem Wj{w D X b sz}:∀(n off:Nat) (rs:List (List V)),sD w D X b sz off rs->sD w D X b sz (off+n*sz) (rs.drop n)
 |0,off,rs,h=>by simpa using h
 |n+1,off,[],_=>by simp [sD]
 |
  n+1,off,r::rs,h=>by
  simp only [sD]at h;have:=Wj n (off+sz) rs h.2.2
  rwa [show off+sz+n*sz=off+(n+1)*sz by rw [fA];omega]at this
theorem Wn{w D X b sz}:∀(n off:Nat) (rs:List (List V)),sD w D X b sz off rs->sD w D X b sz off (rs.take n)
 |0,_,_,_=>by simp [sD]
 |_+1,_,[],_=>by simp [sD]
 |
  n+1,off,r::rs,h=>by
  simp only [sD,jO]at h ⊢;exact⟨h.1,h.2.1,Wn n (off+sz) rs h.2.2⟩
theorem rJ{w D X}:∀(xs:List V) (ys:List Value),qH w D X xs ys->xs.length=ys.length
 | [],ys,h=>by simp only [qH]at h;simp [h]
 |
  x::xs,ys,h=>by
  simp only [qH]at h;obtain⟨y,ys',rfl,_,h⟩:=h;simp [rJ xs ys' h]
theorem Gq{w D X}:∀(xs:List V) (ys:List Value),qH w D X xs ys->∀(i:Nat) (x:V),xs[i]? = some x->∃y,ys[i]? = some y/\rd w D X x y
 | [],_,_,_,_,hi=>by simp at hi
 |
  x::xs,ys,h,i,z,hi=>by
  simp only [qH]at h;obtain⟨y,ys',rfl,h1,h2⟩:=h
  cases i with
  |zero=>simp at hi;subst hi;exact⟨y,rfl,h1⟩
  |succ i=>simpa using Gq xs ys' h2 i z (by simpa using hi)
theorem FQ{w D X}:∀(xs xs':List V) (ys ys':List Value),qH w D X xs ys->qH w D X xs' ys'->qH w D X (xs++xs') (ys++ys')
 | [],xs',ys,ys',h,h'=>by simp only [qH]at h;subst h;simpa using h'
 |
  x::xs,xs',ys,ys',h,h'=>by
  simp only [qH]at h;obtain⟨y,yt,rfl,h1,h2⟩:=h;simp only [dI,qH];exact⟨y,yt++ys',rfl,h1,FQ xs xs' yt ys' h2 h'⟩
theorem ado{w D X}:∀(n:Nat) (xs:List V) (ys:List Value),qH w D X xs ys->qH w D X (xs.take n) (ys.take n)
 |0,_,_,_=>by simp [qH]
 |_+1,[],_,h=>by simp only [qH]at h;subst h;simp [qH]
 |
  n+1,x::xs,ys,h=>by
  simp only [qH]at h;obtain⟨y,yt,rfl,h1,h2⟩:=h;simp only [jO,qH];exact⟨y,yt.take n,rfl,h1,ado n xs yt h2⟩
theorem adp{w D X}:∀(n:Nat) (xs:List V) (ys:List Value),qH w D X xs ys->qH w D X (xs.drop n) (ys.drop n)
 |0,_,_,h=>by simpa using h
 |_+1,[],_,h=>by simp only [qH]at h;subst h;simp [qH]
 |
  n+1,x::xs,ys,h=>by
  simp only [qH]at h;obtain⟨y,yt,rfl,h1,h2⟩:=h;simpa using adp n xs yt h2
theorem PE{w D X b}:∀(off:Nat) (xs:List V),pJ w D X b off xs↔∀(i:Nat) (x:V),xs[i]? = some x->x.leaf=true/\∃c,w.cell? ⟨b,off+i,none⟩=some c/\rd w D X x c
 |off,[]=>by simp [pJ]
 |
  off,y::ys=>by
  simp only [pJ,PE (off+1) ys];constructor
  ·rintro⟨hl,h0,h1⟩ i x hi
   cases i with
   |zero=>simp at hi;subst hi;exact⟨hl,h0⟩
   |
    succ i =>
    have:=h1 i x (by simpa using hi)
    rwa [show off+1+i=off+(i+1) by omega]at this
  intro h;refine⟨(h 0 y rfl).1,(h 0 y rfl).2,fun i x hi=>?_⟩;have:=h (i+1) x (by simpa using hi)
  rwa [show off+(i+1)=off+1+i by omega]at this
theorem RH{w D X b sz}:∀(off:Nat) (rs:List (List V)),sD w D X b sz off rs↔(∀r∈rs,r.length=sz)/\pJ w D X b off rs.flatten
 |off,[]=>by simp [sD,pJ]
 |
  off,r::rs=>by
  simp only [sD,RH (off+sz) rs,dO,Pz,aI,forall_eq_or_imp];constructor
  ·rintro⟨rfl,h1,h2,h3⟩;exact⟨⟨rfl,h2⟩,h1,h3⟩
  rintro⟨⟨rfl,h2⟩,h1,h3⟩;exact⟨rfl,h1,h2,h3⟩
def XS(M:Nat->Prop)(D:DM):Nat->Prop:=fun b=>M b\/∃o d,D o=.live d/\d.blk=b
structure uP (w:World) (D:DM) (M:Nat->Prop) (σ:Store):Prop where
 live:∀o d,D o=.live d->∃ob c e,jQ σ o=some ob/\d.sz=ob.sz/\d.n=ob.rows.length/\0<d.sz/\¬M d.blk/\d.blk<w.heap.size /\
  w.heap[d.blk]? = some (.cells c e (0,0))/\c.size=d.cap/\d.ML+d.n*d.sz<=d.cap/\(∀r∈ob.rows,r.length=ob.sz) /\
  ∀(i:Nat) (x:V),ob.rows.flatten[i]? = some x->x.leaf=true/\∃y,c[d.ML+i]? = some y/\rd w D (XS M D) x y
 alive:∀o ob,jQ σ o=some ob->∃d,D o=.live d
 inj:∀o o' d d',D o=.live d->D o'=.live d'->d.blk=d'.blk->o=o'
 far:∀o,σ.length<=o->D o=.oM
 mlt:∀b,M b->b<w.heap.size
structure Gr (own:Nat->Prop) (w w':World):Prop where
 size:w.heap.size<=w'.heap.size
 os:w'.os=w.os
 tape:w'.tape=w.tape
 output:w'.output=w.output
 block:∀b,b<w.heap.size->¬own b->w'.heap[b]? = w.heap[b]?
theorem Gr.refl(own w):Gr own w w:=⟨aJ _,rfl,rfl,rfl,fun _ _ _=>rfl⟩
theorem Gr.trans{own w w1 w2}(h:Gr own w w1)(k:Gr (fun b=>own b\/w.heap.size<=b) w1 w2):Gr own w w2 :=
 ⟨dw h.size k.size,k.os.trans h.os,k.tape.trans h.tape,k.output.trans h.output,
  fun b hb ho=>(k.block b (bD hb h.size) (by rintro(h|h);exact ho h;omega)).trans (h.block b hb ho)⟩
theorem Gr.mono{own own':Nat->Prop}{w w'}(h:Gr own w w')(hs:∀b,b<w.heap.size->own b->own' b):Gr own' w w' :=
 ⟨h.size,h.os,h.tape,h.output,fun b hb ho=>h.block b hb fun k=>ho (hs b hb k)⟩
structure Push (w w':World) (cs:Array Value):Prop where
 heap:∃e,w'.heap=w.heap.push (.cells cs e)
 os:w'.os=w.os
 tape:w'.tape=w.tape
 output:w'.output=w.output
theorem Push.size{w w' cs}(h:Push w w' cs):w'.heap.size=w.heap.size+1:=by obtain⟨e,h⟩:=h.heap;simp [h]
theorem Push.old{w w' cs}(h:Push w w' cs){b:Nat}(hb:b<w.heap.size):w'.heap[b]? = w.heap[b]?:=by
 obtain⟨e,h⟩:=h.heap;rw [h,Array.getElem?_push];rw [aN (by omega)]
theorem Push.new{w w' cs}(h:Push w w' cs):∃e,w'.heap[w.heap.size]? = some (.cells cs e (0,0)):=by
 obtain⟨e,h⟩:=h.heap;exact⟨e,by rw [h,Array.getElem?_push];simp⟩
theorem Push.gr{w w' cs}(h:Push w w' cs)(own):Gr own w w':=⟨by rw [h.size];omega,h.os,h.tape,h.output,fun _ hb _=>h.old hb⟩
def DM.put(D:DM)(o:Nat)(x:DS):DM:=fun q=>if q=o then x else D q
theorem vg{σ:Store}{i o:Nat}{x:Option Obj}(h:i<σ.length):jQ (σ.set i x) o=if i=o then x else jQ σ o:=by
 unfold jQ;rw [fH];split
 ·subst_vars;simp
 rfl
theorem uP.new{w w' D M σ cs}(h:uP w D M σ)(p:Push w w' cs){id:Nat}(hid:id<σ.length)(hD:D id=.oM){ob:Obj}(hsz:0<ob.sz)
  (hr:∀r∈ob.rows,r.length=ob.sz) (hfit:ob.rows.length*ob.sz<=cs.size)
  (hrd:∀(i:Nat) (x:V),ob.rows.flatten[i]? = some x->x.leaf=true/\∃y,cs[i]? = some y/\rd w D (XS M D) x y) :
  let D':=D.put id (.live ⟨w.heap.size,0,ob.sz,ob.rows.length,cs.size⟩)
  uP w' D' M (σ.set id (some ob))/\Ext w D (XS M D) w' D' (XS M D'):=by
 intro D';have E:Ext w D (XS M D) w' D' (XS M D'):=by
  refine⟨by rw [p.size];omega,fun b hb _=>p.old hb,?_,?_⟩
  ·rintro b hb (hm|⟨o,d,ho,rfl⟩)
   ·exact .inl hm
   simp only [D',DM.put]at ho;split at ho
   ·cases ho;simp at hb
   exact .inr ⟨o,d,ho,rfl⟩
  intro o;simp only [D',DM.put];split
  ·subst_vars;rw [hD];trivial
  exact vJ.refl _
 refine⟨⟨?_,?_,?_,?_,?_⟩,E⟩
 ·intro o d ho;simp only [D',DM.put]at ho;split at ho
  ·rename_i heq;subst heq
   cases ho
   obtain⟨e,he⟩:=p.new;refine⟨ob,cs,e,by rw [vg hid];simp,rfl,rfl,hsz,fun hm=>by have:=h.mlt _ hm;simp at this,by rw [p.size];simp,he,rfl,by simpa using hfit,hr,fun i x hi=>?_⟩;obtain⟨hl,y,h1,h2⟩:=hrd i x hi;exact⟨hl,y,by simpa using h1,oP _ _ E h2⟩
  rename_i hne;obtain⟨ob',c,e,h1,h2,h3,h4,h5,h6,h7,h8,h9,h10,h11⟩:=h.live o d ho;refine⟨ob',c,e,by rw [vg hid,aN (fun k=>hne k.symm)];exact h1,h2,h3,h4,h5,by rw [p.size];omega,by rw [p.old h6];exact h7,h8,h9,h10,fun i x hi=>?_⟩;obtain⟨hl,y,k1,k2⟩:=h11 i x hi;exact⟨hl,y,k1,oP _ _ E k2⟩
 ·intro o ob' ho;rw [vg hid]at ho;simp only [D',DM.put];by_cases hio:o=id
  ·simp [hio]
  rw [aN (fun k=>hio k.symm)]at ho;simp only [hio,if_false];exact h.alive o ob' ho
 ·intro o o' d d' ho ho' hb;simp only [D',DM.put]at ho ho';split at ho<;>split at ho'
  ·subst_vars;rfl
  ·cases ho
   obtain⟨_,_,_,_,_,_,_,_,k,_⟩:=h.live o' d' ho';simp at hb;omega
  ·cases ho'
   obtain⟨_,_,_,_,_,_,_,_,k,_⟩:=h.live o d ho;simp at hb;omega
  exact h.inj o o' d d' ho ho' hb
 ·intro o ho;simp only [bV]at ho;simp only [D',DM.put];rw [aN (by omega)];exact h.far o ho
 intro b hb;have:=h.mlt b hb;rw [p.size];omega
structure apl (w w':World) (b:Nat) (c':Array Value):Prop where
 heap:∃c e,w.heap[b]? = some (.cells c e (0,0))/\c'.size=c.size/\w'.heap[b]? = some (.cells c' e (0,0))
 old:∀k,k≠b->w'.heap[k]? = w.heap[k]?
 size:w'.heap.size=w.heap.size
 os:w'.os=w.os
 tape:w'.tape=w.tape
 output:w'.output=w.output
theorem uP.upd{w w' D M σ}(h:uP w D M σ){o:Nat}{d:ajv}(hD:D o=.live d){c':Array Value}(p:apl w w' d.blk c'){ob:Obj}
  (hsz:ob.sz=d.sz) (hn:ob.rows.length=d.n) (hr:∀r∈ob.rows,r.length=ob.sz)
  (hrd:∀(i:Nat) (x:V),ob.rows.flatten[i]? = some x->x.leaf=true/\∃y,c'[d.ML+i]? = some y/\rd w D (XS M D) x y) :
  uP w' D M (σ.set o (some ob))/\Ext w D (XS M D) w' D (XS M D):=by
 have hb:XS M D d.blk:=.inr ⟨o,d,hD,rfl⟩;have E:Ext w D (XS M D) w' D (XS M D):=⟨by rw [p.size];omega,fun b hb' hx=>p.old b (fun k=>hx (k▸hb)),fun _ _ h=>h,fun _=>vJ.refl _⟩;have hlen:o<σ.length:=by
  rcases dW o σ.length with k|k
  ·exact k
  rw [h.far o k]at hD;cases hD
 refine⟨⟨?_,?_,h.inj,fun o ho=>h.far o (by simpa using ho),fun b hb=>by rw [p.size];exact h.mlt b hb⟩,E⟩
 ·intro q d' hq;obtain⟨ob',c,e,h1,h2,h3,h4,h5,h6,h7,h8,h9,h10,h11⟩:=h.live q d' hq;by_cases hqo:q=o
  ·subst hqo;rw [hD]at hq;cases hq;obtain⟨c0,e0,k1,k2,k3⟩:=p.heap;rw [h7]at k1;cases k1;refine⟨ob,c',e,by rw [vg hlen];simp,hsz.symm,hn.symm,h4,h5,by rw [p.size];exact h6,k3,k2.trans h8,h9,hr,fun i x hi=>?_⟩;obtain⟨hl,y,j1,j2⟩:=hrd i x hi;exact⟨hl,y,j1,oP _ _ E j2⟩
  have hne:d'.blk≠d.blk:=fun k=>hqo (h.inj _ _ _ _ hq hD k);refine⟨ob',c,e,by rw [vg hlen,aN (fun k=>hqo k.symm)];exact h1,h2,h3,h4,h5,by rw [p.size];exact h6,by rw [p.old _ hne];exact h7,h8,h9,h10,fun i x hi=>?_⟩;obtain⟨hl,y,j1,j2⟩:=h11 i x hi;exact⟨hl,y,j1,oP _ _ E j2⟩
 intro q ob' hq;rw [vg hlen]at hq;split at hq
 ·subst_vars;exact⟨d,hD⟩
 exact h.alive q ob' hq
theorem uP.kill{w D M σ}(h:uP w D M σ)(o:Nat)(ho:o<σ.length)(hD:D o≠.oM) :
  uP w (D.put o .dead) M (σ.set o none)/\Ext w D (XS M D) w (D.put o .dead) (XS M (D.put o .dead)):=by
 have E:Ext w D (XS M D) w (D.put o .dead) (XS M (D.put o .dead)):=by
  refine⟨aJ _,fun _ _ _=>rfl,?_,?_⟩
  ·rintro b hb (hm|⟨q,d,hq,rfl⟩)
   ·exact .inl hm
   simp only [DM.put]at hq;split at hq
   ·cases hq
   exact .inr ⟨q,d,hq,rfl⟩
  intro q;simp only [DM.put];split
  ·subst_vars
   cases k:D q with
   |oM=>trivial
   |dead=>rfl
   |live d=>exact .inr rfl
  exact vJ.refl _
 refine⟨⟨?_,?_,?_,?_,h.mlt⟩,E⟩
 ·intro q d hq;simp only [DM.put]at hq;split at hq
  ·cases hq
  rename_i hne;obtain⟨ob',c,e,h1,h2,h3,h4,h5,h6,h7,h8,h9,h10,h11⟩:=h.live q d hq;refine⟨ob',c,e,by rw [vg ho,aN (fun k=>hne k.symm)];exact h1,h2,h3,h4,h5,h6,h7,h8,h9,h10,fun i x hi=>?_⟩;obtain⟨hl,y,j1,j2⟩:=h11 i x hi;exact⟨hl,y,j1,oP _ _ E j2⟩
 ·intro q ob' hq;rw [vg ho]at hq;split at hq
  ·cases hq
  rename_i hne;obtain⟨d,hd⟩:=h.alive q ob' hq;exact⟨d,by simp only [DM.put];rw [aN (fun k=>hne k.symm)];exact hd⟩
 ·intro q q' d d' hq hq' hb;simp only [DM.put]at hq hq';split at hq
  ·cases hq
  split at hq'
  ·cases hq'
  exact h.inj q q' d d' hq hq' hb
 intro q hq;simp only [bV]at hq;simp only [DM.put];rw [aN (by omega)];exact h.far q hq
def trV:Value->Option V
 |.int k n=>some (.int k n)
 |.bool b=>some (.bool b)
 |.string s=>some (.str s.data.toList)
 |.slice none 0 0=>some .kC
 |.pointer none=>some .one
 |_=>none
def MN:Operand->Option Src
 |.tmp t=>some (.t t)
 |.const v=>(trV v).map .c
 |_=>none
def trZ(P:Program)(t:TypeId):Option (List V) :=
 match P.info? t with
 |
  some i=>match i.zero with
  |some v=>if v.cells.size=i.size/\0<i.size then v.cells.toList.mapM trV else none
  |none=>none
 |none=>none
def U7:TypeDesc->Bool
 |.struct _ | .array _ _=>true
 |_=>false
def ahP(P:Program)(t:TypeId):Option (Nat×Bool) :=
 match P.info? t,P.underlying t with
 |some i,some d=>if 0<i.size/\(U7 d=true\/i.size=1)then some (i.size,U7 d)else none
 |_,_=>none
def PG(P:Program)(t:TypeId):Option (TypeId×Nat×Nat) :=
 match P.underlying t with
 |
  some (.slice e)=>match P.info? e with
  |some i=>if 0<i.size/\i.bytes<=2 ^ 20 then some (e,i.size,i.bytes)else none
  |none=>none
 |_=>none
def Qx(P:Program)(fs:Array Field):List (Nat×Operand)->Option (List (Nat×Nat×Src))
 | []=>some []
 |
  (i,x)::rest=>match fs[i]?,MN x,Qx P fs rest with
  |
   some f,some s,some r=>match P.info? f.type with
   |some n=>some ((f.offset,n.size,s)::r)
   |none=>none
  |_,_,_=>none
def U8:List (Nat×Operand)->Option (List (Nat×Src))
 | []=>some []
 |
  (i,x)::rest=>match MN x,U8 rest with
  |some s,some r=>some ((i,s)::r)
  |_,_=>none
def Ip:List Operand->Option (List Src)
 | []=>some []
 |
  x::rest=>match MN x,Ip rest with
  |some s,some r=>some (s::r)
  |_,_=>none
def ahQ:Operand->Operand->Bool
 |.tmp a,.tmp b=>a == b
 |.const (.int .i64 a),.const (.int .i64 b)=>a == b
 |_,_=>false
inductive Cmp where
 |arith
 |bool (ne:Bool)
 |bad
def asC(P:Program)(op:BinOp)(t:TypeId):Cmp :=
 match op with
 |.eql=>(match P.underlying t with|some .bool=>.bool false|some (.int _)|some .string=>.arith|_=>.bad)
 |.neq=>(match P.underlying t with|some .bool=>.bool true|some (.int _)|some .string=>.arith|_=>.bad)
 |.shl=>.bad
 |_=>.arith
def trO:Option Operand->Option (Option Src)
 |some x=>(MN x).map some
 |none=>some none
def MO(P:Program)(ν:Nat->Option Nat)(o:Oper):Option I :=
 match o.op with
 |.move x | .assign x=>(MN x).map .qC
 |
  .pick c a b=>match MN c,MN a,MN b with
  |some c,some a,some b=>some (.pick c a b)
  |_,_,_=>none
 |.alloc t=>(trZ P t).map .alloc
 |.box _ x=>(MN x).map .box
 |
  .build t parts=>match P.underlying t,trZ P t with
  |some (.struct fs),some z=>if (fs.all fun f=>(P.info? f.type).isSome)=true then(Qx P fs parts.toList).map (.build z)else none
  |_,_=>none
 |
  .buildSlice t len parts=>match PG P t with
  |
   some (e,sz,_)=>match trZ P e,U8 parts.toList with
   |some z,some ps=>if len*sz<=2 ^ 24/\z.length=sz then some (.nO sz z len ps)else none
   |_,_=>none
  |none=>none
 |
  .makeSlice t l c=>match PG P t,MN l with
  |
   some (e,sz,by_),some s=>match trZ P e with
   |some z=>if ahQ l c=true/\z.length=sz then some (.make z by_ s)else none
   |none=>none
  |_,_=>none
 |
  .load t x=>match ahP P t,MN x with
  |some (n,g),some s=>some (.load n g s)
  |_,_=>none
 |
  .store t x y=>match P.info? t,MN x,MN y with
  |some i,some s,some r=>some (.store i.size s r)
  |_,_,_=>none
 |.nilCheck x=>(MN x).map .chk
 |
  .fieldAddr t x f=>match P.underlying t,MN x with
  |
   some (.struct fs),some s=>match fs[f]? with
   |
    some fd=>match P.info? fd.type with
    |some i=>if i.size=0 then none else some (.fld fd.offset s)
    |none=>none
   |none=>none
  |_,_=>none
 |
  .indexAddr t x i=>match MN x,MN i with
  |
   some s,some r=>match P.underlying t with
   |
    some (.slice e)=>match P.info? e with
    |some n=>some (.idx n.size s r)
    |none=>none
   |
    some (.array cnt e)=>match P.info? e with
    |some n=>some (.abr cnt n.size s r)
    |none=>none
   |_=>none
  |_,_=>none
 |
  .index t x i=>match MN x,MN i,P.underlying t with
  |some s,some r,some .string=>some (.adg s r)
  |
   some s,some r,some (.array cnt e)=>match P.info? e,P.underlying e with
   |some n,some d=>if n.size=1/\U7 d=false then some (.adi cnt s r)else none
   |_,_=>none
  |_,_,_=>none
 |
  .binOp op t x y _=>match MN x,MN y with
  |
   some s,some r=>match asC P op t with
   |.arith=>some (.bin op s r)
   |.bool ne=>some (.beq ne s r)
   |.bad=>none
  |_,_=>none
 |.unOp op _ x=>(MN x).map (.un op)
 |
  .convert src dst x=>match P.underlying src,P.underlying dst,MN x with
  |some (.int _),some (.int k),some s=>some (.conv k s)
  |
   some (.slice e),some .string,some s=>match P.underlying e with
   |some (.int .u8)=>some (.akX s)
   |_=>none
  |_,_,_=>none
 |
  .slice t x lo hi none=>match MN x with
  |
   some s =>
   match trO lo,trO hi with
   |
    some lo,some hi=>match P.underlying t with
    |some .string=>some (.RG s lo hi)
    |
     some (.slice e)=>match P.info? e with
     |some i=>if 0<i.size then some (.slice i.size s lo hi)else none
     |none=>none
    |_=>none
   |_,_=>none
  |none=>none
 |.extract x i=>(MN x).map (.ZJ i)
 |
  .call c=>match c.callee with
  |
   .builtin .len=>match c.args.toList,c.argTypes.toList with
   |
    [x],[t]=>match MN x,P.underlying t with
    |some s,some .string=>some (.adh s)
    |some s,some (.slice _)=>some (.len s)
    |_,_=>none
   |_,_=>none
  |
   .builtin .append=>match c.args.toList,c.argTypes.toList with
   |
    [x,y],[t,u]=>match MN x,MN y,PG P t,P.underlying u with
    |some s,some r,some (e,sz,by_),some (.slice _)=>if (trZ P e).isSome=true then some (.app sz by_ s r)else none
    |_,_,_,_=>none
   |_,_=>none
  |
   .builtin .max=>match c.args.toList with
   |
    [x,y]=>match MN x,MN y with
    |some s,some r=>some (.max s r)
    |_,_=>none
   |_=>none
  |
   .value (.func f)=>match ν f,P.funcs[f]?,Ip c.args.toList with
   | some n, some fn, some as => if fn.body.isSome = true /\ (fn.name == "runtime.NumGoroutine") = false then some (.call n as) else none
   |_,_,_=>none
  |_=>none
 |_=>none
section
variable {w : World} {D : DM} {X : Nat -> Prop}
theorem ak7{v:Value}{V:V}(h:trV v=some V):rd w D X V v:=by
 unfold trV at h;split at h<;>simp at h<;>subst h<;>simp [rd,Value.oneCell']
theorem oQ{env:Nat->V}{a:Act}(he:∀t,rd w D X (env t) (a.tmps.getD t undef)){x:Operand}{s:Src}(h:MN x=some s) :
  rd w D X (s.ev env) (a.eval x):=by
 cases x with
 |tmp t=>simp [MN]at h;subst h;exact he t
 |
  const v =>
  simp only [MN,aO]at h;obtain⟨V,h1,rfl⟩:=h;exact ak7 h1
 |_=>simp [MN]at h
theorem adq:∀{l:List Value} {L:List V},l.mapM trV=some L->qH w D X L l
 | [],L,h=>by simp at h;subst h;simp [qH]
 |
  v::l,L,h=>by
  simp only [bZ,jl,iI,fD,aB]at h;obtain⟨V,h1,L',h2,rfl⟩:=h;simp only [qH];exact⟨v,l,rfl,ak7 h1,adq h2⟩
theorem ahR{x:V}{v:Value}(hl:x.leaf=true)(hr:rd w D X x v):v.oneCell'=true:=by
 cases x<;>first|(simp [V.leaf]at hl;done)|skip
 case one=>simpa only [rd]using hr
 case int=>simp only [rd]at hr;subst hr;rfl
 case bool=>simp only [rd]at hr;subst hr;rfl
 case str=>simp only [rd]at hr;subst hr;rfl
 case kC=>simp only [rd]at hr;obtain⟨a,rfl⟩:=hr;rfl
 case sl=>simp only [rd]at hr;obtain⟨a,cap,rfl,_⟩:=hr;rfl
 case lQ o s l =>
  simp only [rd]at hr
  cases hD:D o with
  |oM=>simp [hD]at hr
  |dead=>rw [hD]at hr;obtain⟨_,_,_,rfl⟩:=hr;rfl
  |live d=>rw [hD]at hr;obtain⟨_,a,cap,rfl,_⟩:=hr;rfl
 case ptr o s l =>
  simp only [rd]at hr
  cases hD:D o with
  |oM=>simp [hD]at hr
  |dead=>rw [hD]at hr;obtain⟨_,rfl⟩:=hr;rfl
  |live d=>rw [hD]at hr;simp only []at hr;subst hr;rfl
 case qw=>simp only [rd]at hr;obtain⟨b,o,rfl,_⟩:=hr;rfl
theorem cells_one{v:Value}(h:v.oneCell'=true):v.cells = #[v]:=by cases v<;>first|rfl|(simp [Value.oneCell']at h)
theorem X3:∀{cs:List V} {ys:List Value},cs.all V.leaf=true->qH w D X cs ys->∀y∈ys,y.oneCell'=true
 | [],ys,_,h=>by simp only [qH]at h;subst h;simp
 |
  x::xs,ys,hl,h=>by
  simp only [qH]at h;obtain⟨y,ys',rfl,h1,h2⟩:=h;simp only [dD,aH]at hl;intro z hz;rcases aI.1 hz with rfl|hz
  ·exact ahR hl.1 h1
  exact X3 hl.2 h2 z hz
theorem RI{x:V}{cs:List V}(h:x.cells? = some cs):cs.all V.leaf=true:=by
 by_cases hl:x.leaf=true
 ·have h1:cs=[x]:=by cases x<;>simp [V.cells?,V.leaf]at h hl<;>exact h.symm
  subst h1;simp [hl]
 cases x<;>first|(simp [V.leaf]at hl;done)|(simp [V.cells?,V.leaf]at h;done)|skip
 simp only [V.cells?]at h;split at h
 ·rename_i h1;cases h;exact h1
 cases h
theorem ak8{v:Value}{x:V}(h:trV v=some x):x.leaf=true:=by
 unfold trV at h;split at h<;>simp at h<;>subst h<;>rfl
theorem aam:∀{l:List Value} {L:List V},l.mapM trV=some L->L.all V.leaf=true
 | [],L,h=>by simp at h;subst h;rfl
 |
  v::l,L,h=>by
  simp only [bZ,jl,iI,fD,aB]at h;obtain⟨V,h1,L',h2,rfl⟩:=h;simp only [dD,ak8 h1,aam h2,Bool.and_self]
theorem TM{x:V}{v:Value}{cs:List V}(h:x.cells? = some cs)(hr:rd w D X x v) :
  qH w D X cs v.cells.toList/\(∀y∈v.cells.toList,y.oneCell'=true)/\cs.length=v.cells.size:=by
 have key:qH w D X cs v.cells.toList/\(∀y∈v.cells.toList,y.oneCell'=true):=by
  by_cases hl:x.leaf=true
  ·have h1:cs=[x]:=by cases x<;>simp [V.cells?,V.leaf]at h hl<;>exact h.symm
   have h2:=ahR hl hr;subst h1;rw [cells_one h2];exact⟨by simp only [qH];exact⟨v,[],rfl,hr,rfl⟩,by simpa using h2⟩
  cases x<;>first|(simp [V.leaf]at hl;done)|(simp [V.cells?,V.leaf]at h;done)|skip
  case agg xs =>
   simp only [V.cells?]at h;split at h
   ·rename_i hall;simp at h;subst h;simp only [rd]at hr;obtain⟨a,rfl,hr⟩:=hr;exact⟨hr,X3 hall hr⟩
   cases h
 exact⟨key.1,key.2,by simpa using rJ _ _ key.1⟩
end
def Own(D:DM):Nat->Prop:=fun b=>∃o d,D o=.live d/\d.blk=b
def Done(w:World)(D:DM)(M:Nat->Prop)(id:Nat)(σ':Store)(x:V)(v:Value)(w':World):Prop :=
 ∃
  D',uP w' D' M σ'/\Ext w D (XS M D) w' D' (XS M D')/\Gr (Own D) w w'/\(∀o d',D' o=.live d'->Own D d'.blk\/w.heap.size<=d'.blk) /\
  (∀o,D o=.oM->o≠id->D' o=.oM)/\rd w' D' (XS M D') x v
@[simp] theorem addr_add (b o k:Nat):(⟨b,o,none⟩:Addr).add k=⟨b,o+k,none⟩:=by unfold Addr.add;split<;>simp_all
section
variable {w : World} {D : DM} {M : Nat -> Prop} {σ : Store}
theorem zY(hS:uP w D M σ){x:V}{v:Value}{id:Nat}(h:rd w D (XS M D) x v):Done w D M id σ x v w :=
 ⟨D,hS,Ext.refl _ _ _,Gr.refl _ _,fun o d h=>.inl ⟨o,d,h,rfl⟩,fun _ h _=>h,h⟩
theorem Jy{id:Nat}{x:DS}:∀o,D o=.oM->o≠id->D.put id x o=.oM:=fun o h hne=>by simp only [DM.put];rw [aN hne];exact h
theorem aan{id:Nat}{d0:ajv}(h0:w.heap.size<=d0.blk):∀o d',D.put id (.live d0) o=.live d'->Own D d'.blk\/w.heap.size<=d'.blk:=by
 intro o d' h;simp only [DM.put]at h;split at h
 ·cases h;exact .inr h0
 exact .inl ⟨o,d',h,rfl⟩
theorem aao(hS:uP w D M σ){id:Nat}(hid:id<σ.length/\D id=.oM){w':World}{cs:Array Value}(p:Push w w' cs){row:List V}
  (h0:0<row.length) (hlf:row.all V.leaf=true) (hrd:qH w D (XS M D) row cs.toList) :
  Done w D M id (σ.set id (some ⟨row.length,[row]⟩)) (.ptr id 0 0) (.pointer (some ⟨w.heap.size,0,none⟩)) w':=by
 have hl:=rJ _ _ hrd;have hh:=hS.new p hid.1 hid.2 (ob:=⟨row.length,[row]⟩) h0 (by simp) (by simp at hl ⊢;omega)
  (fun i x hi=>by
   obtain⟨y,h1,h2⟩:=Gq _ _ hrd i x (by simpa using hi);exact⟨bg.1 hlf x (bn (by simpa using hi)),y,by simpa using h1,h2⟩)
 refine⟨_,hh.1,hh.2,p.gr _,aan (by simp),Jy,?_⟩;simp [rd,DM.put]
theorem U9(hS:uP w D M σ){id:Nat}(hid:id<σ.length/\D id=.oM){w':World}{cs:Array Value}(p:Push w w' cs){sz:Nat}{rows:List (List V)}{cap:Nat}
  (h0:0<sz) (hr:∀r∈rows,r.length=sz) (hc:rows.length<=cap) (hcs:cap*sz<=cs.size)
  (hrd:∀(i:Nat) (x:V),rows.flatten[i]? = some x->x.leaf=true/\∃y,cs[i]? = some y/\rd w D (XS M D) x y) :
  Done w D M id (σ.set id (some ⟨sz,rows⟩)) (.lQ id 0 rows.length) (.slice (some ⟨w.heap.size,0,none⟩) rows.length cap) w':=by
 have hfit:rows.length*sz<=cs.size:=dw (dG _ hc) hcs;have hh:=hS.new p hid.1 hid.2 (ob:=⟨sz,rows⟩) h0 hr hfit hrd;refine⟨_,hh.1,hh.2,p.gr _,aan (by simp),Jy,?_⟩;simp only [rd,DM.put,if_true];exact⟨by simp,_,cap,rfl,hc,.inl ⟨by simp,by simpa using hcs⟩⟩
theorem X4{x:V}{v:Value}{X:Nat->Prop}(h:rd w DM.none X x v):rd w D X x v :=
 oP x v ⟨aJ _,fun _ _ _=>rfl,fun _ _ h=>h,fun _=>by simp [DM.none,vJ]⟩ h
theorem DL{rows:List (List V)}{sz:Nat}(hr:∀r∈rows,r.length=sz):∀{i:Nat} {r:List V} {j:Nat} {x:V},rows[i]? = some r->r[j]? = some x->rows.flatten[i*sz+j]? = some x:=by
 induction rows with
 |nil=>intro i r j x h;simp at h
 |
  cons a rows ih =>
  intro i r j x h hj;have ha:a.length=sz:=hr a (by simp)
  cases i with
  |
   zero =>
   simp at h;subst h;have:j<a.length:=(aP.1 hj).1;simp only [dO,kJ,aX];rw [bK this];exact hj
  |
   succ i =>
   simp only [dO];rw [bW (by rw [ha,fA];omega)];have:=ih (fun r hr'=>hr r (by simp [hr'])) (i:=i) (r:=r) (j:=j) (x:=x) (by simpa using h) hj
   rwa [show (i+1)*sz+j-a.length=i*sz+j by rw [ha,fA];omega]
theorem adr(hS:uP w D M σ){x:V}{v:Value}{row:List V}{off:Nat}(h:rowAt σ x=some (row,off))(hr:rd w D (XS M D) x v) :
  ∃b o,v=.pointer (some ⟨b,o+off,none⟩)/\∀(i:Nat) (y:V),row[i]? = some y->∃c,w.cell? ⟨b,o+i,none⟩=some c/\rd w D (XS M D) y c:=by
 cases x<;>simp only [rowAt]at h<;>first|cases h;done|skip
 case ptr o r off' =>
  cases ho:jQ σ o with
  |none=>simp [ho]at h
  |
   some ob =>
   simp only [ho]at h
   cases hrow:ob.rows[r]? with
   |none=>simp [hrow]at h
   |
    some row' =>
    simp only [hrow,dh,aB,Prod.mk.injEq]at h;obtain⟨rfl,rfl⟩:=h;obtain⟨d,hd⟩:=hS.alive o ob ho;obtain⟨ob',c,e,h1,h2,h3,h4,h5,h6,h7,h8,h9,h10,h11⟩:=hS.live o d hd;rw [ho]at h1;cases h1;simp only [rd,hd]at hr;subst hr;refine⟨d.blk,d.ML+r*d.sz,rfl,fun i y hi=>?_⟩;obtain⟨_,c',k1,k2⟩:=h11 (r*d.sz+i) y (DL (by rw [h2];exact h10) hrow hi);exact⟨c',by simp [World.cell?,h7,jq,k1],k2⟩
 case qw row' off' =>
  simp only [aB,Prod.mk.injEq]at h;obtain⟨rfl,rfl⟩:=h;simp only [rd]at hr;obtain⟨b,o,rfl,_,_,hc⟩:=hr;refine⟨b,o,rfl,fun i y hi=>?_⟩;obtain⟨_,c,k1,k2⟩:=PD o _ hc i y hi;exact⟨c,k1,X4 k2⟩
theorem Va(hS:uP w D M σ){x:V}{v:Value}{sz:Nat}{rows:List (List V)}(h:rowsOf σ x=some (sz,rows))(hr:rd w D (XS M D) x v) :
  ∃
   a cap,v=.slice a rows.length cap/\rows.length<=cap/\(rows=[]\/∃b off,a=some ⟨b,off,none⟩/\(∀r∈rows,r.length=sz) /\
   ∀(i:Nat) (y:V),rows.flatten[i]? = some y->y.leaf=true/\∃c,w.cell? ⟨b,off+i,none⟩=some c/\rd w D (XS M D) y c):=by
 cases x<;>simp only [rowsOf]at h<;>first|cases h;done|skip
 case kC =>
  simp only [aB,Prod.mk.injEq]at h;obtain⟨rfl,rfl⟩:=h;simp only [rd]at hr;obtain⟨a,rfl⟩:=hr;exact⟨a,0,rfl,aJ _,.inl rfl⟩
 case sl sz' rows' =>
  simp only [aB,Prod.mk.injEq]at h;obtain⟨rfl,rfl⟩:=h;simp only [rd]at hr;obtain⟨a,cap,rfl,hle,hr⟩:=hr;refine⟨a,cap,rfl,hle,hr.imp id ?_⟩;rintro⟨b,off,rfl,_,_,hc⟩;rw [RH]at hc;refine⟨b,off,rfl,hc.1,fun i y hi=>?_⟩;obtain⟨kl,c,k1,k2⟩:=PD off _ hc.2 i y hi;exact⟨kl,c,k1,X4 k2⟩
 case lQ o s l =>
  cases ho:jQ σ o with
  |none=>simp [ho]at h
  |
   some ob =>
   simp only [ho]at h;split at h
   ·rename_i hle;simp only [aB,Prod.mk.injEq]at h;obtain⟨rfl,rfl⟩:=h;obtain⟨d,hd⟩:=hS.alive o ob ho;obtain⟨ob',c,e,h1,h2,h3,h4,h5,h6,h7,h8,h9,h10,h11⟩:=hS.live o d hd;rw [ho]at h1;cases h1;simp only [rd,hd]at hr;obtain⟨hn,a,cap,rfl,hcap,hr⟩:=hr;have hlen:((ob.rows.drop s).take l).length=l:=by simp;omega
    refine⟨a,cap,by rw [hlen],by rw [hlen];exact hcap,?_⟩;rcases hr with ⟨rfl,hfit⟩|⟨rfl,rfl⟩
    ·refine .inr ⟨d.blk,d.ML+s*d.sz,rfl,fun r hr=>h10 r (fC (dH hr)),fun i y hi=>?_⟩;have hsplit:ob.rows.flatten=(ob.rows.take s).flatten++(((ob.rows.drop s).take l).flatten++((ob.rows.drop s).drop l).flatten):=by
      rw [<-gq,<-gq,gZ,gZ]
     have hpre:(ob.rows.take s).flatten.length=s*d.sz:=by
      have:∀(l:List (List V)),(∀r∈l,r.length=d.sz)->l.flatten.length=l.length*d.sz:=by
       intro l hl
       induction l with
       |nil=>simp
       |cons a l ih=>simp only [dO,aS,au,hl a (by simp),ih (fun r hr=>hl r (by simp [hr])),fA];omega
      rw [this _ (fun r hr=>by rw [h2];exact h10 r (dH hr))]
      congr 1
      simp;omega
     have hi':ob.rows.flatten[s*d.sz+i]? = some y:=by
      rw [hsplit,bW (by omega),hpre,Nat.add_sub_cancel_left];rw [bK (aP.1 hi).1];exact hi
     obtain⟨kl,c',k1,k2⟩:=h11 _ y hi';exact⟨kl,c',by simp [World.cell?,h7,jq,k1],k2⟩
    exact .inl (by simp)
   cases h
theorem ak9(hS:uP w D M σ){x:V}{v:Value}{n:Nat}(h:lenOf σ x=some n)(hr:rd w D (XS M D) x v):∃a cap,v=.slice a n cap/\n<=cap:=by
 cases x<;>simp only [lenOf]at h<;>first|cases h;done|skip
 case kC=>simp at h;subst h;simp only [rd]at hr;obtain⟨a,rfl⟩:=hr;exact⟨a,0,rfl,by simp⟩
 case sl sz rows=>simp at h;subst h;simp only [rd]at hr;obtain⟨a,cap,rfl,hc,_⟩:=hr;exact⟨a,cap,rfl,hc⟩
 case lQ o s l =>
  cases ho:jQ σ o with
  |none=>simp [ho]at h
  |
   some ob =>
   simp [ho]at h;subst h;obtain⟨d,hd⟩:=hS.alive o ob ho;simp only [rd,hd]at hr;obtain⟨hn,a,cap,rfl,hcap,_⟩:=hr;exact⟨a,cap,rfl,hcap⟩
end
theorem RJ{P:Program}{t:TypeId}{d:TypeDesc}(h:P.underlying t=some d)(w:World):(isAgg t).run P w=.ok (U7 d) w:=by
 simp only [isAgg,Sem.run_bind,run_underlying h,bQ]
 cases d<;>rfl
theorem rV{P:Program}{t:TypeId}{i:TypeInfo}(h:P.info? t=some i)(w:World):(sizeOf t).run P w=.ok i.size w:=by
 simp [sizeOf,run_typeInfo w h]
theorem zZ{P:Program}{t:TypeId}{i:TypeInfo}{v:Value}(h:P.info? t=some i)(hz:i.zero=some v)(w:World):(zeroValue t).run P w=.ok v w:=by
 simp [zeroValue,run_typeInfo w h,hz]
section
variable {P : Program} {w : World} {D : DM} {M : Nat -> Prop} {σ : Store}
theorem TN(hS:uP w D M σ){t:TypeId}{x:V}{v:Value}{row:List V}{off n:Nat}{b:Bool}
  (ht:ahP P t=some (n,b)) (h:rowAt σ x=some (row,off)) (hr:rd w D (XS M D) x v) {y:V}
  (hy:(if b then(if off+n<=row.length then some (.agg ((row.drop off).take n))else none)else row[off]?)=some y) :
  ∃u,(Instr.loadAt t v).run P w=.ok u w/\rd w D (XS M D) y u:=by
 obtain⟨bl,o,rfl,hc⟩:=adr hS h hr;unfold ahP at ht
 cases hi:P.info? t with
 |none=>simp [hi]at ht
 |
  some i =>
  cases hu:P.underlying t with
  |none=>simp [hi,hu]at ht
  |
   some d =>
   simp only [hi,hu]at ht;split at ht
   ·simp only [aB,Prod.mk.injEq]at ht;obtain⟨rfl,rfl⟩:=ht;rename_i hcond
    cases hb:U7 d with
    |
     true =>
     rw [hb]at hy;simp only [if_true]at hy;split at hy
     ·rename_i hle;simp only [aB]at hy;subst hy;have hex:∀j,j<i.size->∃c,w.cell? ((⟨bl,o+off,none⟩:Addr).add j)=some c/\∀z,row[off+j]? = some z->rd w D (XS M D) z c:=by
       intro j hj;have:off+j<row.length:=by omega
       obtain⟨c,h1,h2⟩:=hc (off+j) row[off+j] (by simp [this]);refine⟨c,by rw [addr_add,jq];exact h1,fun z hz=>?_⟩;rw [ak this]at hz;cases hz;exact h2
      have hex':∀j,∃c,j<i.size->w.cell? ((⟨bl,o+off,none⟩:Addr).add j)=some c/\∀z,row[off+j]? = some z->rd w D (XS M D) z c:=by
       intro j;by_cases hj:j<i.size
       ·obtain⟨c,h⟩:=hex j hj;exact⟨c,fun _=>h⟩
       exact⟨undef,fun k=>absurd k hj⟩
      have hf:=Classical.axiomOfChoice hex';obtain⟨f,hf⟩:=hf;refine⟨.agg ((List.range i.size).map f).toArray,?_,?_⟩
      ·simp only [Instr.loadAt,Instr.sureAddr,Sem.run_bind,Sem.run_pure,bQ,loadVar,RJ hu,hb,if_true,rV hi,
        run_loadCells w _ _ f (fun j hj=>(hf j hj).1)]
      simp only [rd];refine⟨_,rfl,?_⟩;show qH w D (XS M D) _ ((List.range i.size).map f);have:∀(k:Nat),∀(m:Nat),off+m+k<=row.length->m+k<=i.size->qH w D (XS M D) ((row.drop (off+m)).take k) ((List.range' m k).map f):=by
       intro k
       induction k with
       |zero=>intro m _ _;simp [qH]
       |
        succ k ih =>
        intro m h1 h2;have hlt:off+m<row.length:=by omega
        rw [dK hlt];simp only [jO,List.range'_succ,bT,qH];refine⟨_,_,rfl,(hf m (by omega)).2 _ (by simp [hlt]),?_⟩;have:=ih (m+1) (by omega) (by omega)
        rwa [show off+(m+1)=off+m+1 by omega]at this
      have:=this i.size 0 (by omega) (by omega);simpa [List.range_eq_range']using this
     cases hy
    |
     false =>
     rw [hb]at hy;simp only [bM,if_false]at hy;obtain⟨c,h1,h2⟩:=hc off y hy;exact⟨c,by simp only [Instr.loadAt,Instr.sureAddr,Sem.run_bind,Sem.run_pure,bQ,loadVar,RJ hu,hb,bM,if_false,run_load,h1],h2⟩
   cases ht
theorem PK{s:TypeId}{fs:Array Field}{f:Nat}{fd:Field}{i:TypeInfo}(hu:P.underlying s=some (.struct fs))(hf:fs[f]? = some fd)
  (hi:P.info? fd.type=some i) (h0:i.size≠0) (b o:Nat) :
  (Instr.fieldAt s (.pointer (some ⟨b,o,none⟩)) f).run P w=.ok (.pointer (some ⟨b,o+fd.offset,none⟩)) w:=by
 simp [Instr.fieldAt,run_underlying hu,hf,Instr.sureAddr,fieldPlace,rV hi,h0]
theorem OE{t e:TypeId}{i:TypeInfo}(hu:P.underlying t=some (.slice e))(hi:P.info? e=some i){b o len cap:Nat}{k:IntKind}{n:Int}
  (h:0<=n/\n<len):(Instr.indexAt t (.slice (some ⟨b,o,none⟩) len cap) (.int k n)).run P w=.ok (.pointer (some ⟨b,o+n.toNat*i.size,none⟩)) w:=by
 simp [Instr.indexAt,asIntOf,run_underlying hu,h,rV hi]
theorem Q5{t e:TypeId}{i:TypeInfo}{cnt:Nat}(hu:P.underlying t=some (.array cnt e))(hi:P.info? e=some i){b o:Nat}{k:IntKind}{n:Int}
  (h:0<=n/\n<cnt):(Instr.indexAt t (.pointer (some ⟨b,o,none⟩)) (.int k n)).run P w=.ok (.pointer (some ⟨b,o+n.toNat*i.size,none⟩)) w:=by
 simp [Instr.indexAt,asIntOf,run_underlying hu,h,rV hi,Instr.sureAddr]
theorem apm{op:BinOp}{t:TypeId}{x y z:V}{u v:Value}{X:Nat->Prop}(hz:aak op x y=some z)(hx:rd w D X x u)(hy:rd w D X y v)(ox oy:Operand) :
  ∃r,(do eqGuard op t ox oy u v;binOp op t u v:Sem Value).run P w=.ok r w/\rd w D X z r:=by
 unfold aak at hz;split at hz<;>first|(cases hz;done)|skip
 all_goals simp only [rd]at hx hy;subst hx hy
 all_goals try (split at hz<;>first|(cases hz;done)|skip)
 all_goals simp only [aB]at hz;subst hz
 all_goals try subst_vars
 all_goals simp only [rd,Sem.run_bind]
 ·simp [eqGuard,binOp,Op.intArith]
 ·simp [eqGuard,binOp,Op.intArith]
 ·simp [eqGuard,binOp,Op.intArith]
 ·rename_i h;obtain⟨rfl,h⟩:=h;simp [eqGuard,binOp,Op.intDiv,h]
 ·rename_i h;obtain⟨rfl,h⟩:=h;simp [eqGuard,binOp,Op.intDiv,h]
 ·simp [eqGuard,binOp,Op.intCmp]
 ·simp [eqGuard,binOp,Op.intCmp]
 ·simp [eqGuard,binOp,Op.intCmp]
 ·simp [eqGuard,binOp,Op.intCmp]
 ·simp [eqGuard,binOp,Op.intCmp]
 ·simp [eqGuard,binOp,Op.intCmp]
 ·simp [eqGuard,binOp,Op.stringOp]
 ·simp [eqGuard,binOp,Op.stringOp]
 ·rename_i a b h;have e:(⟨a.toArray⟩:ByteArray)++⟨b.toArray⟩=⟨(a++b).toArray⟩:=by apply ByteArray.ext;simp
  simp only [eqGuard,binOp,Op.stringOp,ByteArray.size,List.size_toArray,Bool.not_or,Sem.run_pure,Sem.run_bind,bQ,e];have:¬(((a.length+b.length:Nat):Int)>IntKind.i64.max):=by
   have:IntKind.i64.max=9223372036854775807:=by decide
   rw [this];omega
  simp [this];omega
 ·rename_i hb;have:¬_<(0:Int):=Int.not_lt.2 hb;simp [eqGuard,binOp,Op.shift,this]
 ·simp [eqGuard,binOp,Op.intBits,KA]
 simp [eqGuard,binOp,Op.intBits,Xk]
theorem ZL{t e:TypeId}{cnt:Nat}{n:TypeInfo}{d:TypeDesc}{cs:Array Value}{k:IntKind}{i:Int}{v:Value}(hu:P.underlying t=some (.array cnt e))(hi:P.info? e=some n)(hn:n.size=1)
  (he:P.underlying e=some d) (hd:U7 d=false) (h:0<=i/\i<cnt) (hv:cs.toList[i.toNat]? = some v) :
  (Instr.index t (.agg cs) (.int k i)).run P w=.ok v w:=by
 have h1:=rV (P:=P) hi w;rw [hn]at h1;have h2:=RJ he w;rw [hd]at h2;have hv':cs[i.toNat]? = some v:=by rw [<-iH];exact hv
 simp [Instr.index,asIntOf,run_underlying hu,h,h1,part,h2,hv']
theorem apn{t:TypeId}{a b ne:Bool}(hu:P.underlying t=some .bool)(ox oy:Operand) :
  (do eqGuard (if ne then .neq else .eql) t ox oy (.bool a) (.bool b);binOp (if ne then .neq else .eql) t (.bool a) (.bool b):Sem Value).run P w =
   .ok (.bool (if ne then !(a == b)else a == b)) w:=by
 cases ne<;>simp [eqGuard,binOp,run_equal_bool w t a b hu]
theorem atE{op:UnOp}{x z:V}{u:Value}{X:Nat->Prop}(hz:akZ op x=some z)(hx:rd w D X x u):∃r,(Op.unary op u).run P w=.ok r w/\rd w D X z r:=by
 unfold akZ at hz;split at hz<;>first|(cases hz;done)|skip
 all_goals simp only [rd]at hx;subst hx
 all_goals simp only [aB]at hz;subst hz
 ·simp [Op.unary,Op.intArith,rd]
 simp [Op.unary,rd]
theorem ala{src dst:TypeId}{ks k k':IntKind}{n:Int}(hs:P.underlying src=some (.int ks))(hd:P.underlying dst=some (.int k)) :
  (convert src dst (.int k' n)).run P w=.ok (.int k (k.wrap n)) w:=by
 simp [convert,run_underlying hs,run_underlying hd,Conv.intToInt]
theorem ads{t ty:TypeId}{s:ByteArray}(hu:P.underlying t=some .string):(Builtin.len_ #[t] ty #[.string s]).run P w=.ok (.int .i64 s.size) w:=by
 simp [Builtin.len_,run_underlying hu,goInt]
theorem afK{t ty e:TypeId}{a:Option Addr}{n c:Nat}(hu:P.underlying t=some (.slice e)):(Builtin.len_ #[t] ty #[.slice a n c]).run P w=.ok (.int .i64 n) w:=by
 simp [Builtin.len_,run_underlying hu,goInt]
theorem ZM{t:TypeId}{s:List UInt8}{k:IntKind}{n:Int}(hu:P.underlying t=some .string)(h:0<=n/\n<s.length) :
  (Instr.index t (.string ⟨s.toArray⟩) (.int k n)).run P w=.ok (.int .u8 (s.getD n.toNat 0).toNat) w:=by
 have hlt:n.toNat<s.length:=by omega
 have:(⟨s.toArray⟩:ByteArray)[n.toNat]? = some s[n.toNat]:=by
  rw [getElem?_pos (⟨s.toArray⟩:ByteArray) n.toNat (by simpa [ByteArray.size]using hlt)];rfl
 simp [Instr.index,asIntOf,run_underlying hu,h.1,this,hlt]
theorem run_sliceBound{y:Nat}{x:V}{v:Value}{n:Nat}{X:Nat->Prop}{code:BoundsCode}(h:KC y x=some n)(hr:rd w D X x v)(y':Nat)(hy:y<=y') :
  (Instr.sliceBound v y' code).run P w=.ok n w/\n<=y:=by
 unfold KC at h;split at h<;>first|(cases h;done)|skip
 simp only [rd]at hr;subst hr;split at h
 ·simp at h;subst h;rename_i hb;have:0<=(‹Int› : Int)/\(‹Int› : Int)<=y':=⟨hb.1,by omega⟩;refine⟨?_,by omega⟩;simp only [Instr.sliceBound,Sem.run_bind,asIntOf,Sem.run_pure,bQ];rw [Sem.run_ite,aQ ⟨hb.1,by omega⟩];rfl
 cases h
end
section
variable {P : Program} {w : World} {D : DM} {M : Nat -> Prop} {σ : Store}
theorem Jz(w:World)(cs:Array Value)(e:TypeId):Push w (w.alloc (.cells cs e)) cs:=⟨⟨e,rfl⟩,rfl,rfl,rfl⟩
theorem JA{t:TypeId}{z:List V}(h:trZ P t=some z){X:Nat->Prop}:∃i v,P.info? t=some i/\i.zero=some v/\v.cells.size=i.size/\0<i.size/\qH w D X z v.cells.toList/\z.length=i.size/\z.all V.leaf=true:=by
 unfold trZ at h
 cases hi:P.info? t with
 |none=>simp [hi]at h
 |
  some i =>
  cases hz:i.zero with
  |none=>simp [hi,hz]at h
  |
   some v =>
   simp only [hi,hz]at h;split at h
   ·rename_i hc;have:=adq (w:=w) (D:=D) (X:=X) h;refine⟨i,v,rfl,hz,hc.1,hc.2,this,?_,aam h⟩;rw [rJ _ _ this];simpa using hc.1
   cases h
theorem ajy{t:TypeId}{i:TypeInfo}{v:Value}(hi:P.info? t=some i)(hz:i.zero=some v) :
  (Instr.alloc t true (.tuple #[])).run P w=.ok (.pointer (some ⟨w.heap.size,0,none⟩)) (w.alloc (.cells v.cells t)):=by
 simp [Instr.alloc,zZ hi hz,newVar,newRow]
theorem apo{t:TypeId}{v:Value}:(Instr.box t v).run P w=.ok (.pointer (some ⟨w.heap.size,0,none⟩)) (w.alloc (.cells v.cells t)):=by
 simp [Instr.box,newVar,newRow]
theorem foldl_set(off:Nat):∀(l:List Value) (j:Nat) (cs:Array Value),off+j+l.length<=cs.size ->
  ((l.zipIdx j).foldl (fun (cs:Array Value) (p:Value×Nat)=>cs.setIfInBounds (off+p.2) p.1) cs).toList=cs.toList.take (off+j)++l++cs.toList.drop (off+j+l.length)
 | [],j,cs,_=>by simp
 |
  v::l,j,cs,h=>by
  simp only [au]at h;simp only [List.zipIdx_cons,iE];rw [foldl_set off l (j+1) _ (by simp;omega)];have:=list_seg_step cs.toList (off+j) v l (by simp;omega);simpa [Array.toList_setIfInBounds,jq]using this
theorem X5{X:Nat->Prop}{row cs:List V}{ys zs:List Value}(h1:qH w D X row ys)(h2:qH w D X cs zs)(off:Nat) :
  qH w D X (splice row off cs) (ys.take off++zs++ys.drop (off+zs.length)):=by
 unfold splice;rw [rJ _ _ h2];exact FQ _ _ _ _ (FQ _ _ _ _ (ado off _ _ h1) h2) (adp _ _ _ h1)
theorem aap{place:Nat->Option (Nat×Nat)}{cells:Array Value}{i off size:Nat}{v:Value}{rest:List (Nat×Value)}(hp:place i=some (off,size))
  (hs:v.cells.size=size) (hf:off+size<=cells.size) :
  ∃cells',Instr.fill place cells ((i,v)::rest)=Instr.fill place cells' rest/\cells'.toList=cells.toList.take off++v.cells.toList++cells.toList.drop (off+v.cells.toList.length):=by
 refine⟨v.cells.zipIdx.foldl (fun (cs:Array Value) (p:Value×Nat)=>cs.setIfInBounds (off+p.2) p.1) cells,?_,?_⟩
 ·simp only [Instr.fill,hp];rw [aN (by simp [hs];omega)]
 rw [<-Array.foldl_toList];have:=foldl_set off v.cells.toList 0 cells (by simp;omega);simpa using this
theorem X6{X:Nat->Prop}{env:Nat->V}{a:Act}(he:∀t,rd w D X (env t) (a.tmps.getD t undef)){fs:Array Field}{place:Nat->Option (Nat×Nat)}
  (hpl:∀i f n,fs[i]? = some f->P.info? f.type=some n->place i=some (f.offset,n.size)) :
  ∀
   (parts:List (Nat×Operand)) {ps:List (Nat×Nat×Src)} {row row':List V} {cells:Array Value},Qx P fs parts=some ps->CQ env row ps=some row'->qH w D X row cells.toList ->
   ∃cells',Instr.fill place cells (parts.map fun p=>(p.1,a.eval p.2))=some cells'/\qH w D X row' cells'.toList
 |
  [],ps,row,row',cells,h,hf,hr=>by
  simp [Qx]at h;subst h;simp [CQ]at hf;subst hf;exact⟨cells,rfl,hr⟩
 |
  (i,x)::rest,ps,row,row',cells,h,hf,hr=>by
  simp only [Qx]at h
  cases h1:fs[i]? with
  |none=>simp [h1]at h
  |
   some f =>
   cases h2:MN x with
   |none=>simp [h1,h2]at h
   |
    some s =>
    cases h3:Qx P fs rest with
    |none=>simp [h1,h2,h3]at h
    |
     some r =>
     simp only [h1,h2,h3]at h
     cases h4:P.info? f.type with
     |none=>simp [h4]at h
     |
      some n =>
      simp only [h4,aB]at h;subst h;simp only [CQ]at hf
      cases h5:(s.ev env).cells? with
      |none=>simp [h5]at hf
      |
       some cs =>
       simp only [h5]at hf;split at hf
       ·rename_i hc;obtain⟨k1,k2,k3⟩:=TM h5 (oQ he h2);have hlen:=rJ _ _ hr;obtain⟨afL,e1,e2⟩:=aap (place:=place) (cells:=cells) (v:=a.eval x) (rest:=rest.map fun p=>(p.1,a.eval p.2)) (hpl i f n h1 h4) (by omega) (by simp at hlen;omega);have hr1:qH w D X (splice row f.offset cs) afL.toList:=by
         rw [e2];exact X5 hr k1 _
        obtain⟨cells',e3,e4⟩:=X6 he hpl rest h3 hf hr1;exact⟨cells',by simp only [bT];rw [e1];exact e3,e4⟩
       cases hf
theorem run_store'{b o:Nat}{c:Array Value}{e t:TypeId}{i:TypeInfo}{v:Value}(hi:P.info? t=some i)(hn:i.size=v.cells.size)(hb:w.heap[b]? = some (.cells c e (0,0)))
  (hfit:o+v.cells.size<=c.size) (h1:∀y∈v.cells.toList,y.oneCell'=true) :
  ∃w' c',(Instr.storeAt t (.pointer (some ⟨b,o,none⟩)) v).run P w=.ok () w'/\apl w w' b c'/\c'.toList=c.toList.take o++v.cells.toList++c.toList.drop (o+v.cells.toList.length):=by
 have hst:=run_storeCells_at P b o e v.cells.toList 0 c w hb (by simpa using hfit) h1;refine⟨w.setRow b (c.toList.take o++v.cells.toList++c.toList.drop (o+v.cells.toList.length)).toArray,(c.toList.take o++v.cells.toList++c.toList.drop (o+v.cells.toList.length)).toArray,?_,?_,rfl⟩
 ·simp only [Instr.storeAt,Instr.sureAddr,storeVar,Sem.run_bind,Sem.run_pure,bQ,rV hi,Sem.run_ite];rw [aN (by simp [hn])];simpa using hst
 have hlt:b<w.heap.size:=(jB.1 hb).1;refine⟨⟨c,e,hb,?_,setRow_heap w b c _ e _ hb⟩,fun k hk=>?_,?_,rfl,rfl,rfl⟩
 ·simp;omega
 ·simp only [World.setRow,Array.getElem?_modify];rw [aN (by omega)]
 simp [World.setRow]
end
theorem ZN{row cs:List V}{off:Nat}(h:off+cs.length<=row.length):(splice row off cs).length=row.length:=by
 simp [splice];omega
theorem RN{a b cs:List V}{off:Nat}(h:off+cs.length<=a.length):splice (a++b) off cs=splice a off cs++b:=by
 unfold splice;rw [List.take_append_of_le_length (by omega),List.drop_append_of_le_length (by omega)];simp
theorem QV{a b cs:List V}{off:Nat}:splice (a++b) (a.length+off) cs=a++splice b off cs:=by
 unfold splice;rw [List.take_append,bG (by omega),List.drop_append,eP (by omega)];simp [jq]
theorem JB{sz:Nat}:∀{rows:List (List V)},(∀r∈rows,r.length=sz)->∀{r:Nat} {row cs:List V} {off:Nat},rows[r]? = some row->off+cs.length<=row.length ->
  (rows.set r (splice row off cs)).flatten=splice rows.flatten (r*sz+off) cs
 | [],_,r,row,cs,off,h,_=>by simp at h
 |
  a::rows,hr,0,row,cs,off,h,hf=>by
  simp at h;subst h;simp only [jR,dO,kJ,aX];rw [RN hf]
 |
  a::rows,hr,r+1,row,cs,off,h,hf=>by
  have ha:a.length=sz:=hr a (by simp);simp only [List.set_cons_succ,dO];rw [JB (fun r hr'=>hr r (by simp [hr'])) (by simpa using h) hf];rw [show (r+1)*sz+off=a.length+(r*sz+off) by rw [ha,fA];omega,QV]
theorem afM{row cs:List V}(h:cs.length=row.length):splice row 0 cs=cs:=by
 simp [splice,h]
theorem ahS{rows:List (List V)}{sz i:Nat}{x:List V}(hr:∀r∈rows,r.length=sz)(hx:x.length=sz):∀r∈rows.set i x,r.length=sz:=by
 intro r h;rcases jd h with h|rfl
 ·exact hr r h
 exact hx
theorem Aa{sz:Nat}:∀{l:List (List V)},(∀r∈l,r.length=sz)->l.flatten.length=l.length*sz
 | [],_=>by simp
 |
  a::l,h=>by
  have ih:=Aa (l:=l) (fun r hr=>h r (gG _ hr));simp only [dO,aS,au,h a (by simp),ih,fA];omega
section
variable {P : Program} {w : World} {D : DM} {M : Nat -> Prop} {σ : Store}
theorem Wp{X:Nat->Prop}{env:Nat->V}{a:Act}(he:∀t,rd w D X (env t) (a.tmps.getD t undef)){sz:Nat} :
  ∀
   (parts:List (Nat×Operand)) {ps:List (Nat×Src)} {rows rows':List (List V)} {cells:Array Value},U8 parts=some ps->vI env sz rows ps=some rows' ->
   (∀r∈rows,r.length=sz)->qH w D X rows.flatten cells.toList ->
   ∃cells',Instr.fill (fun i=>some (i*sz,sz)) cells (parts.map fun p=>(p.1,a.eval p.2))=some cells'/\qH w D X rows'.flatten cells'.toList/\(∀r∈rows',r.length=sz)/\rows'.length=rows.length
 |
  [],ps,rows,rows',cells,h,hf,hl,hr=>by
  simp [U8]at h;subst h;simp [vI]at hf;subst hf;exact⟨cells,rfl,hr,hl,rfl⟩
 |
  (i,x)::rest,ps,rows,rows',cells,h,hf,hl,hr=>by
  simp only [U8]at h
  cases h2:MN x with
  |none=>simp [h2]at h
  |
   some s =>
   cases h3:U8 rest with
   |none=>simp [h2,h3]at h
   |
    some r =>
    simp only [h2,h3,aB]at h;subst h;simp only [vI]at hf
    cases h5:(s.ev env).cells? with
    |none=>simp [h5]at hf
    |
     some cs =>
     simp only [h5]at hf;split at hf
     ·rename_i hc;obtain⟨k1,k2,k3⟩:=TM h5 (oQ he h2);have hlen:=rJ _ _ hr;have hrow:rows[i]? = some rows[i]:=by simp [hc.2]
      have hrl:rows[i].length=sz:=hl _ (by simp);have hfit:i*sz+sz<=cells.size:=by
       rw [Aa hl]at hlen;have:(i+1)*sz<=rows.length*sz:=dG _ hc.2;rw [fA]at this;simp at hlen;omega
      obtain⟨afL,e1,e2⟩:=aap (place:=fun i=>some (i*sz,sz)) (cells:=cells) (v:=a.eval x) (rest:=rest.map fun p=>(p.1,a.eval p.2)) (i:=i) rfl (by omega) hfit;have hset:(rows.set i cs).flatten=splice rows.flatten (i*sz) cs:=by
       have:=JB hl (cs:=cs) (off:=0) hrow (by omega)
       rwa [afM (by omega),iP]at this
      have hr1:qH w D X (rows.set i cs).flatten afL.toList:=by
       rw [hset,e2];exact X5 hr k1 _
      obtain⟨cells',e3,e4,e5,e6⟩:=Wp he rest h3 hf (ahS hl hc.1) hr1;exact⟨cells',by simp only [bT];rw [e1];exact e3,e4,e5,by simpa using e6⟩
     cases hf
theorem PL{t e:TypeId}{sz by_:Nat}(h:PG P t=some (e,sz,by_)):∃i,P.underlying t=some (.slice e)/\P.info? e=some i/\i.size=sz/\i.bytes=by_/\0<sz/\by_<=2 ^ 20:=by
 unfold PG at h;split at h
 ·rename_i e' hu
  cases hi:P.info? e' with
  |none=>simp [hi]at h
  |
   some i =>
   simp only [hi]at h;split at h
   ·simp only [aB,Prod.mk.injEq]at h;obtain⟨rfl,rfl,rfl⟩:=h;rename_i hc;exact⟨i,hu,hi,rfl,rfl,hc.1,hc.2⟩
   cases h
 cases h
theorem X7{X:Nat->Prop}{z:List V}{zs:Array Value}(h:qH w D X z zs.toList)(h0:0<zs.size):∀(n:Nat),
  qH w D X (List.replicate n z).flatten (((Array.range (n*zs.size)).map (zs[· % zs.size]!)).toList)
 |0=>by simp [qH]
 |
  n+1=>by
  have ih:=X7 h h0 n;rw [List.replicate_succ',gq];have:((Array.range ((n+1)*zs.size)).map (zs[· % zs.size]!)).toList=((Array.range (n*zs.size)).map (zs[· % zs.size]!)).toList++zs.toList:=by
   rw [fA];simp only [Array.toList_map,Array.toList_range,List.range_add,bU,fQ]
   congr 1
   apply fV
   intro i;by_cases hi:i<zs.size
   ·simp [hi,Nat.mod_eq_of_lt hi]
   simp [hi]
  rw [this];exact FQ _ _ _ _ ih (by simpa using h)
theorem run_buildSlice{t e:TypeId}{sz by_ ln:Nat}{z:List V}{parts:Array (Nat×Value)}(ht:PG P t=some (e,sz,by_))(hz:trZ P e=some z)(hlim:ln*sz<=2 ^ 24)
  {cells:Array Value} (hf:∀zs:Array Value,(∃i v,P.info? e=some i/\i.zero=some v/\zs=v.cells)->Instr.fill (fun i=>some (i*sz,sz)) ((Array.range (ln*sz)).map (zs[· % zs.size]!)) parts.toList=some cells) :
  (Instr.buildSlice t ln parts).run P w=.ok (.slice (some ⟨w.heap.size,0,none⟩) ln ln) (w.alloc (.cells cells e)):=by
 obtain⟨i,hu,hi,h1,h2,h3,h4⟩:=PL ht;obtain⟨i',v,k1,k2,k3,k4,_,_⟩:=JA (w:=w) (D:=DM.none) (X:=fun _=>True) hz;rw [hi]at k1;cases k1;have hff:=hf v.cells ⟨i,v,hi,k2,rfl⟩;unfold Instr.buildSlice;simp only [Sem.run_bind,run_underlying hu,bQ,rV hi,h1,Sem.run_ite];rw [aN (by omega)];by_cases h0:ln*sz=0
 ·have:ln=0:=by rcases Nat.mul_eq_zero.1 h0 with h|h;exact h;omega
  subst this;have hr0:∀(f:Nat->Value),(Array.range (0*sz)).map f = #[]:=fun f=>by apply Array.ext';simp
  rw [hr0]at hff;simp only [kJ,if_true,Sem.run_pure,bQ];have hr1:∀(f:Nat->Value),(Array.range 0).map f = #[]:=fun f=>by apply Array.ext';simp
  simp only [hr1,hff];simp [newRow]
 simp only [Sem.run_pure,bQ,aN h0,Sem.run_bind,zZ hi k2,hff];simp [newRow]
end
section
variable {P : Program} {w : World} {D : DM} {M : Nat -> Prop} {σ : Store}
theorem wrap_in{n:Int}(h:0<=n)(h':n<2 ^ 63):IntKind.i64.wrap n=n:=by
 have e1:IntKind.i64.bits=64:=rfl;have e2:IntKind.i64.signed=true:=rfl;simp only [IntKind.wrap,e1,e2,cZ];rw [Int.emod_eq_of_lt h (by omega)];simp;omega
theorem run_make{t e:TypeId}{sz by_:Nat}{z:List V}(ht:PG P t=some (e,sz,by_))(hz:trZ P e=some z){n:Int}(h0:0<=n)(h1:n<=2 ^ 47)(h2:n*by_<=2 ^ 47) :
  ∃
   cs,(Instr.makeSlice t (.int .i64 n) (.int .i64 n)).run P w=.ok (.slice (some ⟨w.heap.size,0,none⟩) n.toNat n.toNat) (w.alloc (.cells cs e)) /\
   qH w D (XS M D) (List.replicate n.toNat z).flatten cs.toList/\cs.size=n.toNat*sz:=by
 obtain⟨i,hu,hi,e1,e2,h3,h4⟩:=PL ht;obtain⟨i',v,k1,k2,k3,k4,k5,k6⟩:=JA (w:=w) (D:=D) (X:=XS M D) hz;rw [hi]at k1;cases k1;refine⟨(Array.range (n.toNat*sz)).map (v.cells[· % v.cells.size]!),?_,?_,by simp⟩
 ·have hw:IntKind.i64.wrap n=n:=wrap_in h0 (by omega);have hb:(by_:Int)*n<=2 ^ 47:=by rw [Int.mul_comm];exact h2
  unfold Instr.makeSlice;simp only [Sem.run_bind,run_underlying hu,bQ,asInt,asIntOf,Sem.run_pure,run_typeInfo w hi,e2,hw,Sem.run_ite,run_askRoom,rV hi,e1];have c1:(decide (n<0)||decide ((by_:Int)*n>2 ^ 48))=false:=by simp;omega
  have c2:(decide (n<0))=false:=by simp;omega
  simp only [c1,c2,gt_iff_lt,Int.lt_irrefl,decide_false,fP,fE,bM,if_false,or_false,false_or];by_cases hn:n.toNat*sz=0
  ·have:n.toNat=0:=by rcases Nat.mul_eq_zero.1 hn with h|h;exact h;omega
   have hn0:n=0:=by omega
   subst hn0;have hr1:∀(f:Nat->Value),(Array.range 0).map f = #[]:=fun f=>by apply Array.ext';simp
   simp [newRow,hr1]
  have hlt:¬n<0:=by omega
  simp only [hn,hlt,if_false,Sem.run_bind,zZ hi k2,bQ,Sem.run_pure];simp [newRow];intro hbig;exfalso;omega
 have:=X7 k5 (by omega) n.toNat
 simpa only [k3,e1]using this
theorem afN{lo hi:Option V}{vlo vhi:Option Value}{n l h cap:Nat}{isS:Bool}{X:Nat->Prop}(hn:n<=cap)
  (hh:(match hi with|some x=>KC n x|none=>some n)=some h) (hl:(match lo with|some x=>KC h x|none=>some 0)=some l)
  (r1:(lo=none/\vlo=none)\/∃x v,lo=some x/\vlo=some v/\rd w D X x v) (r2:(hi=none/\vhi=none)\/∃x v,hi=some x/\vhi=some v/\rd w D X x v) :
  (Instr.sliceBounds isS n cap vlo vhi none).run P w=.ok (l,h,cap) w/\l<=h/\h<=n:=by
 rcases r2 with ⟨rfl,rfl⟩|⟨x,v,rfl,rfl,hr⟩
 ·simp only [aB]at hh;subst hh;rcases r1 with ⟨rfl,rfl⟩|⟨x',v',rfl,rfl,hr'⟩
  ·simp only [aB]at hl;subst hl;exact⟨by simp [Instr.sliceBounds],eH _,aJ _⟩
  have k:=run_sliceBound (P:=P) (code:=.sliceB) hl hr' n (aJ _);exact⟨by simp [Instr.sliceBounds,k.1],k.2,aJ _⟩
 have j:=run_sliceBound (P:=P) (code:=if isS then BoundsCode.sliceAcap else .sliceAlen) hh hr cap hn;rcases r1 with ⟨rfl,rfl⟩|⟨x',v',rfl,rfl,hr'⟩
 ·simp only [aB]at hl;subst hl;exact⟨by simp [Instr.sliceBounds,j.1],eH _,j.2⟩
 have k:=run_sliceBound (P:=P) (code:=.sliceB) hl hr' h (aJ _);exact⟨by simp [Instr.sliceBounds,j.1,k.1],k.2,j.2⟩
theorem ZO{t:TypeId}(hu:P.underlying t=some .string){s:List UInt8}{vlo vhi:Option Value}{l h:Nat}
  (hb:(Instr.sliceBounds false s.length s.length vlo vhi none).run P w=.ok (l,h,s.length) w) :
  (Instr.sliceAt t (.string ⟨s.toArray⟩) vlo vhi none).run P w=.ok (.string ⟨((s.take h).drop l).toArray⟩) w:=by
 have hs:(⟨s.toArray⟩:ByteArray).size=s.length:=by simp [ByteArray.size]
 have e:(⟨s.toArray⟩:ByteArray).extract l h=⟨((s.take h).drop l).toArray⟩:=by
  rw [Lib.extract_eq]
  congr 2
  simp [List.drop_take]
 simp only [Instr.sliceAt,Sem.run_bind,run_underlying hu,bQ,Instr.slice,Option.isSome_none,bM,if_false,Sem.run_pure,hs,hb,e]
theorem abu{t el:TypeId}{i:TypeInfo}(hu:P.underlying t=some (.slice el))(hi:P.info? el=some i){a:Option Addr}{n cap:Nat}{vlo vhi:Option Value}{l h:Nat}
  (hb:(Instr.sliceBounds true n cap vlo vhi none).run P w=.ok (l,h,cap) w) :
  (Instr.sliceAt t (.slice a n cap) vlo vhi none).run P w=.ok (.slice (if cap=l then a else a.map (·.add (l*i.size))) (h-l) (cap-l)) w:=by
 simp only [Instr.sliceAt,Sem.run_bind,run_underlying hu,bQ,Instr.slice,hb,rV hi,Sem.run_pure]
end
section
variable {P : Program} {w : World} {D : DM} {M : Nat -> Prop} {σ : Store}
theorem uP.qC{w':World}(h:uP w D M σ){o id:Nat}{d:ajv}(hD:D o=.live d)(hid:id<σ.length/\D id=.oM){c':Array Value}(p:apl w w' d.blk c'){ob:Obj}{ML:Nat}
  (hsz:0<ob.sz) (hr:∀r∈ob.rows,r.length=ob.sz) (hfit:ML+ob.rows.length*ob.sz<=d.cap)
  (hrd:∀(i:Nat) (x:V),ob.rows.flatten[i]? = some x->x.leaf=true/\∃y,c'[ML+i]? = some y/\rd w D (XS M D) x y) :
  let D':=(D.put o .dead).put id (.live ⟨d.blk,ML,ob.sz,ob.rows.length,d.cap⟩)
  uP w' D' M ((σ.set o none).set id (some ob))/\Ext w D (XS M D) w' D' (XS M D'):=by
 intro D';have hne:o≠id:=by rintro rfl;rw [hD]at hid;cases hid.2
 have hb:XS M D d.blk:=.inr ⟨o,d,hD,rfl⟩;have hlen:o<σ.length:=by
  rcases dW o σ.length with k|k
  ·exact k
  rw [h.far o k]at hD;cases hD
 have aps:D' id=.live ⟨d.blk,ML,ob.sz,ob.rows.length,d.cap⟩:=by simp [D',DM.put]
 have D'o:D' o=.dead:=by simp [D',DM.put,hne]
 have D'q:∀q,q≠o->q≠id->D' q=D q:=fun q h1 h2=>by simp [D',DM.put,h1,h2]
 have E:Ext w D (XS M D) w' D' (XS M D'):=by
  refine⟨by rw [p.size];omega,fun b _ hx=>p.old b (fun k=>hx (k▸hb)),?_,?_⟩
  ·rintro b hb' (hm|⟨q,d',hq,rfl⟩)
   ·exact .inl hm
   by_cases h1:q=id
   ·subst h1;rw [aps]at hq;cases hq;exact hb
   by_cases h2:q=o
   ·subst h2;rw [D'o]at hq;cases hq
   rw [D'q q h2 h1]at hq;exact .inr ⟨q,d',hq,rfl⟩
  intro q;by_cases h1:q=id
  ·subst h1;rw [hid.2];trivial
  by_cases h2:q=o
  ·subst h2;rw [D'o,hD];exact .inr rfl
  rw [D'q q h2 h1];exact vJ.refl _
 have hat:∀q,jQ ((σ.set o none).set id (some ob)) q=if id=q then some ob else if o=q then none else jQ σ q:=by
  intro q;rw [vg (by simpa using hid.1),vg hlen]
 obtain⟨obo,co,eo,g1,g2,g3,g4,g5,g6,g7,g8,g9,g10,g11⟩:=h.live o d hD;refine⟨⟨?_,?_,?_,?_,fun b hb=>by rw [p.size];exact h.mlt b hb⟩,E⟩
 ·intro q d' hq;by_cases h1:q=id
  ·subst h1;rw [aps]at hq;cases hq;obtain⟨c0,e0,k1,k2,k3⟩:=p.heap;rw [g7]at k1;cases k1;refine⟨ob,c',eo,by rw [hat];simp,rfl,rfl,hsz,g5,by rw [p.size];exact g6,k3,k2.trans g8,hfit,hr,fun i x hi=>?_⟩;obtain⟨hl,y,j1,j2⟩:=hrd i x hi;exact⟨hl,y,j1,oP _ _ E j2⟩
  by_cases h2:q=o
  ·subst h2;rw [D'o]at hq;cases hq
  rw [D'q q h2 h1]at hq;obtain⟨ob',c,e,f1,f2,f3,f4,f5,f6,f7,f8,f9,f10,f11⟩:=h.live q d' hq;have hbn:d'.blk≠d.blk:=fun k=>h2 (h.inj _ _ _ _ hq hD k);refine⟨ob',c,e,by rw [hat,aN (fun k=>h1 k.symm),aN (fun k=>h2 k.symm)];exact f1,f2,f3,f4,f5,by rw [p.size];exact f6,by rw [p.old _ hbn];exact f7,f8,f9,f10,fun i x hi=>?_⟩;obtain⟨hl,y,j1,j2⟩:=f11 i x hi;exact⟨hl,y,j1,oP _ _ E j2⟩
 ·intro q ob' hq;rw [hat]at hq;by_cases h1:q=id
  ·subst h1;exact⟨_,aps⟩
  rw [aN (fun k=>h1 k.symm)]at hq;by_cases h2:q=o
  ·subst h2;simp at hq
  rw [aN (fun k=>h2 k.symm)]at hq;rw [D'q q h2 h1];exact h.alive q ob' hq
 ·intro q q' d1 d2 hq hq' hbb;have asD:∀q d1,D' q=.live d1->(q=id/\d1.blk=d.blk)\/(q≠id/\q≠o/\D q=.live d1):=by
   intro q d1 hq;by_cases h1:q=id
   ·subst h1;rw [aps]at hq;cases hq;exact .inl ⟨rfl,rfl⟩
   by_cases h2:q=o
   ·subst h2;rw [D'o]at hq;cases hq
   rw [D'q q h2 h1]at hq;exact .inr ⟨h1,h2,hq⟩
  rcases asD q d1 hq with ⟨a1,a2⟩|⟨a1,a2,a3⟩<;>rcases asD q' d2 hq' with ⟨b1,b2⟩|⟨b1,b2,b3⟩
  ·rw [a1,b1]
  ·exact absurd (h.inj _ _ _ _ b3 hD (by rw [<-hbb,a2])) b2
  ·exact absurd (h.inj _ _ _ _ a3 hD (by rw [hbb,b2])) a2
  exact h.inj _ _ _ _ a3 b3 hbb
 intro q hq;simp only [bV]at hq;rw [D'q q (by omega) (by omega)];exact h.far q hq
theorem apt{need cap:Nat}(h:cap<need):Builtin.nextslicecap need cap<=2*need+192:=by
 unfold Builtin.nextslicecap;have grow:∀(r c:Nat),c<=need+(need+768) / 4->Builtin.growBy need r c<=need+(need+768) / 4:=by
  intro r
  induction r with
  |zero=>intro c hc;simpa [Builtin.growBy]using hc
  |
   succ r ih =>
   intro c hc;simp only [Builtin.growBy];split
   ·exact hc
   exact ih _ (by omega)
 split
 ·omega
 split
 ·omega
 have:=grow 4 cap (by omega);omega
theorem Vb{a:Option Addr}{rows:List (List V)}{sz:Nat}{cap:Nat}{X:Nat->Prop}
  (h:rows=[]\/∃b off,a=some ⟨b,off,none⟩/\(∀r∈rows,r.length=sz)/\∀(i:Nat) (y:V),rows.flatten[i]? = some y->y.leaf=true/\∃c,w.cell? ⟨b,off+i,none⟩=some c/\rd w D X y c) :
  ∃cs:List Value,(∀w',(∀a,w'.cell? a=w.cell? a)->(Builtin.firstCells sz rows.length (.slice a rows.length cap)).run P w'=.ok cs.toArray w')/\qH w D X rows.flatten cs/\(rows≠[]->cs.length=rows.length*sz)/\(rows=[]->cs=[]):=by
 rcases h with rfl|⟨b,off,rfl,hl,hc⟩
 ·refine⟨[],fun w' _=>?_,by simp [qH],by simp,by simp⟩
  cases a with
  |none=>simp [Builtin.firstCells]
  |
   some a =>
   have:=run_loadCells_list (P:=P) w' a [] (by simp);simpa [Builtin.firstCells]using this
 have hex:∀i,∃c,i<rows.flatten.length->w.cell? ⟨b,off+i,none⟩=some c/\∀y,rows.flatten[i]? = some y->rd w D X y c:=by
  intro i;by_cases hi:i<rows.flatten.length
  ·obtain⟨_,c,h1,h2⟩:=hc i rows.flatten[i] (by simp [hi]);exact⟨c,fun _=>⟨h1,fun y hy=>by rw [ak hi]at hy;cases hy;exact h2⟩⟩
  exact⟨undef,fun k=>absurd k hi⟩
 obtain⟨f,hf⟩:=Classical.axiomOfChoice hex;have hfl:=Aa hl;refine⟨(List.range (rows.length*sz)).map f,fun w' hw=>?_,?_,by simp,fun h=>by simp [h]⟩
 ·simp only [Builtin.firstCells];exact run_loadCells w' _ _ f (fun j hj=>by rw [addr_add,hw];exact(hf j (by omega)).1)
 have:∀(l:List V) (k:Nat),rows.flatten.drop k=l->qH w D X l ((List.range' k l.length).map f):=by
  intro l
  induction l with
  |nil=>intro k _;simp [qH]
  |
   cons y l ih =>
   intro k hk;have hlt:k<rows.flatten.length:=by
    rcases dW k rows.flatten.length with h|h
    ·exact h
    rw [eP h]at hk;cases hk
   have hget:rows.flatten[k]? = some y:=by
    rw [<-List.head?_drop,hk];rfl
   simp only [au,List.range'_succ,bT,qH];refine⟨_,_,rfl,(hf k hlt).2 y hget,ih (k+1) ?_⟩;rw [<-List.tail_drop,hk];rfl
 have:=this rows.flatten 0 (by simp)
 rwa [<-List.range_eq_range',hfl]at this
end
section
variable {P : Program} {w : World} {D : DM} {M : Nat -> Prop} {σ : Store}
theorem ajz{t u e e':TypeId}{i:TypeInfo}(ht:P.underlying t=some (.slice e))(hi:P.info? e=some i)(hu:P.underlying u=some (.slice e')){base xa:Option Addr}{sLen sCap n afO ty:Nat}
  {news:List Value} (hl:(Builtin.firstCells i.size n (.slice xa n afO)).run P w=.ok news.toArray w)
  (hb:(sLen+n)*i.bytes<=2 ^ 40) (hn:sLen+n<=2 ^ 40) (hby:i.bytes<=2 ^ 20) :
  (Builtin.append_ #[t,u] ty #[.slice base sLen sCap,.slice xa n afO]).run P w =
   if sLen+n<=sCap then
    (match base with
     |some a=>(storeCells (a.add (sLen*i.size)) news).run P w
     |none=>.ok () w).andThen fun _ w'=>.ok (.slice base (sLen+n) sCap) w'
   else((Builtin.firstCells i.size sLen (.slice base sLen sCap)).run P w.drew).andThen fun old w1 =>
    ((
     Builtin.firstCells i.size n (.slice xa n afO)).run P w1).andThen fun new w2=>((zeroValue e).run P w2).andThen fun z w3 =>
     .ok (.slice (some ⟨w3.heap.size,0,none⟩) (sLen+n) ((Question.appendCap (sLen+n) sCap e).cut (w.tape w.drawn (.appendCap (sLen+n) sCap e))))
      (w3.alloc (.cells (old++new++Builtin.zeroCells z.cells ((Question.appendCap (sLen+n) sCap e).cut (w.tape w.drawn (.appendCap (sLen+n) sCap e))-(sLen+n))) e)):=by
 have hu':∀k,some (TypeDesc.slice e')≠some (.int k):=by intro k;simp
 unfold Builtin.append_;simp only [jT,jP,List.getElem?_cons_succ,Sem.run_bind,run_underlying ht,bQ,rV hi,run_underlying hu,Sem.run_pure,
  bM,if_false,Builtin.lenOf,Sem.run_ite,kE,if_true,hl,run_typeInfo w hi]
 split
 ·cases base with
  |none=>simp
  |some a=>simp
 rename_i hgt;have h1:¬(((sLen+n:Nat):Int)>IntKind.i64.max/\(False\/i.bytes=0)):=by
  have:IntKind.i64.max=9223372036854775807:=by decide
  rw [this];omega
 have h2:¬(Builtin.nextslicecap (sLen+n) sCap*i.bytes>2 ^ 48):=by
  have h3:=apt (need:=sLen+n) (cap:=sCap) (by omega);have h4:Builtin.nextslicecap (sLen+n) sCap*i.bytes<=(2*(sLen+n)+192)*i.bytes:=dG _ h3;have h5:(2*(sLen+n)+192)*i.bytes=2*((sLen+n)*i.bytes)+192*i.bytes:=by rw [gJ,ig]
  omega
 rw [aN h1,aN h2];simp only [run_choose,Question.forced,bM,if_false,bQ,run_askRoom,Sem.run_bind,newRow,World.drew_eq,run_typeInfo _ hi]
 cases (Builtin.firstCells i.size sLen (.slice base sLen sCap)).run P w.drew with
 |halt h w1=>rfl
 |
  ok old w1 =>
  simp only [bQ]
  cases (Builtin.firstCells i.size n (.slice xa n afO)).run P w1 with
  |halt h w2=>rfl
  |
   ok new w2 =>
   simp only [bQ]
   cases (zeroValue e).run P w2 with
   |halt h w3=>rfl
   |
    ok z w3 =>
    simp only [bQ,Sem.run_map,run_newObj,Sem.run_bind,Sem.run_pure,World.alloc_eq]
theorem alb{t u e e':TypeId}{i:TypeInfo}(ht:P.underlying t=some (.slice e))(hi:P.info? e=some i)(hu:P.underlying u=some (.slice e')){base xa:Option Addr}{sLen sCap n afO ty:Nat}
  {news:List Value} (hl:(Builtin.firstCells i.size n (.slice xa n afO)).run P w=.ok news.toArray w) (hle:sLen+n<=sCap) :
  (Builtin.append_ #[t,u] ty #[.slice base sLen sCap,.slice xa n afO]).run P w =
    (match base with
     |some a=>(storeCells (a.add (sLen*i.size)) news).run P w
     |none=>.ok () w).andThen fun _ w'=>.ok (.slice base (sLen+n) sCap) w':=by
 unfold Builtin.append_;simp only [jT,jP,List.getElem?_cons_succ,Sem.run_bind,run_underlying ht,bQ,rV hi,run_underlying hu,Sem.run_pure,
  bM,if_false,Builtin.lenOf,Sem.run_ite,kE,if_true,hl,aQ hle]
 cases base with
 |none=>simp
 |some a=>simp
end
section
variable {P : Program} {w : World} {D : DM} {M : Nat -> Prop} {σ : Store}
theorem ajA{w:World}{cs:Array Value}{e:TypeId}:Push w (w.drew.alloc (.cells cs e)) cs:=⟨⟨e,rfl⟩,rfl,rfl,rfl⟩
theorem alc(need sCap:Nat)(e:TypeId)(t:Nat):need<=(Question.appendCap need sCap e).cut t:=by simp [Question.cut]
theorem X8(z:Array Value)(n:Nat):(Builtin.zeroCells z n).size=n*z.size:=by simp [Builtin.zeroCells]
theorem ahT(hS:uP w D M σ){id:Nat}(hid:id<σ.length/\D id=.oM){sz:Nat}{old new:List (List V)}{co cn:List Value}(hsz:0<sz)(ho:qH w D (XS M D) old.flatten co)(hn:qH w D (XS M D) new.flatten cn)
  (hlo:∀r∈old,r.length=sz) (hln:∀r∈new,r.length=sz) (lf:∀x∈(old++new).flatten,x.leaf=true) {z:Array Value} (hz:z.size=sz) {cap:Nat} (hcap:old.length+new.length<=cap) {e:TypeId} :
  Done w D M id (σ.set id (some ⟨sz,old++new⟩)) (.lQ id 0 (old.length+new.length)) (.slice (some ⟨w.heap.size,0,none⟩) (old.length+new.length) cap)
   (w.drew.alloc (.cells (co.toArray++cn.toArray++Builtin.zeroCells z (cap-(old.length+new.length))) e)):=by
 have h1:=rJ _ _ ho;have h2:=rJ _ _ hn;rw [Aa hlo]at h1;rw [Aa hln]at h2;have:=U9 hS hid (ajA (w:=w) (cs:=co.toArray++cn.toArray++Builtin.zeroCells z (cap-(old.length+new.length))) (e:=e)) (sz:=sz) (rows:=old++new) (cap:=cap) hsz
  (by intro r hr;rcases aK.1 hr with h|h;exact hlo r h;exact hln r h) (by simpa using hcap)
  (by
   simp only [Array.size_append,List.size_toArray,X8,hz,<-h1,<-h2];have e1:cap*sz=(old.length+new.length)*sz+(cap-(old.length+new.length))*sz:=by rw [<-gJ];congr 1;omega
   rw [e1,gJ];omega)
  (fun i x hi=>by
   refine⟨lf x (bn hi),?_⟩;rw [gq]at hi;obtain⟨y,k1,k2⟩:=Gq _ _ (FQ _ _ _ _ ho hn) i x hi;refine⟨y,?_,k2⟩;have:i<(co++cn).length:=(aP.1 k1).1;rw [Array.getElem?_append_left (by simpa using this)];simpa using k1)
 simpa using this
theorem atF(hS:uP w D M σ){id:Nat}(hid:id<σ.length/\D id=.oM){t u e e':TypeId}{sz by_ ty:Nat}(ht:PG P t=some (e,sz,by_))(hz:(trZ P e).isSome=true)(hu:P.underlying u=some (.slice e'))
  {x y:V} {vx vy:Value} (hx:rd w D (XS M D) x vx) (hy:rd w D (XS M D) y vy) {env:Nat->V} {sx sy:Src} (ex:sx.ev env=x) (ey:sy.ev env=y) {ef:Eff}
  (hef:(I.app sz by_ sx sy).eff env σ=some ef) :
  ∃v w',(Builtin.append_ #[t,u] ty #[vx,vy]).run P w=.ok v w'/\Done w D M id (ef.store σ id) (ef.dv id) v w':=by
 obtain⟨i,hut,hi,rfl,rfl,hsz,hby⟩:=PL ht;obtain⟨z,hz⟩:=ji.1 hz;obtain⟨i',zv,z1,z2,z3,z4,z5,z6⟩:=JA (w:=w) (D:=D) (X:=XS M D) hz;rw [hi]at z1;cases z1;simp only [I.eff,ex,ey]at hef
 cases hrx:rowsOf σ x with
 |none=>simp [hrx]at hef
 |
  some px =>
  obtain⟨szx,old⟩:=px
  cases hry:rowsOf σ y with
  |none=>simp [hrx,hry]at hef
  |
   some py =>
   obtain⟨sz',new⟩:=py;simp only [hrx,hry]at hef;obtain⟨ax,cx,rfl,hlex,apu⟩:=Va hS hrx hx;obtain⟨ay,cy,rfl,aIO,atG⟩:=Va hS hry hy;obtain⟨cn,ln1,ln2,ln3,ln4⟩:=Vb (P:=P) (sz:=sz') (cap:=cy) atG;have ax1:∀w',(zeroValue e).run P w'=.ok zv w':=fun w'=>zZ hi z2 w';by_cases hnew:new=[]
   ·-- nothing to append
    subst hnew;simp only [if_true,aB]at hef;subst hef;have hn0:=ln4 rfl;subst hn0;have hl0:(Builtin.firstCells i.size 0 (.slice ay 0 cy)).run P w=.ok ([]:List Value).toArray w:=by
     cases ay with
     |none=>simp [Builtin.firstCells]
     |
      some a =>
      have:=run_loadCells_list (P:=P) w a [] (by simp);simpa [Builtin.firstCells]using this
    have:=alb (w:=w) (ty:=ty) (base:=ax) (sLen:=old.length) (sCap:=cx) hut hi hu hl0 hlex;refine⟨_,w,?_,zY hS hx⟩;simp only [aG]at *;rw [this]
    cases ax with
    |none=>rfl
    |some a=>simp [storeCells]
   simp only [hnew,if_false]at hef;split at hef
   ·rename_i hc;obtain⟨rfl,hc1,hc2⟩:=hc;have hnl:∀r∈new,r.length=i.size:=by
     rcases atG with h|⟨_,_,_,h,_⟩
     ·exact absurd h hnew
     exact h
    have aHu:0<new.length:=List.length_pos_iff.2 hnew;have abv:∀x∈new.flatten,x.leaf=true:=by
     intro x hx;obtain⟨k,hk⟩:=bJ.1 hx;rcases atG with h|⟨_,_,_,_,h⟩
     ·exact absurd h hnew
     exact(h k x hk).1
    have ald:∀x∈old.flatten,x.leaf=true:=by
     intro x hx;obtain⟨k,hk⟩:=bJ.1 hx;rcases apu with h|⟨_,_,_,_,h⟩
     ·rw [h]at hk;simp at hk
     exact(h k x hk).1
    have hst:=ajz (w:=w) (ty:=ty) (base:=ax) (sLen:=old.length) (sCap:=cx) hut hi hu (ln1 w fun _=>rfl) hc1 hc2 hby;have ax2:∀(sz0:Nat),rowsOf σ x=some (sz0,old)->(old=[]\/sz0=i.size)->∃co:List Value,(∀w',(∀a,w'.cell? a=w.cell? a)->(Builtin.firstCells i.size old.length (.slice ax old.length cx)).run P w'=.ok co.toArray w') /\
      qH w D (XS M D) old.flatten co/\∀r∈old,r.length=i.size:=by
     intro sz0 h0 hsz0;rw [hrx]at h0;simp only [aB,Prod.mk.injEq]at h0;obtain⟨rfl,_⟩:=h0;rcases hsz0 with h|rfl
     ·obtain⟨co,l1,l2,_,_⟩:=Vb (P:=P) (sz:=i.size) (a:=ax) (cap:=cx) (X:=XS M D) (D:=D) (w:=w) (rows:=old) (.inl h);exact⟨co,l1,l2,by rw [h];simp⟩
     obtain⟨co,l1,l2,_,_⟩:=Vb (P:=P) (cap:=cx) apu;refine⟨co,l1,l2,?_⟩;rcases apu with h|⟨_,_,_,h,_⟩
     ·rw [h];simp
     exact h
    cases x with
    |
     kC =>
     simp only [rowsOf,aB,Prod.mk.injEq]at hrx;obtain⟨rfl,rfl⟩:=hrx;simp only [aB]at hef;subst hef;simp only [rd]at hx;obtain⟨a0,hx⟩:=hx
     cases hx
     obtain⟨co,l1,l2,l3⟩:=ax2 0 rfl (.inl rfl);rw [hst,aN (by simp;omega),l1 w.drew fun _=>rfl];simp only [bQ,ln1 w.drew fun _=>rfl,ax1];exact⟨_,_,rfl,by simpa [Eff.store,Eff.dv]using ahT hS hid (old:=[]) (co:=co) (z:=zv.cells) hsz l2 ln2 l3 hnl (by simpa using abv) z3 (alc _ _ _ _)⟩
    |
     lQ o s l =>
     simp only []at hef
     cases hob:jQ σ o with
     |none=>simp [hob]at hef
     |
      some ob =>
      simp only [hob]at hef;split at hef
      ·rename_i ax3;simp only [aB]at hef;subst hef;simp only [rowsOf,hob]at hrx;split at hrx
       ·rename_i hsl;simp only [aB,Prod.mk.injEq]at hrx;obtain⟨rfl,rfl⟩:=hrx;obtain⟨d,hd⟩:=hS.alive o ob hob;obtain⟨ob',c,e0,g1,g2,g3,g4,g5,g6,g7,g8,g9,g10,g11⟩:=hS.live o d hd;rw [hob]at g1;cases g1;obtain⟨co,l1,l2,l3⟩:=ax2 ob.sz (by simp [rowsOf,hob,hsl]) (.inr ax3);have hll:((ob.rows.drop s).take l).length=l:=by simp;omega
        simp only [rd,hd]at hx;obtain⟨hn,a0,cap0,hx,hcap,atH⟩:=hx;simp only [Value.slice.injEq]at hx;obtain⟨rfl,_,rfl⟩:=hx;by_cases hroom:((ob.rows.drop s).take l).length+new.length<=cx
        ·-- in place
         rcases atH with ⟨rfl,hfit⟩|⟨rfl,rfl⟩
         ·have hcl:=rJ _ _ ln2;rw [Aa hnl]at hcl;have atI:d.sz=i.size:=by rw [g2];exact ax3
          have hone:∀y∈cn,y.oneCell'=true:=X3 (bg.2 abv) ln2;have aHv:(s+cx)*d.sz=s*d.sz+cx*d.sz:=gJ ..;have asE:(((ob.rows.drop s).take l).length+new.length)*d.sz<=cx*d.sz:=dG _ hroom;rw [gJ]at asE;have ax4:d.ML+s*d.sz+l*i.size+cn.length<=c.size:=by
           rw [<-hcl,g8,<-atI];rw [hll]at asE;omega
          have ax5:=run_storeCells_at P d.blk (d.ML+s*d.sz+l*i.size) e0 cn 0 c w g7 (by simpa using ax4) hone;simp only [iP]at ax5;have hlt:d.blk<w.heap.size:=g6;have p1:apl w (w.setRow d.blk (c.toList.take (d.ML+s*d.sz+l*i.size)++cn++c.toList.drop (d.ML+s*d.sz+l*i.size+cn.length)).toArray) d.blk
            (c.toList.take (d.ML+s*d.sz+l*i.size)++cn++c.toList.drop (d.ML+s*d.sz+l*i.size+cn.length)).toArray:=by
           refine⟨⟨c,e0,g7,?_,setRow_heap w d.blk c _ e0 _ g7⟩,fun k hk=>?_,?_,rfl,rfl,rfl⟩
           ·simp;omega
           ·simp only [World.setRow,Array.getElem?_modify];rw [aN (by omega)]
           simp [World.setRow]
          have hm:=hS.qC hd hid p1 (ob:=⟨i.size,(ob.rows.drop s).take l++new⟩) (ML:=d.ML+s*d.sz) hsz
           (by intro r hr;rcases aK.1 hr with h|h;exact l3 r h;exact hnl r h)
           (by simp only [aS];rw [<-atI,gJ];omega)
           (fun k x hk=>by
            refine⟨?_,?_⟩
            ·have:=bn hk;rw [gq]at this;rcases aK.1 this with h|h
             ·exact ald x h
             exact abv x h
            have ax6:=Aa l3;rw [hll]at ax6;simp only [gq]at hk;by_cases hkl:k<l*i.size
            ·rw [bK (by omega)]at hk;rcases apu with h|⟨b1,off1,hb1,_,h⟩
             ·rw [h]at hk;simp at hk
             cases hb1
             obtain⟨_,y,h1,h2⟩:=h k x hk;refine⟨y,?_,h2⟩;simp only [World.cell?,g7]at h1;simp only [Option.isSome_none,bM,if_false]at h1;have hlt2:d.ML+s*d.sz+k<(c.toList.take (d.ML+s*d.sz+l*i.size)).length:=by simp;omega
             rw [jT,cO,bK hlt2,jL (by omega)];simpa using h1
            rw [bW (by omega),ax6]at hk;obtain⟨y,h1,h2⟩:=Gq _ _ ln2 _ x hk;refine⟨y,?_,h2⟩;have hlen3:(c.toList.take (d.ML+s*d.sz+l*i.size)).length=d.ML+s*d.sz+l*i.size:=by simp;omega
            have hlt3:=(aP.1 h1).1;rw [jT,cO,bW (by omega),hlen3,bK (by omega)];rw [<-h1];congr 1;omega)
          rw [hst,aQ hroom];simp only [addr_add,hll,ax5,bQ];refine⟨_,_,rfl,_,hm.1,hm.2,⟨by rw [p1.size];exact aJ _,rfl,rfl,rfl,fun b _ hb=>p1.old b (fun k=>hb (k▸⟨o,d,hd,rfl⟩))⟩,?_,fun q hq hne=>Jy q (Jy q hq (by rintro rfl;rw [hd]at hq;cases hq)) hne,?_⟩
          ·intro q d' hq;simp only [DM.put]at hq;split at hq
           ·cases hq;exact .inl ⟨o,d,hd,rfl⟩
           split at hq
           ·cases hq
           exact .inl ⟨q,d',hq,rfl⟩
          simp only [Eff.dv,rd,DM.put,if_true];rw [hll]at hroom;refine⟨by simp [hll],_,cx,rfl,hroom,.inl ⟨by simp,?_⟩⟩;simp only [aX];rw [<-atI];omega
         omega
        -- a new block
        have hlen:o<σ.length:=by
         rcases dW o σ.length with k|k
         ·exact k
         rw [hS.far o k]at hd;cases hd
        have hne:id≠o:=by rintro rfl;rw [hd]at hid;cases hid.2
        have hk:=hS.kill o hlen (by rw [hd];simp);have mono:∀{l:List V} {vs:List Value},qH w D (XS M D) l vs->qH w (D.put o .dead) (XS M (D.put o .dead)) l vs:=fun h=>Py _ _ hk.2 h;rw [hst,aN hroom,l1 w.drew fun _=>rfl];simp only [bQ,ln1 w.drew fun _=>rfl,ax1];refine⟨_,_,rfl,?_⟩;obtain⟨D',q1,q2,q3,q4,q6,q5⟩:=ahT hk.1 (id:=id) ⟨by simpa using hid.1,by simp only [DM.put,aN hne];exact hid.2⟩ hsz (mono l2) (mono ln2) l3 hnl
         (by rw [gq];intro x hx;rcases aK.1 hx with h|h;exact ald x h;exact abv x h) z3
         (alc (((ob.rows.drop s).take l).length+new.length) cx e (w.tape w.drawn (.appendCap (((ob.rows.drop s).take l).length+new.length) cx e))) (e:=e)
        have own:∀b,Own (D.put o .dead) b->Own D b:=by
         rintro b ⟨q,d',hq,rfl⟩;simp only [DM.put]at hq;split at hq
         ·cases hq
         exact⟨q,d',hq,rfl⟩
        exact⟨D',q1,hk.2.trans q2,q3.mono fun b _ h=>own b h,fun q d' h=>(q4 q d' h).imp (own _) (fun k=>k),fun q hq hne'=>q6 q (Jy q hq (by rintro rfl;rw [hd]at hq;cases hq)) hne',q5⟩
       cases hrx
      cases hef
    |_=>cases hef
   cases hef
end
def Gives(r:Next)(v:Value):Prop:=r=.value v\/(r=.skip/\v=undef)
section
variable {P : Program} {ν : Nat -> Option Nat} {w : World} {D : DM} {M : Nat -> Prop} {σ : Store}
def ale(P:Program)(o:Oper)(a:Act)(w:World)(D:DM)(M:Nat->Prop)(σ:Store)(id:Nat)(ef:Eff):Prop :=
 ∃r v w',(execOp a.eval o).run P w=.ok r w'/\Gives r v/\Done w D M id (ef.store σ id) (ef.dv id) v w'
theorem pU{o:Oper}{a:Act}{id:Nat}{x:V}{v:Value}{s:Sem Value}(hS:uP w D M σ)(he:execOp a.eval o=(do pure (.value (<-s))))(hrun:s.run P w=.ok v w)
  (h:rd w D (XS M D) x v):ale P o a w D M σ id (.val x) :=
 ⟨.value v,v,w,by rw [he];simp [hrun],.inl rfl,zY hS h⟩
theorem PN{o:Oper}{a:Act}{id:Nat}{ef:Eff}{v:Value}{w':World}{s:Sem Value}(he:execOp a.eval o=(do pure (.value (<-s))))(hrun:s.run P w=.ok v w')
  (h:Done w D M id (ef.store σ id) (ef.dv id) v w'):ale P o a w D M σ id ef :=
 ⟨.value v,v,w',by rw [he];simp [hrun],.inl rfl,h⟩
variable {env : Nat -> V} {a : Act}
theorem Q7{sz:Nat}:∀(ps:List (Nat×Src)) {rows rows':List (List V)},vI env sz rows ps=some rows'->(∀r∈rows,∀x∈r,x.leaf=true)->∀x∈rows'.flatten,x.leaf=true
 |
  [],rows,rows',h,hl=>by
  simp only [vI,aB]at h;subst h;intro x hx;obtain⟨r,hr,hx⟩:=List.mem_flatten.1 hx;exact hl r hr x hx
 |
  (i,s)::ps,rows,rows',h,hl=>by
  simp only [vI]at h;split at h<;>first|(cases h;done)|skip
  rename_i cs hcs;split at h<;>first|(cases h;done)|skip
  refine Q7 ps h ?_;intro r hr;rcases jd hr with h|rfl
  ·exact hl r h
  exact fun x hx=>bg.1 (RI hcs) x hx
theorem TP:∀{rows:List (List V)} {bs:List UInt8},bytesOf rows=some bs->∃ns:List Int,rows=ns.map (fun n=>[V.int .u8 n])/\bs=ns.map (fun n=>UInt8.ofNat n.toNat)/\∀n∈ns,0<=n/\n<256
 | [],bs,h=>by simp only [bytesOf,aB]at h;subst h;exact⟨[],rfl,rfl,by simp⟩
 |
  r::rows,bs,h=>by
  unfold bytesOf at h;split at h<;>first|(cases h;done)|skip
  ·rename_i e;cases e
  rename_i n rest e
  cases e
  split at h<;>first|(cases h;done)|skip
  rename_i hn;simp only [aO]at h;obtain⟨bs',h1,rfl⟩:=h;obtain⟨ns,e1,e2,e3⟩:=TP h1;exact⟨n::ns,by simp [e1],by simp [e2],by intro m hm;rcases aI.1 hm with rfl|hm;exact hn;exact e3 m hm⟩
theorem FT{n k:Nat}{x:V}{v:Value}{X:Nat->Prop}(h:TL n x=some k)(hr:rd w D X x v):∃kd i,v=.int kd i/\0<=i/\i<n/\i.toNat=k/\k<n:=by
 unfold TL at h;split at h<;>first|(cases h;done)|skip
 simp only [rd]at hr;split at h
 ·rename_i hc;simp only [aB]at h;exact⟨_,_,hr,hc.1,hc.2,h,by omega⟩
 cases h
theorem atJ(o:Oper){i:I}{ef:Eff}{id:Nat}(htr:MO P ν o=some i)(hef:i.eff env σ=some ef)(hS:uP w D M σ)(he:∀t,rd w D (XS M D) (env t) (a.tmps.getD t undef))
  (hid:i.makes=true->id<σ.length/\D id=.oM):ale P o a w D M σ id ef:=by
 obtain⟨dst,op,type,pos,after,guard⟩:=o
 cases op with
 |
  move x =>
  simp only [MO,aO]at htr;obtain⟨s,h1,rfl⟩:=htr;simp only [I.eff,aB]at hef;subst hef;exact⟨_,_,w,rfl,.inl rfl,zY hS (oQ he h1)⟩
 |
  assign x =>
  simp only [MO,aO]at htr;obtain⟨s,h1,rfl⟩:=htr;simp only [I.eff,aB]at hef;subst hef;exact⟨_,_,w,rfl,.inl rfl,zY hS (oQ he h1)⟩
 |
  pick c x y =>
  simp only [MO]at htr
  cases h1:MN c with
  |none=>simp [h1]at htr
  |
   some sc =>
   cases h2:MN x with
   |none=>simp [h1,h2]at htr
   |
    some sx =>
    cases h3:MN y with
    |none=>simp [h1,h2,h3]at htr
    |
     some sy =>
     simp only [h1,h2,h3,aB]at htr;subst htr;simp only [I.eff]at hef;have hc:=oQ he h1;split at hef
     ·rename_i t ht;simp only [aB]at hef;subst hef;rw [ht]at hc;simp only [rd]at hc;refine⟨.value (if t then a.eval x else a.eval y),_,w,?_,.inl rfl,zY hS ?_⟩
      ·simp only [execOp,hc,asBool,Sem.run_bind,Sem.run_pure,bQ]
      cases t
      ·exact oQ he h3
      exact oQ he h2
     cases hef
 |
  alloc t =>
  simp only [MO,aO]at htr;obtain⟨z,h1,rfl⟩:=htr;simp only [I.eff,aB]at hef;subst hef;obtain⟨i,v,z1,z2,z3,z4,z5,z6,z7⟩:=JA (w:=w) (D:=D) (X:=XS M D) h1;refine PN rfl (ajy z1 z2) ?_;exact aao hS (hid rfl) (Jz _ _ _) (by omega) z7 z5
 |
  box t x =>
  simp only [MO,aO]at htr;obtain⟨s,h1,rfl⟩:=htr;simp only [I.eff]at hef;split at hef
  ·rename_i c cs hcs;simp only [aB]at hef;subst hef;obtain⟨k1,k2,k3⟩:=TM hcs (oQ he h1);refine PN rfl apo ?_;exact aao hS (hid rfl) (Jz _ _ _) (by simp) (RI hcs) k1
  cases hef
 |
  build t parts =>
  simp only [MO]at htr;split at htr<;>first|(cases htr;done)|skip
  rename_i fs z hu hz;split at htr<;>first|(cases htr;done)|skip
  rename_i hall;simp only [aO]at htr;obtain⟨ps,h1,rfl⟩:=htr;simp only [I.eff]at hef;split at hef<;>first|(cases hef;done)|skip
  rename_i cs hcs;simp only [aB]at hef;subst hef;obtain⟨i,v,z1,z2,z3,z4,z5,z6,z7⟩:=JA (w:=w) (D:=D) (X:=XS M D) hz
  let g:Field->Nat×Nat:=fun f=>(f.offset,P.cellsOf f.type)
  have hinfo:∀f∈fs,∃n,P.info? f.type=some n:=by
   intro f hf;have:=Array.all_eq_true_iff_forall_mem.1 hall f hf;exact ji.1 this
  have hmap:(fs.mapM fun f=>do pure (f.offset,<-sizeOf f.type):Sem (Array (Nat×Nat))).run P w=.ok (fs.map g) w:=by
   have:∀(l:List Field),(∀f∈l,∃n,P.info? f.type=some n)->(l.mapM fun f=>do pure (f.offset,<-sizeOf f.type):Sem (List (Nat×Nat))).run P w=.ok (l.map g) w:=by
    intro l
    induction l with
    |nil=>intro _;simp
    |
     cons f l ih =>
     intro hl;obtain⟨n,hn⟩:=hl f (by simp);simp only [bZ,Sem.run_bind,rV hn,bQ,Sem.run_pure,ih (fun f hf=>hl f (by simp [hf]))];simp [g,Program.cellsOf,hn]
   have h2:=this fs.toList (by simpa using hinfo);rw [<-jc (xs:=fs)];rw [List.mapM_toArray,Sem.run_map,h2];simp only [bQ,jc]
   congr 1
   apply Array.ext'
   simp
  obtain⟨cells',e1,e2⟩:=X6 he (place:=fun k=>(fs.map g)[k]?) (fun k f n hk hn=>by simp [hk,g,Program.cellsOf,hn]) parts.toList h1 hcs z5;refine pU hS (v:=.agg cells') rfl ?_ (by simp only [rd];exact⟨cells',rfl,e2⟩);simp only [Instr.build,Sem.run_bind,zZ z1 z2,bQ,run_underlying hu,hmap];have e1':Instr.fill (fun x=>(fs.map g)[x]?) v.cells (parts.map fun p=>(p.1,a.eval p.2)).toList=some cells':=by simpa using e1
  rw [e1'];rfl
 |
  buildSlice t ln parts =>
  simp only [MO]at htr;split at htr<;>first|(cases htr;done)|skip
  rename_i e sz by_ ht;split at htr<;>first|(cases htr;done)|skip
  rename_i z ps hz hps;split at htr<;>first|(cases htr;done)|skip
  rename_i hc;simp only [aB]at htr;subst htr;obtain⟨i,v,z1,z2,z3,z4,z5,z6,z7⟩:=JA (w:=w) (D:=D) (X:=XS M D) hz;simp only [I.eff]at hef;split at hef<;>first|(cases hef;done)|skip
  rename_i rows hrows;have hzs:=X7 z5 (by omega) ln;have hsz:v.cells.size=sz:=by omega
  obtain⟨cells',e1,e2,e3,e4⟩:=Wp he parts.toList hps hrows (by intro r hr;rw [jD hr];exact hc.2) hzs;have hrun:=run_buildSlice (w:=w) (ln:=ln) (parts:=parts.map fun p=>(p.1,a.eval p.2)) ht hz hc.1 (cells:=cells') (by
   rintro zs ⟨i',v',j1,j2,rfl⟩;rw [z1]at j1;cases j1;rw [z2]at j2;cases j2;rw [hsz]at e1;rw [hsz];simpa using e1)
  have hlen:rows.length=ln:=by simpa using e4
  split at hef
  ·rename_i h0;simp only [aB]at hef;subst hef;subst h0;refine PN rfl hrun ?_;have p:=Jz w cells' e;have E:Ext w D (XS M D) (w.alloc (.cells cells' e)) D (XS M D):=⟨by rw [p.size];omega,fun b hb _=>p.old hb,fun _ _ h=>h,fun _=>vJ.refl _⟩;refine⟨D,?_,E,p.gr _,fun o d h=>.inl ⟨o,d,h,rfl⟩,fun _ h _=>h,by simp [Eff.dv,rd]⟩;refine⟨fun o d ho=>?_,hS.alive,hS.inj,hS.far,fun b hb=>by rw [p.size];exact Nat.lt_succ_of_lt (hS.mlt b hb)⟩;obtain⟨ob,c,e0,f1,f2,f3,f4,f5,f6,f7,f8,f9,f10,f11⟩:=hS.live o d ho;refine⟨ob,c,e0,f1,f2,f3,f4,f5,by rw [p.size];omega,by rw [p.old f6];exact f7,f8,f9,f10,fun k x hk=>?_⟩;obtain⟨hl,y,k1,k2⟩:=f11 k x hk;exact⟨hl,y,k1,oP _ _ E k2⟩
  simp only [aB]at hef;subst hef;refine PN rfl hrun ?_;have:=U9 hS (hid rfl) (Jz w cells' e) (sz:=sz) (rows:=rows) (cap:=ln) (by omega) e3 (by omega) (by
   have:=rJ _ _ e2;rw [Aa e3,hlen]at this;simp at this;omega) (fun k x hk=>by
   obtain⟨y,k1,k2⟩:=Gq _ _ e2 k x hk;exact⟨Q7 _ hrows (by intro r hr q hq;rw [jD hr]at hq;exact bg.1 z7 q hq) _ (bn hk),y,by simpa using k1,k2⟩)
  rw [hlen]at this;exact this
 |
  load t x =>
  simp only [MO]at htr;split at htr<;>first|(cases htr;done)|skip
  rename_i n g s hg hs;simp only [aB]at htr;subst htr;simp only [I.eff]at hef;split at hef<;>first|(cases hef;done)|skip
  rename_i row off hrow;have hx:=oQ he hs;have key:∃y,(if g then(if off+n<=row.length then some (V.agg ((row.drop off).take n))else none)else row[off]?)=some y/\ef=.val y:=by
   cases g with
   |
    true =>
    simp only [if_true]at hef ⊢;split at hef<;>first|(cases hef;done)|skip
    rename_i hle;exact⟨_,by rw [aQ hle],by simpa using hef.symm⟩
   |
    false =>
    simp only [bM,if_false]at hef ⊢;split at hef<;>first|(cases hef;done)|skip
    rename_i y hy;exact⟨y,hy,by simpa using hef.symm⟩
  obtain⟨y,hy,rfl⟩:=key;obtain⟨u,h1,h2⟩:=TN hS hg hrow hx hy;exact pU hS rfl h1 h2
 |
  store t x y =>
  simp only [MO]at htr;split at htr<;>first|(cases htr;done)|skip
  rename_i i s r hi hs hr;simp only [aB]at htr;subst htr;simp only [I.eff]at hef;have hx:=oQ he hs;have hy:=oQ he hr;split at hef<;>first|(cases hef;done)|skip
  rename_i o rw_ off cs e1 e2;split at hef<;>first|(cases hef;done)|skip
  rename_i ob hob;split at hef<;>first|(cases hef;done)|skip
  rename_i row hrow;split at hef<;>first|(cases hef;done)|skip
  rename_i hc;simp only [aB]at hef;subst hef;rw [e1]at hx;obtain⟨d,hd⟩:=hS.alive o ob hob;obtain⟨ob',c,e0,f1,f2,f3,f4,f5,f6,f7,f8,f9,f10,f11⟩:=hS.live o d hd;rw [hob]at f1;cases f1;simp only [rd,hd]at hx;obtain⟨k1,k2,k3⟩:=TM e2 hy;have hrl:row.length=ob.sz:=f10 row (bn hrow);have aIQ:rw_<ob.rows.length:=(aP.1 hrow).1;have hbound:rw_*d.sz+d.sz<=d.n*d.sz:=by
   have:(rw_+1)*d.sz<=d.n*d.sz:=dG _ (by omega)
   rwa [fA]at this
  obtain⟨w',c',g1,g2,g3⟩:=run_store' (w:=w) (b:=d.blk) (o:=d.ML+rw_*d.sz+off) (v:=a.eval y) (t:=t) hi (by omega) f7 (by rw [f8];omega) k2;refine⟨.skip,undef,w',?_,.inr ⟨rfl,rfl⟩,?_⟩
  ·simp only [execOp,Sem.run_bind,hx,g1,bQ,Sem.run_pure]
  have hfl:=JB f10 (cs:=cs) hrow (off:=off) (by omega);have alf:=Aa f10;have hu:=hS.upd hd g2 (ob:=⟨ob.sz,ob.rows.set rw_ (splice row off cs)⟩) f2.symm (by simp;omega) (ahS f10 (by rw [ZN (by omega)];exact hrl)) (fun k z hk=>by
   simp only []at hk;rw [hfl]at hk;have hcl:=rJ _ _ k1;have hsplit:∀k,(splice ob.rows.flatten (rw_*ob.sz+off) cs)[k]? = if k<rw_*ob.sz+off then ob.rows.flatten[k]? else if k<rw_*ob.sz+off+cs.length then cs[k-(rw_*ob.sz+off)]? else ob.rows.flatten[k]?:=by
    intro k;unfold splice;have hl1:(ob.rows.flatten.take (rw_*ob.sz+off)).length=rw_*ob.sz+off:=by
     rw [eu,alf];rw [f2,f3]at hbound;omega
    by_cases h1:k<rw_*ob.sz+off
    ·rw [aQ h1,cO,bK (by omega),jL h1]
    rw [aN h1];by_cases h2:k<rw_*ob.sz+off+cs.length
    ·rw [aQ h2,cO,bW (by omega),hl1,bK (by omega)]
    rw [aN h2,cO,bW (by omega),hl1,bW (by omega),dV]
    congr 1;omega
   rw [hsplit]at hk;have hc':∀j,c'[j]? = if j<d.ML+rw_*d.sz+off then c[j]? else if j<d.ML+rw_*d.sz+off+cs.length then(a.eval y).cells[j-(d.ML+rw_*d.sz+off)]? else c[j]?:=by
    intro j;have hll:(c.toList.take (d.ML+rw_*d.sz+off)).length=d.ML+rw_*d.sz+off:=by simp;omega
    rw [<-iH (xs:=c'),g3];have hcl':(a.eval y).cells.toList.length=cs.length:=by rw [hcl]
    by_cases h1:j<d.ML+rw_*d.sz+off
    ·rw [aQ h1,cO,bK (by omega),jL h1];simp
    rw [aN h1];by_cases h2:j<d.ML+rw_*d.sz+off+cs.length
    ·rw [aQ h2,cO,bW (by omega),hll,bK (by omega)];simp
    rw [aN h2,cO,bW (by omega),hll,bW (by omega),dV];rw [iH];congr 1;omega
   rw [hc'];split at hk
   ·rename_i h1;rw [aQ (by rw [f2];omega)];exact f11 k z hk
   rename_i h1;rw [aN (by rw [f2];omega)];split at hk
   ·rename_i h2;rw [aQ (by rw [f2];omega)];refine⟨bg.1 (RI e2) z (bn hk),?_⟩;obtain⟨y',j1,j2⟩:=Gq _ _ k1 _ z hk;refine⟨y',?_,j2⟩;rw [<-iH,<-j1];congr 1;rw [f2];omega
   rename_i h2;rw [aN (by rw [f2];omega)];exact f11 k z hk)
  exact⟨D,hu.1,hu.2,⟨by rw [g2.size];exact aJ _,g2.os,g2.tape,g2.output,fun b _ hb=>g2.old b (fun k=>hb (k▸⟨o,d,hd,rfl⟩))⟩,fun q d' h=>.inl ⟨q,d',h,rfl⟩,fun _ h _=>h,by simp [Eff.dv,rd]⟩
 |
  nilCheck x =>
  simp only [MO,aO]at htr;obtain⟨s,h1,rfl⟩:=htr;have hx:=oQ he h1;simp only [I.eff]at hef;split at hef<;>first|(cases hef;done)|skip
  ·rename_i o r off e1;split at hef<;>first|(cases hef;done)|skip
   rename_i ob hob;simp only [aB]at hef;subst hef;rw [e1]at hx;have hx':=hx;simp only [rd]at hx;obtain⟨d,hD⟩:=hS.alive o ob hob;rw [hD]at hx;simp only []at hx;exact⟨.value (a.eval x),_,w,by simp only [execOp,hx,Sem.run_pure],.inl rfl,zY hS hx'⟩
  rename_i row off e1;simp only [aB]at hef;subst hef;rw [e1]at hx;have hx':=hx;simp only [rd]at hx;obtain⟨b,o,hx,_⟩:=hx;exact⟨.value (a.eval x),_,w,by simp only [execOp,hx,Sem.run_pure],.inl rfl,zY hS hx'⟩
 |
  binOp op t x y yt =>
  simp only [MO]at htr;split at htr<;>first|(cases htr;done)|skip
  rename_i s r h1 h2;have hx:=oQ he h1;have hy:=oQ he h2;split at htr<;>first|(cases htr;done)|skip
  ·simp only [aB]at htr;subst htr;simp only [I.eff]at hef;split at hef<;>first|(cases hef;done)|skip
   rename_i v hv;simp only [aB]at hef;subst hef;obtain⟨u,k1,k2⟩:=apm (P:=P) (t:=t) hv hx hy x y;exact pU hS rfl k1 k2
  rename_i ne hcmp;simp only [aB]at htr;subst htr;simp only [I.eff]at hef;split at hef<;>first|(cases hef;done)|skip
  rename_i p q e1 e2;simp only [aB]at hef;subst hef;rw [e1]at hx;rw [e2]at hy;simp only [rd]at hx hy;have hop:op=(if ne then .neq else .eql)/\P.underlying t=some .bool:=by
   unfold asC at hcmp
   cases op<;>simp only []at hcmp<;>first|(cases hcmp;done)|skip
   all_goals (split at hcmp<;>first|(cases hcmp;done)|skip)
   all_goals (cases hcmp;rename_i hu;exact⟨rfl,hu⟩)
  obtain⟨rfl,hu⟩:=hop;have:=apn (P:=P) (w:=w) (a:=p) (b:=q) (ne:=ne) hu x y;refine pU hS (s:=do eqGuard (if ne then .neq else .eql) t x y (a.eval x) (a.eval y);binOp (if ne then .neq else .eql) t (a.eval x) (a.eval y)) rfl (by rw [hx,hy];exact this) (by simp only [rd])
 |
  unOp op t x =>
  simp only [MO,aO]at htr;obtain⟨s,h1,rfl⟩:=htr;have hx:=oQ he h1;simp only [I.eff]at hef;split at hef<;>first|(cases hef;done)|skip
  rename_i v hv;simp only [aB]at hef;subst hef;obtain⟨u,k1,k2⟩:=atE (P:=P) hv hx;exact pU hS rfl k1 k2
 |
  convert src dst x =>
  simp only [MO]at htr;split at htr<;>first|(cases htr;done)|skip
  ·rename_i ks k s hs hd h1;simp only [aB]at htr;subst htr;have hx:=oQ he h1;simp only [I.eff]at hef;split at hef<;>first|(cases hef;done)|skip
   rename_i k' n e1;simp only [aB]at hef;subst hef;rw [e1]at hx;simp only [rd]at hx;refine pU hS (s:=convert src dst (a.eval x)) rfl (by rw [hx];exact ala hs hd) (by simp only [rd])
  rename_i e s hs hd h1;split at htr<;>first|(cases htr;done)|skip
  rename_i he8;simp only [aB]at htr;subst htr;have hx:=oQ he h1;simp only [I.eff]at hef;split at hef<;>first|(cases hef;done)|skip
  rename_i szr rows hrows;split at hef<;>first|(cases hef;done)|skip
  rename_i bs hbs;simp only [aB]at hef;subst hef;obtain⟨a0,cap,hv,hle,hrd⟩:=Va hS hrows hx;obtain⟨ns,rfl,rfl,hns⟩:=TP hbs;refine pU hS (s:=convert src dst (a.eval x)) (v:=.string ⟨(ns.map fun n=>UInt8.ofNat n.toNat).toArray⟩) rfl ?_ (by simp only [rd]);rw [hv,run_convert_bytes_string w src dst e _ _ _ hs he8 hd];rcases hrd with h|⟨b,off,rfl,hl,hc⟩
  ·simp only [iJ]at h;subst h
   cases a0 with
   |none=>simp [Conv.bytesToString];rfl
   |
    some a0 =>
    have:=run_bytesToString (P:=P) w a0 0 cap [] (by simp [loadCells,loadCellsFrom]);exact this
  have hcells:∀j,j<ns.length->w.cell? ((⟨b,off,none⟩:Addr).add j)=some (.int .u8 (ns.getD j 0)):=by
   intro j hj;rw [addr_add];have hfl:((ns.map fun n=>[V.int .u8 n]).flatten)[j]? = some (V.int .u8 (ns.getD j 0)):=by
    have:∀(l:List Int),(l.map fun n=>[V.int .u8 n]).flatten=l.map (V.int .u8):=by
     intro l
     induction l with
     |nil=>rfl
     |cons n l ih=>simp only [bT,dO,ih];rfl
    rw [this];simp [hj]
   obtain⟨_,c,h1,h2⟩:=hc j _ hfl;simp only [rd]at h2;subst h2;exact h1
  have hlc:=run_loadCells (P:=P) w ⟨b,off,none⟩ ns.length (fun j=>.int .u8 (ns.getD j 0)) hcells;have hmap:((List.range ns.length).map fun j=>Value.int .u8 (ns.getD j 0))=ns.map (Value.int .u8):=by
   apply fV
   intro j;by_cases hj:j<ns.length
   ·simp [hj]
   simp [hj]
  rw [hmap]at hlc;have:=run_bytesToString (P:=P) w ⟨b,off,none⟩ (ns.map fun n=>[V.int .u8 n]).length cap ns (by simpa using hlc);rw [this]
  congr 2
  apply ByteArray.ext
  have hfold:∀(l:List Int) (r:ByteArray),(l.foldl (fun r n=>r.push (UInt8.ofNat n.toNat)) r).data.toList=r.data.toList++l.map fun n=>UInt8.ofNat n.toNat:=by
   intro l
   induction l with
   |nil=>intro r;simp
   |cons n l ih=>intro r;rw [iE,ih];simp [ByteArray.push]
  apply Array.ext'
  rw [hfold];show []++_=_;simp
 |
  makeSlice t l c =>
  simp only [MO]at htr;split at htr<;>first|(cases htr;done)|skip
  rename_i e sz by_ s ht h1;split at htr<;>first|(cases htr;done)|skip
  rename_i z hz;split at htr<;>first|(cases htr;done)|skip
  rename_i hc;simp only [aB]at htr;subst htr;have hx:=oQ he h1;simp only [I.eff]at hef;split at hef<;>first|(cases hef;done)|skip
  rename_i n e1;split at hef<;>first|(cases hef;done)|skip
  rename_i hn;simp only [aB]at hef;subst hef;rw [e1]at hx;simp only [rd]at hx;have hcc:a.eval c=a.eval l:=by
   have:=hc.1;unfold ahQ at this;split at this<;>first|(simp at this;done)|skip
   ·simp at this;subst this;rfl
   simp at this;subst this;rfl
  obtain⟨cs,k1,k2,k3⟩:=run_make (w:=w) (D:=D) (M:=M) ht hz hn.1 hn.2.1 hn.2.2;obtain⟨i,v,z1,z2,z3,z4,z5,z6,z7⟩:=JA (w:=w) (D:=D) (X:=XS M D) hz;refine PN (s:=Instr.makeSlice t (a.eval l) (a.eval c)) rfl (by rw [hcc,hx];exact k1) ?_;have:=U9 hS (hid rfl) (Jz w cs e) (sz:=z.length) (rows:=List.replicate n.toNat z) (cap:=n.toNat) (by omega) (by intro r hr;rw [jD hr]) (by simp) (by rw [k3,hc.2];exact aJ _) (fun k x hk=>by
   obtain⟨y,j1,j2⟩:=Gq _ _ k2 k x hk;refine⟨?_,y,by simpa using j1,j2⟩;obtain⟨r,hr,hx'⟩:=List.mem_flatten.1 (bn hk);rw [jD hr]at hx';exact bg.1 z7 x hx')
  simpa [Eff.store,Eff.dv]using this
 |
  slice t x lo hi mx =>
  cases mx with
  |some m=>simp [MO]at htr
  |none =>
  simp only [MO]at htr;split at htr<;>first|(cases htr;done)|skip
  rename_i s h1;split at htr<;>first|(cases htr;done)|skip
  rename_i slo shi hlo hhi;have hx:=oQ he h1;have r1:(slo=none/\lo=none)\/∃q l,slo=some q/\lo=some l/\rd w D (XS M D) (q.ev env) (a.eval l):=by
   cases lo with
   |none=>simp [trO]at hlo;exact .inl ⟨hlo.symm,rfl⟩
   |
    some l =>
    simp only [trO,aO]at hlo;obtain⟨q,h2,rfl⟩:=hlo;exact .inr ⟨q,l,rfl,rfl,oQ he h2⟩
  have r2:(shi=none/\hi=none)\/∃q l,shi=some q/\hi=some l/\rd w D (XS M D) (q.ev env) (a.eval l):=by
   cases hi with
   |none=>simp [trO]at hhi;exact .inl ⟨hhi.symm,rfl⟩
   |
    some l =>
    simp only [trO,aO]at hhi;obtain⟨q,h2,rfl⟩:=hhi;exact .inr ⟨q,l,rfl,rfl,oQ he h2⟩
  have bnd:∀{n cap h l:Nat} {isS:Bool},n<=cap->hiB env n shi=some h->loB env h slo=some l ->
    (Instr.sliceBounds isS n cap (lo.map a.eval) (hi.map a.eval) none).run P w=.ok (l,h,cap) w/\l<=h/\h<=n:=by
   intro n cap h l isS hn e1 e2;refine afN (lo:=slo.map (·.ev env)) (hi:=shi.map (·.ev env)) (X:=XS M D) (D:=D) hn ?_ ?_ ?_ ?_
   ·cases shi<;>simpa [hiB]using e1
   ·cases slo<;>simpa [loB]using e2
   ·rcases r1 with ⟨rfl,rfl⟩|⟨q,l',rfl,rfl,h⟩
    ·exact .inl ⟨rfl,rfl⟩
    exact .inr ⟨_,_,rfl,rfl,h⟩
   rcases r2 with ⟨rfl,rfl⟩|⟨q,l',rfl,rfl,h⟩
   ·exact .inl ⟨rfl,rfl⟩
   exact .inr ⟨_,_,rfl,rfl,h⟩
  split at htr<;>first|(cases htr;done)|skip
  ·rename_i hu;simp only [aB]at htr;subst htr;simp only [I.eff]at hef;split at hef<;>first|(cases hef;done)|skip
   rename_i sl e1;split at hef<;>first|(cases hef;done)|skip
   rename_i h eh;split at hef<;>first|(cases hef;done)|skip
   rename_i l el;simp only [aB]at hef;subst hef;rw [e1]at hx;simp only [rd]at hx;obtain⟨k1,k2,k3⟩:=bnd (isS:=false) (aJ _) eh el;exact pU hS (s:=Instr.sliceAt t (a.eval x) (lo.map a.eval) (hi.map a.eval) none) rfl (by rw [hx];exact ZO hu k1) (by simp only [rd])
  rename_i el hu;split at htr<;>first|(cases htr;done)|skip
  rename_i i hi';split at htr<;>first|(cases htr;done)|skip
  rename_i h0;simp only [aB]at htr;subst htr;simp only [I.eff]at hef;split at hef<;>first|(cases hef;done)|skip
  rename_i n hn;split at hef<;>first|(cases hef;done)|skip
  rename_i h eh;split at hef<;>first|(cases hef;done)|skip
  rename_i l el';have afP:∀{a0:Option Addr} {cap:Nat},n<=cap->a.eval x=.slice a0 n cap->(Instr.sliceAt t (a.eval x) (lo.map a.eval) (hi.map a.eval) none).run P w =
    .ok (.slice (if cap=l then a0 else a0.map (·.add (l*i.size))) (h-l) (cap-l)) w/\l<=h/\h<=n:=by
   intro a0 cap hc hv;obtain⟨k1,k2,k3⟩:=bnd (isS:=true) hc eh el';exact⟨by rw [hv];exact abu hu hi' k1,k2,k3⟩
  split at hef<;>first|(cases hef;done)|skip
  ·-- nil
   rename_i e1;simp only [aB]at hef;subst hef;rw [e1]at hx hn;simp only [lenOf,aB]at hn;subst hn;simp only [rd]at hx;obtain⟨a0,hx⟩:=hx;obtain⟨k1,k2,k3⟩:=afP (aJ _) hx;have hh0:h=0:=by omega
   have hl0:l=0:=by omega
   subst hh0 hl0;exact pU hS (s:=Instr.sliceAt t (a.eval x) (lo.map a.eval) (hi.map a.eval) none) rfl k1 (by simp only [rd];exact⟨_,rfl⟩)
  ·-- frozen
   rename_i sz' rows e1;split at hef<;>first|(cases hef;done)|skip
   rename_i hsz;simp only [aB]at hef;subst hef;rw [e1]at hx hn;simp only [lenOf,aB]at hn;subst hn;simp only [rd]at hx;obtain⟨a0,cap,hx,hle,hwh⟩:=hx;obtain⟨k1,k2,k3⟩:=afP hle hx;have hlen:((rows.take h).drop l).length=h-l:=by simp;omega
   refine pU hS (s:=Instr.sliceAt t (a.eval x) (lo.map a.eval) (hi.map a.eval) none) rfl k1 ?_;simp only [rd];refine⟨_,_,by rw [hlen],by rw [hlen];omega,?_⟩;by_cases hemp:(rows.take h).drop l=[]
   ·exact .inl hemp
   rcases hwh with rfl|⟨b,off,rfl,hb,hX,hrows⟩
   ·simp at hemp
   have:¬cap=l:=by
    intro hcl
    apply hemp
    apply aY
    omega
   rw [aN this];refine .inr ⟨b,off+l*sz',by rw [hsz];simp,hb,hX,?_⟩;exact Wj l off _ (Wn h off _ hrows)
  -- an object's
  rename_i o st ln e1;split at hef<;>first|(cases hef;done)|skip
  rename_i ob hob;split at hef<;>first|(cases hef;done)|skip
  rename_i hsz;simp only [aB]at hef;subst hef;rw [e1]at hx hn;simp only [lenOf,hob,dh,aB]at hn;subst hn;obtain⟨d,hd⟩:=hS.alive o ob hob;obtain⟨ob',c,e0,f1,f2,_⟩:=hS.live o d hd;rw [hob]at f1;cases f1;simp only [rd,hd]at hx;obtain⟨hn,a0,cap,hx,hcap,hwh⟩:=hx;obtain⟨k1,k2,k3⟩:=afP hcap hx;refine pU hS (s:=Instr.sliceAt t (a.eval x) (lo.map a.eval) (hi.map a.eval) none) rfl k1 ?_;simp only [rd,hd];refine⟨by omega,_,_,rfl,by omega,?_⟩;by_cases hcl:cap=l
  ·right;omega
  rw [aN hcl];rcases hwh with ⟨rfl,hfit⟩|⟨rfl,rfl⟩
  ·left;refine⟨by simp only [dh,addr_add];rw [f2,hsz,gJ,jq],?_⟩;rw [show st+l+(cap-l)=st+cap by omega];exact hfit
  right;omega
 |
  fieldAddr t x f =>
  simp only [MO]at htr;split at htr<;>first|(cases htr;done)|skip
  rename_i fs s hu h1;split at htr<;>first|(cases htr;done)|skip
  rename_i fd hfd;split at htr<;>first|(cases htr;done)|skip
  rename_i i hi;split at htr<;>first|(cases htr;done)|skip
  rename_i h0;simp only [aB]at htr;subst htr;have hx:=oQ he h1;simp only [I.eff]at hef;split at hef<;>first|(cases hef;done)|skip
  ·rename_i o r off e1;split at hef<;>first|(cases hef;done)|skip
   rename_i ob hob;simp only [aB]at hef;subst hef;rw [e1]at hx;simp only [rd]at hx;obtain⟨d,hD⟩:=hS.alive o ob hob;rw [hD]at hx;simp only []at hx;refine pU hS (s:=Instr.fieldAt t (a.eval x) f) rfl (by rw [hx];exact PK hu hfd hi h0 _ _) (by simp only [rd,hD];rw [jq])
  rename_i row off e1;simp only [aB]at hef;subst hef;rw [e1]at hx;simp only [rd]at hx;obtain⟨b,o,hx,hb⟩:=hx;refine pU hS (s:=Instr.fieldAt t (a.eval x) f) rfl (by rw [hx];exact PK hu hfd hi h0 _ _) (by simp only [rd];exact⟨b,o,by rw [jq],hb⟩)
 |
  indexAddr t x ix =>
  simp only [MO]at htr;split at htr<;>first|(cases htr;done)|skip
  rename_i s r h1 h2;have hx:=oQ he h1;have hy:=oQ he h2;split at htr<;>first|(cases htr;done)|skip
  ·rename_i e hu;split at htr<;>first|(cases htr;done)|skip
   rename_i n hi;simp only [aB]at htr;subst htr;simp only [I.eff]at hef;split at hef<;>first|(cases hef;done)|skip
   ·rename_i o st ln e1;split at hef<;>first|(cases hef;done)|skip
    rename_i ob j hob hj;split at hef<;>first|(cases hef;done)|skip
    rename_i hsz;simp only [aB]at hef;subst hef;rw [e1]at hx;obtain⟨d,hd⟩:=hS.alive o ob hob;obtain⟨ob',c,e0,f1,f2,_⟩:=hS.live o d hd;rw [hob]at f1;cases f1;simp only [rd,hd]at hx;obtain⟨hn,a0,cap,hx,hcap,hwh⟩:=hx;obtain⟨kd,m,hv,k1,k2,rfl,k3⟩:=FT hj hy;rcases hwh with ⟨rfl,_⟩|⟨rfl,rfl⟩
    ·refine pU hS (s:=Instr.indexAt t (a.eval x) (a.eval ix)) rfl (by rw [hx,hv];exact OE hu hi ⟨k1,k2⟩) ?_;simp only [rd,hd];rw [f2,hsz,gJ];simp only [iP,jq]
    omega
   rename_i sz' rows e1;split at hef<;>first|(cases hef;done)|skip
   rename_i j hj;split at hef<;>first|(cases hef;done)|skip
   rename_i hsz;simp only [aB]at hef;subst hef;subst hsz;rw [e1]at hx;simp only [rd]at hx;obtain⟨a0,cap,hx,hle,hwh⟩:=hx;obtain⟨kd,m,hv,k1,k2,rfl,k3⟩:=FT hj hy;rcases hwh with rfl|⟨b,off,rfl,hb,hX,hrows⟩
   ·simp at k3
   refine pU hS (s:=Instr.indexAt t (a.eval x) (a.eval ix)) rfl (by rw [hx,hv];exact OE hu hi ⟨k1,k2⟩) ?_;simp only [rd];have hg:rows[m.toNat]? = some (rows.getD m.toNat []):=by simp [k3]
   exact⟨b,off+m.toNat*n.size,by simp,hb,hX,(X0 off rows hrows _ _ hg).2⟩
  rename_i cnt e hu;split at htr<;>first|(cases htr;done)|skip
  rename_i n hi;simp only [aB]at htr;subst htr;simp only [I.eff]at hef;split at hef<;>first|(cases hef;done)|skip
  ·rename_i o rr off j e1 hj;split at hef<;>first|(cases hef;done)|skip
   rename_i ob hob;simp only [aB]at hef;subst hef;rw [e1]at hx;obtain⟨d,hd⟩:=hS.alive o ob hob;simp only [rd,hd]at hx;obtain⟨kd,m,hv,k1,k2,rfl,k3⟩:=FT hj hy;refine pU hS (s:=Instr.indexAt t (a.eval x) (a.eval ix)) rfl (by rw [hx,hv];exact Q5 hu hi ⟨k1,k2⟩) ?_;simp only [rd,hd,jq]
  rename_i row off j e1 hj;simp only [aB]at hef;subst hef;rw [e1]at hx;simp only [rd]at hx;obtain⟨b,o,hx,hb⟩:=hx;obtain⟨kd,m,hv,k1,k2,rfl,k3⟩:=FT hj hy;refine pU hS (s:=Instr.indexAt t (a.eval x) (a.eval ix)) rfl (by rw [hx,hv];exact Q5 hu hi ⟨k1,k2⟩) ?_;simp only [rd];exact⟨b,o,by rw [jq],hb⟩
 |
  index t x ix =>
  simp only [MO]at htr;split at htr<;>first|(cases htr;done)|skip
  ·rename_i s r h1 h2 hu;simp only [aB]at htr;subst htr;have hx:=oQ he h1;have hy:=oQ he h2;simp only [I.eff]at hef;split at hef<;>first|(cases hef;done)|skip
   rename_i l e1;split at hef<;>first|(cases hef;done)|skip
   rename_i j hj;simp only [aB]at hef;subst hef;rw [e1]at hx;simp only [rd]at hx;obtain⟨kd,n,hv,k1,k2,rfl,k3⟩:=FT hj hy;refine pU hS (s:=Instr.index t (a.eval x) (a.eval ix)) rfl (by rw [hx,hv];exact ZM hu ⟨k1,k2⟩) (by simp only [rd])
  rename_i s r cnt e h1 h2 hu;split at htr<;>first|(cases htr;done)|skip
  rename_i n d hi hd;split at htr<;>first|(cases htr;done)|skip
  rename_i hn;simp only [aB]at htr;subst htr;have hx:=oQ he h1;have hy:=oQ he h2;simp only [I.eff]at hef;split at hef<;>first|(cases hef;done)|skip
  rename_i cs j e1 hj;split at hef<;>first|(cases hef;done)|skip
  rename_i v hv;simp only [aB]at hef;subst hef;rw [e1]at hx;simp only [rd]at hx;obtain⟨arr,hx,hl⟩:=hx;obtain⟨kd,m,hv2,k1,k2,rfl,k3⟩:=FT hj hy;obtain⟨u,q1,q2⟩:=Gq _ _ hl _ v hv;exact pU hS (s:=Instr.index t (a.eval x) (a.eval ix)) rfl (by rw [hx,hv2];exact ZL hu hi hn.1 hd hn.2 ⟨k1,k2⟩ q1) q2
 |
  extract x ix =>
  simp only [MO,aO]at htr;obtain⟨s,h1,rfl⟩:=htr;have hx:=oQ he h1;simp only [I.eff]at hef;split at hef<;>first|(cases hef;done)|skip
  rename_i vs e1;split at hef<;>first|(cases hef;done)|skip
  rename_i v hv;simp only [aB]at hef;subst hef;rw [e1]at hx;simp only [rd]at hx;obtain⟨arr,hx,hl⟩:=hx;obtain⟨u,k1,k2⟩:=Gq _ _ hl ix v hv;refine pU hS (s:=Instr.extract (a.eval x) ix) rfl (by rw [hx];simp only [Instr.extract];rw [<-iH,k1];rfl) k2
 |
  call c =>
  obtain⟨callee,args,argTypes⟩:=c
  cases callee with
  |invoke r m=>simp [MO]at htr
  |
   value f =>
   cases f with
   |
    func f =>
    simp only [MO]at htr;split at htr<;>first|(cases htr;done)|skip
    split at htr<;>first|(cases htr;done)|skip
    simp only [aB]at htr;subst htr;simp [I.eff]at hef
   |_=>simp [MO]at htr
  |builtin b =>
  cases b with
  |
   len =>
   simp only [MO]at htr;split at htr<;>first|(cases htr;done)|skip
   rename_i x t hargs hat
   have hargs':args = #[x]:=by rw [<-jc (xs:=args)];rw [hargs]
   have hat':argTypes = #[t]:=by rw [<-jc (xs:=argTypes)];rw [hat]
   subst hargs' hat';split at htr<;>first|(cases htr;done)|skip
   ·rename_i s h1 hu;simp only [aB]at htr;subst htr;have hx:=oQ he h1;simp only [I.eff]at hef;split at hef<;>first|(cases hef;done)|skip
    rename_i l hl;simp only [aB]at hef;subst hef;rw [hl]at hx;simp only [rd]at hx;have k:=ads (w:=w) (ty:=type) (s:=⟨l.toArray⟩) hu;refine⟨.value (.int .i64 l.length),_,w,?_,.inl rfl,zY hS rfl⟩;simp [execOp,Go.resolve,invoke,builtin,hx,k,ByteArray.size]
   rename_i s e h1 hu;simp only [aB]at htr;subst htr;have hx:=oQ he h1;simp only [I.eff]at hef;split at hef<;>first|(cases hef;done)|skip
   rename_i n hn;simp only [aB]at hef;subst hef;obtain⟨a0,cap,hv,_⟩:=ak9 hS hn hx;have k:=afK (w:=w) (ty:=type) (a:=a0) (n:=n) (c:=cap) hu;refine⟨.value (.int .i64 n),_,w,?_,.inl rfl,zY hS rfl⟩;simp [execOp,Go.resolve,invoke,builtin,hv,k]
  |
   append =>
   simp only [MO]at htr;split at htr<;>first|(cases htr;done)|skip
   rename_i x y t u hargs hat
   have hargs':args = #[x,y]:=by rw [<-jc (xs:=args)];rw [hargs]
   have hat':argTypes = #[t,u]:=by rw [<-jc (xs:=argTypes)];rw [hat]
   subst hargs' hat';split at htr<;>first|(cases htr;done)|skip
   rename_i s r e sz by_ e' h1 h2 h3 h4;split at htr<;>first|(cases htr;done)|skip
   rename_i hz;simp only [aB]at htr;subst htr;obtain⟨v,w',k1,k2⟩:=atF (ty:=type) hS (hid rfl) h3 hz h4 (oQ he h1) (oQ he h2) rfl rfl hef;refine⟨.value v,v,w',?_,.inl rfl,k2⟩;simp only [execOp,Go.resolve,invoke,builtin,Sem.run_bind,Sem.run_pure,bQ];simp [k1]
  |
   max =>
   simp only [MO]at htr;split at htr<;>first|(cases htr;done)|skip
   rename_i x y hargs;have hargs':args = #[x,y]:=by rw [<-jc (xs:=args)];rw [hargs]
   subst hargs';split at htr<;>first|(cases htr;done)|skip
   rename_i s r h1 h2;simp only [aB]at htr;subst htr;have hx:=oQ he h1;have hy:=oQ he h2;simp only [I.eff]at hef;split at hef<;>first|(cases hef;done)|skip
   rename_i k p k' q e1 e2;split at hef<;>first|(cases hef;done)|skip
   rename_i hk;subst hk;simp only [aB]at hef;subst hef;rw [e1]at hx;rw [e2]at hy;simp only [rd]at hx hy;refine⟨.value (.int k (if q>p then q else p)),_,w,?_,.inl rfl,zY hS rfl⟩;simp [execOp,Go.resolve,invoke,builtin,hx,hy,Builtin.max_,Builtin.max2]
  |_=>simp [MO]at htr
 |_=>simp [MO]at htr
end
def asF(nt:Nat):Option Nat->Bool
 |some d=>decide (d<nt)
 |none=>true
def trG(ops:Array Oper):Option (Nat×Bool)->Option (Option (Nat×Bool))
 |none=>some none
 |
  some (j,want)=>match (ops[j]?).bind (·.dst)with
  |some t=>some (some (t,want))
  |none=>none
def ahU(o:Oper):List Nat:=(o.after.toList.filter (Region.binds .any)).map (·.on)
def afQ(P:Program)(ν:Nat->Option Nat)(ops:Array Oper)(dr:Bool)(nt m k:Nat)(o:Oper):Option qJ :=
 match MO P ν o,trG ops o.guard with
 |some i,some g=>if asF nt o.dst=true then some ⟨g,o.dst,if i.makes then k else m,i,if dr then ahU o else []⟩else none
 |_,_=>none
def OG(P:Program)(ν:Nat->Option Nat)(ops:Array Oper)(dr:Bool)(nt m:Nat):Nat->List Oper->Option (List qJ)
 |_,[]=>some []
 |
  k,o::l=>match afQ P ν ops dr nt m k o with
  |
   some x=>match OG P ν ops dr nt m (if x.i.makes then k+1 else k) l with
   |some r=>some (x::r)
   |none=>none
  |none=>none
def alg(P:Program)(ν:Nat->Option Nat)(ops:List Oper):Nat:=(ops.filter fun o=>(MO P ν o).any (·.makes)).length
def Vd(P:Program)(ν:Nat->Option Nat)(nt:Nat):Code->Option C
 |.skip=>some .skip
 |
  .region _ ops draw =>
  let m:=alg P ν ops.toList
  (OG P ν ops draw nt m 0 ops.toList).map (.reg draw m)
 |
  .seq a b=>match Vd P ν nt a,Vd P ν nt b with
  |some x,some y=>some (.seq x y)
  |_,_=>none
 |
  .cond c a b=>match MN c,Vd P ν nt a,Vd P ν nt b with
  |some s,some x,some y=>some (.cond s x y)
  |_,_,_=>none
 |.block id c=>(Vd P ν nt c).map (.block id)
 |.loop c=>(Vd P ν nt c).map .loop
 |.exit id=>some (.exit id)
 |.ret=>some .ret
 |_=>none
def ahV(P:Program):ResultVar->Option O6
 |.tmp t=>some (.tmp t)
 |.cell a t=>(ahP P t).map fun p=>.cell a p.1 p.2
def afR(P:Program)(ν:Nat->Option Nat)(fn:Func):Option Fn :=
 match fn.body with
 |
  some c=>match Vd P ν fn.ntmps c,fn.results.toList.mapM (ahV P)with
  |some b,some rs=>if fn.params.size<=fn.ntmps then some ⟨fn.params.size,fn.ntmps,rs,b⟩else none
  |_,_=>none
 |none=>none
def adt:Ex->Exit
 |.normal=>.normal
 |.exit id=>.exit id
 |.ret=>.ret
structure SR (nt:Nat) (M:Nat->Prop) (w0:World) (D0:DM) (st:St) (D:DM) (a:Act) (w:World):Prop where
 env:∀t,rd w D (XS M D) (st.env t) (a.tmps.getD t undef)
 tm:a.tmps.size=nt
 df:a.defers=[]
 store:uP w D M st.objs
 gr:Gr (Own D0) w0 w
 fr:∀o d,D o=.live d->Own D0 d.blk\/w0.heap.size<=d.blk
 kp:∀o,o<st.keep->vJ (D0 o) (D o)
theorem alh{a:Act}{d t:Nat}{v:Value}(h:d<a.tmps.size):(a.put (some d) v).tmps.getD t undef=if t=d then v else a.tmps.getD t undef:=by
 simp only [Act.put,dP];rw [Array.getElem?_setIfInBounds];by_cases ht:t=d
 ·subst ht;simp [h]
 rw [aN (fun k=>ht k.symm),aN ht]
section
variable {P : Program} {ν : Nat -> Option Nat} {nt : Nat} {M : Nat -> Prop} {w0 : World} {D0 : DM} {st : St} {D : DM} {a : Act} {w : World}
theorem Ve{w':World}{D':DM}{X:Nat->Prop}{env:Nat->V}{dst:Option Nat}{x:V}{v:Value}(he:∀t,rd w' D' X (env t) (a.tmps.getD t undef))
  (hd:∀d,dst=some d->d<a.tmps.size) (h:rd w' D' X x v):∀t,rd w' D' X (oO env dst x t) ((a.put dst v).tmps.getD t undef):=by
 intro t
 cases dst with
 |none=>exact he t
 |
  some d =>
  rw [alh (hd d rfl)];simp only [oO,upd];split
  ·subst_vars;exact h
  exact he t
theorem SR.step(h:SR nt M w0 D0 st D a w){id:Nat}{σ':Store}{x:V}{v:Value}{w':World}(hd:Done w D M id σ' x v w'){dst:Option Nat}(hdst:∀d,dst=some d->d<nt) :
  ∃D',SR nt M w0 D0 { st with env:=oO st.env dst x,objs:=σ' } D' (a.put dst v) w'/\∀o,D o=.oM->o≠id->D' o=.oM:=by
 obtain⟨D',h1,h2,h3,h4,h5,h6⟩:=hd;refine⟨D',⟨Ve (fun t=>oP _ _ h2 (h.env t)) (fun d hd=>by rw [h.tm];exact hdst d hd) h6,?_,?_,h1,?_,?_,fun o ho=>(h.kp o ho).trans (h2.ds o)⟩,h5⟩
 ·rw [<-h.tm];cases dst<;>simp [Act.put]
 ·rw [<-h.df];cases dst<;>rfl
 ·exact h.gr.trans (h3.mono fun b _ ⟨o,d,ho,hb⟩=>hb▸h.fr o d ho)
 intro o d' ho;rcases h4 o d' ho with ⟨q,d,hq,hb⟩|hb
 ·rw [<-hb];exact h.fr q d hq
 exact .inr (dw h.gr.size hb)
theorem SR.mem(h:SR nt M w0 D0 st D a w)(n:Nat):uP w D M (st.objs++List.replicate n none):=by
 have hat:∀o,jQ (st.objs++List.replicate n none) o=jQ st.objs o:=by
  intro o;unfold jQ;by_cases ho:o<st.objs.length
  ·rw [bK ho]
  rw [bW (by omega),bC (by omega:st.objs.length<=o)];simp only [jr];split<;>rfl
 refine⟨?_,?_,h.store.inj,fun o ho=>h.store.far o (by simp at ho;omega),h.store.mlt⟩
 ·intro o d ho;obtain⟨ob,c,e,h1,h2⟩:=h.store.live o d ho;exact⟨ob,c,e,by rw [hat];exact h1,h2⟩
 intro o ob ho;rw [hat]at ho;exact h.store.alive o ob ho
end
section
variable {w : World} {X : Nat -> Prop}
mutual
theorem Vf{D D':DM}{g:Nat->Option Nat}(hg:∀o o',g o=some o'->vJ (D o) (D' o')):∀(x:V) (v:Value),rd w D X x v->rd w D' X (lS g x) v
 |.any,_,_=>by simp [lS,rd]
 |.one,_,h=>by simpa [lS,rd]using h
 |.int ..,_,h=>by simpa [lS,rd]using h
 |.bool _,_,h=>by simpa [lS,rd]using h
 |.str _,_,h=>by simpa [lS,rd]using h
 |.kC,_,h=>by simpa [lS,rd]using h
 |.sl sz rows,v,h=>by simpa only [lS,rd]using h
 |.qw row off,v,h=>by simpa only [lS,rd]using h
 |
  .agg cs,v,h=>by
  simp only [rd,lS]at h ⊢;obtain⟨a,rfl,h⟩:=h;exact⟨a,rfl,abw hg cs _ h⟩
 |
  .oU cs,v,h=>by
  simp only [rd,lS]at h ⊢;obtain⟨a,rfl,h⟩:=h;exact⟨a,rfl,abw hg cs _ h⟩
 |
  .lQ o s l,v,h=>by
  simp only [lS]
  cases hgo:g o with
  |
   none =>
   simp only [rd]at h ⊢
   cases hD:D o with
   |oM=>simp [hD]at h
   |dead=>rw [hD]at h;obtain⟨_,_,_,rfl⟩:=h;rfl
   |live d=>rw [hD]at h;obtain⟨_,_,_,rfl,_⟩:=h;rfl
  |
   some o' =>
   have hle:=hg o o' hgo;simp only [rd]at h ⊢
   cases hD:D o with
   |oM=>simp [hD]at h
   |dead=>rw [hD]at h hle;simp only [vJ]at hle;rw [hle];exact h
   |
    live d =>
    rw [hD]at h hle;rcases hle with h'|h'<;>rw [h']
    ·exact h
    obtain⟨_,a,cap,h,_⟩:=h;exact⟨a,l,cap,h⟩
 |
  .ptr o s l,v,h=>by
  simp only [lS]
  cases hgo:g o with
  |
   none =>
   simp only [rd]at h ⊢
   cases hD:D o with
   |oM=>simp [hD]at h
   |dead=>rw [hD]at h;obtain⟨_,rfl⟩:=h;rfl
   |live d=>rw [hD]at h;simp only []at h;subst h;rfl
  |
   some o' =>
   have hle:=hg o o' hgo;simp only [rd]at h ⊢
   cases hD:D o with
   |oM=>simp [hD]at h
   |dead=>rw [hD]at h hle;simp only [vJ]at hle;rw [hle];exact h
   |
    live d =>
    rw [hD]at h hle;rcases hle with h'|h'<;>rw [h']
    ·exact h
    exact⟨_,h⟩
theorem abw{D D':DM}{g:Nat->Option Nat}(hg:∀o o',g o=some o'->vJ (D o) (D' o')):∀(xs:List V) (ys:List Value),qH w D X xs ys->qH w D' X (lS.IZ g xs) ys
 | [],ys,h=>by simpa [lS.IZ,qH]using h
 |
  x::xs,ys,h=>by
  simp only [qH,lS.IZ]at h ⊢;obtain⟨y,ys',rfl,h1,h2⟩:=h;exact⟨y,ys',rfl,Vf hg x y h1,abw hg xs ys' h2⟩
end
theorem X9{g:Nat->Option Nat}{x:V}(h:x.leaf=true):(lS g x).leaf=true:=by
 cases x<;>first|(simp [V.leaf]at h;done)|skip
 all_goals simp only [lS]
 all_goals first|rfl|(split<;>rfl)
theorem aar{w w':World}{D D':DM}{X X':Nat->Prop}:∀(n:Nat) (x:V) (v:Value),scalar n x=true->rd w D X x v->rd w' D' X' x v
 |0,x,_,h,_=>by simp [scalar]at h
 |
  n+1,x,v,h,hr=>by
  have hl:∀(cs:List V),cs.all (scalar n)=true->∀(ys:List Value),qH w D X cs ys->qH w' D' X' cs ys:=by
   intro cs
   induction cs with
   |nil=>intro _ ys h;simpa only [qH]using h
   |
    cons c cs ih =>
    intro hc ys h;simp only [dD,aH]at hc;simp only [qH]at h ⊢;obtain⟨y,ys',rfl,h1,h2⟩:=h;exact⟨y,ys',rfl,aar n c y hc.1 h1,ih hc.2 ys' h2⟩
  cases x<;>simp only [scalar]at h<;>first|(cases h;done)|skip
  case int=>simpa only [rd]using hr
  case bool=>simpa only [rd]using hr
  case str=>simpa only [rd]using hr
  case kC=>simpa only [rd]using hr
  case agg cs =>
   simp only [rd]at hr ⊢;obtain⟨a,rfl,hr⟩:=hr;exact⟨a,rfl,hl cs h _ hr⟩
  case oU cs =>
   simp only [rd]at hr ⊢;obtain⟨a,rfl,hr⟩:=hr;exact⟨a,rfl,hl cs h _ hr⟩
theorem PS{α β:Type}{f:α->Option β}:∀{l:List α} {l':List β},l.mapM f=some l'->l'.length=l.length/\∀(i:Nat) (y:β),l'[i]? = some y->∃x,l[i]? = some x/\f x=some y
 | [],l',h=>by simp at h;subst h;simp
 |
  a::l,l',h=>by
  simp only [bZ,jl,iI,fD,aB]at h;obtain⟨b,h1,l2,h2,rfl⟩:=h;obtain⟨e1,e2⟩:=PS h2;refine⟨by simp [e1],fun i y hi=>?_⟩
  cases i with
  |zero=>simp at hi;subst hi;exact⟨a,rfl,h1⟩
  |succ i=>simpa using e2 i y (by simpa using hi)
theorem I4{σ:Store}{n:Nat}{x y:V}(h:resolve σ n x=some y)(hl:x.leaf=true):y.leaf=true:=by
 cases n with
 |zero=>simp [resolve]at h
 |
  succ n =>
  cases x<;>first|(simp [V.leaf]at hl;done)|skip
  all_goals simp only [resolve]at h
  all_goals first|(simp only [aB]at h;subst h;rfl)|skip
  ·split at h<;>first|(cases h;done)|skip
   split at h<;>first|(cases h;done)|skip
   simp only [aO]at h;obtain⟨_,_,rfl⟩:=h;rfl
  split at h<;>first|(cases h;done)|skip
  split at h<;>first|(cases h;done)|skip
  simp only [aO]at h;obtain⟨_,_,rfl⟩:=h;rfl
theorem FU{D:DM}{M:Nat->Prop}{σ:Store}(hS:uP w D M σ){R:List Nat} :
  ∀
   (n:Nat) (x y:V) (v:Value),resolve σ n x=some y->(∀o,o∈reach σ n x->o∈R)->rd w D (XS M D) x v ->
   rd w DM.none (fun b=>M b\/∃o d,D o=.live d/\d.blk=b/\o∉R) y v
 |0,x,y,v,h,_,_=>by simp [resolve]at h
 |
  n+1,x,y,v,h,hR,hr=>by
  have E:Ext w DM.none (XS M D) w DM.none (fun b=>M b\/∃o d,D o=.live d/\d.blk=b/\o∉R) :=
   ⟨aJ _,fun _ _ _=>rfl,fun b _ h=>h.imp id fun ⟨o,d,h1,h2,_⟩=>⟨o,d,h1,h2⟩,fun _=>vJ.refl _⟩
  have hlist:∀(cs cs':List V) (ys:List Value),cs.mapM (resolve σ n)=some cs'->(∀o,o∈cs.flatMap (reach σ n)->o∈R)->qH w D (XS M D) cs ys ->
    qH w DM.none (fun b=>M b\/∃o d,D o=.live d/\d.blk=b/\o∉R) cs' ys:=by
   intro cs
   induction cs with
   |nil=>intro cs' ys h _ hr;simp at h;subst h;simpa only [qH]using hr
   |
    cons c cs ih =>
    intro cs' ys h hR hr;simp only [bZ,jl,iI,fD,aB]at h;obtain⟨c',h1,cs2,h2,rfl⟩:=h;simp only [qH]at hr ⊢;obtain⟨y,ys',rfl,k1,k2⟩:=hr;refine⟨y,ys',rfl,FU hS n c c' y h1 (fun o ho=>hR o (by simp [ho])) k1,ih cs2 ys' h2 (fun o ho=>hR o ?_) k2⟩;simp only [jJ,aK];exact .inr ho
  cases x with
  |any=>simp [resolve]at h
  |one=>simp only [resolve,aB]at h;subst h;simpa only [rd]using hr
  |int k i=>simp only [resolve,aB]at h;subst h;simpa only [rd]using hr
  |bool b=>simp only [resolve,aB]at h;subst h;simpa only [rd]using hr
  |str s=>simp only [resolve,aB]at h;subst h;simpa only [rd]using hr
  |kC=>simp only [resolve,aB]at h;subst h;simpa only [rd]using hr
  |
   sl sz rows =>
   simp only [resolve,aB]at h;subst h;have hr':rd w DM.none (XS M D) (.sl sz rows) v:=by simpa only [rd]using hr
   exact oP _ _ E hr'
  |
   qw row off =>
   simp only [resolve,aB]at h;subst h;have hr':rd w DM.none (XS M D) (.qw row off) v:=by simpa only [rd]using hr
   exact oP _ _ E hr'
  |
   agg cs =>
   simp only [resolve,aO]at h;obtain⟨cs',h1,rfl⟩:=h;simp only [rd]at hr ⊢;obtain⟨a,rfl,hr⟩:=hr;exact⟨a,rfl,hlist cs cs' _ h1 (by simpa only [reach]using hR) hr⟩
  |
   oU cs =>
   simp only [resolve,aO]at h;obtain⟨cs',h1,rfl⟩:=h;simp only [rd]at hr ⊢;obtain⟨a,rfl,hr⟩:=hr;exact⟨a,rfl,hlist cs cs' _ h1 (by simpa only [reach]using hR) hr⟩
  |
   lQ o s l =>
   simp only [resolve]at h
   cases hob:jQ σ o with
   |none=>simp [hob]at h
   |
    some ob =>
    simp only [hob]at h;split at h<;>first|(cases h;done)|skip
    rename_i hsl;simp only [aO]at h;obtain⟨rows',h1,rfl⟩:=h;obtain⟨d,hd⟩:=hS.alive o ob hob;obtain⟨ob',c,e0,g1,g2,g3,g4,g5,g6,g7,g8,g9,g10,g11⟩:=hS.live o d hd;rw [hob]at g1;cases g1;simp only [rd,hd]at hr;obtain⟨hn,a,cap,rfl,hcap,hwh⟩:=hr;obtain⟨e1,e2⟩:=PS h1;have hlen:rows'.length=l:=by rw [e1];simp;omega
    simp only [rd];refine⟨a,cap,by rw [hlen],by rw [hlen];exact hcap,?_⟩;rcases hwh with ⟨rfl,hfit⟩|⟨rfl,rfl⟩
    ·refine .inr ⟨d.blk,d.ML+s*d.sz,rfl,g6,?_,?_⟩
     ·rintro(hm|⟨o',d',ho',hb,hnR⟩)
      ·exact g5 hm
      have:=hS.inj o' o d' d ho' hd hb;subst this;exact hnR (hR _ (by simp [reach]))
     rw [RH];have Xl:∀r'∈rows',r'.length=ob.sz:=by
      intro r' hr';obtain⟨i,hi⟩:=bJ.1 hr';obtain⟨r,hr,hm⟩:=e2 i r' hi;rw [(PS hm).1];exact g10 r (fC (dH (bn hr)))
     refine⟨Xl,?_⟩;rw [PE];intro i z hz;have hpos:0<ob.sz:=by rw [<-g2];exact g4
     have hfl:=Aa Xl;have hilt:=(aP.1 hz).1;have hrow:i / ob.sz<rows'.length:=jw (by rw [dS];omega);obtain⟨r,hr,hm⟩:=e2 (i / ob.sz) rows'[i / ob.sz] (by simp [hrow]);have hmod:i % ob.sz<rows'[i / ob.sz].length:=by rw [Xl _ (by simp)];exact kK _ hpos
     have hz':=DL Xl (i:=i / ob.sz) (j:=i % ob.sz) (r:=rows'[i / ob.sz]) (x:=rows'[i / ob.sz][i % ob.sz]) (by simp [hrow]) (by simp [hmod]);have hi:i / ob.sz*ob.sz+i % ob.sz=i:=by rw [dS];exact Nat.div_add_mod i ob.sz
     rw [hi,hz]at hz';obtain⟨z0,hz0,hres⟩:=(PS hm).2 (i % ob.sz) z (by rw [Option.some.inj hz'];simp [hmod]);have hr2:ob.rows[s+i / ob.sz]? = some r:=by
      rw [List.getElem?_take]at hr;split at hr
      ·rwa [dV]at hr
      cases hr
     obtain⟨hlf,cv,k1,k2⟩:=g11 _ z0 (DL g10 hr2 hz0);refine⟨I4 hres hlf,cv,?_,?_⟩
     ·simp only [World.cell?,g7];simp only [Option.isSome_none,bM,if_false];rw [<-k1,g2];congr 1;rw [gJ];omega
     refine FU hS n z0 z cv hres (fun q hq=>hR q ?_) k2;simp only [reach,hob,aI,fZ];exact .inr ⟨r,bn hr2,z0,bn hz0,hq⟩
    refine .inl ?_
    apply aY;exact hlen
  |
   ptr o r off =>
   simp only [resolve]at h
   cases hob:jQ σ o with
   |none=>simp [hob]at h
   |
    some ob =>
    simp only [hob]at h;split at h<;>first|(cases h;done)|skip
    rename_i row hrow;simp only [aO]at h;obtain⟨row',h1,rfl⟩:=h;obtain⟨d,hd⟩:=hS.alive o ob hob;obtain⟨ob',c,e0,g1,g2,g3,g4,g5,g6,g7,g8,g9,g10,g11⟩:=hS.live o d hd;rw [hob]at g1;cases g1;simp only [rd,hd]at hr;subst hr;obtain⟨e1,e2⟩:=PS h1;simp only [rd];refine⟨d.blk,d.ML+r*d.sz,rfl,g6,?_,?_⟩
    ·rintro(hm|⟨o',d',ho',hb,hnR⟩)
     ·exact g5 hm
     have:=hS.inj o' o d' d ho' hd hb;subst this;exact hnR (hR _ (by simp [reach]))
    rw [PE];intro i z hz;obtain⟨z0,hz0,hres⟩:=e2 i z hz;obtain⟨hlf,cv,k1,k2⟩:=g11 _ z0 (DL g10 hrow hz0);refine⟨I4 hres hlf,cv,?_,?_⟩
    ·simp only [World.cell?,g7];simp only [Option.isSome_none,bM,if_false];rw [<-k1,g2];congr 1;omega
    refine FU hS n z0 z cv hres (fun q hq=>hR q ?_) k2;simp only [reach,hob,aI,fZ];exact .inr ⟨row,bn hrow,z0,bn hz0,hq⟩
end
structure Dat where
 x:qJ
 R:List Nat
 v:V
 W:List (Nat×Option Obj)
 N:Option Store:=none
def I.srcs:I->List Src
 |.qC x | .box x | .fld _ x | .len x | .adh x | .un _ x | .conv _ x | .akX x | .ZJ _ x | .chk x=>[x]
 |.pick c a b=>[c,a,b]
 |.alloc _=>[]
 |.build _ ps=>ps.map (·.2.2)
 |.nO _ _ _ ps=>ps.map (·.2)
 |.make _ _ x=>[x]
 |.load _ _ a=>[a]
 |.store _ a x=>[a,x]
 |.idx _ x i | .abr _ _ x i | .adg x i | .adi _ x i=>[x,i]
 |.bin _ x y | .beq _ x y | .app _ _ x y | .max x y=>[x,y]
 |.slice _ x lo hi | .RG x lo hi=>x::(lo.toList++hi.toList)
 |.call _ as=>as
def Src.tmps:Src->List Nat
 |.t n=>[n]
 |.c _=>[]
def qJ.looks(o:qJ):List Nat:=o.i.srcs.flatMap Src.tmps++(match o.g with|some (g,_)=>[g]|none=>[])
def xO(σ:Store)(W:List (Nat×Option Obj)):Store:=W.foldl (fun s p=>s.set p.1 p.2) σ
def Dat.go(d:Dat)(st:St):St:={ st with env:=oO st.env d.x.dst d.v,objs:=xO st.objs d.W++d.N.getD [] }
structure Agree (looks R:List Nat) (nl:Bool) (st st2:St):Prop where
 env:∀t,t∈looks->st2.env t=st.env t
 objs:∀o,o∈R->jQ st2.objs o=jQ st.objs o
 len:nl=true->st2.objs.length=st.objs.length
 base:st2.base=st.base
theorem go_val(o:qJ)(R:List Nat)(v:V)(st:St):(⟨o,R,v,[],none⟩:Dat).go st={ st with env:=oO st.env o.dst v }:=by
 simp only [Dat.go,xO,jf,fJ,aU]
def Fp(T:Tb)(d:Dat)(st:St):Prop:=∀st2,Agree d.x.looks d.R d.N.isSome st st2->Run T (.op d.x st2) (.code .normal (d.go st2))
def OH(d:Option Nat)(l:List Nat):Bool:=match d with|some t=>l.contains t|none=>false
def below(L:Nat)(d e:Dat):Bool:=d.N.isNone||(e.N.isNone&&e.R.all (fun o=>decide (o<L))&&e.W.all fun p=>decide (p.1<L))
def apart(L:Nat)(d e:Dat):Bool :=
 !OH d.x.dst e.x.looks && !OH e.x.dst d.x.looks && !(d.x.dst.isSome&&d.x.dst == e.x.dst) &&
  d.W.all (fun p=>!e.R.contains p.1&&e.W.all fun q=>q.1 != p.1)&&e.W.all (fun q=>!d.R.contains q.1)&&below L d e&&below L e d
def Chain(T:Tb):List Dat->St->Prop
 | [],_=>True
 |d::l,st=>Fp T d st/\Chain T l (d.go st)
def FI:List Dat->St->St
 | [],st=>st
 |d::l,st=>FI l (d.go st)
theorem ali{env:Nat->V}{d:Option Nat}{v:V}{t:Nat}(h:OH d [t]=false):oO env d v t=env t:=by
 cases d with
 |none=>rfl
 |
  some k =>
  simp only [OH,List.contains_cons,List.contains_nil,fP,beq_eq_false_iff_ne,ne_eq]at h;simp only [oO,upd];rw [aN (fun e=>h e.symm)]
theorem ajB{d:Option Nat}{l:List Nat}(h:OH d l=false){t:Nat}(ht:t∈l):OH d [t]=false:=by
 cases d with
 |none=>rfl
 |
  some k =>
  simp only [OH]at h ⊢;simp only [List.contains_cons,List.contains_nil,fP,beq_eq_false_iff_ne,ne_eq];rintro rfl;simp [ht]at h
theorem tY:∀(W:List (Nat×Option Obj)) (σ:Store),(xO σ W).length=σ.length
 | [],_=>rfl
 |p::W,σ=>by simp only [xO,iE];exact(tY W (σ.set p.1 p.2)).trans (by simp)
theorem abx:∀(W:List (Nat×Option Obj)) (σ:Store) (o:Nat),(∀p∈W,p.1≠o)->jQ (xO σ W) o=jQ σ o
 | [],_,_,_=>rfl
 |
  p::W,σ,o,h=>by
  simp only [xO,iE];have:=abx W (σ.set p.1 p.2) o fun q hq=>h q (by simp [hq]);simp only [xO]at this;rw [this];unfold jQ;rw [fH,aN (h p (by simp))]
theorem Qy:∀(W1 W2:List (Nat×Option Obj)) (σ:Store),(∀p∈W1,∀q∈W2,q.1≠p.1)->xO (xO σ W1) W2=xO (xO σ W2) W1
 | [],_,_,_=>rfl
 |
  p::W1,W2,σ,h=>by
  have step:∀(W:List (Nat×Option Obj)) (σ:Store),(∀q∈W,q.1≠p.1)->xO (σ.set p.1 p.2) W=(xO σ W).set p.1 p.2:=by
   intro W
   induction W with
   |nil=>intro σ _;rfl
   |
    cons q W ih =>
    intro σ hq;simp only [xO,iE];rw [List.set_comm _ _ (hq q (by simp)).symm];exact ih (σ.set q.1 q.2) fun r hr=>hq r (by simp [hr])
  have e1:∀σ,xO σ (p::W1)=xO (σ.set p.1 p.2) W1:=fun _=>rfl;rw [e1,e1,Qy W1 W2 _ fun a ha=>h a (by simp [ha]),step W2 σ fun q hq=>h p (by simp) q hq]
def aby(L:Nat)(d e:Dat):Prop:=d.N=none\/(e.N=none/\(∀o∈e.R,o<L)/\∀p∈e.W,p.1<L)
theorem Ya{L:Nat}{d e:Dat}(h:below L d e=true):aby L d e:=by
 unfold below at h;simp only [dX,aH,Option.isNone_iff_eq_none,bg,aZ]at h;rcases h with h|⟨⟨h1,h2⟩,h3⟩
 ·exact .inl h
 exact .inr ⟨h1,h2,h3⟩
theorem apart_spec{L:Nat}{d e:Dat}(h:apart L d e=true):OH d.x.dst e.x.looks=false/\OH e.x.dst d.x.looks=false/\(∀t,d.x.dst=some t->e.x.dst≠some t) /\
  (∀p∈d.W,p.1∉e.R)/\(∀p∈d.W,∀q∈e.W,q.1≠p.1)/\(∀q∈e.W,q.1∉d.R)/\aby L d e/\aby L e d:=by
 simp only [apart,aH,iL,bg,bne_iff_ne]at h;obtain⟨⟨⟨⟨⟨⟨h1,h2⟩,h3⟩,h4⟩,h5⟩,h6⟩,h7⟩:=h;refine⟨h1,h2,fun t ht he=>?_,fun p hp=>?_,fun p hp q hq=>(h4 p hp).2 q hq,fun q hq=>?_,Ya h6,Ya h7⟩
 ·rw [ht,he]at h3;simp at h3
 ·simpa using (h4 p hp).1
 simpa using h5 q hq
theorem Yb:∀(W:List (Nat×Option Obj)) (σ N:Store),(∀p∈W,p.1<σ.length)->xO (σ++N) W=xO σ W++N
 | [],_,_,_=>rfl
 |
  p::W,σ,N,h=>by
  have e1:∀σ,xO σ (p::W)=xO (σ.set p.1 p.2) W:=fun _=>rfl;rw [e1,e1,List.set_append_left _ _ (h p (by simp))];exact Yb W _ N fun q hq=>by rw [bV];exact h q (by simp [hq])
theorem ahW{L:Nat}{d e:Dat}(h:apart L d e=true)(st:St)(hL:L<=st.objs.length):e.go (d.go st)=d.go (e.go st):=by
 obtain⟨_,_,h3,_,h5,_,h6,h7⟩:=apart_spec h;unfold Dat.go;simp only [];have ajC:xO (xO st.objs d.W++d.N.getD []) e.W++e.N.getD []=xO (xO st.objs e.W++e.N.getD []) d.W++d.N.getD []:=by
  rcases h6 with h6|⟨k1,_,k3⟩
  ·rcases h7 with h7|⟨j1,_,j3⟩
   ·rw [h6,h7];simp only [fJ,aU];exact Qy d.W e.W st.objs h5
   rw [h6];simp only [fJ,aU];rw [Yb d.W _ _ (fun p hp=>by rw [tY];exact bD (j3 p hp) hL),Qy d.W e.W st.objs h5]
  rw [k1];simp only [fJ,aU];rw [Yb e.W _ _ (fun p hp=>by rw [tY];exact bD (k3 p hp) hL),Qy d.W e.W st.objs h5]
 rw [ajC];have:oO (oO st.env d.x.dst d.v) e.x.dst e.v=oO (oO st.env e.x.dst e.v) d.x.dst d.v:=by
  cases hd:d.x.dst with
  |none=>rfl
  |
   some a =>
   cases he:e.x.dst with
   |none=>rfl
   |
    some b =>
    have hne:b≠a:=fun k=>h3 a hd (by rw [he,k])
    funext t
    simp only [oO,upd];by_cases h1:t=b
    ·subst h1;simp [hne]
    simp [h1]
 rw [this]
theorem adu{L:Nat}{d e:Dat}(h1:OH d.x.dst e.x.looks=false)(h2:∀p∈d.W,p.1∉e.R)(hb:aby L d e)(st:St)(hL:L<=st.objs.length):Agree e.x.looks e.R e.N.isSome st (d.go st):=by
 refine⟨fun t ht=>ali (ajB h1 ht),fun o ho=>?_,fun hn=>?_,rfl⟩
 ·rcases hb with hb|⟨_,hb,_⟩
  ·simp only [Dat.go,hb,fJ,aU];exact abx _ _ _ fun p hp he=>h2 p hp (he▸ho)
  simp only [Dat.go];have:jQ (xO st.objs d.W++d.N.getD []) o=jQ (xO st.objs d.W) o:=by
   unfold jQ;rw [bK (by rw [tY];exact bD (hb o ho) hL)]
  rw [this];exact abx _ _ _ fun p hp he=>h2 p hp (he▸ho)
 rcases hb with hb|⟨hb,_⟩
 ·simp only [Dat.go,hb,fJ,aU];exact tY _ _
 rw [hb]at hn;simp at hn
theorem alj(d:Dat)(st:St):st.objs.length<=(d.go st).objs.length:=by
 simp only [Dat.go,aS,tY];omega
theorem Agree.symm{l R:List Nat}{n:Bool}{a b:St}(h:Agree l R n a b):Agree l R n b a:=⟨fun t ht=>(h.env t ht).symm,fun o ho=>(h.objs o ho).symm,fun k=>(h.len k).symm,h.base.symm⟩
theorem Agree.trans{l R:List Nat}{n:Bool}{a b c:St}(h:Agree l R n a b)(k:Agree l R n b c):Agree l R n a c :=
 ⟨fun t ht=>(k.env t ht).trans (h.env t ht),fun o ho=>(k.objs o ho).trans (h.objs o ho),fun q=>(k.len q).trans (h.len q),k.base.trans h.base⟩
theorem Fp.of{T}{d:Dat}{st st2:St}(h:Fp T d st)(k:Agree d.x.looks d.R d.N.isSome st st2):Fp T d st2:=fun st3 k3=>h st3 (k.trans k3)
theorem Yc{T}{L:Nat}{d:Dat}:∀(pre post:List Dat) (st:St),L<=st.objs.length->Chain T (pre++d::post) st->(∀e∈pre,apart L e d=true) ->
  Fp T d st/\Chain T (pre++post) (d.go st)/\FI (pre++d::post) st=FI (pre++post) (d.go st)
 | [],post,st,_,h,_=>⟨h.1,h.2,rfl⟩
 |
  e::pre,post,st,hL,h,ha=>by
  obtain⟨h1,h2⟩:=h;obtain⟨k1,k2,k3⟩:=Yc pre post (e.go st) (dw hL (alj e st)) h2 fun q hq=>ha q (by simp [hq]);obtain⟨a1,a2,a3,a4,a5,a6,a7,a8⟩:=apart_spec (ha e (by simp));have hd:Fp T d st:=k1.of (adu a1 a4 a7 st hL).symm;refine⟨hd,⟨h1.of (adu a2 a6 a8 st hL),?_⟩,?_⟩
  ·rw [<-ahW (ha e (by simp)) st hL];exact k2
  simp only [dI,FI];rw [k3,ahW (ha e (by simp)) st hL]
def okD(L:Nat)(B:Nat->List Nat)(l:List (Nat×Dat)):Bool :=
 match l with
 | []=>true
 |(i,d)::l=>l.all (fun p=>(B p.1).contains i||apart L d p.2)&&okD L B l
theorem aas{L:Nat}{B:Nat->List Nat}{i:Nat}{d:Dat}:∀(pre post:List (Nat×Dat)),okD L B (pre++(i,d)::post)=true->(∀q∈pre,(B i).contains q.1=true\/apart L q.2 d=true)/\okD L B (pre++post)=true
 |
  [],post,h=>by
  simp only [iU,okD,aH]at h;exact⟨by simp,h.2⟩
 |
  q::pre,post,h=>by
  obtain⟨j,e⟩:=q;simp only [dI,okD,aH,bg]at h;obtain⟨k1,k2⟩:=aas pre post h.2;refine⟨?_,?_⟩
  ·intro q hq;rcases aI.1 hq with rfl|hq
   ·have:=h.1 (i,d) (by simp);simpa [dX]using this
   exact k1 q hq
  simp only [dI,okD,aH,bg];refine⟨fun p hp=>h.1 p ?_,k2⟩;rcases aK.1 hp with h|h
  ·simp [h]
  simp [h]
theorem run_any{T}{L:Nat}{l:List qJ}{B:Nat->List Nat}(hB:∀i o j,l[i]? = some o->j∈B i->j∈o.aft\/∃e∈o.aft,j∈B e) :
  ∀(n:Nat) (rem:List (Nat×Dat)) (done:List Nat) (st:St),L<=st.objs.length->rem.length=n->okD L B rem=true->(∀e∈done,∀j∈B e,j∈done)->Chain T (rem.map (·.2)) st ->
  (rem.map (·.1)).Pairwise (· < ·)->(∀p∈rem,l[p.1]? = some p.2.x/\p.1∉done/\∀e∈p.2.x.aft,e<p.1)->(∀i,i<l.length->i∉done->∃d,(i,d)∈rem) ->
  Run T (.any l done st) (.code .normal (FI (rem.map (·.2)) st))
 |
  0,rem,done,st,_,hn,_,_,_,_,_,hall=>by
  have:rem=[]:=aY hn;subst this;refine .axW fun i=>?_
  cases h:zI l done i with
  |false=>rfl
  |
   true =>
   unfold zI at h;split at h<;>first|(cases h;done)|skip
   rename_i o ho;simp only [aH,iL,bg]at h;obtain⟨d,hd⟩:=hall i (aP.1 ho).1 (by simpa using h.1)
   cases hd
 |
  n+1,rem,done,st,hL,hn,hok,hcl,hch,hnd,hl,hall=>by
  have pull:∀i,zI l done i=true->∃d pre post,rem=pre++(i,d)::post/\Fp T d st/\Run T (.any l (i::done) (d.go st)) (.code .normal (FI (rem.map (·.2)) st)):=by
   intro i hi;unfold zI at hi;split at hi<;>first|(cases hi;done)|skip
   rename_i o ho;simp only [aH,iL,bg]at hi;have hnd':i∉done:=by simpa using hi.1
   obtain⟨d,hd⟩:=hall i (aP.1 ho).1 hnd';obtain⟨pre,post,rfl⟩:=List.append_of_mem hd;obtain⟨k1,k2⟩:=aas pre post hok;have hdo:o=d.x:=by
    have:=(hl (i,d) hd).1;rw [ho]at this;exact Option.some.inj this
   have hbd:∀j∈B i,j∈done:=by
    intro j hj;rcases hB i o j ho hj with h|⟨e,he,h⟩
    ·simpa using hi.2 j h
    exact hcl e (by simpa using hi.2 e he) j h
   have hap:∀e∈pre.map (·.2),apart L e d=true:=by
    intro e he;obtain⟨q,hq,rfl⟩:=bF.1 he;rcases k1 q hq with h|h
    ·exfalso;exact(hl q (by simp [hq])).2.1 (hbd q.1 (by simpa using h))
    exact h
   have hch':Chain T (pre.map (·.2)++d::post.map (·.2)) st:=by simpa using hch
   obtain⟨c1,c2,c3⟩:=Yc (pre.map (·.2)) (post.map (·.2)) st hL hch' hap;refine⟨d,pre,post,rfl,c1,?_⟩;have ax9:((pre++post).map (·.1)).Pairwise (· < ·)/\∀p∈pre++post,p.1≠i:=by
    simp only [bU,bT]at hnd ⊢;rw [jG]at hnd ⊢;obtain⟨a1,a2,a3⟩:=hnd;rw [fB]at a2;refine⟨⟨a1,a2.2,fun x hx y hy=>a3 x hx y (by simp [hy])⟩,fun p hp=>?_⟩;rcases aK.1 hp with h|h
    ·have:=a3 p.1 (jh h) i (by simp);omega
    have:=a2.1 p.1 (jh h);omega
   have ih:=run_any hB n (pre++post) (i::done) (d.go st) (dw hL (alj d st)) (by simp at hn ⊢;omega) k2 (fun e he j hj=>by
     rcases aI.1 he with rfl|he
     ·exact gG _ (hbd j hj)
     exact gG _ (hcl e he j hj)) (by simpa using c2) ax9.1
    (fun p hp=>by
     have hp':p∈pre++(i,d)::post:=by rcases aK.1 hp with h|h<;>simp [h]
     refine⟨(hl p hp').1,?_,(hl p hp').2.2⟩;simp only [aI,not_or];exact⟨ax9.2 p hp,(hl p hp').2.1⟩)
    (fun j hj hjd=>by
     simp only [aI,not_or]at hjd;obtain⟨e,he⟩:=hall j hj hjd.2;refine⟨e,?_⟩;rcases aK.1 he with h|h
     ·exact aK.2 (.inl h)
     rcases aI.1 h with h|h
     ·cases h;exact absurd rfl hjd.1
     exact aK.2 (.inr h))
   have e1:FI ((pre++(i,d)::post).map (·.2)) st=FI ((pre++post).map (·.2)) (d.go st):=by simpa using c3
   rw [e1];exact ih
  obtain⟨⟨i0,d0⟩,aIT,aya⟩:∃p r,rem=p::r:=by
   cases rem with
   |nil=>simp at hn
   |cons p r=>exact⟨p,r,rfl⟩
  have h0:zI l done i0=true:=by
   obtain⟨g1,g2,g3⟩:=hl (i0,d0) (by rw [aya];simp);unfold zI;simp only []at g1;rw [g1];simp only [aH,iL,bg];refine⟨by simpa using g2,fun e he=>?_⟩;have hlt:=g3 e he;simp only []at hlt;have hil:=(aP.1 g1).1;by_cases hed:e∈done
   ·simpa using hed
   exfalso;obtain⟨d,hd⟩:=hall e (by omega) hed;rw [aya]at hd hnd;simp only [bT,fB]at hnd;rcases aI.1 hd with h|h
   ·cases h;omega
   have:=hnd.1 e (jh (f:=(·.1)) h);omega
  have hex:∀i,∃d:Dat,zI l done i=true->l[i]? = some d.x/\Fp T d st/\Run T (.any l (i::done) (d.go st)) (.code .normal (FI (rem.map (·.2)) st)):=by
   intro i;by_cases hi:zI l done i=true
   ·obtain⟨d,pre,post,e,h1,h2⟩:=pull i hi;exact⟨d,fun _=>⟨(hl (i,d) (by rw [e];simp)).1,h1,h2⟩⟩
   exact⟨⟨⟨none,none,0,.alloc [],[]⟩,[],.any,[],none⟩,fun h=>absurd h hi⟩
  obtain⟨f,hf⟩:=Classical.axiomOfChoice hex;refine .axX i0 h0 (fun i=>(f i).go st) (fun i o ho hi=>?_) (fun i hi=>(hf i hi).2.2);obtain⟨g1,g2,_⟩:=hf i hi;rw [ho]at g1;cases g1;exact g2 st ⟨fun _ _=>rfl,fun _ _=>rfl,fun _=>rfl,rfl⟩
def sH:V->List Nat
 |.lQ o _ _=>[o]
 |.ptr o _ _=>[o]
 |_=>[]
def I.yC:I->List Src
 |.load _ _ a=>[a]
 |.store _ a _=>[a]
 |.fld _ a=>[a]
 |.idx _ x _=>[x]
 |.abr _ _ x _=>[x]
 |.len x=>[x]
 |.akX x=>[x]
 |.slice _ x _ _=>[x]
 |.app _ _ x y=>[x,y]
 |.chk x=>[x]
 |_=>[]
def I.reads(env:Nat->V)(i:I):List Nat:=i.yC.flatMap fun s=>sH (s.ev env)
theorem Jr{env Vg:Nat->V}{s:Src}(h:∀t,t∈s.tmps->Vg t=env t):s.ev Vg=s.ev env:=by
 cases s with
 |t n=>exact h n (by simp [Src.tmps])
 |c v=>rfl
section
variable {σ σ2 : Store} {env Vg : Nat -> V}
theorem adv{x:V}(h:∀o,o∈sH x->jQ σ2 o=jQ σ o):rowAt σ2 x=rowAt σ x:=by
 cases x<;>first|rfl|skip
 simp only [rowAt];rw [h _ (by simp [sH])]
theorem NG{x:V}(h:∀o,o∈sH x->jQ σ2 o=jQ σ o):rowsOf σ2 x=rowsOf σ x:=by
 cases x<;>first|rfl|skip
 simp only [rowsOf];rw [h _ (by simp [sH])]
theorem Wq{x:V}(h:∀o,o∈sH x->jQ σ2 o=jQ σ o):lenOf σ2 x=lenOf σ x:=by
 cases x<;>first|rfl|skip
 simp only [lenOf];rw [h _ (by simp [sH])]
theorem Q8:∀(ps:List (Nat×Nat×Src)) (row:List V),(∀s,s∈ps.map (·.2.2)->s.ev Vg=s.ev env)->CQ Vg row ps=CQ env row ps
 | [],_,_=>rfl
 |
  (off,n,s)::ps,row,h=>by
  simp only [CQ];rw [h s (by simp)];split
  ·split
   ·exact Q8 ps _ fun s hs=>h s (by simp [hs])
   rfl
  rfl
theorem PU{sz:Nat}:∀(ps:List (Nat×Src)) (rows:List (List V)),(∀s,s∈ps.map (·.2)->s.ev Vg=s.ev env)->vI Vg sz rows ps=vI env sz rows ps
 | [],_,_=>rfl
 |
  (i,s)::ps,rows,h=>by
  simp only [vI];rw [h s (by simp)];split
  ·split
   ·exact PU ps _ fun s hs=>h s (by simp [hs])
   rfl
  rfl
theorem ajD(i:I)(hs:∀s,s∈i.srcs->s.ev Vg=s.ev env)(ho:∀o,o∈i.reads env->jQ σ2 o=jQ σ o):i.eff Vg σ2=i.eff env σ:=by
 have hr:∀s,s∈i.yC->∀o,o∈sH (s.ev env)->jQ σ2 o=jQ σ o:=fun s hs' o ho'=>ho o (fZ.2 ⟨s,hs',ho'⟩)
 cases i with
 |qC x=>simp only [I.eff];rw [hs x (by simp [I.srcs])]
 |pick c a b=>simp only [I.eff];rw [hs c (by simp [I.srcs]),hs a (by simp [I.srcs]),hs b (by simp [I.srcs])]
 |alloc z=>rfl
 |box x=>simp only [I.eff];rw [hs x (by simp [I.srcs])]
 |build z ps=>simp only [I.eff];rw [Q8 ps z (fun s h=>hs s (by simpa [I.srcs]using h))]
 |nO sz z ln ps=>simp only [I.eff];rw [PU ps _ (fun s h=>hs s (by simpa [I.srcs]using h))]
 |make z b x=>simp only [I.eff];rw [hs x (by simp [I.srcs])]
 |load n g a=>simp only [I.eff];rw [hs a (by simp [I.srcs]),adv (hr a (by simp [I.yC]))]
 |
  store n a x =>
  simp only [I.eff];rw [hs a (by simp [I.srcs]),hs x (by simp [I.srcs])];have:=hr a (by simp [I.yC]);split
  ·rename_i o r off cs e1 e2;rw [this o (by rw [e1];simp [sH])]
  rfl
 |
  fld d a =>
  simp only [I.eff];rw [hs a (by simp [I.srcs])];have:=hr a (by simp [I.yC]);split
  ·rename_i o r off e1;rw [this o (by rw [e1];simp [sH])]
  ·rfl
  rfl
 |
  idx sz x i =>
  simp only [I.eff];rw [hs x (by simp [I.srcs]),hs i (by simp [I.srcs])];have:=hr x (by simp [I.yC]);split
  ·rename_i o s l e1;rw [this o (by rw [e1];simp [sH])]
  ·rfl
  rfl
 |
  abr c sz x i =>
  simp only [I.eff];rw [hs x (by simp [I.srcs]),hs i (by simp [I.srcs])];have:=hr x (by simp [I.yC]);split
  ·rename_i o r off j e1 e2;rw [this o (by rw [e1];simp [sH])]
  ·rfl
  rfl
 |adg x i=>simp only [I.eff];rw [hs x (by simp [I.srcs]),hs i (by simp [I.srcs])]
 |len x=>simp only [I.eff];rw [hs x (by simp [I.srcs]),Wq (hr x (by simp [I.yC]))]
 |adh x=>simp only [I.eff];rw [hs x (by simp [I.srcs])]
 |bin op x y=>simp only [I.eff];rw [hs x (by simp [I.srcs]),hs y (by simp [I.srcs])]
 |beq ne x y=>simp only [I.eff];rw [hs x (by simp [I.srcs]),hs y (by simp [I.srcs])]
 |un op x=>simp only [I.eff];rw [hs x (by simp [I.srcs])]
 |conv k x=>simp only [I.eff];rw [hs x (by simp [I.srcs])]
 |akX x=>simp only [I.eff];rw [hs x (by simp [I.srcs]),NG (hr x (by simp [I.yC]))]
 |
  slice sz x lo hi =>
  have hl:∀n,loB Vg n lo=loB env n lo:=by
   intro n
   cases lo with
   |none=>rfl
   |some l=>simp only [loB];rw [hs l (by simp [I.srcs])]
  have hh:∀n,hiB Vg n hi=hiB env n hi:=by
   intro n
   cases hi with
   |none=>rfl
   |some l=>simp only [hiB];rw [hs l (by simp [I.srcs])]
  have:=hr x (by simp [I.yC]);simp only [I.eff];rw [hs x (by simp [I.srcs]),Wq this];simp only [hl,hh];split
  ·split
   ·split
    ·split
     ·rfl
     ·rfl
     ·rename_i o s l e1;rw [this o (by rw [e1];simp [sH])]
     rfl
    rfl
   rfl
  rfl
 |
  RG x lo hi =>
  have hl:∀n,loB Vg n lo=loB env n lo:=by
   intro n
   cases lo with
   |none=>rfl
   |some l=>simp only [loB];rw [hs l (by simp [I.srcs])]
  have hh:∀n,hiB Vg n hi=hiB env n hi:=by
   intro n
   cases hi with
   |none=>rfl
   |some l=>simp only [hiB];rw [hs l (by simp [I.srcs])]
  simp only [I.eff];rw [hs x (by simp [I.srcs])];simp only [hl,hh]
 |
  app sz b x y =>
  have h1:=hr x (by simp [I.yC]);have h2:=hr y (by simp [I.yC]);simp only [I.eff];rw [hs x (by simp [I.srcs]),hs y (by simp [I.srcs]),NG h1,NG h2];split
  ·split
   ·rfl
   split
   ·split
    ·rfl
    ·rename_i o s l e1;rw [h1 o (by rw [e1];simp [sH])]
    rfl
   rfl
  rfl
 |max x y=>simp only [I.eff];rw [hs x (by simp [I.srcs]),hs y (by simp [I.srcs])]
 |ZJ i x=>simp only [I.eff];rw [hs x (by simp [I.srcs])]
 |
  chk x =>
  simp only [I.eff];rw [hs x (by simp [I.srcs])];have:=hr x (by simp [I.yC]);split
  ·rename_i o r off e1;rw [this o (by rw [e1];simp [sH])]
  ·rfl
  rfl
 |call f as=>rfl
 |adi c x i=>simp only [I.eff];rw [hs x (by simp [I.srcs]),hs i (by simp [I.srcs])]
theorem KD:∀(n:Nat) (x:V),(∀o,o∈reach σ n x->jQ σ2 o=jQ σ o)->resolve σ2 n x=resolve σ n x/\reach σ2 n x=reach σ n x
 |0,x,_=>⟨rfl,rfl⟩
 |
  n+1,x,h=>by
  have hl:∀(cs:List V),(∀o,o∈cs.flatMap (reach σ n)->jQ σ2 o=jQ σ o)->cs.mapM (resolve σ2 n)=cs.mapM (resolve σ n)/\cs.flatMap (reach σ2 n)=cs.flatMap (reach σ n):=by
   intro cs
   induction cs with
   |nil=>intro _;exact⟨rfl,rfl⟩
   |
    cons c cs ih =>
    intro h;simp only [jJ,aK]at h;obtain⟨a1,a2⟩:=KD n c fun o ho=>h o (.inl ho);obtain⟨b1,b2⟩:=ih fun o ho=>h o (.inr ho);simp only [bZ,jJ,a1,a2,b1,b2,and_self]
  have hll:∀(rows:List (List V)),(∀o,o∈(rows.flatMap fun r=>r.flatMap (reach σ n))->jQ σ2 o=jQ σ o) ->
    (rows.mapM fun (r:List V)=>r.mapM (resolve σ2 n))=(rows.mapM fun (r:List V)=>r.mapM (resolve σ n))/\(rows.flatMap fun (r:List V)=>r.flatMap (reach σ2 n))=(rows.flatMap fun (r:List V)=>r.flatMap (reach σ n)):=by
   intro rows
   induction rows with
   |nil=>intro _;exact⟨rfl,rfl⟩
   |
    cons c cs ih =>
    intro h;simp only [jJ,aK]at h;obtain⟨a1,a2⟩:=hl c fun o ho=>h o (.inl ho);obtain⟨b1,b2⟩:=ih fun o ho=>h o (.inr ho);simp only [bZ,jJ,a1,a2,b1,b2,and_self]
  cases x<;>first|exact⟨rfl,rfl⟩|skip
  case agg cs =>
   simp only [reach]at h;obtain⟨a1,a2⟩:=hl cs h;simp only [resolve,reach,a1,a2,and_self]
  case oU cs =>
   simp only [reach]at h;obtain⟨a1,a2⟩:=hl cs h;simp only [resolve,reach,a1,a2,and_self]
  case lQ o s l =>
   have ho:jQ σ2 o=jQ σ o:=h o (by simp [reach]);simp only [reach]at h;simp only [resolve,reach,ho]
   cases hob:jQ σ o with
   |none=>exact⟨rfl,rfl⟩
   |
    some ob =>
    simp only [hob,aI]at h;obtain⟨b1,b2⟩:=hll ob.rows fun q hq=>h q (.inr hq);obtain⟨c1,_⟩:=hll ((ob.rows.drop s).take l) fun q hq=>h q (.inr (by
     obtain⟨r,hr,hq⟩:=fZ.1 hq;exact fZ.2 ⟨r,fC (dH hr),hq⟩))
    simp only [b2,c1,and_self]
  case ptr o s l =>
   have ho:jQ σ2 o=jQ σ o:=h o (by simp [reach]);simp only [reach]at h;simp only [resolve,reach,ho]
   cases hob:jQ σ o with
   |none=>exact⟨rfl,rfl⟩
   |
    some ob =>
    simp only [hob,aI]at h;obtain⟨b1,b2⟩:=hll ob.rows fun q hq=>h q (.inr hq);refine⟨?_,by simp only [b2]⟩;simp only []
    cases hrow:ob.rows[s]? with
    |none=>rfl
    |
     some row =>
     simp only [];obtain⟨c1,_⟩:=hl row fun q hq=>h q (.inr (fZ.2 ⟨row,bn hrow,hq⟩));rw [c1]
end
def Eff.writes(id:Nat):Eff->List (Nat×Option Obj)
 |.val _=>[]
 |.newP ob=>[(id,some ob)]
 |.newS ob _=>[(id,some ob)]
 |.upd o ob=>[(o,some ob)]
 |.qC o ob _=>[(o,none),(id,some ob)]
theorem adw(ef:Eff)(σ:Store)(id:Nat):xO σ (ef.writes id)=ef.store σ id:=by cases ef<;>rfl
theorem Js{x:qJ}{s:Src}(h:s∈x.i.srcs){t:Nat}(ht:t∈s.tmps):t∈x.looks:=by
 simp only [qJ.looks,aK,fZ];exact .inl ⟨s,h,ht⟩
theorem NH{x:qJ}{g:Nat}{want:Bool}(h:x.g=some (g,want)):g∈x.looks:=by
 simp [qJ.looks,h]
theorem alk{T:Tb}{x:qJ}{st:St}{ef:Eff}(hg:∀g want,x.g=some (g,want)->st.env g=.bool want)(h:x.i.eff st.env st.objs=some ef) :
  Fp T ⟨x,x.i.reads st.env,ef.dv (st.base+x.k),ef.writes (st.base+x.k),none⟩ st:=by
 intro st2 hag;have h2:x.i.eff st2.env st2.objs=some ef:=by
  rw [<-h];exact ajD x.i (fun s hs=>Jr fun t ht=>hag.env t (Js hs ht)) (fun o ho=>hag.objs o ho)
 have:=Run.op (T:=T) (st:=st2) (fun g want hgw=>(hag.env g (NH hgw)).trans (hg g want hgw)) h2;have e:(⟨x,x.i.reads st.env,ef.dv (st.base+x.k),ef.writes (st.base+x.k),none⟩:Dat).go st2=ef.go st2 x.dst (st2.base+x.k):=by
  simp only [Dat.go,Eff.go,adw,hag.base,fJ,aU]
 rw [e];exact this
theorem alm{T:Tb}{x:qJ}{st:St}{g:Nat}{want:Bool}(hg:x.g=some (g,want))(he:ajx want (st.env g)):Fp T ⟨x,[],.oU [],[],none⟩ st:=by
 intro st2 hag;have e:(⟨x,[],.oU [],[],none⟩:Dat).go st2={ st2 with env:=oO st2.env x.dst (.oU []) }:=by
  simp only [Dat.go,xO,jf,fJ,aU]
 rw [e];exact Run.off hg (by rw [hag.env g (NH hg)];exact he)
def Post(M:Nat->Prop)(D:DM)(w:World)(k:Nat)(r:V)(σ':Store):Ending->World->Prop:=fun e w' =>
 ∃v D',e=.returned v/\rd w' D' (XS M D') r v/\uP w' D' M σ'/\Gr (Own D) w w'/\(∀o d,D' o=.live d->Own D d.blk\/w.heap.size<=d.blk)/\∀o,o<k->vJ (D o) (D' o)
section
variable (P : Program) (ν : Nat -> Option Nat)
def RP(f:Nat)(args:List V)(σ:Store)(r:V)(σ':Store):Prop :=
 ∀fid,ν fid=some f->∀w M D (vals:Array Value),qH w D (XS M D) args vals.toList->uP w D M σ->Calls P fid vals w (Post M D w σ.length r σ')
def adx(x:qJ)(st st':St):Prop :=
 st'.base=st.base/\st'.keep=st.keep/\st.objs.length<=st'.objs.length /\
 ∀
  (ops:Array Oper) (dr:Bool) (nt m k:Nat) (o:Oper),afQ P ν ops dr nt m k o=some x->∀M w0 D0 D a w,SR nt M w0 D0 st D a w ->
  (x.i.makes=true->st.base+x.k<st.objs.length/\D (st.base+x.k)=.oM)->∀(K:Act->World->Prop) (Q:Exit->Act->World->Prop),
  (∀D' a' w',SR nt M w0 D0 st' D' a' w'->(∀o,st.base<=o->o<st.objs.length->D o=.oM->o≠st.base+x.k->D' o=.oM)->K a' w') ->
  if Region.wanted o (yielded ops a.tmps)then o.wp P a w K Q else K (a.put o.dst undef) w
def aln(l:List qJ)(st st':St):Prop :=
 st'.base=st.base/\st'.keep=st.keep/\st.objs.length<=st'.objs.length /\
 ∀
  (ops:Array Oper) (dr:Bool) (nt m k:Nat) (rest:List Oper),OG P ν ops dr nt m k rest=some l->okK m l=true->∀M w0 D0 D a w,SR nt M w0 D0 st D a w ->
  (∀x∈l,x.i.makes=true->st.base+x.k<st.objs.length/\D (st.base+x.k)=.oM)->∀(Q:Exit->Act->World->Prop),
  (∀D' a' w',SR nt M w0 D0 st' D' a' w'->Q .normal a' w')->wpList P ops Q rest a w
def ayb(l:List qJ)(done:List Nat)(st st':St):Prop :=
 st'.base=st.base/\st'.keep=st.keep/\st.objs.length<=st'.objs.length /\
 ∀
  (ops:Array Oper) (nt m:Nat),OG P ν ops true nt m 0 ops.toList=some l->okK m l=true->∀M w0 D0 D a w,SR nt M w0 D0 st D a w ->
  (∀i x,l[i]? = some x->i∉done->x.i.makes=true->st.base+x.k<st.objs.length/\D (st.base+x.k)=.oM)->∀(Q:Exit->Act->World->Prop),
  (∀D' a' w',SR nt M w0 D0 st' D' a' w'->Q .normal a' w')->∀(fuel:Nat) (listed:Array Bool),listed.size=ops.size->(∀i,listed.getD i false=true↔i∈done)->listed.toList.count false<=fuel->wpAny P .any ops Q fuel listed a w
def afS(c:C)(e:Ex)(st st':St):Prop :=
 st'.keep=st.keep /\
 ∀
  (nt:Nat) (cc:Code),Vd P ν nt cc=some c->∀M w0 D0 D a w,SR nt M w0 D0 st D a w->∀(Q:Exit->Act->World->Prop),
  (∀D' a' w',SR nt M w0 D0 st' D' a' w'->Q (adt e) a' w')->cc.wp P Q a w
def abz(c:C)(e:Ex)(st st':St):Prop :=
 ∀
  (nt:Nat) (cc:Code),Vd P ν nt cc=some c->∀M w0 D0 D a w,SR nt M w0 D0 st D a w->∀(Q:Exit->Act->World->Prop),
  (∀D' a' w',SR nt M w0 D0 st' D' a' w'->Q (adt e) a' w')->∀b k cs,∃x a' w',Q x a' w'/\Arrives P (lone (b.at a (.code cc::.inLoop cc::k)) cs w) b k cs x a' w'
def Sound:Job->Out->Prop
 |.code c st,.code e st'=>afS P ν c e st st'/\∀x,c=.loop x->abz P ν x e st st'
 |.ops l st,.code e st'=>e=.normal/\aln P ν l st st'
 |.op o st,.code e st'=>e=.normal/\adx P ν o st st'
 |.any l done st,.code e st'=>e=.normal/\ayb P ν l done st st'
 |.fn f args σ,.fn r σ'=>RP P ν f args σ r σ'
 |_,_=>True
end
section
variable {P : Program} {ν : Nat -> Option Nat} {nt : Nat} {M : Nat -> Prop} {w0 : World} {D0 : DM} {st : St} {D : DM} {a : Act} {w : World}
theorem Jt{ops:Array Oper}{dr:Bool}{m k:Nat}{o:Oper}{x:qJ}(h:afQ P ν ops dr nt m k o=some x) :
  MO P ν o=some x.i/\o.dst=x.dst/\(∀d,o.dst=some d->d<nt) /\
   ((o.guard=none/\x.g=none)\/∃j want t,o.guard=some (j,want)/\(ops[j]?).bind (·.dst)=some t/\x.g=some (t,want)):=by
 unfold afQ at h;split at h<;>first|(cases h;done)|skip
 rename_i i g hi hg;split at h<;>first|(cases h;done)|skip
 rename_i hd;simp only [aB]at h;subst h;refine⟨hi,rfl,fun d hd'=>by simp [hd',asF]at hd;exact hd,?_⟩;unfold trG at hg;split at hg
 ·rename_i h1;simp only [aB]at hg;exact .inl ⟨h1,hg.symm⟩
 rename_i j want h1;split at hg<;>first|(cases hg;done)|skip
 rename_i t ht;simp only [aB]at hg;exact .inr ⟨j,want,t,h1,ht,hg.symm⟩
theorem ajE{t:Nat}{b:Bool}(h:a.tmps.getD t undef=.bool b):a.tmps[t]? = some (.bool b):=by
 rw [dP]at h
 cases ht:a.tmps[t]? with
 |none=>rw [ht]at h;simp [undef]at h
 |some v=>rw [ht]at h;simp at h;rw [h]
theorem FV{ops:Array Oper}{o:Oper}{x:qJ}(hs:SR nt M w0 D0 st D a w)
  (hg:(o.guard=none/\x.g=none)\/∃j want t,o.guard=some (j,want)/\(ops[j]?).bind (·.dst)=some t/\x.g=some (t,want)) :
  ((
   ∀g want,x.g=some (g,want)->st.env g=.bool want)->Region.wanted o (yielded ops a.tmps)=true) /\
   (∀g want,x.g=some (g,want)->ajx want (st.env g)->Region.wanted o (yielded ops a.tmps)=false):=by
 rcases hg with ⟨h1,h2⟩|⟨j,want,t,h1,h2,h3⟩
 ·exact⟨fun _=>by simp [Region.wanted,h1],fun g want h=>by rw [h2]at h;cases h⟩
 have key:∀b,st.env t=.bool b->yielded ops a.tmps j=some b:=by
  intro b hb;have:=hs.env t;rw [hb]at this;simp only [rd]at this;simp only [yielded,h2,Option.bind_some,ajE this]
 have key2:st.env t=.oU []->yielded ops a.tmps j=none:=by
  intro hb;have:=hs.env t;rw [hb]at this;simp only [rd,qH]at this;obtain⟨q,e1,e2⟩:=this;have e3:q = #[]:=by cases q;simp_all
  simp only [yielded,h2,Option.bind_some]
  cases e:a.tmps[t]? with
  |none=>rfl
  |
   some v =>
   rw [dP,e]at e1;simp only [jF]at e1;rw [e1]
 refine⟨fun h=>?_,fun g want' h hoff=>?_⟩
 ·simp only [Region.wanted,h1,key _ (h t want h3)];simp
 rw [h3]at h;cases h;rcases hoff with hu|⟨b,hb,hne⟩
 ·simp only [Region.wanted,h1,key2 hu];rfl
 simp only [Region.wanted,h1,key _ hb];simpa using hne
theorem ayc{o:Oper}{K:Act->World->Prop}{Q:Exit->Act->World->Prop}{r:Next}{v:Value}{w':World}(h:(execOp a.eval o).run P w=.ok r w')(hg:Gives r v)(hK:K (a.put o.dst v) w'):o.wp P a w K Q:=by
 unfold Oper.wp;rw [h];rcases hg with rfl|⟨rfl,rfl⟩<;>exact hK
theorem alo(σ:Store)(id:Nat)(ef:Eff):(ef.store σ id).length=σ.length:=by cases ef<;>simp [Eff.store]
theorem apv{x:qJ}{ef:Eff}(hg:∀g want,x.g=some (g,want)->st.env g=.bool want)(h:x.i.eff st.env st.objs=some ef):adx P ν x st (ef.go st x.dst (st.base+x.k)):=by
 refine⟨rfl,rfl,by simp [Eff.go,alo],?_⟩;intro ops dr nt m k o htr M w0 D0 D a w hs hid K Q hK;obtain⟨t1,t2,t3,t4⟩:=Jt htr;rw [aQ ((FV hs t4).1 hg)];obtain⟨r,v,w',e1,e2,e3⟩:=atJ o t1 h hs.store hs.env hid;obtain⟨D',s1,s2⟩:=hs.step e3 (dst:=x.dst) (fun d hd=>t3 d (t2.trans hd));refine ayc e1 e2 ?_;rw [t2];exact hK D' _ w' s1 fun o _ _=>s2 o
theorem alp{x:qJ}{g:Nat}{want:Bool}(hg:x.g=some (g,want))(he:ajx want (st.env g)):adx P ν x st { st with env:=oO st.env x.dst (.oU []) }:=by
 refine⟨rfl,rfl,aJ _,?_⟩;intro ops dr nt m k o htr M w0 D0 D a w hs hid K Q hK;obtain⟨t1,t2,t3,t4⟩:=Jt htr;rw [aN (by rw [(FV hs t4).2 g want hg he];simp)];obtain⟨D',s1,s2⟩:=hs.step (zY (id:=0) hs.store (x:=.oU []) (v:=undef) (by simp only [rd,qH];exact⟨#[],rfl,rfl⟩)) (dst:=x.dst) (fun d hd=>t3 d (t2.trans hd));have:D'=D':=rfl;rw [t2];refine hK D _ w ⟨Ve hs.env (fun d hd=>by rw [hs.tm];exact t3 d (t2.trans hd)) (by simp only [rd,qH];exact⟨#[],rfl,rfl⟩),?_,?_,hs.store,hs.gr,hs.fr,hs.kp⟩ fun _ _ _ h _=>h
 ·rw [<-hs.tm];cases x.dst<;>simp [Act.put]
 rw [<-hs.df];cases x.dst<;>rfl
end
theorem FW:∀(R:List Nat) (σ:Store) (o:Nat),jQ (nT σ R) o=if o∈R then none else jQ σ o
 | [],σ,o=>by simp [nT]
 |
  r::R,σ,o=>by
  have ih:=FW R (σ.set r none) o;simp only [nT,iE]at ih ⊢;rw [ih];by_cases h1:o∈R
  ·simp [h1]
  by_cases h2:o=r
  ·subst h2;simp only [h1,if_false,aI,true_or,if_true];unfold jQ;rw [fH];simp only [if_true];split<;>rfl
  simp only [h1,if_false,aI,h2,or_self];unfold jQ;rw [fH,aN (fun k=>h2 k.symm)]
theorem JC:∀(R:List Nat) (σ:Store),(nT σ R).length=σ.length
 | [],_=>rfl
 |r::R,σ=>by simpa [nT]using JC R (σ.set r none)
def DM.kill(D:DM)(R:List Nat):DM:=fun o=>if o∈R then(match D o with | .oM=>.oM|_=>.dead)else D o
theorem abA(D:DM)(R:List Nat)(o:Nat):vJ (D o) (D.kill R o):=by
 unfold DM.kill;split
 ·cases D o<;>simp [vJ]
 exact vJ.refl _
theorem FX{D:DM}{R:List Nat}{o:Nat}{d:ajv}(h:D.kill R o=.live d):D o=.live d/\o∉R:=by
 unfold DM.kill at h;split at h
 ·cases hD:D o<;>simp [hD]at h
 rename_i hn;exact⟨h,hn⟩
theorem uP.killed{w w':World}{D:DM}{M:Nat->Prop}{σ:Store}(h:uP w D M σ)(R:List Nat)(hsz:w.heap.size<=w'.heap.size)(hb:∀b,b<w.heap.size->w'.heap[b]? = w.heap[b]?) :
  uP w' (D.kill R) M (nT σ R)/\Ext w D (XS M D) w' (D.kill R) (XS M (D.kill R)):=by
 have E:Ext w D (XS M D) w' (D.kill R) (XS M (D.kill R)) :=
  ⟨hsz,fun b hb' _=>hb b hb',fun b _ k=>k.imp id fun ⟨o,d,h1,h2⟩=>⟨o,d,(FX h1).1,h2⟩,abA D R⟩
 refine⟨⟨?_,?_,?_,?_,fun b hM=>bD (h.mlt b hM) hsz⟩,E⟩
 ·intro o d ho;obtain⟨ho,hR⟩:=FX ho;obtain⟨ob,c,e,h1,h2,h3,h4,h5,h6,h7,h8,h9,h10,h11⟩:=h.live o d ho;refine⟨ob,c,e,by rw [FW,aN hR];exact h1,h2,h3,h4,h5,bD h6 hsz,by rw [hb _ h6];exact h7,h8,h9,h10,fun i x hi=>?_⟩;obtain⟨k0,y,k1,k2⟩:=h11 i x hi;exact⟨k0,y,k1,oP _ _ E k2⟩
 ·intro o ob ho;rw [FW]at ho;split at ho
  ·cases ho
  rename_i hR;obtain⟨d,hd⟩:=h.alive o ob ho;exact⟨d,by simp only [DM.kill,aN hR];exact hd⟩
 ·intro o o' d d' ho ho' hbb;exact h.inj o o' d d' (FX ho).1 (FX ho').1 hbb
 intro o ho;rw [JC]at ho;have:=h.far o ho;simp only [DM.kill,this];split<;>rfl
section
variable {P : Program} {ν : Nat -> Option Nat} {nt : Nat} {M : Nat -> Prop} {w0 : World} {D0 : DM} {st : St} {D : DM} {a : Act} {w : World}
theorem KE{o:Oper}{f:Nat}{as:List Src}(h:MO P ν o=some (.call f as)):∃fid xs,ν fid=some f/\Ip xs=some as /\
  ∀(a:Act) (w:World),(execOp a.eval o).run P w=.ok (.enter fid (xs.map a.eval).toArray) w:=by
 obtain⟨dst,op,type,pos,after,guard⟩:=o
 cases op with
 |
  call c =>
  obtain⟨callee,args,argTypes⟩:=c
  cases callee with
  |invoke r m=>simp [MO]at h
  |
   builtin b =>
   cases b<;>simp [MO]at h
   all_goals (repeat (split at h<;>first|(cases h;done)|skip))
  |
   value f' =>
   cases f' with
   |
    func fid =>
    simp only [MO]at h;split at h<;>first|(cases h;done)|skip
    rename_i n fn as' h1 h2 h3;split at h<;>first|(cases h;done)|skip
    rename_i hc;simp only [aB,I.call.injEq]at h;obtain⟨rfl,rfl⟩:=h;refine⟨fid,args.toList,h1,h3,fun a w=>?_⟩;have hb:fn.body.isNone=false:=by
     have:=hc.1
     cases hb:fn.body<;>simp_all
    have harr:(args.toList.map a.eval).toArray=args.map a.eval:=by apply Array.ext';simp
    simp only [execOp,Go.resolve,invoke,Sem.run_bind,Deferred.ofValue,Act.eval,Sem.run_pure,bQ,callFunc,run_program,h2,hc.2,hb,bM,if_false,Array.append_empty,Array.empty_append,harr]
   |_=>simp [MO]at h
 |
  slice t x lo hi mx =>
  exfalso
  cases mx with
  |some m=>simp [MO]at h
  |
   none =>
   simp only [MO]at h
   repeat (split at h<;>first|(cases h;done)|skip)
 |
  build t parts =>
  exfalso;simp only [MO]at h;split at h<;>first|(cases h;done)|skip
  split at h<;>first|(cases h;done)|skip
  simp [aO]at h
 |
  _ =>
  exfalso;simp only [MO]at h
  first
   |(simp [aO]at h;done)
   |(repeat (split at h<;>first|(cases h;done)|skip))
theorem Vh{σ:Store}(hS:uP w D M σ){env:Nat->V}(he:∀t,rd w D (XS M D) (env t) (a.tmps.getD t undef)){R:List Nat} :
  ∀
   (xs:List Operand) {as:List Src} {as':List V},Ip xs=some as->as.mapM (fun s=>resolve σ FD (s.ev env))=some as'->(∀o,o∈as.flatMap (fun s=>reach σ FD (s.ev env))->o∈R) ->
   qH w DM.none (fun b=>M b\/∃o d,D o=.live d/\d.blk=b/\o∉R) as' (xs.map a.eval)
 |
  [],as,as',h,hm,_=>by
  simp only [Ip,aB]at h;subst h;simp at hm;subst hm;simp [qH]
 |
  x::xs,as,as',h,hm,hR=>by
  simp only [Ip]at h;split at h<;>first|(cases h;done)|skip
  rename_i s r h1 h2;simp only [aB]at h;subst h;simp only [bZ,jl,iI,fD,aB]at hm;obtain⟨v,k1,r',k2,rfl⟩:=hm;simp only [bT,qH];refine⟨_,_,rfl,FU hS FD _ _ _ k1 (fun o ho=>hR o (by simp [ho])) (oQ he h1),Vh hS he xs h2 k2 (fun o ho=>hR o ?_)⟩;simp only [jJ,aK];exact .inr ho
theorem Yd{env:Nat->V}(he:∀t,rd w D (XS M D) (env t) (a.tmps.getD t undef)){D':DM}{g:Nat->Option Nat}(hg:∀o o',g o=some o'->vJ (D o) (D' o')) :
  ∀(xs:List Operand) {as:List Src},Ip xs=some as->qH w D' (XS M D) (as.map fun s=>lS g (s.ev env)) (xs.map a.eval)
 | [],as,h=>by simp only [Ip,aB]at h;subst h;simp [qH]
 |
  x::xs,as,h=>by
  simp only [Ip]at h;split at h<;>first|(cases h;done)|skip
  rename_i s r h1 h2;simp only [aB]at h;subst h;simp only [bT,qH];exact⟨_,_,rfl,Vf hg _ _ (oQ he h1),Yd he hg xs h2⟩
theorem Vj{X X':Nat->Prop}{xs:List V}{ys:List Value}(h:qH w D X xs ys)(hX:∀b,X' b->X b):qH w D X' xs ys :=
 Py xs ys ⟨aJ _,fun _ _ _=>rfl,fun b _=>hX b,fun _=>vJ.refl _⟩ h
theorem TQ{o:Oper}{K:Act->World->Prop}{Q:Exit->Act->World->Prop}{f:FuncId}{args:Array Value}(h:(execOp a.eval o).run P w=.ok (.enter f args) w)
  {R:Value->World->Prop} (hc:Calls P f args w fun e w'=>∃v,e=.returned v/\R v w') (hK:∀v w',R v w'->K (a.put o.dst v) w'):o.wp P a w K Q:=by
 unfold Oper.wp;rw [h];refine hc.mono ?_;rintro e w' ⟨v,rfl,hr⟩;exact hK v w' hr
theorem afT{x:qJ}{f:Nat}{as:List Src}{as':List V}{r:V}{R:List Nat}(hg:∀g want,x.g=some (g,want)->st.env g=.bool want)(hi:x.i=.call f as)
  (ha:as.mapM (fun s=>resolve st.objs FD (s.ev st.env))=some as') (ih:RP P ν f as' [] r [])
  (hR:R=if scalar SD r then []else as.flatMap fun s=>reach st.objs FD (s.ev st.env)) :
  adx P ν x st { st with env:=oO st.env x.dst r,objs:=nT st.objs R }:=by
 refine⟨rfl,rfl,by simp [JC],?_⟩;intro ops dr nt m k o htr M w0 D0 D a w hs _ K Q hK;obtain⟨t1,t2,t3,t4⟩:=Jt htr;rw [aQ ((FV hs t4).1 hg)];rw [hi]at t1;obtain⟨fid,xs,c1,c2,c3⟩:=KE t1;have hrd:=Vh hs.store hs.env xs c2 ha (R:=as.flatMap fun s=>reach st.objs FD (s.ev st.env)) (fun o h=>h)
 let X':Nat->Prop:=fun b=>M b\/∃o d,D o=.live d/\d.blk=b/\o∉as.flatMap fun s=>reach st.objs FD (s.ev st.env)
 have hX:∀b,XS X' DM.none b->X' b:=by
  rintro b (h|⟨o,d,h,_⟩)
  ·exact h
  simp [DM.none]at h
 have hlt:∀b,X' b->b<w.heap.size:=by
  rintro b (h|⟨o,d,h,rfl,_⟩)
  ·exact hs.store.mlt b h
  obtain⟨_,_,_,_,_,_,_,_,h6,_⟩:=hs.store.live o d h;exact h6
 have hcall:=ih fid c1 w X' DM.none (xs.map a.eval).toArray (by simpa using Vj hrd hX)
  ⟨fun o d h=>by simp [DM.none]at h,fun o ob h=>by simp [jQ]at h,fun o o' d d' h=>by simp [DM.none]at h,fun _ _=>rfl,hlt⟩
 refine TQ (c3 a w) (R:=fun v w'=>∃D'c,rd w' D'c (XS X' D'c) r v/\uP w' D'c X' []/\Gr (Own DM.none) w w') (hcall.mono ?_) ?_
 ·rintro e w' ⟨v,D',rfl,h1,h2,h3,_⟩;exact⟨v,rfl,D',h1,h2,h3⟩
 rintro v w' ⟨D'c,h1,h2,h3⟩;have hsame:∀b,b<w.heap.size->w'.heap[b]? = w.heap[b]?:=fun b hb=>h3.block b hb (by rintro⟨o,d,h,_⟩;simp [DM.none]at h);have hk:=hs.store.killed R h3.size hsame;have hr:rd w' (D.kill R) (XS M (D.kill R)) r v:=by
  by_cases hsc:scalar SD r=true
  ·exact aar SD r v hsc h1
  rw [aN hsc]at hR;refine oP r v ⟨aJ _,fun _ _ _=>rfl,fun b _ hb=>?_,fun o=>by rw [h2.far o (eH _)];trivial⟩ h1;rcases hb with h|⟨o,d,ho,hbb⟩
  ·exact .inl (.inl h)
  obtain⟨k1,k2⟩:=FX ho;exact .inl (.inr ⟨o,d,k1,hbb,by rw [<-hR];exact k2⟩)
 rw [t2];refine hK (D.kill R) _ w' ⟨Ve (fun t=>oP _ _ hk.2 (hs.env t)) (fun d hd=>by rw [hs.tm];exact t3 d (t2.trans hd)) hr,?_,?_,hk.1,?_,?_,fun o ho=>(hs.kp o ho).trans (abA D R o)⟩ ?_
 ·rw [<-hs.tm];cases x.dst<;>simp [Act.put]
 ·rw [<-hs.df];cases x.dst<;>rfl
 ·exact hs.gr.trans (h3.mono fun b _ ⟨o,d,h,_⟩=>by simp [DM.none]at h)
 ·intro o d ho;exact hs.fr o d (FX ho).1
 intro o _ _ h _;simp only [DM.kill,h];split<;>rfl
end
theorem sJ:∀{ρ:List Nat} {o j:Nat},place ρ o=some j->ρ[j]? = some o
 | [],o,j,h=>by simp [place]at h
 |
  r::ρ,o,j,h=>by
  simp only [place]at h;split at h
  ·rename_i e;cases h;simp [e]
  simp only [aO]at h;obtain⟨k,h1,rfl⟩:=h;simpa using sJ h1
theorem Du:∀{ρ:List Nat} {o:Nat},place ρ o=none->o∉ρ
 | [],_,_=>by simp
 |
  r::ρ,o,h=>by
  simp only [place]at h;split at h
  ·cases h
  rename_i e;simp only [Option.map_eq_none_iff]at h;simp only [aI,not_or];exact⟨fun k=>e k.symm,Du h⟩
theorem Qz{ρ:List Nat}(hn:ρ.Nodup){o j:Nat}(h:ρ[j]? = some o):place ρ o=some j:=by
 cases hp:place ρ o with
 |none=>exact absurd (bn h) (Du hp)
 |
  some i =>
  have:=sJ hp;have hi:=(aP.1 this);have hj:=(aP.1 h)
  congr 1
  exact(List.getElem_inj (h₀:=hi.1) (h₁:=hj.1) hn).1 (hi.2.trans hj.2.symm)
def DM.pick(D:DM)(ρ:List Nat):DM:=fun j=>match ρ[j]? with
 |.some o=>D o
 |.none=>.oM
theorem RQ{D:DM}{ρ:List Nat}(o j:Nat)(h:place ρ o=some j):vJ (D o) (D.pick ρ j):=by
 simp only [DM.pick,sJ h];exact vJ.refl _
theorem MR{ρ:List Nat}{σ:Store}{j:Nat}:jQ (Ij ρ σ) j=match ρ[j]? with
  |some o=>(jQ σ o).map (rD (place ρ))
  |none=>none:=by
 unfold Ij;rw [jQ,bP]
 cases ρ[j]? <;> rfl
theorem NI{g:Nat->Option Nat}(ob:Obj):(rD g ob).rows.flatten=ob.rows.flatten.map (lS g):=by
 simp [rD,List.map_flatten]
section
variable {w : World} {D : DM} {M M' : Nat -> Prop} {σ : Store} {ρ : List Nat}
theorem abB(hM:∀b,M' b->XS M D b):∀b,XS M' (D.pick ρ) b->XS M D b:=by
 rintro b (h|⟨j,d,hj,rfl⟩)
 ·exact hM b h
 simp only [DM.pick]at hj;split at hj
 ·exact .inr ⟨_,d,hj,rfl⟩
 cases hj
theorem uP.Ij(h:uP w D M σ)(hn:ρ.Nodup)(hM:∀b,M' b->M b\/∃o d,D o=.live d/\d.blk=b/\o∉ρ):uP w (D.pick ρ) M' (Ij ρ σ):=by
 have hX:∀b,XS M' (D.pick ρ) b->XS M D b:=abB fun b hb=>(hM b hb).imp id fun ⟨o,d,h1,h2,_⟩=>⟨o,d,h1,h2⟩;have alq:∀j d,D.pick ρ j=.live d->∃o,ρ[j]? = some o/\D o=.live d:=by
  intro j d hj;simp only [DM.pick]at hj;split at hj
  ·exact⟨_,by assumption,hj⟩
  cases hj
 refine⟨?_,?_,?_,?_,?_⟩
 ·intro j d hj;obtain⟨o,ho,hd⟩:=alq j d hj;obtain⟨ob,c,e,h1,h2,h3,h4,h5,h6,h7,h8,h9,h10,h11⟩:=h.live o d hd;refine⟨rD (place ρ) ob,c,e,by rw [MR,ho];simp [h1],h2,by simp [rD,h3],h4,?_,h6,h7,h8,h9,?_,fun i x hi=>?_⟩
  ·intro hb;rcases hM _ hb with hb|⟨o',d',ho',hbb,hnr⟩
   ·exact h5 hb
   exact hnr (h.inj o' o d' d ho' hd hbb▸bn ho)
  ·intro r hr;simp only [rD,bF]at hr;obtain⟨r0,hr0,rfl⟩:=hr;simpa [rD]using h10 r0 hr0
  rw [NI,bP,aO]at hi;obtain⟨x0,hx0,rfl⟩:=hi;obtain⟨k0,y,k1,k2⟩:=h11 i x0 hx0;refine⟨X9 k0,y,k1,?_⟩;exact oP _ _ ⟨aJ _,fun _ _ _=>rfl,fun b _=>hX b,fun _=>vJ.refl _⟩ (Vf (D':=D.pick ρ) (fun o j=>RQ o j) x0 y k2)
 ·intro j ob hj;rw [MR]at hj;split at hj
  ·rename_i o ho;simp only [aO]at hj;obtain⟨ob0,h1,_⟩:=hj;obtain⟨d,hd⟩:=h.alive o ob0 h1;exact⟨d,by simp only [DM.pick,ho];exact hd⟩
  cases hj
 ·intro j j' d d' hj hj' hb;obtain⟨o,ho,hd⟩:=alq j d hj;obtain⟨o',ho',hd'⟩:=alq j' d' hj';have:=h.inj o o' d d' hd hd' hb;subst this;have e1:=Qz hn ho;have e2:=Qz hn ho';rw [e1]at e2;exact Option.some.inj e2
 ·intro j hj;simp only [DM.pick];rw [bC (by simpa [Ml.Ij]using hj)]
 intro b hb;rcases hM b hb with hb|⟨o,d,ho,rfl,_⟩
 ·exact h.mlt b hb
 obtain⟨_,_,_,_,_,_,_,_,h6,_⟩:=h.live o d ho;exact h6
end
section
variable {P : Program} {ν : Nat -> Option Nat} {nt : Nat} {M : Nat -> Prop} {w0 : World} {D0 : DM} {st : St} {D : DM} {a : Act} {w : World}
theorem ahX{ρ:List Nat}{x:V}{v:Value}(h:rd w D (XS M D) x v):rd w (D.pick ρ) (XS M (D.pick ρ)) (lS (place ρ) x) v :=
 oP _ _ ⟨aJ _,fun _ _ _=>rfl,fun b _=>abB (fun _ h=>.inl h) b,fun _=>vJ.refl _⟩ (Vf (D':=D.pick ρ) (fun o j=>RQ o j) x v h)
theorem SR.gc{ρ:List Nat}(h:SR nt M w0 D0 st D a w)(hn:ρ.Nodup)(hρ:∀i,i<st.keep->ρ[i]? = some i):SR nt M w0 D0 (st.gc ρ) (D.pick ρ) a w:=by
 refine⟨fun t=>ahX (h.env t),h.tm,h.df,h.store.Ij hn (fun b hb=>.inl hb),h.gr,?_,?_⟩
 ·intro j d hj;simp only [DM.pick]at hj;split at hj
  ·exact h.fr _ d hj
  cases hj
 intro o ho;have ho':o<st.keep:=ho;simp only [DM.pick,hρ o ho'];exact h.kp o ho'
theorem alr{f:Nat}{args:List V}{σ σ':Store}{r:V}{ρ:List Nat}(hn:ρ.Nodup)(hρ:∀i,i<σ.length->ρ[i]? = some i)(ih:RP P ν f args σ r σ') :
  RP P ν f args σ (lS (place ρ) r) (Ij ρ σ'):=by
 intro fid hf w M D vals h1 h2;refine(ih fid hf w M D vals h1 h2).mono ?_;rintro e w' ⟨v,D',rfl,k1,k2,k3,k4,k5⟩;refine⟨v,D'.pick ρ,rfl,ahX k1,k2.Ij hn (fun b hb=>.inl hb),k3,?_,?_⟩
 ·intro j d hj;simp only [DM.pick]at hj;split at hj
  ·exact k4 _ d hj
  cases hj
 intro o ho;simp only [DM.pick,hρ o ho];exact k5 o ho
theorem als{f:Nat}{args:List V}{σ':Store}{r r':V}(hr:resolve σ' FD r=some r')(ih:RP P ν f args [] r σ'):RP P ν f args [] r' []:=by
 intro fid hf w M D vals h1 h2;refine(ih fid hf w M D vals h1 h2).mono ?_;rintro e w' ⟨v,D',rfl,k1,k2,k3,k4,k5⟩;refine⟨v,DM.none,rfl,?_,?_,k3,fun o d h=>by simp [DM.none]at h,fun o ho=>by simp at ho⟩
 ·have:=FU k2 (R:=reach σ' FD r) FD r r' v hr (fun o h=>h) k1;refine oP _ _ ⟨aJ _,fun _ _ _=>rfl,fun b _ hb=>?_,fun _=>vJ.refl _⟩ this;rcases hb with h|⟨o,d,h,_⟩
  ·exact .inl h
  simp [DM.none]at h
 exact⟨fun o d h=>by simp [DM.none]at h,fun o ob h=>by simp [jQ]at h,fun o o' d d' h=>by simp [DM.none]at h,fun _ _=>rfl,k2.mlt⟩
theorem Gs{ρ:List Nat}{σ σ':Store}{o:Nat}:jQ (uO ρ σ σ') o=if o<σ.length then
   (match place ρ o with|some j=>(jQ σ' j).map (rD (back ρ σ.length))|none=>jQ σ o)
  else(jQ σ' (ρ.length+(o-σ.length))).map (rD (back ρ σ.length)):=by
 unfold uO;rw [jQ];by_cases h:o<σ.length
 ·rw [bK (by simpa using h),aQ h,kD,ak h];simp only [dh,jF]
  cases place ρ o with
  |some j=>rfl
  |none=>simp [jQ,h]
 rw [bW (by simpa using h),aN h];simp only [List.length_mapIdx,bP,dV];unfold jQ
 cases σ'[ρ.length+(o-σ.length)]? <;> rfl
theorem afU{x:qJ}{f:Nat}{as:List Src}{r:V}{σ':Store}{ρ:List Nat}(hn:ρ.Nodup)(hρ:∀o,o∈ρ->(jQ st.objs o).isSome=true)(hg:∀g want,x.g=some (g,want)->st.env g=.bool want)(hi:x.i=.call f as)
  (ih:RP P ν f (as.map fun s=>lS (place ρ) (s.ev st.env)) (Ij ρ st.objs) r σ') :
  adx P ν x st { st with env:=oO st.env x.dst (lS (back ρ st.objs.length) r),objs:=uO ρ st.objs σ' }:=by
 refine⟨rfl,rfl,by simp [uO],?_⟩;intro ops dr nt m k o htr M w0 D0 D a w hs _ K Q hK;obtain⟨t1,t2,t3,t4⟩:=Jt htr;rw [aQ ((FV hs t4).1 hg)];rw [hi]at t1;obtain⟨fid,xs,c1,c2,c3⟩:=KE t1
 let Mc:Nat->Prop:=fun b=>M b\/∃o d,D o=.live d/\d.blk=b/\o∉ρ
 have hMc:∀b,Mc b->XS M D b:=fun b hb=>hb.imp id fun ⟨o,d,h1,h2,_⟩=>⟨o,d,h1,h2⟩;have hargs:=Yd (D':=D.pick ρ) hs.env (fun o j=>RQ (D:=D) (ρ:=ρ) o j) xs c2;have hcall:=ih fid c1 w Mc (D.pick ρ) (xs.map a.eval).toArray (by simpa using Vj hargs (abB hMc)) (hs.store.Ij hn (fun b hb=>hb));have asG:∀o,o∈ρ->o<st.objs.length:=by
  intro o ho;have:=hρ o ho;rcases dW o st.objs.length with h|h
  ·exact h
  rw [jQ,bC h]at this;cases this
 have aDY:∀o,o∈ρ->∃d,D o=.live d:=by
  intro o ho;obtain⟨ob,hob⟩:=ji.1 (hρ o ho);exact hs.store.alive o ob hob
 have hlen:(Ij ρ st.objs).length=ρ.length:=by simp [Ij]
 refine TQ (c3 a w) (R:=fun v w'=>∃D'c,rd w' D'c (XS Mc D'c) r v/\uP w' D'c Mc σ'/\Gr (Own (D.pick ρ)) w w'/\(∀o d,D'c o=.live d->Own (D.pick ρ) d.blk\/w.heap.size<=d.blk)/\∀j,j<ρ.length->vJ (D.pick ρ j) (D'c j)) (hcall.mono ?_) ?_
 ·rintro e w' ⟨v,D',rfl,h1,h2,h3,h4,h5⟩;exact⟨v,rfl,D',h1,h2,h3,h4,fun j hj=>h5 j (by rw [hlen];exact hj)⟩
 rintro v w' ⟨Dc,h1,h2,h3,h4,h5⟩
 let n:=st.objs.length
 let D':DM:=fun o=>match place ρ o with
  |some j=>Dc j
  |none=>if n<=o then Dc (ρ.length+(o-n))else D o
 have Vk:∀o j,place ρ o=some j->D' o=Dc j:=fun o j h=>by simp only [D',h]
 have ajF:∀o,n<=o->D' o=Dc (ρ.length+(o-n)):=by
  intro o ho;have:place ρ o=none:=by
   cases hp:place ρ o with
   |none=>rfl
   |some j=>have:=asG o (bn (sJ hp));omega
  simp only [D',this,aQ ho]
 have ZP:∀o,o<n->o∉ρ->D' o=D o:=by
  intro o ho hno;have:place ρ o=none:=by
   cases hp:place ρ o with
   |none=>rfl
   |some j=>exact absurd (bn (sJ hp)) hno
  simp only [D',this,aN (by omega:¬n<=o)]
 have OI:∀o d,D' o=.live d->(∃j,Dc j=.live d/\back ρ n j=some o)\/(o<n/\o∉ρ/\D o=.live d):=by
  intro o d ho
  cases hp:place ρ o with
  |
   some j =>
   rw [Vk o j hp]at ho;have hj:=sJ hp;exact .inl ⟨j,ho,by simp only [back];rw [aQ (aP.1 hj).1];exact hj⟩
  |
   none =>
   by_cases hno:n<=o
   ·rw [ajF o hno]at ho;exact .inl ⟨_,ho,by simp only [back];rw [aN (by omega)];congr 1;omega⟩
   have:=Du hp;rw [ZP o (by omega) this]at ho;exact .inr ⟨by omega,this,ho⟩
 have ayd:∀j o,back ρ n j=some o->D' o=Dc j:=by
  intro j o hj;simp only [back]at hj;split at hj
  ·exact Vk o j (Qz hn hj)
  simp only [aB]at hj;rw [ajF o (by omega)];congr 1;omega
 have hback:∀j o,back ρ n j=some o->vJ (Dc j) (D' o):=fun j o h=>by rw [ayd j o h];exact vJ.refl _
 have hX:∀b,XS M D' b->XS Mc Dc b:=by
  rintro b (h|⟨o,d,ho,rfl⟩)
  ·exact .inl (.inl h)
  rcases OI o d ho with ⟨j,hj,_⟩|⟨_,hno,hd⟩
  ·exact .inr ⟨j,d,hj,rfl⟩
  exact .inl (.inr ⟨o,d,hd,rfl,hno⟩)
 have hown:∀b,Own (D.pick ρ) b->Own D b:=by
  rintro b ⟨j,d,hj,rfl⟩;simp only [DM.pick]at hj;split at hj
  ·exact⟨_,d,hj,rfl⟩
  cases hj
 have E:Ext w D (XS M D) w' D' (XS M D'):=by
  refine⟨h3.size,fun b hb hx=>h3.block b hb (fun ho=>hx (.inr (hown b ho))),?_,?_⟩
  ·rintro b hb (h|⟨o,d,ho,rfl⟩)
   ·exact .inl h
   rcases OI o d ho with ⟨j,hj,_⟩|⟨_,_,hd⟩
   ·rcases h4 j d hj with h|h
    ·exact .inr (hown _ h)
    omega
   exact .inr ⟨o,d,hd,rfl⟩
  intro o
  cases hp:place ρ o with
  |
   some j =>
   rw [Vk o j hp];have hj:=sJ hp;have:=h5 j (aP.1 hj).1;simp only [DM.pick,hj]at this;exact this
  |
   none =>
   by_cases hno:n<=o
   ·rw [hs.store.far o hno];trivial
   rw [ZP o (by omega) (Du hp)];exact vJ.refl _
 have ady:∀{x:V} {v:Value},rd w' Dc (XS Mc Dc) x v->rd w' D' (XS M D') (lS (back ρ n) x) v:=fun h =>
  oP _ _ ⟨aJ _,fun _ _ _=>rfl,fun b _=>hX b,fun _=>vJ.refl _⟩ (Vf (D':=D') hback _ _ h)
 have hnew:∀o j,D' o=Dc j->jQ (uO ρ st.objs σ') o=(jQ σ' j).map (rD (back ρ n))->∀d,Dc j=.live d->∃ob c e,jQ (uO ρ st.objs σ') o=some ob/\d.sz=ob.sz/\d.n=ob.rows.length/\0<d.sz/\¬M d.blk/\d.blk<w'.heap.size /\
   w'.heap[d.blk]? = some (.cells c e (0,0))/\c.size=d.cap/\d.ML+d.n*d.sz<=d.cap/\(∀r∈ob.rows,r.length=ob.sz) /\
   ∀(i:Nat) (x:V),ob.rows.flatten[i]? = some x->x.leaf=true/\∃y,c[d.ML+i]? = some y/\rd w' D' (XS M D') x y:=by
  intro o j _ hat d hd;obtain⟨ob,c,e,g1,g2,g3,g4,g5,g6,g7,g8,g9,g10,g11⟩:=h2.live j d hd;refine⟨rD (back ρ n) ob,c,e,by rw [hat,g1];rfl,g2,by simp [rD,g3],g4,fun hm=>g5 (.inl hm),g6,g7,g8,g9,?_,fun i x hi=>?_⟩
  ·intro r hr;simp only [rD,bF]at hr;obtain⟨r0,hr0,rfl⟩:=hr;simpa [rD]using g10 r0 hr0
  rw [NI,bP,aO]at hi;obtain⟨x0,hx0,rfl⟩:=hi;obtain⟨k0,y,k1,k2⟩:=g11 i x0 hx0;exact⟨X9 k0,y,k1,ady k2⟩
 have hst:uP w' D' M (uO ρ st.objs σ'):=by
  refine⟨?_,?_,?_,?_,fun b hb=>bD (hs.store.mlt b hb) h3.size⟩
  ·intro o d ho
   cases hp:place ρ o with
   |
    some j =>
    rw [Vk o j hp]at ho;refine hnew o j (Vk o j hp) ?_ d ho;rw [Gs,aQ (asG o (bn (sJ hp))),hp]
   |
    none =>
    by_cases hno:n<=o
    ·rw [ajF o hno]at ho;refine hnew o _ (ajF o hno) ?_ d ho;rw [Gs,aN (by omega)]
    have hnp:=Du hp;rw [ZP o (by omega) hnp]at ho;obtain⟨ob,c,e,g1,g2,g3,g4,g5,g6,g7,g8,g9,g10,g11⟩:=hs.store.live o d ho;have apw:¬Own (D.pick ρ) d.blk:=by
     rintro⟨j,d',hj,hb⟩;simp only [DM.pick]at hj;split at hj
     ·rename_i o' ho';have:=hs.store.inj _ _ _ _ hj ho hb;subst this;exact hnp (bn ho')
     cases hj
    refine⟨ob,c,e,by rw [Gs,aQ (by omega),hp];exact g1,g2,g3,g4,g5,bD g6 h3.size,by rw [h3.block _ g6 apw];exact g7,g8,g9,g10,fun i x hi=>?_⟩;obtain⟨k0,y,k1,k2⟩:=g11 i x hi;exact⟨k0,y,k1,oP _ _ E k2⟩
  ·intro o ob ho;rw [Gs]at ho;split at ho
   ·split at ho
    ·rename_i j hp;simp only [aO]at ho;obtain⟨ob0,h,_⟩:=ho;rw [Vk o j hp];exact h2.alive j ob0 h
    rename_i hp;rw [ZP o (by assumption) (Du hp)];exact hs.store.alive o ob ho
   rename_i hlt;simp only [aO]at ho;obtain⟨ob0,h,_⟩:=ho;rw [ajF o (by omega)];exact h2.alive _ ob0 h
  ·intro o o' d d' ho ho' hb;rcases OI o d ho with ⟨j,hj,hbk⟩|⟨a1,a2,a3⟩<;>rcases OI o' d' ho' with ⟨j',hj',hbk'⟩|⟨b1,b2,b3⟩
   ·have:=h2.inj j j' d d' hj hj' hb;subst this;rw [hbk]at hbk';exact Option.some.inj hbk'
   ·obtain⟨_,_,_,_,_,_,_,g5,_⟩:=h2.live j d hj;exact absurd (.inr ⟨o',d',b3,hb.symm,b2⟩) g5
   ·obtain⟨_,_,_,_,_,_,_,g5,_⟩:=h2.live j' d' hj';exact absurd (.inr ⟨o,d,a3,hb,a2⟩) g5
   exact hs.store.inj o o' d d' a3 b3 hb
  intro o ho;have hlo:n+(σ'.length-ρ.length)<=o:=by simpa [uO]using ho
  rw [ajF o (by omega)];exact h2.far _ (by omega)
 rw [t2];refine hK D' _ w' ⟨Ve (fun t=>oP _ _ E (hs.env t)) (fun d hd=>by rw [hs.tm];exact t3 d (t2.trans hd)) (ady h1),?_,?_,hst,?_,?_,fun o ho=>(hs.kp o ho).trans (E.ds o)⟩ ?_
 ·rw [<-hs.tm];cases x.dst<;>simp [Act.put]
 ·rw [<-hs.df];cases x.dst<;>rfl
 ·exact hs.gr.trans (h3.mono fun b _ ho=>by obtain⟨o,d,h,hb⟩:=hown b ho;rw [<-hb];exact hs.fr o d h)
 ·intro o d ho;rcases OI o d ho with ⟨j,hj,_⟩|⟨_,_,hd⟩
  ·rcases h4 j d hj with h|h
   ·obtain⟨q,d',hq,hb⟩:=hown _ h;rw [<-hb];exact hs.fr q d' hq
   exact .inr (dw hs.gr.size h)
  exact hs.fr o d hd
 intro o _ ho hu _;have hno:o∉ρ:=fun h=>by obtain⟨d,hd⟩:=aDY o h;rw [hd]at hu;cases hu
 rw [ZP o ho hno];exact hu
end
theorem mapM_congr_mem{α β:Type}{f g:α->Option β}:∀(l:List α),(∀s,s∈l->f s=g s)->l.mapM f=l.mapM g
 | [],_=>rfl
 |
  a::l,h=>by
  simp only [bZ];rw [h a (by simp),mapM_congr_mem l fun s hs=>h s (by simp [hs])]
theorem D7{α β:Type}{f g:α->List β}:∀(l:List α),(∀s,s∈l->f s=g s)->l.flatMap f=l.flatMap g
 | [],_=>rfl
 |
  a::l,h=>by
  simp only [jJ];rw [h a (by simp),D7 l fun s hs=>h s (by simp [hs])]
theorem adz{T:Tb}{x:qJ}{st:St}{f:Nat}{as:List Src}{as':List V}{r:V}(hg:∀g want,x.g=some (g,want)->st.env g=.bool want)(hi:x.i=.call f as)
  (ha:as.mapM (fun s=>resolve st.objs FD (s.ev st.env))=some as') (h:Run T (.fn f as' []) (.fn r [])) (hR:scalar SD r=true\/(as.flatMap fun s=>reach st.objs FD (s.ev st.env))=[]) :
  Fp T ⟨x,as.flatMap fun s=>reach st.objs FD (s.ev st.env),r,[],none⟩ st:=by
 intro st2 hag;have hsrc:∀s,s∈as->s.ev st2.env=s.ev st.env:=fun s hs=>Jr fun t ht=>hag.env t (Js (by rw [hi];exact hs) ht);have Ye:∀s,s∈as->resolve st2.objs FD (s.ev st.env)=resolve st.objs FD (s.ev st.env)/\reach st2.objs FD (s.ev st.env)=reach st.objs FD (s.ev st.env):=fun s hs =>
  KD FD _ fun o ho=>hag.objs o (fZ.2 ⟨s,hs,ho⟩)
 have e1:as.mapM (fun s=>resolve st2.objs FD (s.ev st2.env))=some as':=by
  rw [<-ha];exact mapM_congr_mem as fun s hs=>by rw [hsrc s hs];exact(Ye s hs).1
 have e2:(as.flatMap fun s=>reach st2.objs FD (s.ev st2.env))=as.flatMap fun s=>reach st.objs FD (s.ev st.env) :=
  D7 as fun s hs=>by rw [hsrc s hs];exact(Ye s hs).2
 have hR':([]:List Nat)=if scalar SD r then []else(as.flatMap fun s=>reach st2.objs FD (s.ev st2.env)):=by
  rw [e2];rcases hR with h|h
  ·rw [aQ h]
  rw [h,ite_self]
 have hg2:∀g want,x.g=some (g,want)->st2.env g=.bool want:=fun g want hgw=>(hag.env g (NH hgw)).trans (hg g want hgw);have e3:(⟨x,as.flatMap fun s=>reach st.objs FD (s.ev st.env),r,[],none⟩:Dat).go st2={ st2 with env:=oO st2.env x.dst r,objs:=nT st2.objs [] }:=by
  simp only [Dat.go,xO,jf,fJ,aU,nT]
 rw [e3];exact Run.adn hg2 hi e1 h hR'
theorem Vl:∀(R:List Nat) (σ:Store),xO σ (R.map fun o=>(o,none))=nT σ R
 | [],_=>rfl
 |o::R,σ=>Vl R (σ.set o none)
theorem alu{T:Tb}{x:qJ}{st:St}{f:Nat}{as:List Src}{as':List V}{r:V}(hg:∀g want,x.g=some (g,want)->st.env g=.bool want)(hi:x.i=.call f as)
  (ha:as.mapM (fun s=>resolve st.objs FD (s.ev st.env))=some as') (h:Run T (.fn f as' []) (.fn r [])) (hR:scalar SD r=false) :
  Fp T ⟨x,as.flatMap fun s=>reach st.objs FD (s.ev st.env),r,(as.flatMap fun s=>reach st.objs FD (s.ev st.env)).map fun o=>(o,none),none⟩ st:=by
 intro st2 hag;have hsrc:∀s,s∈as->s.ev st2.env=s.ev st.env:=fun s hs=>Jr fun t ht=>hag.env t (Js (by rw [hi];exact hs) ht);have Ye:∀s,s∈as->resolve st2.objs FD (s.ev st.env)=resolve st.objs FD (s.ev st.env)/\reach st2.objs FD (s.ev st.env)=reach st.objs FD (s.ev st.env):=fun s hs =>
  KD FD _ fun o ho=>hag.objs o (fZ.2 ⟨s,hs,ho⟩)
 have e1:as.mapM (fun s=>resolve st2.objs FD (s.ev st2.env))=some as':=by
  rw [<-ha];exact mapM_congr_mem as fun s hs=>by rw [hsrc s hs];exact(Ye s hs).1
 have e2:(as.flatMap fun s=>reach st2.objs FD (s.ev st2.env))=as.flatMap fun s=>reach st.objs FD (s.ev st.env) :=
  D7 as fun s hs=>by rw [hsrc s hs];exact(Ye s hs).2
 have hR':(as.flatMap fun s=>reach st.objs FD (s.ev st.env))=if scalar SD r then []else(as.flatMap fun s=>reach st2.objs FD (s.ev st2.env)):=by
  rw [e2,hR];rfl
 have hg2:∀g want,x.g=some (g,want)->st2.env g=.bool want:=fun g want hgw=>(hag.env g (NH hgw)).trans (hg g want hgw);have e3:(⟨x,as.flatMap fun s=>reach st.objs FD (s.ev st.env),r,(as.flatMap fun s=>reach st.objs FD (s.ev st.env)).map fun o=>(o,none),none⟩:Dat).go st2 =
   { st2 with env:=oO st2.env x.dst r,objs:=nT st2.objs (as.flatMap fun s=>reach st.objs FD (s.ev st.env)) }:=by
  simp only [Dat.go,Vl,fJ,aU]
 rw [e3];exact Run.adn hg2 hi e1 h hR'
theorem alv{T:Tb}{x:qJ}{st:St}{f:Nat}{as:List Src}{as':List V}{r:V}{σ':Store}(hg:∀g want,x.g=some (g,want)->st.env g=.bool want)(hi:x.i=.call f as)
  (ha:as.mapM (fun s=>resolve st.objs FD (s.ev st.env))=some as') (h:Run T (.fn f as' []) (.fn r σ')) (hR:(ou r&&FP σ')=true) :
  Fp T ⟨x,as.flatMap fun s=>reach st.objs FD (s.ev st.env),lS (mV st.objs.length) r,[],some (σ'.map (Option.map (rD (mV st.objs.length))))⟩ st:=by
 intro st2 hag;have hlen:st2.objs.length=st.objs.length:=hag.len rfl;have hsrc:∀s,s∈as->s.ev st2.env=s.ev st.env:=fun s hs=>Jr fun t ht=>hag.env t (Js (by rw [hi];exact hs) ht);have Ye:∀s,s∈as->resolve st2.objs FD (s.ev st.env)=resolve st.objs FD (s.ev st.env)/\reach st2.objs FD (s.ev st.env)=reach st.objs FD (s.ev st.env):=fun s hs =>
  KD FD _ fun o ho=>hag.objs o (fZ.2 ⟨s,hs,ho⟩)
 have e1:as.mapM (fun s=>resolve st2.objs FD (s.ev st2.env))=some as':=by
  rw [<-ha];exact mapM_congr_mem as fun s hs=>by rw [hsrc s hs];exact(Ye s hs).1
 have hg2:∀g want,x.g=some (g,want)->st2.env g=.bool want:=fun g want hgw=>(hag.env g (NH hgw)).trans (hg g want hgw);have:=Run.ak5 (T:=T) (st:=st2) hg2 hi e1 h (R:=[]) (by rw [aQ hR]);have e3:(⟨x,as.flatMap fun s=>reach st.objs FD (s.ev st.env),lS (mV st.objs.length) r,[],some (σ'.map (Option.map (rD (mV st.objs.length))))⟩:Dat).go st2 =
   { st2 with env:=oO st2.env x.dst (lS (mV st2.objs.length) r),objs:=zW (nT st2.objs []) σ' }:=by
  simp only [Dat.go,xO,jf,nT,zW,hlen,jF]
 rw [e3];exact this
theorem ZQ{ρ:List Nat}{σ:Store}(hρ:∀o,o∈ρ->∃ob,jQ σ o=some ob/\∀g,rD g ob=ob):uO ρ σ (Ij ρ σ)=σ:=by
 have hlen:(Ij ρ σ).length=ρ.length:=by simp [Ij]
 unfold uO;rw [List.drop_of_length_le (by rw [hlen];exact aJ _),iQ,aU]
 apply fV
 intro q;rw [kD]
 cases hq:σ[q]? with
 |none=>rfl
 |
  some x =>
  simp only [dh,aB]
  cases hp:place ρ q with
  |none=>rfl
  |
   some j =>
   have hj:=sJ hp;obtain⟨ob,h1,h2⟩:=hρ q (bn hj);simp only [];rw [MR,hj];simp only [h1,dh,h2];have:jQ σ q=x:=by simp [jQ,hq]
   rw [<-this,h1]
theorem ajG{ρ:List Nat}{σ σ2:Store}(h:∀o,o∈ρ->jQ σ2 o=jQ σ o):Ij ρ σ2=Ij ρ σ:=by
 unfold Ij;exact gu fun o ho=>by rw [h o ho]
theorem alx{T:Tb}{x:qJ}{st:St}{f:Nat}{as:List Src}{r v:V}{ρ:List Nat}(hg:∀g want,x.g=some (g,want)->st.env g=.bool want)(hi:x.i=.call f as)(hn:ρ.Nodup)
  (hρ:∀o,o∈ρ->∃ob,jQ st.objs o=some ob/\∀g,rD g ob=ob) (h:Run T (.fn f (as.map fun s=>lS (place ρ) (s.ev st.env)) (Ij ρ st.objs)) (.fn r (Ij ρ st.objs))) (hv:∀n,lS (back ρ n) r=v) :
  Fp T ⟨x,ρ,v,[],none⟩ st:=by
 intro st2 hag;have hsrc:∀s,s∈as->s.ev st2.env=s.ev st.env:=fun s hs=>Jr fun t ht=>hag.env t (Js (by rw [hi];exact hs) ht);have ho:=hag.objs;have aye:∀o,o∈ρ->∃ob,jQ st2.objs o=some ob/\∀g,rD g ob=ob:=fun o h=>by rw [ho o h];exact hρ o h
 have e1:(as.map fun s=>lS (place ρ) (s.ev st2.env))=as.map fun s=>lS (place ρ) (s.ev st.env):=gu fun s hs=>by rw [hsrc s hs]
 have e2:=ajG ho;have hg2:∀g want,x.g=some (g,want)->st2.env g=.bool want:=fun g want hgw=>(hag.env g (NH hgw)).trans (hg g want hgw);have:=Run.ak4 (T:=T) (st:=st2) ρ hn (fun o h=>by obtain⟨ob,h1,_⟩:=aye o h;rw [h1];rfl) hg2 hi (r:=r) (σ':=Ij ρ st2.objs) (by rw [e1,e2];exact h);rw [hv,ZQ aye]at this;have e3:(⟨x,ρ,v,[],none⟩:Dat).go st2={ st2 with env:=oO st2.env x.dst v,objs:=st2.objs }:=by
  simp only [Dat.go,xO,jf,fJ,aU]
 rw [e3];exact this
theorem aat{σ τ:Store}(hl:σ.length=τ.length)(h:∀o,o<τ.length->jQ σ o=jQ τ o):σ=τ:=by
 apply fV
 intro o;by_cases ho:o<τ.length
 ·have:=h o ho;unfold jQ at this;rw [ak ho,ak (by omega)]at this ⊢;simpa using this
 rw [bC (by omega),bC (by omega)]
theorem Yf(τ:Store):∀(n:Nat) (σ:Store),n<=σ.length->(∀o,o<n->jQ (xO σ ((List.range n).map fun o=>(o,jQ τ o))) o=jQ τ o)
 |0,σ,_,o,ho=>absurd ho (dB _)
 |
  n+1,σ,hn,o,ho=>by
  have ih:=Yf τ n σ (by omega);rw [iV,bU];have e:xO σ ((List.range n).map (fun o=>(o,jQ τ o))++[n].map fun o=>(o,jQ τ o))=(xO σ ((List.range n).map fun o=>(o,jQ τ o))).set n (jQ τ n):=by
   unfold xO;rw [jZ];rfl
  rw [e];unfold jQ;rw [fH];by_cases h:n=o
  ·subst h;rw [aQ rfl,aQ (by rw [tY];omega)];rfl
  rw [aN h];exact ih o (by omega)
theorem adA{σ τ:Store}(hl:σ.length<=τ.length):xO σ ((List.range σ.length).map fun o=>(o,jQ τ o))++τ.drop σ.length=τ:=by
 refine aat (by simp [tY];omega) fun o ho=>?_;by_cases h:o<σ.length
 ·have:=Yf τ σ.length σ (aJ _) o h;unfold jQ at this ⊢;rw [bK (by rw [tY];exact h)];exact this
 unfold jQ;rw [bW (by rw [tY];omega),tY,dV]
 congr 2;omega
theorem aly{T:Tb}{x:qJ}{st:St}{f:Nat}{as:List Src}{r:V}{σ':Store}(hg:∀g want,x.g=some (g,want)->st.env g=.bool want)(hi:x.i=.call f as)
  (h:Run T (.fn f (as.map fun s=>s.ev st.env) st.objs) (.fn r σ')) (hl:st.objs.length<=σ'.length) (hb:st.objs.length<=st.base) :
  Fp T ⟨x,List.range st.objs.length,r,(List.range st.objs.length).map fun o=>(o,jQ σ' o),some (σ'.drop st.objs.length)⟩ st:=by
 intro st2 hag;have hlen:st2.objs.length=st.objs.length:=hag.len rfl;have hsrc:∀s,s∈as->s.ev st2.env=s.ev st.env:=fun s hs=>Jr fun t ht=>hag.env t (Js (by rw [hi];exact hs) ht);have ajC:st2.objs=st.objs:=aat hlen fun o ho=>hag.objs o (fF.2 ho);have e1:(as.map fun s=>s.ev st2.env)=as.map fun s=>s.ev st.env:=gu fun s hs=>hsrc s hs;have hg2:∀g want,x.g=some (g,want)->st2.env g=.bool want:=fun g want hgw=>(hag.env g (NH hgw)).trans (hg g want hgw);have:=Run.ak6 (T:=T) (st:=st2) hg2 hi (by rw [e1,ajC];exact h) (by rw [ajC];exact hl) (by rw [ajC,hag.base];exact hb);have e3:(⟨x,List.range st.objs.length,r,(List.range st.objs.length).map fun o=>(o,jQ σ' o),some (σ'.drop st.objs.length)⟩:Dat).go st2={ st2 with env:=oO st2.env x.dst r,objs:=σ' }:=by
  simp only [Dat.go,jF]
  congr 1
  rw [ajC];exact adA hl
 rw [e3];exact this
end Go.Ml
end
