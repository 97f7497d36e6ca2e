/- A small language for the functions of this claim, its soundness, contracts. -/
import Derived.Test.YthhglmiolbhcaaaGreatPart0
set_option linter.unusedSimpArgs false
set_option linter.unusedVariables false
set_option maxRecDepth 100000
set_option maxHeartbeats 16000000
section
namespace Go.Ml
def asIdxK (n : Nat) (v : V) (k : Nat → Prop) : Prop:=match v with
 | .int _ i=>(0 ≤ i ∧ i < n) ∧ k i.toNat
 | _=>False
def asBoundK (n : Nat) (v : V) (k : Nat → Prop) : Prop:=match v with
 | .int _ i=>(0 ≤ i ∧ i ≤ n) ∧ k i.toNat
 | _=>False
theorem asIdxK_spec {n : Nat} {v : V} {k : Nat → Prop} (h : asIdxK n v k) : ∃ j,asIdx n v = some j ∧ k j:=by
 cases v <;> simp only [asIdxK] at h <;> first | exact h.elim | skip
 exact ⟨_,by simp only [asIdx];rw [if_pos h.1],h.2⟩
theorem asBoundK_spec {n : Nat} {v : V} {k : Nat → Prop} (h : asBoundK n v k) : ∃ j,asBound n v = some j ∧ k j:=by
 cases v <;> simp only [asBoundK] at h <;> first | exact h.elim | skip
 exact ⟨_,by simp only [asBound];rw [if_pos h.1],h.2⟩
def optK {α : Type} (o : Option α) (k : α → Prop) : Prop:=match o with
 | some a=>k a
 | none=>False
theorem optK_spec {α : Type} {o : Option α} {k : α → Prop} (h : optK o k) : ∃ a,o = some a ∧ k a:=by
 cases o with
 | none=>exact h.elim
 | some a=>exact ⟨a,rfl,h⟩
def binK (op : BinOp) (x y : V) (k : V → Prop) : Prop:=match op,x,y with
 | .add,.int q a,.int q' b=>q = q' ∧ k (.int q (q.wrap (a + b)))
 | .sub,.int q a,.int q' b=>q = q' ∧ k (.int q (q.wrap (a - b)))
 | .mul,.int q a,.int q' b=>q = q' ∧ k (.int q (q.wrap (a * b)))
 | .quo,.int q a,.int q' b=>(q = q' ∧ b ≠ 0) ∧ k (.int q (q.wrap (a.tdiv b)))
 | .rem,.int q a,.int q' b=>(q = q' ∧ b ≠ 0) ∧ k (.int q (a.tmod b))
 | .eql,.int q a,.int q' b=>q = q' ∧ k (.bool (a == b))
 | .neq,.int q a,.int q' b=>q = q' ∧ k (.bool (a != b))
 | .lss,.int q a,.int q' b=>q = q' ∧ k (.bool (decide (a < b)))
 | .leq,.int q a,.int q' b=>q = q' ∧ k (.bool (decide (a ≤ b)))
 | .gtr,.int q a,.int q' b=>q = q' ∧ k (.bool (decide (b < a)))
 | .geq,.int q a,.int q' b=>q = q' ∧ k (.bool (decide (b ≤ a)))
 | .eql,.str a,.str b=>k (.bool (a == b))
 | .neq,.str a,.str b=>k (.bool (!(a == b)))
 | .add,.str a,.str b=>a.length + b.length < 2 ^ 62 ∧ k (.str (a ++ b))
 | .shr,.int q a,.int _ b=>0 ≤ b ∧ k (.int q (a.fdiv (2 ^ (min b.toNat q.bits))))
 | .and,.int q a,.int q' b=>q = q' ∧ k (.int q (bitsAnd q a b))
 | .xor,.int q a,.int q' b=>q = q' ∧ k (.int q (bitsXor q a b))
 | _,_,_=>False
theorem binK_spec {op : BinOp} {x y : V} {k : V → Prop} (h : binK op x y k) : ∃ v,evBin op x y = some v ∧ k v:=by
 unfold binK at h
 split at h <;> first | exact h.elim | skip
 all_goals first
  | exact ⟨_,by simp only [evBin];rw [if_pos h.1],h.2⟩
  | exact ⟨_,by simp only [evBin],h⟩
def I.effK (env : Nat → V) (σ : Store) (i : I) (k : Eff → Prop) : Prop:=match i with
 | .mov x=>k (.val (x.ev env))
 |
  .pick c a b=>match c.ev env with
  | .bool t=>k (.val (if t then a.ev env else b.ev env))
  | _=>False
 | .alloc zero=>k (.newP ⟨zero.length,[zero]⟩)
 |
  .box x=>match (x.ev env).cells? with
  | some (c :: cs)=>k (.newP ⟨(c :: cs).length,[c :: cs]⟩)
  | _=>False
 | .build zero parts=>optK (fillRow env zero parts) fun cs=>k (.val (.agg cs))
 | .mkSl sz zero ln parts=>optK (fillRows env sz (List.replicate ln zero) parts) fun rows=>if ln = 0 then k (.val .nils) else k (.newS ⟨sz,rows⟩ ln)
 |
  .make zero bytes x=>match x.ev env with
  | .int .i64 n=>(0 ≤ n ∧ n ≤ 2 ^ 47 ∧ n * bytes ≤ 2 ^ 47) ∧ k (.newS ⟨zero.length,List.replicate n.toNat zero⟩ n.toNat)
  | _=>False
 | .load n isAgg a=>optK (rowAt σ (a.ev env)) fun p =>
   if isAgg then (p.2 + n ≤ p.1.length ∧ k (.val (.agg ((p.1.drop p.2).take n)))) else optK p.1[p.2]? fun v=>k (.val v)
 |
  .store n a x=>match a.ev env with
  | .ptr o r off=>optK (x.ev env).cells? fun cs=>optK (objAt σ o) fun ob=>optK ob.rows[r]? fun row =>
    (cs.length = n ∧ off + n ≤ row.length) ∧ k (.upd o ⟨ob.sz,ob.rows.set r (splice row off cs)⟩)
  | _=>False
 |
  .fld d a=>match a.ev env with
  | .ptr o r off=>optK (objAt σ o) fun _=>k (.val (.ptr o r (off + d)))
  | .fptr row off=>k (.val (.fptr row (off + d)))
  | _=>False
 |
  .idx sz x i=>match x.ev env with
  | .msl o s l=>optK (objAt σ o) fun ob=>asIdxK l (i.ev env) fun j=>ob.sz = sz ∧ k (.val (.ptr o (s + j) 0))
  | .sl sz' rows=>asIdxK rows.length (i.ev env) fun j=>sz' = sz ∧ k (.val (.fptr (rows.getD j []) 0))
  | _=>False
 |
  .idxA cnt sz x i=>match x.ev env with
  | .ptr o r off=>asIdxK cnt (i.ev env) fun j=>optK (objAt σ o) fun _=>k (.val (.ptr o r (off + j * sz)))
  | .fptr row off=>asIdxK cnt (i.ev env) fun j=>k (.val (.fptr row (off + j * sz)))
  | _=>False
 |
  .idxS x i=>match x.ev env with
  | .str s=>asIdxK s.length (i.ev env) fun j=>k (.val (.int .u8 (s.getD j 0).toNat))
  | _=>False
 | .len x=>optK (lenOf σ (x.ev env)) fun n=>k (.val (.int .i64 n))
 |
  .lenS x=>match x.ev env with
  | .str s=>k (.val (.int .i64 s.length))
  | _=>False
 | .bin op x y=>binK op (x.ev env) (y.ev env) fun v=>k (.val v)
 |
  .beq ne x y=>match x.ev env,y.ev env with
  | .bool a,.bool b=>k (.val (.bool (if ne then !(a == b) else a == b)))
  | _,_=>False
 |
  .un op x=>match op,x.ev env with
  | .neg,.int q n=>k (.val (.int q (q.wrap (0 - n))))
  | .not,.bool b=>k (.val (.bool (!b)))
  | _,_=>False
 |
  .conv q x=>match x.ev env with
  | .int _ n=>k (.val (.int q (q.wrap n)))
  | _=>False
 | .app sz bytes x y=>optK (rowsOf σ (x.ev env)) fun old=>optK (rowsOf σ (y.ev env)) fun new =>
   (new.2 = [] → k (.val (x.ev env))) ∧ (new.2 ≠ [] → (new.1 = sz ∧ (old.2.length + new.2.length) * bytes ≤ 2 ^ 40 ∧ old.2.length + new.2.length ≤ 2 ^ 40) ∧
    match x.ev env with
    | .nils=>k (.newS ⟨sz,new.2⟩ new.2.length)
    | .msl o _ _=>optK (objAt σ o) fun ob=>ob.sz = sz ∧ k (.mov o ⟨sz,old.2 ++ new.2⟩ (old.2.length + new.2.length))
    | _=>False)
 |
  .max x y=>match x.ev env,y.ev env with
  | .int q a,.int q' b=>q = q' ∧ k (.val (.int q (if b > a then b else a)))
  | _,_=>False
 |
  .extr i x=>match x.ev env with
  | .tup vs=>optK vs[i]? fun v=>k (.val v)
  | _=>False
 |
  .chk x=>match x.ev env with
  | .ptr o r off=>optK (objAt σ o) fun _=>k (.val (.ptr o r off))
  | .fptr row off=>k (.val (.fptr row off))
  | _=>False
 |
  .sliceS x lo hi=>match x.ev env with
  | .str s=>(match hi with | some h=>asBoundK s.length (h.ev env) | none=>fun k=>k s.length) fun h =>
    (match lo with | some l=>asBoundK h (l.ev env) | none=>fun k=>k 0) fun l=>k (.val (.str ((s.take h).drop l)))
  | _=>False
 | .slice sz x lo hi=>optK (lenOf σ (x.ev env)) fun n=>(match hi with | some h=>asBoundK n (h.ev env) | none=>fun k=>k n) fun h =>
   (match lo with | some l=>asBoundK h (l.ev env) | none=>fun k=>k 0) fun l=>match x.ev env with
    | .nils=>k (.val .nils)
    | .sl sz' rows=>sz' = sz ∧ k (.val (.sl sz' ((rows.take h).drop l)))
    | .msl o s _=>optK (objAt σ o) fun ob=>ob.sz = sz ∧ k (.val (.msl o (s + l) (h - l)))
    | _=>False
 |
  .idxV cnt x i=>match x.ev env with
  | .agg cs=>asIdxK cnt (i.ev env) fun j=>optK cs[j]? fun v=>k (.val v)
  | _=>False
 | i=>optK (i.eff env σ) k
theorem hiK_spec {env : Nat → V} {n : Nat} {hi : Option Src} {k : Nat → Prop} (h : (match hi with | some h=>asBoundK n (h.ev env) | none=>fun k=>k n) k) : ∃ j,hiB env n hi = some j ∧ k j:=by
 cases hi with
 | none=>exact ⟨n,rfl,h⟩
 | some x=>exact asBoundK_spec h
theorem loK_spec {env : Nat → V} {n : Nat} {lo : Option Src} {k : Nat → Prop} (h : (match lo with | some h=>asBoundK n (h.ev env) | none=>fun k=>k 0) k) : ∃ j,loB env n lo = some j ∧ k j:=by
 cases lo with
 | none=>exact ⟨0,rfl,h⟩
 | some x=>exact asBoundK_spec h
theorem effK_spec {env : Nat → V} {σ : Store} {i : I} {k : Eff → Prop} (h : i.effK env σ k) : ∃ ef,i.eff env σ = some ef ∧ k ef:=by
 cases i with
 | mov x=>exact ⟨_,rfl,h⟩
 |
  pick c a b =>
  simp only [I.effK] at h
  split at h <;> first | exact h.elim | skip
  rename_i t e
  exact ⟨_,by simp only [I.eff,e],h⟩
 | alloc z=>exact ⟨_,rfl,h⟩
 |
  box x =>
  simp only [I.effK] at h
  split at h <;> first | exact h.elim | skip
  rename_i c cs e
  exact ⟨_,by simp only [I.eff,e],h⟩
 |
  build z ps =>
  obtain ⟨cs,e,h⟩:=optK_spec h
  exact ⟨_,by simp only [I.eff,e],h⟩
 |
  mkSl sz z ln ps =>
  obtain ⟨rows,e,h⟩:=optK_spec h
  split at h
  ·rename_i h0;exact ⟨_,by simp only [I.eff,e];rw [if_pos h0],h⟩
  ·rename_i h0;exact ⟨_,by simp only [I.eff,e];rw [if_neg h0],h⟩
 |
  make z b x =>
  simp only [I.effK] at h
  split at h <;> first | exact h.elim | skip
  rename_i n e
  exact ⟨_,by simp only [I.eff,e];rw [if_pos h.1],h.2⟩
 |
  load n g a =>
  obtain ⟨p,e,h⟩:=optK_spec h
  obtain ⟨row,off⟩:=p
  simp only [] at h
  cases g with
  |
   true =>
   simp only [if_true] at h
   exact ⟨_,by simp only [I.eff,e,if_true];rw [if_pos h.1],h.2⟩
  |
   false =>
   simp only [Bool.false_eq_true,if_false] at h
   obtain ⟨v,e2,h⟩:=optK_spec h
   exact ⟨_,by simp only [I.eff,e,Bool.false_eq_true,if_false,e2],h⟩
 |
  store n a x =>
  simp only [I.effK] at h
  split at h <;> first | exact h.elim | skip
  rename_i o r off e
  obtain ⟨cs,e1,h⟩:=optK_spec h
  obtain ⟨ob,e2,h⟩:=optK_spec h
  obtain ⟨row,e3,h⟩:=optK_spec h
  exact ⟨_,by simp only [I.eff,e,e1,e2,e3];rw [if_pos h.1],h.2⟩
 |
  fld d a =>
  simp only [I.effK] at h
  split at h <;> first | exact h.elim | skip
  ·rename_i o r off e
   obtain ⟨ob,e2,h⟩:=optK_spec h
   exact ⟨_,by simp only [I.eff,e,e2],h⟩
  ·rename_i row off e
   exact ⟨_,by simp only [I.eff,e],h⟩
 |
  idx sz x i =>
  simp only [I.effK] at h
  split at h <;> first | exact h.elim | skip
  ·rename_i o s l e
   obtain ⟨ob,e2,h⟩:=optK_spec h
   obtain ⟨j,e3,h⟩:=asIdxK_spec h
   exact ⟨_,by simp only [I.eff,e,e2,e3];rw [if_pos h.1],h.2⟩
  ·rename_i sz' rows e
   obtain ⟨j,e3,h⟩:=asIdxK_spec h
   exact ⟨_,by simp only [I.eff,e,e3];rw [if_pos h.1],h.2⟩
 |
  idxA c sz x i =>
  simp only [I.effK] at h
  split at h <;> first | exact h.elim | skip
  ·rename_i o r off e
   obtain ⟨j,e3,h⟩:=asIdxK_spec h
   obtain ⟨ob,e2,h⟩:=optK_spec h
   exact ⟨_,by simp only [I.eff,e,e2,e3],h⟩
  ·rename_i row off e
   obtain ⟨j,e3,h⟩:=asIdxK_spec h
   exact ⟨_,by simp only [I.eff,e,e3],h⟩
 |
  idxS x i =>
  simp only [I.effK] at h
  split at h <;> first | exact h.elim | skip
  rename_i s e
  obtain ⟨j,e3,h⟩:=asIdxK_spec h
  exact ⟨_,by simp only [I.eff,e,e3],h⟩
 |
  len x =>
  obtain ⟨n,e,h⟩:=optK_spec h
  exact ⟨_,by simp only [I.eff,e],h⟩
 |
  lenS x =>
  simp only [I.effK] at h
  split at h <;> first | exact h.elim | skip
  rename_i s e
  exact ⟨_,by simp only [I.eff,e],h⟩
 |
  bin op x y =>
  simp only [I.effK] at h
  obtain ⟨v,e,h⟩:=binK_spec h
  exact ⟨_,by simp only [I.eff,e],h⟩
 |
  beq ne x y =>
  simp only [I.effK] at h
  split at h <;> first | exact h.elim | skip
  rename_i p q e1 e2
  exact ⟨_,by simp only [I.eff,e1,e2],h⟩
 |
  un op x =>
  simp only [I.effK] at h
  split at h <;> first | exact h.elim | skip
  ·rename_i q n e
   exact ⟨_,by simp only [I.eff,e,evUn],h⟩
  ·rename_i b e
   exact ⟨_,by simp only [I.eff,e,evUn],h⟩
 |
  conv q x =>
  simp only [I.effK] at h
  split at h <;> first | exact h.elim | skip
  rename_i q' n e
  exact ⟨_,by simp only [I.eff,e],h⟩
 |
  app sz b x y =>
  obtain ⟨old,e1,h⟩:=optK_spec h
  obtain ⟨new,e2,h⟩:=optK_spec h
  obtain ⟨so,old⟩:=old
  obtain ⟨sn,new⟩:=new
  simp only [] at h
  by_cases hn : new = []
  ·exact ⟨_,by simp only [I.eff,e1,e2];rw [if_pos hn],h.1 hn⟩
  ·obtain ⟨hc,h⟩:=h.2 hn
   split at h <;> first | exact h.elim | skip
   ·rename_i e
    rw [e] at e1
    refine ⟨_,?_,h⟩
    simp only [I.eff,e,e1,e2];rw [if_neg hn,if_pos hc]
   ·rename_i o s l e
    obtain ⟨ob,e3,h⟩:=optK_spec h
    rw [e] at e1
    refine ⟨_,?_,h.2⟩
    simp only [I.eff,e,e1,e2,e3];rw [if_neg hn,if_pos hc,if_pos h.1]
 |
  max x y =>
  simp only [I.effK] at h
  split at h <;> first | exact h.elim | skip
  rename_i q p q' r e1 e2
  exact ⟨_,by simp only [I.eff,e1,e2];rw [if_pos h.1],h.2⟩
 |
  extr i x =>
  simp only [I.effK] at h
  split at h <;> first | exact h.elim | skip
  rename_i vs e
  obtain ⟨v,e2,h⟩:=optK_spec h
  exact ⟨_,by simp only [I.eff,e,e2],h⟩
 |
  chk x =>
  simp only [I.effK] at h
  split at h <;> first | exact h.elim | skip
  ·rename_i o r off e
   obtain ⟨ob,e2,h⟩:=optK_spec h
   exact ⟨_,by simp only [I.eff,e,e2],h⟩
  ·rename_i row off e
   exact ⟨_,by simp only [I.eff,e],h⟩
 |
  sliceS x lo hi =>
  simp only [I.effK] at h
  split at h <;> first | exact h.elim | skip
  rename_i s e
  obtain ⟨hh,e1,h⟩:=hiK_spec h
  obtain ⟨l,e2,h⟩:=loK_spec h
  exact ⟨_,by simp only [I.eff,e,e1,e2],h⟩
 |
  slice sz x lo hi =>
  obtain ⟨n,e0,h⟩:=optK_spec h
  obtain ⟨hh,e1,h⟩:=hiK_spec h
  obtain ⟨l,e2,h⟩:=loK_spec h
  split at h <;> first | exact h.elim | skip
  ·rename_i e
   rw [e] at e0
   exact ⟨_,by simp only [I.eff,e,e0,e1,e2],h⟩
  ·rename_i sz' rows e
   rw [e] at e0
   exact ⟨_,by simp only [I.eff,e,e0,e1,e2];rw [if_pos h.1],h.2⟩
  ·rename_i o s q e
   obtain ⟨ob,e3,h⟩:=optK_spec h
   rw [e] at e0
   exact ⟨_,by simp only [I.eff,e,e0,e1,e2,e3];rw [if_pos h.1],h.2⟩
 |
  idxV cnt x i =>
  simp only [I.effK] at h
  split at h <;> first | exact h.elim | skip
  rename_i cs e
  obtain ⟨j,e2,h⟩:=asIdxK_spec h
  obtain ⟨v,e3,h⟩:=optK_spec h
  exact ⟨_,by simp only [I.eff,e,e2,e3],h⟩
 | _=>exact optK_spec h
def PF (T : Nat → Option Fn) (f : Nat) (args : List V) (r : V) : Prop:=Run T (.fn f args []) (.fn r [])
def boolK (v : V) (k : Bool → Prop) : Prop:=match v with
 | .bool b=>k b
 | _=>False
theorem boolK_spec {v : V} {k : Bool → Prop} (h : boolK v k) : ∃ b,v = .bool b ∧ k b:=by
 cases v <;> first | exact h.elim | exact ⟨_,rfl,h⟩
def gdK (want : Bool) (v : V) (k : Bool → Prop) : Prop:=match v with
 | .bool b=>k b
 | .tup []=>k (!want)
 | _=>False
theorem gdK_spec {want : Bool} {v : V} {k : Bool → Prop} (h : gdK want v k) : (v = .bool want ∧ k want) ∨ (OffV want v ∧ k (!want)):=by
 unfold gdK at h
 split at h
 ·rename_i b
  by_cases e : b = want
  ·subst e;exact .inl ⟨rfl,h⟩
  ·have : b = !want:=by cases b <;> cases want <;> simp_all
   subst this
   exact .inr ⟨.inr ⟨_,rfl,e⟩,h⟩
 ·exact .inr ⟨.inl rfl,h⟩
 ·exact h.elim
def gK (g : Option (Nat × Bool)) (env : Nat → V) (on off : Prop) : Prop:=match g with
 | none=>on
 | some (t,true)=>gdK true (env t) fun b=>if b = true then on else off
 | some (t,false)=>gdK false (env t) fun b=>if b = true then off else on
theorem gK_spec {g : Option (Nat × Bool)} {env : Nat → V} {on off : Prop} (h : gK g env on off) :
  ((∀ t want,g = some (t,want) → env t = .bool want) ∧ on) ∨ (∃ t want,g = some (t,want) ∧ OffV want (env t) ∧ off):=by
 cases g with
 | none=>exact .inl ⟨fun _ _ h=>(by cases h),h⟩
 |
  some p =>
  obtain ⟨t,want⟩:=p
  cases want with
  |
   true =>
   rcases gdK_spec h with ⟨e,h⟩ | ⟨e,h⟩
   ·exact .inl ⟨fun _ _ h=>(by cases h;exact e),(by simpa using h)⟩
   ·exact .inr ⟨t,true,rfl,e,by simpa using h⟩
  |
   false =>
   rcases gdK_spec h with ⟨e,h⟩ | ⟨e,h⟩
   ·exact .inl ⟨fun _ _ h=>(by cases h;exact e),(by simpa using h)⟩
   ·exact .inr ⟨t,false,rfl,e,by simpa using h⟩
def resK (env : Nat → V) (σ : Store) : List Src → (List V → Prop) → Prop
 | [],k=>k []
 | s :: as,k=>optK (resolve σ FD (s.ev env)) fun v=>resK env σ as fun vs=>k (v :: vs)
theorem resK_spec {env : Nat → V} {σ : Store} : ∀ {as : List Src} {k : List V → Prop},resK env σ as k → ∃ vs,as.mapM (fun s=>resolve σ FD (s.ev env)) = some vs ∧ k vs
 | [],k,h=>⟨[],rfl,h⟩
 |
  s :: as,k,h=>by
  obtain ⟨v,e,h⟩:=optK_spec h
  obtain ⟨vs,e2,h⟩:=resK_spec h
  exact ⟨v :: vs,by simp [List.mapM_cons,e,e2],h⟩
def reachAll (env : Nat → V) (σ : Store) (as : List Src) : List Nat:=as.flatMap fun s=>reach σ FD (s.ev env)
def PFK (T : Nat → Option Fn) (f : Nat) (as : List V) (k : V → Prop) : Prop:=∃ r,PF T f as r ∧ k r
inductive CallRun (T : Nat → Option Fn) (f : Nat) (as : List Src) (dst : Option Nat) (st : St) : St → Prop
 | ref (ρ : List Nat) {r : V} {σ' : Store} (hn : ρ.Nodup) (hρ : ∀ o,o ∈ ρ → (objAt st.objs o).isSome = true) (h : Run T (.fn f (as.map fun s=>mapV (place ρ) (s.ev st.env)) (gcS ρ st.objs)) (.fn r σ')) :
   CallRun T f as dst st { st with env:=updO st.env dst (mapV (back ρ st.objs.length) r),objs:=putBack ρ st.objs σ' }
 | own {as' : List V} {r : V} {σ' : Store} {R : List Nat} (ha : as.mapM (fun s=>resolve st.objs FD (s.ev st.env)) = some as') (h : Run T (.fn f as' []) (.fn r σ'))
   (hR : R = if noFrz r && freshS σ' then [] else as.flatMap fun s=>reach st.objs FD (s.ev st.env)) :
   CallRun T f as dst st { st with env:=updO st.env dst (mapV (shiftN st.objs.length) r),objs:=addS (killAll st.objs R) σ' }
 | idn {r : V} {σ' : Store} (h : Run T (.fn f (as.map fun s=>s.ev st.env) st.objs) (.fn r σ')) (hl : st.objs.length ≤ σ'.length) (hb : st.objs.length ≤ st.base) :
   CallRun T f as dst st { st with env:=updO st.env dst r,objs:=σ' }
 | frz {as' : List V} {r : V} {R : List Nat} (ha : as.mapM (fun s=>resolve st.objs FD (s.ev st.env)) = some as') (h : Run T (.fn f as' []) (.fn r []))
   (hR : R = if scalar SD r then [] else as.flatMap fun s=>reach st.objs FD (s.ev st.env)) :
   CallRun T f as dst st { st with env:=updO st.env dst r,objs:=killAll st.objs R }
def RefK (T : Nat → Option Fn) (f : Nat) (as : List Src) (dst : Option Nat) (st : St) (k : St → Prop) : Prop:=∃ st',CallRun T f as dst st st' ∧ k st'
def dN : Option Nat → Nat
 | some n=>n
 | none=>0
theorem dN_s (n : Nat) : dN (some n) = n:=by have h : dN (some n) = n:=rfl;exact h
def opK (T : Nat → Option Fn) (rf : Nat → Nat → Bool) (o : OpI) (st : St) (k : St → Prop) : Prop :=
 gK o.g st.env (match o.i with
  | .call f as=>if rf f (dN o.dst) = true then RefK T f as o.dst st k else resK st.env st.objs as fun as'=>PFK T f as' fun r =>
    k { st with env:=updO st.env o.dst r,objs:=killAll st.objs (if scalar SD r then [] else reachAll st.env st.objs as) }
  | i=>i.effK st.env st.objs fun ef=>k (ef.go st o.dst (st.base + o.k)))
  (k { st with env:=updO st.env o.dst (.tup []) })
theorem opK_spec {T : Nat → Option Fn} {rf : Nat → Nat → Bool} {o : OpI} {st : St} {k : St → Prop} (h : opK T rf o st k) : ∃ st',Run T (.op o st) (.code .normal st') ∧ k st':=by
 rcases gK_spec h with ⟨hg,h⟩ | ⟨t,want,hg,he,h⟩
 ·split at h
  ·rename_i f as hi
   split at h
   ·obtain ⟨st',h1,h4⟩:=h
    refine ⟨st',?_,h4⟩
    cases h1 with
    | ref ρ h1 h2 h3=>exact .callR ρ h1 h2 hg hi h3
    | own h1 h2 h3=>exact .callG hg hi h1 h2 h3
    | idn h1 h2 h3=>exact .callI hg hi h1 h2 h3
    | frz h1 h2 h3=>exact .callP hg hi h1 h2 h3
   ·obtain ⟨vs,e,h⟩:=resK_spec h
    obtain ⟨r,h1,h⟩:=h
    exact ⟨_,.callP hg hi e h1 rfl,h⟩
  ·obtain ⟨ef,e,h⟩:=effK_spec h
   exact ⟨_,.op hg e,h⟩
 ·exact ⟨_,.off hg he,h⟩
def opsK (T : Nat → Option Fn) (rf : Nat → Nat → Bool) : List OpI → St → (St → Prop) → Prop
 | [],st,k=>k st
 | o :: l,st,k=>opK T rf o st fun st=>opsK T rf l st k
theorem opsK_spec {T : Nat → Option Fn} {rf : Nat → Nat → Bool} : ∀ {l : List OpI} {st : St} {k : St → Prop},opsK T rf l st k → ∃ st',Run T (.ops l st) (.code .normal st') ∧ k st'
 | [],st,k,h=>⟨st,.nil st,h⟩
 |
  o :: l,st,k,h=>by
  obtain ⟨st1,h1,h⟩:=opK_spec h
  obtain ⟨st2,h2,h⟩:=opsK_spec h
  exact ⟨st2,.cons h1 h2,h⟩
def uni (a b : List Nat) : List Nat:=b.foldl (fun s x=>if s.contains x then s else x :: s) a
def befs : List OpI → List (List Nat) → List (List Nat)
 | [],acc=>acc
 | o :: l,acc=>befs l (acc ++ [o.aft.foldl (fun s e=>uni s (acc.getD e [])) o.aft])
def okB (B : Nat → List Nat) (l : List OpI) : Nat → Bool
 |
  i=>match l with
  | []=>true
  | o :: l=>(B i).all (fun j=>o.aft.contains j || o.aft.any fun e=>(B e).contains j) && o.aft.all (fun e=>decide (e < i)) && okB B l (i + 1)
theorem okB_spec {B : Nat → List Nat} : ∀ {l : List OpI} {n : Nat},okB B l n = true → ∀ i o,l[i]? = some o → (∀ j,j ∈ B (n + i) → j ∈ o.aft ∨ ∃ e ∈ o.aft,j ∈ B e) ∧ ∀ e ∈ o.aft,e < n + i
 | [],n,_,i,o,h=>by simp at h
 |
  x :: l,n,hk,i,o,h=>by
  unfold okB at hk
  simp only [Bool.and_eq_true,List.all_eq_true] at hk
  obtain ⟨⟨h1,h2⟩,h3⟩:=hk
  cases i with
  |
   zero =>
   simp only [List.getElem?_cons_zero,Option.some.injEq] at h
   subst h
   refine ⟨fun j hj=>?_,fun e he=>by simpa using h2 e he⟩
   have:=h1 j hj
   simpa using this
  |
   succ i =>
   simp only [List.getElem?_cons_succ] at h
   have:=okB_spec h3 i o h
   rw [show n + (i + 1) = n + 1 + i by omega]
   exact this
def befF (l : List OpI) : Nat → List Nat:=let b:=befs l [];fun i=>b.getD i []
structure Acc where
 i : Nat
 R : List Nat
 W : List Nat
 n : Bool:=false
def belowA (L : Nat) (a b : Acc) : Bool:=!a.n || (!b.n && b.R.all (fun o=>decide (o < L)) && b.W.all fun p=>decide (p < L))
def apartA (L : Nat) (d e : OpI) (a b : Acc) : Bool :=
 !dstIn d.dst e.looks && !dstIn e.dst d.looks && !(d.dst.isSome && d.dst == e.dst) &&
  a.W.all (fun p=>!b.R.contains p && b.W.all fun q=>q != p) && b.W.all (fun q=>!a.R.contains q) && belowA L a b && belowA L b a
def getO (l : List OpI) (i : Nat) : OpI:=l.getD i ⟨none,none,0,.alloc [],[]⟩
def okA (L : Nat) (B : Nat → List Nat) (ops : List OpI) : List Acc → Bool
 | []=>true
 | a :: l=>l.all (fun b=>(B b.i).contains a.i || apartA L (getO ops a.i) (getO ops b.i) a b) && okA L B ops l
def OkA (L : Nat) (ops : List OpI) (l : List Acc) : Prop:=okA L (befF ops) ops l.reverse = true
def OwnK (T : Nat → Option Fn) (f : Nat) (as : List Src) (dst : Option Nat) (st : St) (k : List Nat → List Nat → Bool → St → Prop) : Prop :=
 (∃ as' r σ',as.mapM (fun s=>resolve st.objs FD (s.ev st.env)) = some as' ∧ Run T (.fn f as' []) (.fn r σ') ∧ (noFrz r && freshS σ') = true ∧
  k (reachAll st.env st.objs as) [] true { st with env:=updO st.env dst (mapV (shiftN st.objs.length) r),objs:=addS st.objs σ' }) ∨
 (∃ as' r,as.mapM (fun s=>resolve st.objs FD (s.ev st.env)) = some as' ∧ Run T (.fn f as' []) (.fn r []) ∧ scalar SD r = false ∧
  k (reachAll st.env st.objs as) (reachAll st.env st.objs as) false { st with env:=updO st.env dst r,objs:=killAll st.objs (reachAll st.env st.objs as) }) ∨
 (∃ r σ',Run T (.fn f (as.map fun s=>s.ev st.env) st.objs) (.fn r σ') ∧ st.objs.length ≤ σ'.length ∧ st.objs.length ≤ st.base ∧
  k (List.range st.objs.length) (List.range st.objs.length) true { st with env:=updO st.env dst r,objs:=σ' }) ∨
 ∃
  ρ r v,ρ.Nodup ∧ (∀ o,o ∈ ρ → ∃ ob,objAt st.objs o = some ob ∧ ∀ g,mapO g ob = ob) ∧ Run T (.fn f (as.map fun s=>mapV (place ρ) (s.ev st.env)) (gcS ρ st.objs)) (.fn r (gcS ρ st.objs)) ∧ (∀ n,mapV (back ρ n) r = v) ∧
  k ρ [] false { st with env:=updO st.env dst v }
def numK (l : List Nat) (k : List Nat → Prop) : Prop:=k l
def Eff.wr (id : Nat) : Eff → List Nat
 | .val _=>[]
 | .newP _=>[id]
 | .newS _ _=>[id]
 | .upd o _=>[o]
 | .mov o _ _=>[o,id]
def anyK (T : Nat → Option Fn) (rf : Nat → Nat → Bool) (L : Nat) (ops : List OpI) : List OpI → Nat → List Acc → St → (St → Prop) → Prop
 | [],_,acc,st,k=>OkA L ops acc ∧ k st
 |
  o :: l,i,acc,st,k=>gK o.g st.env (match o.i with
  | .call f as=>if rf f (dN o.dst) = true then OwnK T f as o.dst st fun R W n st=>anyK T rf L ops l (i + 1) (⟨i,R,W,n⟩ :: acc) st k
    else resK st.env st.objs as fun as'=>PFK T f as' fun r=>numK (reachAll st.env st.objs as) fun R =>
    (R = [] ∨ scalar SD r = true) ∧ anyK T rf L ops l (i + 1) (⟨i,R,[],false⟩ :: acc) { st with env:=updO st.env o.dst r } k
  | x
    => numK (x.reads st.env) fun R=>x.effK st.env st.objs fun ef=>numK (ef.wr (st.base + o.k)) fun W =>
    anyK T rf L ops l (i + 1) (⟨i,R,W,false⟩ :: acc) (ef.go st o.dst (st.base + o.k)) k)
  (anyK T rf L ops l (i + 1) (⟨i,[],[],false⟩ :: acc) { st with env:=updO st.env o.dst (.tup []) } k)
def Fits1 (ops : List OpI) (p : Nat × Dat) (a : Acc) : Prop:=a.i = p.1 ∧ getO ops a.i = p.2.x ∧ a.R = p.2.R ∧ a.W = p.2.W.map (·.1) ∧ a.n = p.2.N.isSome
theorem belowA_eq {L : Nat} {ops : List OpI} {p q : Nat × Dat} {a b : Acc} (h : Fits1 ops p a) (k : Fits1 ops q b) : belowA L a b = below L p.2 q.2:=by
 obtain ⟨h1,h2,h3,h4,h5⟩:=h
 obtain ⟨k1,k2,k3,k4,k5⟩:=k
 unfold belowA below
 rw [h5,k5,k3,k4,List.all_map]
 simp only [Option.not_isSome]
 rfl
theorem apartA_eq {L : Nat} {ops : List OpI} {p q : Nat × Dat} {a b : Acc} (h : Fits1 ops p a) (k : Fits1 ops q b) : apartA L (getO ops a.i) (getO ops b.i) a b = apart L p.2 q.2:=by
 have e1:=belowA_eq (L:=L) h k
 have e2:=belowA_eq (L:=L) k h
 obtain ⟨h1,h2,h3,h4,h5⟩:=h
 obtain ⟨k1,k2,k3,k4,k5⟩:=k
 unfold apartA apart
 rw [e1,e2,h2,k2,h3,k3,h4,k4]
 simp only [List.all_map]
 rfl
inductive AllFit (ops : List OpI) : List (Nat × Dat) → List Acc → Prop
 | nil : AllFit ops [] []
 | cons {p a l m} (h : Fits1 ops p a) (t : AllFit ops l m) : AllFit ops (p :: l) (a :: m)
theorem AllFit.all {ops : List OpI} {f : Nat × Dat → Bool} {g : Acc → Bool} : ∀ {l m},AllFit ops l m → (∀ p a,Fits1 ops p a → f p = g a) → l.all f = m.all g
 | _,_,.nil,_=>rfl
 | _,_,.cons h t,hfg=>by simp only [List.all_cons];rw [hfg _ _ h,t.all hfg]
theorem okD_of {L : Nat} {B : Nat → List Nat} {ops : List OpI} : ∀ {l m},AllFit ops l m → okA L B ops m = true → okD L B l = true
 | _,_,.nil,_=>rfl
 |
  _,_,.cons (p:=p) (a:=a) h t,hk=>by
  simp only [okA,Bool.and_eq_true] at hk
  obtain ⟨i,d⟩:=p
  simp only [okD,Bool.and_eq_true]
  refine ⟨?_,okD_of t hk.2⟩
  rw [t.all fun q b hq=>?_]
  ·exact hk.1
  ·rw [apartA_eq h hq,hq.1,h.1]
theorem AllFit.append {ops : List OpI} : ∀ {l m l' m'},AllFit ops l m → AllFit ops l' m' → AllFit ops (l ++ l') (m ++ m')
 | _,_,_,_,.nil,h=>h
 | _,_,_,_,.cons h t,k=>.cons h (t.append k)
theorem effWr (ef : Eff) (id : Nat) : ef.wr id = (ef.writes id).map (·.1):=by cases ef <;> rfl
theorem chain_snoc {T : Nat → Option Fn} {d : Dat} : ∀ (l : List Dat) (st : St),Chain T l st → Fp T d (goAll l st) → Chain T (l ++ [d]) st
 | [],_,_,h=>⟨h,trivial⟩
 | _ :: l,_,h,k=>⟨h.1,chain_snoc l _ h.2 k⟩
theorem goAll_snoc {d : Dat} : ∀ (l : List Dat) (st : St),goAll (l ++ [d]) st = d.go (goAll l st)
 | [],_=>rfl
 | _ :: l,_=>goAll_snoc l _
theorem anyK_spec {T : Nat → Option Fn} {rf : Nat → Nat → Bool} {L : Nat} {ops : List OpI} {st0 : St} : ∀ {l : List OpI} {i : Nat} {acc : List Acc} {st : St} {k : St → Prop} (ds : List (Nat × Dat)),anyK T rf L ops l i acc st k →
  i ≤ ops.length → ops.drop i = l → ds.length = i → ds.map (·.1) = List.range i → AllFit ops ds acc.reverse → Chain T (ds.map (·.2)) st0 → goAll (ds.map (·.2)) st0 = st →
  ∃ ds',ds'.map (·.1) = List.range ops.length ∧ (∃ acc',AllFit ops ds' acc' ∧ okA L (befF ops) ops acc' = true) ∧ Chain T (ds'.map (·.2)) st0 ∧ k (goAll (ds'.map (·.2)) st0)
 |
  [],i,acc,st,k,ds,h,hil,hd,hi,hr,hf,hc,hg=>by
  have hl : ops.length = i:=by
   have:=congrArg List.length hd
   simp at this;omega
  exact ⟨ds,by rw [hr,hl],⟨_,hf,h.1⟩,hc,by rw [hg];exact h.2⟩
 |
  o :: l,i,acc,st,k,ds,h,_,hd,hi,hr,hf,hc,hg=>by
  have hio : ops[i]? = some o:=by
   have:=congrArg (·[0]?) hd
   simpa using this
  have hd' : ops.drop (i + 1) = l:=by
   rw [← List.drop_drop,hd];rfl
  have hgo : getO ops i = o:=by simp [getO,List.getD_eq_getElem?_getD,hio]
  have step : ∀ (d : Dat),d.x = o → ∀ (a : Acc),a.i = i → a.R = d.R → a.W = d.W.map (·.1) → a.n = d.N.isSome → Fp T d st → anyK T rf L ops l (i + 1) (a :: acc) (d.go st) k → _:=fun d hdx a ha hR hW hN hfp hk =>
   anyK_spec (ds ++ [(i,d)]) hk (List.getElem?_eq_some_iff.1 hio).1 hd' (by simp [hi]) (by simp [hr,List.range_succ]) (by
    rw [List.reverse_cons]
    exact hf.append (.cons ⟨ha,by rw [ha,hgo,hdx],hR,hW,hN⟩ .nil)) (by
    rw [List.map_append];exact chain_snoc _ _ hc (by rw [hg];exact hfp)) (by rw [List.map_append,List.map_cons,List.map_nil,goAll_snoc,hg])
  rcases gK_spec h with ⟨hgd,h⟩ | ⟨t,want,hgd,he,h⟩
  ·split at h
   ·rename_i f as hi2
    split at h
    ·rcases h with ⟨vs,r,σ',e,h1,h2,h⟩ | ⟨vs,r,e,h1,h2,h⟩ | ⟨r,σ',h1,h2,h3,h⟩ | ⟨ρ,r,v,h1,h2,h3,h4,h⟩
     rotate_right
     ·refine step ⟨o,ρ,v,[],none⟩ rfl ⟨i,ρ,[],false⟩ rfl rfl rfl rfl (fp_callN hgd hi2 h1 h2 h3 h4) ?_
      have e2 : (⟨o,ρ,v,[],none⟩ : Dat).go st = { st with env:=updO st.env o.dst v }:=by
       simp only [Dat.go,putW,List.foldl_nil,Option.getD_none,List.append_nil]
      rw [e2];exact h
     rotate_right
     ·refine step ⟨o,_,r,(List.range st.objs.length).map fun o=>(o,objAt σ' o),some (σ'.drop st.objs.length)⟩ rfl ⟨i,_,List.range st.objs.length,true⟩ rfl rfl (by rw [List.map_map];exact (List.map_id _).symm) rfl (fp_callW hgd hi2 h1 h2 h3) ?_
      have e2 : (⟨o,List.range st.objs.length,r,(List.range st.objs.length).map fun o=>(o,objAt σ' o),some (σ'.drop st.objs.length)⟩ : Dat).go st = { st with env:=updO st.env o.dst r,objs:=σ' }:=by
       simp only [Dat.go,Option.getD_some]
       congr 1
       exact putW_all h2
      rw [e2];exact h
     rotate_left
     ·refine step ⟨o,_,r,(as.flatMap fun s=>reach st.objs FD (s.ev st.env)).map fun o=>(o,none),none⟩ rfl ⟨i,_,as.flatMap fun s=>reach st.objs FD (s.ev st.env),false⟩ rfl rfl (by rw [List.map_map];exact (List.map_id _).symm) rfl (fp_callK hgd hi2 e h1 h2) ?_
      have e2 : (⟨o,as.flatMap fun s=>reach st.objs FD (s.ev st.env),r,(as.flatMap fun s=>reach st.objs FD (s.ev st.env)).map fun o=>(o,none),none⟩ : Dat).go st =
        { st with env:=updO st.env o.dst r,objs:=killAll st.objs (as.flatMap fun s=>reach st.objs FD (s.ev st.env)) }:=by
       simp only [Dat.go,putW_kill,Option.getD_none,List.append_nil]
      rw [e2];exact h
     refine step ⟨o,_,_,[],some _⟩ rfl ⟨i,_,[],true⟩ rfl rfl rfl rfl (fp_callG hgd hi2 e h1 h2) ?_
     have e2 : (⟨o,as.flatMap fun s=>reach st.objs FD (s.ev st.env),mapV (shiftN st.objs.length) r,[],some (σ'.map (Option.map (mapO (shiftN st.objs.length))))⟩ : Dat).go st =
       { st with env:=updO st.env o.dst (mapV (shiftN st.objs.length) r),objs:=addS st.objs σ' }:=by
      simp only [Dat.go,putW,List.foldl_nil,addS,Option.getD_some]
     rw [e2];exact h
    ·obtain ⟨vs,e,h⟩:=resK_spec h
     obtain ⟨r,h1,h⟩:=h
     obtain ⟨hR,h⟩:=h
     refine step ⟨o,_,r,[],none⟩ rfl ⟨i,_,[],false⟩ rfl rfl rfl rfl (fp_callP hgd hi2 e h1 hR.symm) ?_
     have e2 : (⟨o,as.flatMap fun s=>reach st.objs FD (s.ev st.env),r,[],none⟩ : Dat).go st = { st with env:=updO st.env o.dst r }:=by
      simp only [Dat.go,putW,List.foldl_nil,Option.getD_none,List.append_nil]
     rw [e2];exact h
   ·unfold numK at h
    obtain ⟨ef,e,h⟩:=effK_spec h
    refine step ⟨o,o.i.reads st.env,ef.dv (st.base + o.k),ef.writes (st.base + o.k),none⟩ rfl ⟨i,_,_,false⟩ rfl rfl (effWr _ _) rfl (fp_eff hgd e) ?_
    have e2 : (⟨o,o.i.reads st.env,ef.dv (st.base + o.k),ef.writes (st.base + o.k),none⟩ : Dat).go st = ef.go st o.dst (st.base + o.k):=by
     simp only [Dat.go,Eff.go,putW_eff,Option.getD_none,List.append_nil]
    rw [e2];exact h
  ·refine step ⟨o,[],.tup [],[],none⟩ rfl ⟨i,[],[],false⟩ rfl rfl rfl rfl (fp_off hgd he) ?_
   have e2 : (⟨o,[],.tup [],[],none⟩ : Dat).go st = { st with env:=updO st.env o.dst (.tup []) }:=by
    simp only [Dat.go,putW,List.foldl_nil,Option.getD_none,List.append_nil]
   rw [e2];exact h
theorem anyK_run {T : Nat → Option Fn} {rf : Nat → Nat → Bool} {ops : List OpI} {st : St} {k : St → Prop} (hb : okB (befF ops) ops 0 = true) (h : anyK T rf st.objs.length ops ops 0 [] st k) : ∃ st',Run T (.any ops [] st) (.code .normal st') ∧ k st':=by
 obtain ⟨ds,h1,⟨acc,h2,h3⟩,h4,h5⟩:=anyK_spec (ops:=ops) (st0:=st) [] h (Nat.zero_le _) rfl rfl rfl .nil trivial rfl
 have hB:=okB_spec hb
 simp only [Nat.zero_add] at hB
 have hfit : ∀ {l m},AllFit ops l m → ∀ p ∈ l,getO ops p.1 = p.2.x:=by
  intro l m hf
  induction hf with
  | nil=>intro p hp;cases hp
  |
   cons h t ih =>
   intro p hp
   rcases List.mem_cons.1 hp with rfl | hp
   ·rw [← h.1];exact h.2.1
   ·exact ih p hp
 have hlt : ∀ p ∈ ds,p.1 < ops.length:=by
  intro p hp
  have : p.1 ∈ ds.map (·.1):=List.mem_map_of_mem hp
  rw [h1] at this;exact List.mem_range.1 this
 refine ⟨_,run_any (B:=befF ops) (fun i o j ho hj=>(hB i o ho).1 j hj) ds.length ds [] st (Nat.le_refl _) rfl (okD_of h2 h3) (fun e he=>by cases he) h4 ?_ ?_ ?_,h5⟩
 ·rw [h1];exact List.pairwise_lt_range
 ·intro p hp
  have hp2 : ops[p.1]? = some p.2.x:=by
   have:=hfit h2 p hp
   unfold getO at this
   rw [List.getD_eq_getElem?_getD] at this
   rw [List.getElem?_eq_getElem (hlt p hp)] at this ⊢
   exact congrArg some this
  exact ⟨hp2,by simp,(hB p.1 p.2.x hp2).2⟩
 ·intro i hi _
  have : i ∈ ds.map (·.1):=by rw [h1];exact List.mem_range.2 hi
  obtain ⟨p,hp,e⟩:=List.mem_map.1 this
  exact ⟨p.2,by rw [← e];exact hp⟩
def valK (ef : Eff) (k : V → Prop) : Prop:=match ef with
 | .val v=>k v
 | _=>False
theorem valK_spec {ef : Eff} {k : V → Prop} (h : valK ef k) : ∃ v,ef = .val v ∧ k v:=by
 cases ef <;> first | exact h.elim | exact ⟨_,rfl,h⟩
def any0K (T : Nat → Option Fn) : List OpI → St → (St → Prop) → Prop
 | [],st,k=>k st
 |
  o :: l,st,k=>gK o.g st.env (match o.i with
  | .call f as=>resK st.env st.objs as fun as'=>PFK T f as' fun r=>numK (reachAll st.env st.objs as) fun R =>
    (R = [] ∨ scalar SD r = true) ∧ any0K T l { st with env:=updO st.env o.dst r } k
  | x=>x.effK st.env st.objs fun ef=>valK ef fun v=>any0K T l { st with env:=updO st.env o.dst v } k)
  (any0K T l { st with env:=updO st.env o.dst (.tup []) } k)
def noRf (rf : Nat → Nat → Bool) (l : List OpI) : Bool:=l.all fun o=>match o.i with
 | .call f _=>!rf f (dN o.dst)
 | _=>true
theorem any0K_spec {T : Nat → Option Fn} {ops : List OpI} {st0 : St} : ∀ {l : List OpI} {i : Nat} {acc : List Acc} {st : St} {k : St → Prop} (ds : List (Nat × Dat)),any0K T l st k →
  i ≤ ops.length → ops.drop i = l → ds.length = i → ds.map (·.1) = List.range i → AllFit ops ds acc.reverse → (∀ a ∈ acc,a.W = [] ∧ a.n = false) → Chain T (ds.map (·.2)) st0 → goAll (ds.map (·.2)) st0 = st →
  ∃ ds',ds'.map (·.1) = List.range ops.length ∧ (∃ acc',AllFit ops ds' acc' ∧ ∀ a ∈ acc',a.W = [] ∧ a.n = false) ∧ Chain T (ds'.map (·.2)) st0 ∧ k (goAll (ds'.map (·.2)) st0)
 |
  [],i,acc,st,k,ds,h,hil,hd,hi,hr,hf,hw,hc,hg=>by
  have hl : ops.length = i:=by
   have:=congrArg List.length hd
   simp at this;omega
  exact ⟨ds,by rw [hr,hl],⟨_,hf,by simpa using hw⟩,hc,by rw [hg];exact h⟩
 |
  o :: l,i,acc,st,k,ds,h,_,hd,hi,hr,hf,hw,hc,hg=>by
  have hio : ops[i]? = some o:=by
   have:=congrArg (·[0]?) hd
   simpa using this
  have hd' : ops.drop (i + 1) = l:=by
   rw [← List.drop_drop,hd];rfl
  have hgo : getO ops i = o:=by simp [getO,List.getD_eq_getElem?_getD,hio]
  have step : ∀ (R : List Nat) (v : V),Fp T ⟨o,R,v,[],none⟩ st → any0K T l { st with env:=updO st.env o.dst v } k → _:=fun R v hfp hk =>
   any0K_spec (acc:=⟨i,R,[],false⟩ :: acc) (ds ++ [(i,⟨o,R,v,[],none⟩)]) hk (List.getElem?_eq_some_iff.1 hio).1 hd' (by simp [hi]) (by simp [hr,List.range_succ]) (by
    rw [List.reverse_cons]
    exact hf.append (.cons ⟨rfl,hgo,rfl,rfl,rfl⟩ .nil)) (by
    intro a ha
    rcases List.mem_cons.1 ha with rfl | ha
    ·exact ⟨rfl,rfl⟩
    ·exact hw a ha) (by
    rw [List.map_append];exact chain_snoc _ _ hc (by rw [hg];exact hfp)) (by rw [List.map_append,List.map_cons,List.map_nil,goAll_snoc,hg,go_val])
  rcases gK_spec h with ⟨hgd,h⟩ | ⟨t,want,hgd,he,h⟩
  ·split at h
   ·rename_i f as hi2
    obtain ⟨vs,e,h⟩:=resK_spec h
    obtain ⟨r,h1,h⟩:=h
    obtain ⟨hR,h⟩:=h
    exact step _ r (fp_callP hgd hi2 e h1 hR.symm) h
   ·obtain ⟨ef,e,h⟩:=effK_spec h
    obtain ⟨v,rfl,h⟩:=valK_spec h
    exact step _ v (fp_eff hgd e) h
  ·exact step [] (.tup []) (fp_off hgd he) h
def okA0 (ops : List OpI) : Bool:=okA 0 (befF ops) ops ((List.range ops.length).map fun i=>⟨i,[],[],false⟩)
theorem okA_strip {L : Nat} {B : Nat → List Nat} {ops : List OpI} : ∀ {l : List Acc},(∀ a ∈ l,a.W = [] ∧ a.n = false) → okA 0 B ops (l.map fun a=>⟨a.i,[],[],false⟩) = okA L B ops l
 | [],_=>rfl
 |
  a :: l,h=>by
  simp only [List.map_cons,okA]
  rw [okA_strip fun b hb=>h b (by simp [hb])]
  congr 1
  rw [List.all_map]
  have hall : ∀ (m : List Acc),(∀ b ∈ m,b.W = [] ∧ b.n = false) → (m.all ((fun b : Acc=>(B b.i).contains a.i || apartA 0 (getO ops a.i) (getO ops b.i) ⟨a.i,[],[],false⟩ b) ∘ fun b=>⟨b.i,[],[],false⟩)) =
    m.all fun b=>(B b.i).contains a.i || apartA L (getO ops a.i) (getO ops b.i) a b:=by
   intro m
   induction m with
   | nil=>intro _;rfl
   |
    cons b m ih =>
    intro hm
    simp only [List.all_cons]
    rw [ih fun c hc=>hm c (by simp [hc])]
    congr 1
    simp only [Function.comp,apartA,belowA,(h a (by simp)).1,(hm b (by simp)).1,(h a (by simp)).2,(hm b (by simp)).2,List.all_nil,Bool.not_false,Bool.true_or]
  exact hall l fun b hb=>h b (by simp [hb])
theorem any0K_any {T : Nat → Option Fn} {ops : List OpI} {st : St} {k : St → Prop} (L : Nat) (h0 : okA0 ops = true) (h : any0K T ops st k) :
  ∃ ds : List (Nat × Dat),ds.map (·.1) = List.range ops.length ∧ (∃ acc',AllFit ops ds acc' ∧ okA L (befF ops) ops acc' = true) ∧ Chain T (ds.map (·.2)) st ∧ k (goAll (ds.map (·.2)) st):=by
 obtain ⟨ds,h1,⟨acc,h2,h3⟩,h4,h5⟩:=any0K_spec (ops:=ops) (acc:=[]) (st0:=st) [] h (Nat.zero_le _) rfl rfl rfl .nil (by simp) trivial rfl
 refine ⟨ds,h1,⟨acc,h2,?_⟩,h4,h5⟩
 rw [← okA_strip h3]
 have : (acc.map fun a=>(⟨a.i,[],[],false⟩ : Acc)) = (List.range ops.length).map fun i=>⟨i,[],[],false⟩:=by
  rw [← h1,List.map_map]
  clear h1 h3 h4 h5 h h0
  induction h2 with
  | nil=>rfl
  | cons h t ih=>simp only [List.map_cons,Function.comp,h.1,ih]
 rw [this];exact h0
theorem run_ds {T : Nat → Option Fn} {ops : List OpI} {st : St} (hb : okB (befF ops) ops 0 = true) {ds : List (Nat × Dat)} (h1 : ds.map (·.1) = List.range ops.length)
  {acc : List Acc} (h2 : AllFit ops ds acc) (h3 : okA st.objs.length (befF ops) ops acc = true) (h4 : Chain T (ds.map (·.2)) st) : Run T (.any ops [] st) (.code .normal (goAll (ds.map (·.2)) st)):=by
 have hB:=okB_spec hb
 simp only [Nat.zero_add] at hB
 have hfit : ∀ {l m},AllFit ops l m → ∀ p ∈ l,getO ops p.1 = p.2.x:=by
  intro l m hf
  induction hf with
  | nil=>intro p hp;cases hp
  |
   cons h t ih =>
   intro p hp
   rcases List.mem_cons.1 hp with rfl | hp
   ·rw [← h.1];exact h.2.1
   ·exact ih p hp
 have hlt : ∀ p ∈ ds,p.1 < ops.length:=by
  intro p hp
  have : p.1 ∈ ds.map (·.1):=List.mem_map_of_mem hp
  rw [h1] at this;exact List.mem_range.1 this
 refine run_any (B:=befF ops) (fun i o j ho hj=>(hB i o ho).1 j hj) ds.length ds [] st (Nat.le_refl _) rfl (okD_of h2 h3) (fun e he=>by cases he) h4 ?_ ?_ ?_
 ·rw [h1];exact List.pairwise_lt_range
 ·intro p hp
  have hp2 : ops[p.1]? = some p.2.x:=by
   have:=hfit h2 p hp
   unfold getO at this
   rw [List.getD_eq_getElem?_getD] at this
   rw [List.getElem?_eq_getElem (hlt p hp)] at this ⊢
   exact congrArg some this
  exact ⟨hp2,by simp,(hB p.1 p.2.x hp2).2⟩
 ·intro i hi _
  have : i ∈ ds.map (·.1):=by rw [h1];exact List.mem_range.2 hi
  obtain ⟨p,hp,e⟩:=List.mem_map.1 this
  exact ⟨p.2,by rw [← e];exact hp⟩
def noWr (l : List OpI) : Bool:=l.all fun o=>match o.i with
 | .store .. | .alloc _ | .box _ | .mkSl .. | .make .. | .app ..=>false
 | _=>true
def C.okC : C → Bool
 | .reg d m l=>okK m l && (!d || (okB (befF l) l 0 && (!noWr l || okA0 l)))
 | .seq a b=>a.okC && b.okC
 | .cond _ a b=>a.okC && b.okC
 | .block _ c=>c.okC
 | .loop c=>c.okC
 | _=>true
def padS (σ : Store) (m : Nat) : Store:=σ ++ List.replicate m none
def St.in (st : St) (m : Nat) : St:={ st with objs:=padS st.objs m,base:=st.objs.length,rds:=[],muts:=[] }
def seqK (e : Ex) (k q : Prop) : Prop:=match e with
 | .normal=>k
 | _=>q
def LoopK (T : Nat → Option Fn) (c : C) (Q : Ex → St → Prop) (st : St) : Prop:=∃ e st',Run T (.code (.loop c) st) (.code e st') ∧ Q e st'
def wp (T : Nat → Option Fn) (rf : Nat → Nat → Bool) : C → (Ex → St → Prop) → St → Prop
 | .skip,Q,st=>Q .normal st
 | .reg d m l,Q,st=>if d then (if noWr l && noRf rf l then any0K T l (st.in m) (Q .normal) else anyK T rf (st.in m).objs.length l l 0 [] (st.in m) (Q .normal)) else opsK T rf l (st.in m) (Q .normal)
 | .seq a b,Q,st=>wp T rf a (fun e st=>seqK e (wp T rf b Q st) (Q e st)) st
 | .cond x a b,Q,st=>boolK (x.ev st.env) fun t=>if t = true then wp T rf a Q st else wp T rf b Q st
 | .block id c,Q,st=>wp T rf c (fun e st=>Q (exIn id e) st) st
 | .loop c,Q,st=>LoopK T c Q st
 | .exit id,Q,st=>Q (.exit id) st
 | .ret,Q,st=>Q .ret st
 | .lib _,_,_=>False
theorem wp_sound {T : Nat → Option Fn} {rf : Nat → Nat → Bool} : ∀ {c : C} {Q : Ex → St → Prop} {st : St},c.okC = true → wp T rf c Q st → ∃ e st',Run T (.code c st) (.code e st') ∧ Q e st'
 | .skip,Q,st,_,h=>⟨_,_,.skip st,h⟩
 |
  .reg d m l,Q,st,hk,h=>by
  simp only [C.okC,Bool.and_eq_true,Bool.or_eq_true,Bool.not_eq_true'] at hk
  obtain ⟨hk,hk2⟩:=hk
  unfold wp at h
  cases d with
  |
   false =>
   obtain ⟨st',h1,h2⟩:=opsK_spec (by simpa using h)
   exact ⟨_,_,.reg hk h1,h2⟩
  |
   true =>
   simp only [Bool.true_eq_false,false_or] at hk2
   simp only [if_true] at h
   split at h
   ·rename_i hw
    simp only [Bool.and_eq_true] at hw
    rcases hk2.2 with h' | h'
    ·rw [h'] at hw;cases hw.1
    obtain ⟨ds,h1,⟨acc,h2,h3⟩,h4,h5⟩:=any0K_any (st.in m).objs.length h' h
    exact ⟨_,_,.regD hk (run_ds hk2.1 h1 h2 h3 h4),h5⟩
   ·obtain ⟨st',h1,h2⟩:=anyK_run hk2.1 h
    exact ⟨_,_,.regD hk h1,h2⟩
 |
  .seq a b,Q,st,hk,h=>by
  simp only [C.okC,Bool.and_eq_true] at hk
  obtain ⟨e,st1,h1,h2⟩:=wp_sound hk.1 (Q:=fun e st=>seqK e (wp T rf b Q st) (Q e st)) h
  cases e with
  |
   normal =>
   obtain ⟨e,st2,h3,h4⟩:=wp_sound hk.2 (Q:=Q) h2
   exact ⟨e,st2,.seqN h1 h3,h4⟩
  | exit id=>exact ⟨_,_,.seqE (by simp) h1,h2⟩
  | ret=>exact ⟨_,_,.seqE (by simp) h1,h2⟩
 |
  .cond x a b,Q,st,hk,h=>by
  simp only [C.okC,Bool.and_eq_true] at hk
  obtain ⟨t,e,h⟩:=boolK_spec h
  cases t with
  |
   true =>
   obtain ⟨e2,st2,h1,h2⟩:=wp_sound hk.1 (Q:=Q) (by simpa using h)
   exact ⟨e2,st2,.cond e h1,h2⟩
  |
   false =>
   obtain ⟨e2,st2,h1,h2⟩:=wp_sound hk.2 (Q:=Q) (by simpa using h)
   exact ⟨e2,st2,.cond e h1,h2⟩
 |
  .block id c,Q,st,hk,h=>by
  obtain ⟨e,st1,h1,h2⟩:=wp_sound (c:=c) (Q:=fun e st=>Q (exIn id e) st) hk h
  exact ⟨_,_,.block h1,h2⟩
 | .loop c,Q,st,_,h=>h
 | .exit id,Q,st,_,h=>⟨_,_,.exit id st,h⟩
 | .ret,Q,st,_,h=>⟨_,_,.ret st,h⟩
 | .lib _,_,_,_,h=>by simp [wp] at h
def wr {α : Sort _} (a : α) : α:=a
theorem nr {α : Sort _} {a b : α} (h : a = b) : a = b:=h
theorem wr_eq {α : Sort _} (a : α) : wr a = a:=nr rfl
def stoK (σ : Store) (k : Store → Prop) : Prop:=k σ
theorem stoK_n (k : Store → Prop) : stoK [] k = k []:=nr rfl
theorem stoK_c (a : Option Obj) (σ : Store) (k : Store → Prop) : stoK (a :: σ) k = k (a :: σ):=nr rfl
@[congr] theorem stoK_cg {v v' : Store} {k : Store → Prop} (h : wr v = v') : stoK v k = stoK v' k:=by rw [← h,wr_eq]
def natK (n : Nat) (k : Nat → Prop) : Prop:=k n
theorem natK_eq (n : Nat) (k : Nat → Prop) : natK n k = k n:=nr rfl
@[congr] theorem natK_cg {v v' : Nat} {k : Nat → Prop} (h : wr v = v') : natK v k = natK v' k:=by rw [← h,wr_eq]
def brK (t : Bool) (a b : Prop) : Prop:=if t = true then a else b
@[congr] theorem brK_cg {t t' : Bool} {a b : Prop} (h : wr t = t') : brK t a b = brK t' a b:=by rw [← h,wr_eq]
theorem brK_t (a b : Prop) : brK true a b = a:=by simp [brK]
theorem brK_f (a b : Prop) : brK false a b = b:=by simp [brK]
theorem brK_not (t : Bool) (a b : Prop) : brK (!t) a b = brK t b a:=by cases t <;> simp [brK]
theorem brK_dec {c : Prop} [Decidable c] {a b : Prop} (h1 : c → a) (h2 : ¬ c → b) : brK (decide c) a b:=by
 unfold brK
 by_cases h : c
 ·rw [if_pos (decide_eq_true h)];exact h1 h
 ·rw [if_neg (by simpa using h)];exact h2 h
def mvK (v : V) (k : V → Prop) : Prop:=k v
theorem mvK_eq (v : V) (k : V → Prop) : mvK v k = k v:=nr rfl
@[congr] theorem mvK_cg {v v' : V} {k : V → Prop} (h : wr v = v') : mvK v k = mvK v' k:=by rw [← h,wr_eq]
@[congr] theorem optK_cg {α : Type} {v v' : Option α} {k : α → Prop} (h : wr v = v') : optK v k = optK v' k:=by rw [← h,wr_eq]
@[congr] theorem boolK_cg {v v' : V} {k : Bool → Prop} (h : wr v = v') : boolK v k = boolK v' k:=by rw [← h,wr_eq]
@[congr] theorem gdK_cg {w : Bool} {v v' : V} {k : Bool → Prop} (h : wr v = v') : gdK w v k = gdK w v' k:=by rw [← h,wr_eq]
@[congr] theorem numK_cg {v v' : List Nat} {k : List Nat → Prop} (h : wr v = v') : numK v k = numK v' k:=by rw [← h,wr_eq]
@[congr] theorem asIdxK_cg {n n' : Nat} {v v' : V} {k : Nat → Prop} (h0 : wr n = n') (h : wr v = v') : asIdxK n v k = asIdxK n' v' k:=by rw [← h0,← h,wr_eq,wr_eq]
@[congr] theorem asBoundK_cg {n n' : Nat} {v v' : V} {k : Nat → Prop} (h0 : wr n = n') (h : wr v = v') : asBoundK n v k = asBoundK n' v' k:=by rw [← h0,← h,wr_eq,wr_eq]
@[congr] theorem binK_cg {op : BinOp} {x x' y y' : V} {k : V → Prop} (h0 : wr x = x') (h : wr y = y') : binK op x y k = binK op x' y' k:=by rw [← h0,← h,wr_eq,wr_eq]
@[congr] theorem PFK_cg {T : Nat → Option Fn} {f : Nat} {as as' : List V} {k : V → Prop} (h : wr as = as') : PFK T f as k = PFK T f as' k:=by rw [← h,wr_eq]
@[congr] theorem RefK_cg {T : Nat → Option Fn} {f f' : Nat} {as : List Src} {d : Option Nat} {st : St} {k : St → Prop} (h : wr f = f') : RefK T f as d st k = RefK T f' as d st k:=by rw [← h,wr_eq]
@[congr] theorem LoopK_cg {T T' : Nat → Option Fn} {c : C} {Q : Ex → St → Prop} {st : St} (h : wr T = T') : LoopK T c Q st = LoopK T' c Q st:=by rw [← h,wr_eq]
@[congr] theorem OkA_cg {L : Nat} {ops : List OpI} {l l' : List Acc} (h : wr l = l') : OkA L ops l = OkA L ops l':=by rw [← h,wr_eq]
@[congr] theorem OwnK_cg {T : Nat → Option Fn} {f f' : Nat} {as : List Src} {d : Option Nat} {st : St} {k : List Nat → List Nat → Bool → St → Prop} (h : wr f = f') : OwnK T f as d st k = OwnK T f' as d st k:=by rw [← h,wr_eq]
theorem optK_some {α : Type} (a : α) (k : α → Prop) : optK (some a) k = k a:=nr rfl
theorem gdK_b (want b : Bool) (k : Bool → Prop) : gdK want (.bool b) k = k b:=nr rfl
theorem gdK_u (want : Bool) (k : Bool → Prop) : gdK want (.tup []) k = k (!want):=nr rfl
theorem boolK_b (b : Bool) (k : Bool → Prop) : boolK (.bool b) k = k b:=nr rfl
theorem numK_nil (k : List Nat → Prop) : numK [] k = k []:=nr rfl
theorem numK_cons (a : Nat) (l : List Nat) (k : List Nat → Prop) : numK (a :: l) k = k (a :: l):=nr rfl
theorem asIdxK_ok {n : Nat} {q : IntKind} {i : Int} {k : Nat → Prop} (h : 0 ≤ i ∧ i < n) : asIdxK n (.int q i) k = k i.toNat:=by
 simp [asIdxK,h]
theorem asBoundK_ok {n : Nat} {q : IntKind} {i : Int} {k : Nat → Prop} (h : 0 ≤ i ∧ i ≤ n) : asBoundK n (.int q i) k = k i.toNat:=by
 simp [asBoundK,h]
theorem w64 {n : Int} (h : -9223372036854775808 ≤ n ∧ n ≤ 9223372036854775807) : IntKind.i64.wrap n = n:=IntWalk.i64_in n h
theorem w32u {n : Int} (h : 0 ≤ n ∧ n ≤ 4294967295) : IntKind.u32.wrap n = n:=IntWalk.u32_in n h
theorem w64u {n : Int} (h : 0 ≤ n ∧ n ≤ 18446744073709551615) : IntKind.u64.wrap n = n:=IntWalk.u64_in n h
theorem w8u {n : Int} (h : 0 ≤ n ∧ n ≤ 255) : IntKind.u8.wrap n = n:=IntWalk.u8_in n h
theorem ev_t (n : Nat) (env : Nat → V) : Src.ev env (.t n) = env n:=nr rfl
theorem ev_c (v : V) (env : Nat → V) : Src.ev env (.c v) = v:=nr rfl
theorem updO_none (env : Nat → V) (v : V) : updO env none v = env:=nr rfl
theorem updO_at (env : Nat → V) (t : Nat) (v : V) (s : Nat) : updO env (some t) v s = if s = t then v else env s:=nr rfl
theorem upd_at (env : Nat → V) (t : Nat) (v : V) (s : Nat) : upd env t v s = if s = t then v else env s:=nr rfl
theorem argE_0 (a : V) (l : List V) : argE (a :: l) 0 = a:=nr rfl
theorem argE_s (a : V) (l : List V) (n : Nat) : argE (a :: l) (n + 1) = argE l n:=nr rfl
theorem argE_n (n : Nat) : argE [] n = .any:=nr rfl
theorem objAt_0 (a : Option Obj) (l : Store) : objAt (a :: l) 0 = a:=nr rfl
theorem objAt_s (a : Option Obj) (l : Store) (n : Nat) : objAt (a :: l) (n + 1) = objAt l n:=nr rfl
theorem objAt_n (n : Nat) : objAt [] n = none:=nr rfl
theorem set_0 (a : Option Obj) (l : Store) (x : Option Obj) : List.set (a :: l) 0 x = x :: l:=nr rfl
theorem set_s (a : Option Obj) (l : Store) (n : Nat) (x : Option Obj) : List.set (a :: l) (n + 1) x = a :: List.set l n x:=nr rfl
theorem padS_0 (σ : Store) : padS σ 0 = σ:=by simp [padS]
theorem padS_s (σ : Store) (n : Nat) : padS σ (n + 1) = padS (σ ++ [none]) n:=by simp [padS,List.replicate_succ]
theorem enter_mk (args : List V) (σ : Store) : St.enter args σ = ⟨argE args,σ,σ.length,0,[],[]⟩:=nr rfl
theorem kill_nil (σ : Store) : killAll σ [] = σ:=nr rfl
theorem kill_cons (σ : Store) (o : Nat) (l : List Nat) : killAll σ (o :: l) = killAll (σ.set o none) l:=nr rfl
section
variable (T : Nat → Option Fn) (rf : Nat → Nat → Bool) (Q : Ex → St → Prop) (st : St) (k : St → Prop) (env : Nat → V) (σ : Store) (kp bs : Nat) (rs ms : List Nat)
def goK (st : St) (d : Option Nat) (id : Nat) (ef : Eff) (k : St → Prop) : Prop:=k (ef.go st d id)
@[congr] theorem goK_cg {st : St} {d : Option Nat} {id id' : Nat} {ef : Eff} {k : St → Prop} (h : wr id = id') : goK st d id ef k = goK st d id' ef k:=by rw [← h,wr_eq]
theorem goK_v (t id : Nat) (v : V) : goK ⟨env,σ,kp,bs,rs,ms⟩ (some t) id (.val v) k = k ⟨upd env t v,σ,kp,bs,rs,ms⟩:=nr rfl
theorem goK_v0 (id : Nat) (v : V) : goK ⟨env,σ,kp,bs,rs,ms⟩ none id (.val v) k = k ⟨env,σ,kp,bs,rs,ms⟩:=nr rfl
theorem goK_p (t id : Nat) (ob : Obj) : goK ⟨env,σ,kp,bs,rs,ms⟩ (some t) id (.newP ob) k = stoK (σ.set id (some ob)) fun σ=>k ⟨upd env t (.ptr id 0 0),σ,kp,bs,rs,ms⟩:=nr rfl
theorem goK_s (t id : Nat) (ob : Obj) (n : Nat) : goK ⟨env,σ,kp,bs,rs,ms⟩ (some t) id (.newS ob n) k = stoK (σ.set id (some ob)) fun σ=>k ⟨upd env t (.msl id 0 n),σ,kp,bs,rs,ms⟩:=nr rfl
theorem goK_u (id o : Nat) (ob : Obj) : goK ⟨env,σ,kp,bs,rs,ms⟩ none id (.upd o ob) k = stoK (σ.set o (some ob)) fun σ=>k ⟨env,σ,kp,bs,rs,ms⟩:=nr rfl
theorem goK_m (t id o : Nat) (ob : Obj) (n : Nat) : goK ⟨env,σ,kp,bs,rs,ms⟩ (some t) id (.mov o ob n) k = stoK ((σ.set o none).set id (some ob)) fun σ=>k ⟨upd env t (.msl id 0 n),σ,kp,bs,rs,ms⟩:=nr rfl
theorem wp_skip : wp T rf .skip Q st = Q .normal st:=nr rfl
theorem wp_regF (m : Nat) (l : List OpI) : wp T rf (.reg false m l) Q ⟨env,σ,kp,bs,rs,ms⟩ = natK σ.length fun b=>stoK (padS σ m) fun σ=>opsK T rf l ⟨env,σ,kp,b,[],[]⟩ (Q .normal):=nr rfl
theorem wp_regT (m : Nat) (l : List OpI) : wp T rf (.reg true m l) Q ⟨env,σ,kp,bs,rs,ms⟩ = natK σ.length fun b=>stoK (padS σ m) fun σ=>if (noWr l && noRf rf l) = true then any0K T l ⟨env,σ,kp,b,[],[]⟩ (Q .normal) else natK σ.length fun L=>anyK T rf L l l 0 [] ⟨env,σ,kp,b,[],[]⟩ (Q .normal):=nr rfl
theorem wp_seq (a b : C) : wp T rf (.seq a b) Q st = wp T rf a (fun e st=>seqK e (wp T rf b Q st) (Q e st)) st:=nr rfl
theorem wp_cond (x : Src) (a b : C) : wp T rf (.cond x a b) Q st = boolK (x.ev st.env) fun t=>if t = true then wp T rf a Q st else wp T rf b Q st:=nr rfl
theorem wp_cond' (x : Src) (a b : C) : wp T rf (.cond x a b) Q ⟨env,σ,kp,bs,rs,ms⟩ = boolK (x.ev env) fun t=>brK t (wp T rf a Q ⟨env,σ,kp,bs,rs,ms⟩) (wp T rf b Q ⟨env,σ,kp,bs,rs,ms⟩):=nr rfl
theorem wp_block (id : Nat) (c : C) : wp T rf (.block id c) Q st = wp T rf c (fun e st=>Q (exIn id e) st) st:=nr rfl
theorem wp_loop (c : C) : wp T rf (.loop c) Q st = LoopK T c Q st:=nr rfl
theorem wp_exit (id : Nat) : wp T rf (.exit id) Q st = Q (.exit id) st:=nr rfl
theorem wp_ret : wp T rf .ret Q st = Q .ret st:=nr rfl
theorem seqK_n (a b : Prop) : seqK .normal a b = a:=nr rfl
theorem seqK_e (id : Nat) (a b : Prop) : seqK (.exit id) a b = b:=nr rfl
theorem seqK_r (a b : Prop) : seqK .ret a b = b:=nr rfl
theorem exIn_n (id : Nat) : exIn id .normal = .normal:=nr rfl
theorem exIn_r (id : Nat) : exIn id .ret = .ret:=nr rfl
theorem exIn_e (id j : Nat) : exIn id (.exit j) = if j = id then .normal else .exit j:=nr rfl
theorem opsK_n : opsK T rf [] st k = k st:=nr rfl
theorem opsK_c (o : OpI) (l : List OpI) : opsK T rf (o :: l) st k = opK T rf o st fun st=>opsK T rf l st k:=nr rfl
theorem opK_mk (g : Option (Nat × Bool)) (d : Option Nat) (n : Nat) (i : I) (a : List Nat) : opK T rf ⟨g,d,n,i,a⟩ ⟨env,σ,kp,bs,rs,ms⟩ k = gK g env (match i with
  | .call f as=>if rf f (dN d) = true then RefK T f as d ⟨env,σ,kp,bs,rs,ms⟩ k else resK env σ as fun as'=>PFK T f as' fun r =>
    stoK (killAll σ (if scalar SD r then [] else reachAll env σ as)) fun σ=>k ⟨updO env d r,σ,kp,bs,rs,ms⟩
  | i=>natK (bs + n) fun id=>i.effK env σ fun ef=>goK ⟨env,σ,kp,bs,rs,ms⟩ d id ef k)
  (k ⟨updO env d (.tup []),σ,kp,bs,rs,ms⟩):=by cases i <;> rfl
theorem any0K_n : any0K T [] st k = k st:=nr rfl
theorem any0K_c (g : Option (Nat × Bool)) (d : Option Nat) (n : Nat) (i : I) (a : List Nat) (l : List OpI) : any0K T (⟨g,d,n,i,a⟩ :: l) ⟨env,σ,kp,bs,rs,ms⟩ k = gK g env (match i with
  | .call f as=>resK env σ as fun as'=>PFK T f as' fun r=>numK (reachAll env σ as) fun R =>
    (R = [] ∨ scalar SD r = true) ∧ any0K T l ⟨updO env d r,σ,kp,bs,rs,ms⟩ k
  | x=>x.effK env σ fun ef=>valK ef fun v=>any0K T l ⟨updO env d v,σ,kp,bs,rs,ms⟩ k)
  (any0K T l ⟨updO env d (.tup []),σ,kp,bs,rs,ms⟩ k):=by cases i <;> rfl
theorem anyK_n (L : Nat) (ops : List OpI) (i : Nat) (acc : List Acc) : anyK T rf L ops [] i acc st k = (OkA L ops acc ∧ k st):=nr rfl
theorem anyK_c (L : Nat) (ops : List OpI) (g : Option (Nat × Bool)) (d : Option Nat) (n : Nat) (x : I) (a : List Nat) (l : List OpI) (i : Nat) (acc : List Acc) : anyK T rf L ops (⟨g,d,n,x,a⟩ :: l) i acc ⟨env,σ,kp,bs,rs,ms⟩ k = gK g env (match x with
  | .call f as=>if rf f (dN d) = true then OwnK T f as d ⟨env,σ,kp,bs,rs,ms⟩ fun R W n st=>natK (i + 1) fun j=>anyK T rf L ops l j (⟨i,R,W,n⟩ :: acc) st k
    else resK env σ as fun as'=>PFK T f as' fun r=>numK (reachAll env σ as) fun R =>
    (R = [] ∨ scalar SD r = true) ∧ natK (i + 1) fun j=>anyK T rf L ops l j (⟨i,R,[],false⟩ :: acc) ⟨updO env d r,σ,kp,bs,rs,ms⟩ k
  | x
    => numK (x.reads env) fun R=>natK (bs + n) fun id=>x.effK env σ fun ef=>numK (ef.wr id) fun W=>natK (i + 1) fun j =>
    goK ⟨env,σ,kp,bs,rs,ms⟩ d id ef fun st=>anyK T rf L ops l j (⟨i,R,W,false⟩ :: acc) st k)
  (natK (i + 1) fun j=>anyK T rf L ops l j (⟨i,[],[],false⟩ :: acc) ⟨updO env d (.tup []),σ,kp,bs,rs,ms⟩ k):=by cases x <;> rfl
end
theorem gK_0 (env : Nat → V) (a b : Prop) : gK none env a b = a:=nr rfl
theorem gK_t (t : Nat) (env : Nat → V) (on off : Prop) : gK (some (t,true)) env on off = gdK true (env t) fun b=>brK b on off:=nr rfl
theorem gK_f (t : Nat) (env : Nat → V) (on off : Prop) : gK (some (t,false)) env on off = gdK false (env t) fun b=>brK b off on:=nr rfl
theorem valK_v (v : V) (k : V → Prop) : valK (.val v) k = k v:=nr rfl
theorem wr_v (v : V) (id : Nat) : Eff.wr id (.val v) = []:=nr rfl
theorem wr_p (ob : Obj) (id : Nat) : Eff.wr id (.newP ob) = [id]:=nr rfl
theorem wr_s (ob : Obj) (n : Nat) (id : Nat) : Eff.wr id (.newS ob n) = [id]:=nr rfl
theorem wr_u (ob : Obj) (o : Nat) (id : Nat) : Eff.wr id (.upd o ob) = [o]:=nr rfl
theorem wr_m (ob : Obj) (o n : Nat) (id : Nat) : Eff.wr id (.mov o ob n) = [o,id]:=nr rfl
def cellsK (v : V) (k : List V → Prop) : Prop:=optK v.cells? k
@[congr] theorem cellsK_cg {v v' : V} {k : List V → Prop} (h : wr v = v') : cellsK v k = cellsK v' k:=by rw [← h,wr_eq]
theorem cellsK_int (q : IntKind) (n : Int) (k : List V → Prop) : cellsK (.int q n) k = k [.int q n]:=nr rfl
theorem cellsK_bool (b : Bool) (k : List V → Prop) : cellsK (.bool b) k = k [.bool b]:=nr rfl
theorem cellsK_str (s : List UInt8) (k : List V → Prop) : cellsK (.str s) k = k [.str s]:=nr rfl
theorem cellsK_nils (k : List V → Prop) : cellsK .nils k = k [.nils]:=nr rfl
theorem cellsK_one (k : List V → Prop) : cellsK .one k = k [.one]:=nr rfl
theorem cellsK_sl (sz : Nat) (r : List (List V)) (k : List V → Prop) : cellsK (.sl sz r) k = k [.sl sz r]:=nr rfl
theorem cellsK_msl (o s l : Nat) (k : List V → Prop) : cellsK (.msl o s l) k = k [.msl o s l]:=nr rfl
theorem cellsK_ptr (o s l : Nat) (k : List V → Prop) : cellsK (.ptr o s l) k = k [.ptr o s l]:=nr rfl
theorem cellsK_fptr (r : List V) (o : Nat) (k : List V → Prop) : cellsK (.fptr r o) k = k [.fptr r o]:=nr rfl
theorem cellsK_agg (cs : List V) (k : List V → Prop) : cellsK (.agg cs) k = if cs.all V.leaf = true then k cs else False:=by
 simp only [cellsK,V.cells?];split <;> rfl
def refK (σ : Store) (v : V) (k : Nat → Nat → Nat → Prop) (kf : List V → Nat → Prop) : Prop:=match v with
 | .ptr o r off=>k o r off
 | .fptr row off=>kf row off
 | _=>False
@[congr] theorem refK_cg {σ : Store} {v v' : V} {k : Nat → Nat → Nat → Prop} {kf : List V → Nat → Prop} (h : wr v = v') : refK σ v k kf = refK σ v' k kf:=by rw [← h,wr_eq]
theorem refK_p (σ : Store) (o r off : Nat) (k : Nat → Nat → Nat → Prop) (kf : List V → Nat → Prop) : refK σ (.ptr o r off) k kf = k o r off:=nr rfl
theorem refK_f (σ : Store) (r : List V) (off : Nat) (k : Nat → Nat → Nat → Prop) (kf : List V → Nat → Prop) : refK σ (.fptr r off) k kf = kf r off:=nr rfl
def slK (v : V) (kn : Prop) (kf : Nat → List (List V) → Prop) (km : Nat → Nat → Nat → Prop) : Prop:=match v with
 | .nils=>kn
 | .sl sz rows=>kf sz rows
 | .msl o s l=>km o s l
 | _=>False
@[congr] theorem slK_cg {v v' : V} {kn : Prop} {kf : Nat → List (List V) → Prop} {km : Nat → Nat → Nat → Prop} (h : wr v = v') : slK v kn kf km = slK v' kn kf km:=by rw [← h,wr_eq]
theorem slK_n (kn : Prop) (kf : Nat → List (List V) → Prop) (km : Nat → Nat → Nat → Prop) : slK .nils kn kf km = kn:=nr rfl
theorem slK_f (sz : Nat) (r : List (List V)) (kn : Prop) (kf : Nat → List (List V) → Prop) (km : Nat → Nat → Nat → Prop) : slK (.sl sz r) kn kf km = kf sz r:=nr rfl
theorem slK_m (o s l : Nat) (kn : Prop) (kf : Nat → List (List V) → Prop) (km : Nat → Nat → Nat → Prop) : slK (.msl o s l) kn kf km = km o s l:=nr rfl
def intK (v : V) (k : IntKind → Int → Prop) : Prop:=match v with
 | .int q n=>k q n
 | _=>False
@[congr] theorem intK_cg {v v' : V} {k : IntKind → Int → Prop} (h : wr v = v') : intK v k = intK v' k:=by rw [← h,wr_eq]
theorem intK_i (q : IntKind) (n : Int) (k : IntKind → Int → Prop) : intK (.int q n) k = k q n:=nr rfl
def strK (v : V) (k : List UInt8 → Prop) : Prop:=match v with
 | .str s=>k s
 | _=>False
@[congr] theorem strK_cg {v v' : V} {k : List UInt8 → Prop} (h : wr v = v') : strK v k = strK v' k:=by rw [← h,wr_eq]
theorem strK_s (s : List UInt8) (k : List UInt8 → Prop) : strK (.str s) k = k s:=nr rfl
def tupK (v : V) (k : List V → Prop) : Prop:=match v with
 | .tup s=>k s
 | _=>False
@[congr] theorem tupK_cg {v v' : V} {k : List V → Prop} (h : wr v = v') : tupK v k = tupK v' k:=by rw [← h,wr_eq]
def aggK (v : V) (k : List V → Prop) : Prop:=match v with
 | .agg s=>k s
 | _=>False
@[congr] theorem aggK_cg {v v' : V} {k : List V → Prop} (h : wr v = v') : aggK v k = aggK v' k:=by rw [← h,wr_eq]
theorem aggK_a (s : List V) (k : List V → Prop) : aggK (.agg s) k = k s:=nr rfl
theorem tupK_t (s : List V) (k : List V → Prop) : tupK (.tup s) k = k s:=nr rfl
section
variable (env : Nat → V) (σ : Store) (k : Eff → Prop)
theorem e_mov (x : Src) : I.effK env σ (.mov x) k = mvK (x.ev env) fun v=>k (.val v):=nr rfl
theorem e_pick (c a b : Src) : I.effK env σ (.pick c a b) k = boolK (c.ev env) fun t=>brK t (mvK (a.ev env) fun v=>k (.val v)) (mvK (b.ev env) fun v=>k (.val v)):=by
 simp only [I.effK];cases c.ev env with | bool t=>cases t <;> rfl | _=>rfl
theorem e_alloc (z : List V) : I.effK env σ (.alloc z) k = k (.newP ⟨z.length,[z]⟩):=nr rfl
theorem e_box (x : Src) : I.effK env σ (.box x) k = cellsK (x.ev env) fun cs=>match cs with | c :: cs=>k (.newP ⟨(c :: cs).length,[c :: cs]⟩) | []=>False:=by
 simp only [I.effK,cellsK];cases (x.ev env).cells? with | none=>rfl | some cs=>cases cs <;> rfl
theorem e_build (z : List V) (ps : List (Nat × Nat × Src)) : I.effK env σ (.build z ps) k = optK (fillRow env z ps) fun cs=>k (.val (.agg cs)):=nr rfl
theorem e_mkSl (sz : Nat) (z : List V) (ln : Nat) (ps : List (Nat × Src)) : I.effK env σ (.mkSl sz z ln ps) k =
  optK (fillRows env sz (List.replicate ln z) ps) fun rows=>if ln = 0 then k (.val .nils) else k (.newS ⟨sz,rows⟩ ln):=nr rfl
theorem e_make (z : List V) (b : Nat) (x : Src) : I.effK env σ (.make z b x) k = intK (x.ev env) fun q n=>match q with
  | .i64=>(0 ≤ n ∧ n ≤ 2 ^ 47 ∧ n * b ≤ 2 ^ 47) ∧ k (.newS ⟨z.length,List.replicate n.toNat z⟩ n.toNat) | _=>False:=by
 simp only [I.effK];cases x.ev env with | int q n=>cases q <;> rfl | _=>rfl
theorem e_load1 (n : Nat) (a : Src) : I.effK env σ (.load n false a) k = optK (rowAt σ (a.ev env)) fun p=>optK p.1[p.2]? fun v=>mvK v fun v=>k (.val v):=nr rfl
theorem e_loadn (n : Nat) (a : Src) : I.effK env σ (.load n true a) k = optK (rowAt σ (a.ev env)) fun p=>p.2 + n ≤ p.1.length ∧ mvK (.agg ((p.1.drop p.2).take n)) fun v=>k (.val v):=nr rfl
theorem
    e_store (n : Nat) (a x : Src) : I.effK env σ (.store n a x) k = refK σ (a.ev env) (fun o r off=>cellsK (x.ev env) fun cs=>optK (objAt σ o) fun ob=>optK ob.rows[r]? fun row =>
    (cs.length = n ∧ off + n ≤ row.length) ∧ k (.upd o ⟨ob.sz,ob.rows.set r (splice row off cs)⟩)) fun _ _=>False:=by
 simp only [I.effK];cases a.ev env <;> rfl
theorem e_fld (d : Nat) (a : Src) : I.effK env σ (.fld d a) k = refK σ (a.ev env) (fun o r off=>optK (objAt σ o) fun _=>mvK (.ptr o r (off + d)) fun v=>k (.val v)) fun row off=>mvK (.fptr row (off + d)) fun v=>k (.val v):=by
 simp only [I.effK];cases a.ev env <;> rfl
theorem e_idx (sz : Nat) (x i : Src) : I.effK env σ (.idx sz x i) k = slK (x.ev env) False (fun sz' rows=>asIdxK rows.length (i.ev env) fun j=>sz' = sz ∧ mvK (.fptr (rows.getD j []) 0) fun v=>k (.val v))
  (fun o s l=>optK (objAt σ o) fun ob=>asIdxK l (i.ev env) fun j=>ob.sz = sz ∧ mvK (.ptr o (s + j) 0) fun v=>k (.val v)):=by
 simp only [I.effK];cases x.ev env <;> rfl
theorem e_idxA (c sz : Nat) (x i : Src) : I.effK env σ (.idxA c sz x i) k = refK σ (x.ev env) (fun o r off=>asIdxK c (i.ev env) fun j=>optK (objAt σ o) fun _=>mvK (.ptr o r (off + j * sz)) fun v=>k (.val v))
  fun row off=>asIdxK c (i.ev env) fun j=>mvK (.fptr row (off + j * sz)) fun v=>k (.val v):=by
 simp only [I.effK];cases x.ev env <;> rfl
theorem e_idxS (x i : Src) : I.effK env σ (.idxS x i) k = strK (x.ev env) fun s=>asIdxK s.length (i.ev env) fun j=>mvK (.int .u8 (s.getD j 0).toNat) fun v=>k (.val v):=by
 simp only [I.effK];cases x.ev env <;> rfl
theorem e_idxV (c : Nat) (x i : Src) : I.effK env σ (.idxV c x i) k = aggK (x.ev env) fun cs=>asIdxK c (i.ev env) fun j=>optK cs[j]? fun v=>mvK v fun v=>k (.val v):=by
 simp only [I.effK];cases x.ev env <;> rfl
theorem e_len (x : Src) : I.effK env σ (.len x) k = optK (lenOf σ (x.ev env)) fun n=>mvK (.int .i64 n) fun v=>k (.val v):=nr rfl
theorem e_lenS (x : Src) : I.effK env σ (.lenS x) k = strK (x.ev env) fun s=>mvK (.int .i64 s.length) fun v=>k (.val v):=by
 simp only [I.effK];cases x.ev env <;> rfl
theorem e_bin (op : BinOp) (x y : Src) : I.effK env σ (.bin op x y) k = binK op (x.ev env) (y.ev env) fun v=>mvK v fun v=>k (.val v):=nr rfl
theorem e_beq (ne : Bool) (x y : Src) : I.effK env σ (.beq ne x y) k = boolK (x.ev env) fun a=>boolK (y.ev env) fun b=>mvK (.bool (if ne = true then !(a == b) else a == b)) fun v=>k (.val v):=by
 simp only [I.effK];cases x.ev env <;> first | rfl | (cases y.ev env <;> rfl)
theorem e_not (x : Src) : I.effK env σ (.un .not x) k = boolK (x.ev env) fun a=>mvK (.bool (!a)) fun v=>k (.val v):=by
 simp only [I.effK];cases x.ev env <;> rfl
theorem e_neg (x : Src) : I.effK env σ (.un .neg x) k = intK (x.ev env) fun q n=>mvK (.int q (q.wrap (0 - n))) fun v=>k (.val v):=by
 simp only [I.effK];cases x.ev env <;> rfl
theorem e_conv (q : IntKind) (x : Src) : I.effK env σ (.conv q x) k = intK (x.ev env) fun _ n=>mvK (.int q (q.wrap n)) fun v=>k (.val v):=by
 simp only [I.effK];cases x.ev env <;> rfl
theorem e_max (x y : Src) : I.effK env σ (.max x y) k = intK (x.ev env) fun q a=>intK (y.ev env) fun q' b=>q = q' ∧ mvK (.int q (if b > a then b else a)) fun v=>k (.val v):=by
 simp only [I.effK];cases x.ev env <;> first | rfl | (cases y.ev env <;> rfl)
theorem e_extr (i : Nat) (x : Src) : I.effK env σ (.extr i x) k = tupK (x.ev env) fun vs=>optK vs[i]? fun v=>mvK v fun v=>k (.val v):=by
 simp only [I.effK];cases x.ev env <;> rfl
theorem e_chk (x : Src) : I.effK env σ (.chk x) k = refK σ (x.ev env) (fun o r off=>optK (objAt σ o) fun _=>k (.val (.ptr o r off))) fun row off=>k (.val (.fptr row off)):=by
 simp only [I.effK];cases x.ev env <;> rfl
theorem e_app (sz b : Nat) (x y : Src) : I.effK env σ (.app sz b x y) k = mvK (x.ev env) fun xv=>optK (rowsOf σ xv) fun old=>optK (rowsOf σ (y.ev env)) fun new =>
  (new.2 = [] → k (.val xv)) ∧ (new.2 ≠ [] → (new.1 = sz ∧ (old.2.length + new.2.length) * b ≤ 2 ^ 40 ∧ old.2.length + new.2.length ≤ 2 ^ 40) ∧
   slK xv (k (.newS ⟨sz,new.2⟩ new.2.length)) (fun _ _=>False) fun o _ _=>optK (objAt σ o) fun ob=>ob.sz = sz ∧ k (.mov o ⟨sz,old.2 ++ new.2⟩ (old.2.length + new.2.length))):=by
 simp only [I.effK,mvK];cases x.ev env <;> rfl
end
section
variable (k : V → Prop) (q : IntKind) (a b : Int)
theorem b_add : binK .add (.int q a) (.int q b) k = k (.int q (q.wrap (a + b))):=by simp [binK]
theorem b_sub : binK .sub (.int q a) (.int q b) k = k (.int q (q.wrap (a - b))):=by simp [binK]
theorem b_mul : binK .mul (.int q a) (.int q b) k = k (.int q (q.wrap (a * b))):=by simp [binK]
theorem b_quo {b : Int} (h : b ≠ 0) : binK .quo (.int q a) (.int q b) k = k (.int q (q.wrap (a.tdiv b))):=by simp [binK,h]
theorem b_rem {b : Int} (h : b ≠ 0) : binK .rem (.int q a) (.int q b) k = k (.int q (a.tmod b)):=by simp [binK,h]
theorem b_eql : binK .eql (.int q a) (.int q b) k = k (.bool (decide (a = b))):=by simp [binK];rfl
theorem b_neq : binK .neq (.int q a) (.int q b) k = k (.bool (!decide (a = b))):=by simp [binK,bne];rfl
theorem b_lss : binK .lss (.int q a) (.int q b) k = k (.bool (decide (a < b))):=by simp [binK]
theorem b_leq : binK .leq (.int q a) (.int q b) k = k (.bool (decide (a ≤ b))):=by simp [binK]
theorem b_gtr : binK .gtr (.int q a) (.int q b) k = k (.bool (decide (b < a))):=by simp [binK]
theorem b_geq : binK .geq (.int q a) (.int q b) k = k (.bool (decide (b ≤ a))):=by simp [binK]
theorem b_shr (q' : IntKind) (h : 0 ≤ b) : binK .shr (.int q a) (.int q' b) k = k (.int q (a.fdiv (2 ^ (min b.toNat q.bits)))):=by simp [binK,h]
theorem b_and : binK .and (.int q a) (.int q b) k = k (.int q (bitsAnd q a b)):=by simp [binK]
theorem b_xor : binK .xor (.int q a) (.int q b) k = k (.int q (bitsXor q a b)):=by simp [binK]
theorem b_eqls (s t : List UInt8) : binK .eql (.str s) (.str t) k = k (.bool (s == t)):=nr rfl
theorem b_neqs (s t : List UInt8) : binK .neq (.str s) (.str t) k = k (.bool (!(s == t))):=nr rfl
end
theorem rowAt_f (σ : Store) (row : List V) (off : Nat) : rowAt σ (.fptr row off) = some (row,off):=nr rfl
theorem rowAt_p (σ : Store) (o r off : Nat) : rowAt σ (.ptr o r off) = match objAt σ o with | some ob=>(ob.rows[r]?).map (·,off) | none=>none:=nr rfl
theorem lenOf_n (σ : Store) : lenOf σ .nils = some 0:=nr rfl
theorem lenOf_f (σ : Store) (sz : Nat) (rows : List (List V)) : lenOf σ (.sl sz rows) = some rows.length:=nr rfl
theorem lenOf_m (σ : Store) (o s l : Nat) : lenOf σ (.msl o s l) = (objAt σ o).map fun _=>l:=nr rfl
theorem rowsOf_n (σ : Store) : rowsOf σ .nils = some (0,[]):=nr rfl
theorem rowsOf_f (σ : Store) (sz : Nat) (rows : List (List V)) : rowsOf σ (.sl sz rows) = some (sz,rows):=nr rfl
theorem rowsOf_m (σ : Store) (o s l : Nat) : rowsOf σ (.msl o s l) = match objAt σ o with
  | some ob=>if s + l ≤ ob.rows.length then some (ob.sz,(ob.rows.drop s).take l) else none
  | none=>none:=nr rfl
theorem resK_n (env : Nat → V) (σ : Store) (k : List V → Prop) : resK env σ [] k = k []:=nr rfl
theorem resK_c (env : Nat → V) (σ : Store) (s : Src) (as : List Src) (k : List V → Prop) : resK env σ (s :: as) k = mvK (s.ev env) fun v=>optK (resolve σ FD v) fun v=>resK env σ as fun vs=>k (v :: vs):=nr rfl
def resC (σ : Store) : List V → Option (List V)
 | []=>some []
 |
  c :: cs=>match resolve σ 11 c with
  |
   some d=>match resC σ cs with
   | some ds=>some (d :: ds)
   | none=>none
  | none=>none
theorem resC_eq (σ : Store) : ∀ cs,cs.mapM (resolve σ 11) = resC σ cs
 | []=>rfl
 |
  c :: cs=>by
  simp only [List.mapM_cons,resC,resC_eq σ cs]
  cases resolve σ 11 c with
  | none=>rfl
  | some d=>cases resC σ cs <;> rfl
theorem r_int (σ : Store) (q : IntKind) (n : Int) : resolve σ FD (.int q n) = some (.int q n):=nr rfl
theorem r_bool (σ : Store) (b : Bool) : resolve σ FD (.bool b) = some (.bool b):=nr rfl
theorem r_str (σ : Store) (s : List UInt8) : resolve σ FD (.str s) = some (.str s):=nr rfl
theorem r_nils (σ : Store) : resolve σ FD .nils = some .nils:=nr rfl
theorem r_one (σ : Store) : resolve σ FD .one = some .one:=nr rfl
theorem r_sl (σ : Store) (sz : Nat) (r : List (List V)) : resolve σ FD (.sl sz r) = some (.sl sz r):=nr rfl
theorem r_fptr (σ : Store) (r : List V) (o : Nat) : resolve σ FD (.fptr r o) = some (.fptr r o):=nr rfl
theorem r_agg (σ : Store) (cs : List V) : resolve σ FD (.agg cs) = (resC σ cs).map .agg:=by rw [← resC_eq];rfl
theorem r_tup (σ : Store) (cs : List V) : resolve σ FD (.tup cs) = (resC σ cs).map .tup:=by rw [← resC_eq];rfl
theorem resC_n (σ : Store) : resC σ [] = some []:=nr rfl
theorem resC_c (σ : Store) (c : V) (cs : List V) : resC σ (c :: cs) = match resolve σ 11 c with
  |
   some d=>match resC σ cs with
   | some ds=>some (d :: ds)
   | none=>none
  | none=>none:=nr rfl
theorem r1_int (σ : Store) (q : IntKind) (n : Int) : resolve σ 11 (.int q n) = some (.int q n):=nr rfl
theorem r1_bool (σ : Store) (b : Bool) : resolve σ 11 (.bool b) = some (.bool b):=nr rfl
theorem r1_str (σ : Store) (s : List UInt8) : resolve σ 11 (.str s) = some (.str s):=nr rfl
theorem r1_nils (σ : Store) : resolve σ 11 .nils = some .nils:=nr rfl
theorem r1_one (σ : Store) : resolve σ 11 .one = some .one:=nr rfl
theorem r1_sl (σ : Store) (sz : Nat) (r : List (List V)) : resolve σ 11 (.sl sz r) = some (.sl sz r):=nr rfl
theorem r1_fptr (σ : Store) (r : List V) (o : Nat) : resolve σ 11 (.fptr r o) = some (.fptr r o):=nr rfl
def V.still : V → Bool
 | .one | .int .. | .bool _ | .str _ | .nils | .sl .. | .fptr ..=>true
 | _=>false
def stillR (rows : List (List V)) : Prop:=∀ r ∈ rows,∀ v ∈ r,v.still = true
theorem res_still {σ : Store} {n : Nat} {v : V} (h : v.still = true) : resolve σ (n + 1) v = some v:=by
 cases v <;> first | rfl | cases h
theorem mapM_still {σ : Store} {n : Nat} : ∀ {r : List V},(∀ v ∈ r,v.still = true) → r.mapM (resolve σ (n + 1)) = some r
 | [],_=>rfl
 |
  v :: r,h=>by
  rw [List.mapM_cons,res_still (h v (by simp)),mapM_still fun x hx=>h x (by simp [hx])];rfl
theorem mapM_stillR {σ : Store} {n : Nat} : ∀ {rows : List (List V)},stillR rows → (rows.mapM fun (r : List V)=>r.mapM (resolve σ (n + 1))) = some rows
 | [],_=>rfl
 |
  r :: rows,h=>by
  rw [List.mapM_cons,mapM_still (h r (by simp)),mapM_stillR fun x hx=>h x (by simp [hx])];rfl
theorem stillR.part {rows : List (List V)} (h : stillR rows) (s l : Nat) : stillR ((rows.drop s).take l):=fun r hr=>h r (List.mem_of_mem_drop (List.mem_of_mem_take hr))
theorem ra_n (env : Nat → V) (σ : Store) : reachAll env σ [] = []:=nr rfl
theorem ra_c (env : Nat → V) (σ : Store) (s : Src) (as : List Src) : reachAll env σ (s :: as) = reach σ FD (s.ev env) ++ reachAll env σ as:=nr rfl
theorem reach_still {σ : Store} {n : Nat} {v : V} (h : v.still = true) : reach σ (n + 1) v = []:=by
 cases v <;> first | rfl | cases h
theorem h_int (σ : Store) (q : IntKind) (n : Int) : reach σ FD (.int q n) = []:=nr rfl
theorem h_bool (σ : Store) (b : Bool) : reach σ FD (.bool b) = []:=nr rfl
theorem h_str (σ : Store) (s : List UInt8) : reach σ FD (.str s) = []:=nr rfl
theorem h_nils (σ : Store) : reach σ FD .nils = []:=nr rfl
theorem h_sl (σ : Store) (sz : Nat) (r : List (List V)) : reach σ FD (.sl sz r) = []:=nr rfl
theorem h_fptr (σ : Store) (r : List V) (o : Nat) : reach σ FD (.fptr r o) = []:=nr rfl
def reachC (σ : Store) (cs : List V) : List Nat:=cs.flatMap (reach σ 11)
theorem h_agg (σ : Store) (cs : List V) : reach σ FD (.agg cs) = reachC σ cs:=nr rfl
theorem hC_n (σ : Store) : reachC σ [] = []:=nr rfl
theorem hC_c (σ : Store) (c : V) (cs : List V) : reachC σ (c :: cs) = reach σ 11 c ++ reachC σ cs:=nr rfl
theorem h1_int (σ : Store) (q : IntKind) (n : Int) : reach σ 11 (.int q n) = []:=nr rfl
theorem h1_bool (σ : Store) (b : Bool) : reach σ 11 (.bool b) = []:=nr rfl
theorem h1_str (σ : Store) (s : List UInt8) : reach σ 11 (.str s) = []:=nr rfl
theorem h1_nils (σ : Store) : reach σ 11 .nils = []:=nr rfl
theorem h1_sl (σ : Store) (sz : Nat) (r : List (List V)) : reach σ 11 (.sl sz r) = []:=nr rfl
theorem h1_fptr (σ : Store) (r : List V) (o : Nat) : reach σ 11 (.fptr r o) = []:=nr rfl
theorem s_int (q : IntKind) (n : Int) : scalar SD (.int q n) = true:=nr rfl
theorem s_bool (b : Bool) : scalar SD (.bool b) = true:=nr rfl
theorem s_str (s : List UInt8) : scalar SD (.str s) = true:=nr rfl
def outK : List Res → List V → St → (V → Prop) → Prop
 | [],acc,st,k=>mvK (packRes acc.reverse) fun v=>optK (resolve st.objs FD v) k
 | r :: rs,acc,st,k=>optK (r.get st) fun v=>mvK v fun v=>outK rs (v :: acc) st k
theorem outK_spec {st : St} {k : V → Prop} : ∀ (rs : List Res) (acc : List V),outK rs acc st k → optK (rs.mapM (Res.get st)) fun vs=>optK (resolve st.objs FD (packRes (acc.reverse ++ vs))) k
 | [],acc,h=>by simpa [optK,outK,mvK] using h
 |
  r :: rs,acc,h=>by
  obtain ⟨v,e,h⟩:=optK_spec h
  have:=outK_spec rs (v :: acc) h
  obtain ⟨vs,e2,h⟩:=optK_spec this
  simp only [List.mapM_cons,e,e2]
  simpa [optK,wr] using h
def endK (rs : List Res) (e : Ex) (k : V → Prop) (st : St) : Prop:=match e with
 | .normal=>outK rs [] st k
 | .ret=>outK rs [] st k
 | .exit _=>False
theorem endK_n (rs : List Res) (k : V → Prop) (st : St) : endK rs .normal k st = outK rs [] st k:=nr rfl
theorem endK_r (rs : List Res) (k : V → Prop) (st : St) : endK rs .ret k st = outK rs [] st k:=nr rfl
theorem outK_n (acc : List V) (st : St) (k : V → Prop) : outK [] acc st k = mvK (packRes acc.reverse) fun v=>optK (resolve st.objs FD v) k:=nr rfl
theorem outK_t (t : Nat) (rs : List Res) (acc : List V) (st : St) (k : V → Prop) : outK (.tmp t :: rs) acc st k = mvK (st.env t) fun v=>outK rs (v :: acc) st k:=nr rfl
theorem outK_c1 (t n : Nat) (rs : List Res) (acc : List V) (st : St) (k : V → Prop) : outK (.cell t n false :: rs) acc st k = optK (rowAt st.objs (st.env t)) fun p=>optK p.1[p.2]? fun v=>mvK v fun v=>outK rs (v :: acc) st k:=by
 simp only [outK,Res.get]
 cases rowAt st.objs (st.env t) <;> rfl
theorem pack1 (v : V) : packRes [v] = v:=nr rfl
theorem pack2 (v w : V) : packRes [v,w] = .tup [v,w]:=nr rfl
theorem pack3 (v w x : V) : packRes [v,w,x] = .tup [v,w,x]:=nr rfl
theorem pf_end {T : Nat → Option Fn} {f : Nat} {F : Fn} {args : List V} {r : V} (rf : Nat → Nat → Bool) (hT : T f = some F) (hl : args.length = F.nargs) (hk : F.body.okC = true)
  (h : wp T rf F.body (fun e st=>endK F.res e (· = r) st) (St.enter args [])) : PF T f args r:=by
 obtain ⟨e,st',h1,h2⟩:=wp_sound hk h
 have h3 : (e = .normal ∨ e = .ret) ∧ outK F.res [] st' (· = r):=by
  cases e with
  | normal=>exact ⟨.inl rfl,h2⟩
  | ret=>exact ⟨.inr rfl,h2⟩
  | exit id=>exact h2.elim
 obtain ⟨he,h3⟩:=h3
 have:=outK_spec _ _ h3
 obtain ⟨rs,e1,h4⟩:=optK_spec this
 obtain ⟨r',e2,h5⟩:=optK_spec h4
 subst h5
 exact .frz (.fn hT hl h1 he e1) e2
theorem PFK_of {T : Nat → Option Fn} {f : Nat} {as : List V} {k : V → Prop} {r : V} (h : PF T f as r) (hk : k r) : PFK T f as k:=⟨r,h,hk⟩
def irows (l : List Int) : List (List V):=l.map fun x=>[.int .i64 x]
abbrev ints (l : List Int) : V:=.sl 1 (irows l)
theorem ir_len (l : List Int) : (irows l).length = l.length:=by simp [irows]
theorem ir_getD {l : List Int} {j : Nat} (h : j < l.length) : (irows l).getD j [] = [.int .i64 (l.getD j 0)]:=by
 simp [irows,List.getD_eq_getElem?_getD,List.getElem?_eq_getElem h]
theorem ir_get {l : List Int} {j : Nat} (h : j < l.length) : (irows l)[j]? = some [.int .i64 (l.getD j 0)]:=by
 simp [irows,List.getD_eq_getElem?_getD,List.getElem?_eq_getElem h]
theorem ir_set (l : List Int) (j : Nat) (x : Int) : (irows l).set j [.int .i64 x] = irows (l.set j x):=by
 simp only [irows,List.map_set]
theorem ir_rep (n : Nat) (x : Int) : List.replicate n [V.int .i64 x] = irows (List.replicate n x):=by simp [irows]
theorem ir_drop (l : List Int) (n : Nat) : (irows l).drop n = irows (l.drop n):=by simp [irows]
theorem ir_take (l : List Int) (n : Nat) : (irows l).take n = irows (l.take n):=by simp [irows]
theorem ir_still (l : List Int) : stillR (irows l):=by
 intro r hr v hv
 obtain ⟨x,_,rfl⟩:=List.mem_map.1 hr
 simp at hv;subst hv;rfl
theorem splice1 (a b : V) : splice [a] 0 [b] = [b]:=nr rfl
end Go.Ml
end
section
namespace Go.Ml
theorem lax_leaf : ∀ {x y : V},LaxV x y → y.leaf = true → x.leaf = true:=by
 intro x y h hl
 cases x <;> first | rfl | skip
 ·simp only [LaxV] at h;subst h;exact hl
 ·simp only [LaxV] at h;obtain ⟨_,rfl,_⟩:=h;exact hl
 ·simp only [LaxV] at h;obtain ⟨_,rfl,_⟩:=h;exact hl
theorem laxL_len : ∀ {xs ys : List V},LaxL xs ys → xs.length = ys.length
 | [],ys,h=>by simp only [LaxL] at h;subst h;rfl
 |
  x :: xs,ys,h=>by
  simp only [LaxL] at h
  obtain ⟨y,ys',rfl,_,h2⟩:=h
  simp [laxL_len h2]
theorem laxR_len : ∀ {xs ys : List (List V)},LaxR xs ys → xs.length = ys.length
 | [],ys,h=>by simp only [LaxR] at h;subst h;rfl
 |
  x :: xs,ys,h=>by
  simp only [LaxR] at h
  obtain ⟨y,ys',rfl,_,h2⟩:=h
  simp [laxR_len h2]
mutual
theorem rd_lax {w : World} : ∀ (D : DM) (X : Nat → Prop) (x y : V) (v : Value),LaxV x y → rd w D X y v → rd w D X x v
 |
  D,X,.sl sz rows,y,v,h,hr=>by
  simp only [LaxV] at h
  rcases h with ⟨rfl,rfl | ⟨sz',rfl⟩⟩ | ⟨rows',rfl,h⟩
  ·simp only [rd] at hr ⊢
   obtain ⟨a,rfl⟩:=hr
   exact ⟨a,0,rfl,Nat.le_refl _,.inl (by trivial)⟩
  ·simp only [rd] at hr ⊢
   obtain ⟨a,cap,rfl,h2,_⟩:=hr
   exact ⟨a,cap,rfl,h2,.inl (by trivial)⟩
  ·simp only [rd] at hr ⊢
   obtain ⟨a,cap,rfl,h2,h3⟩:=hr
   have hl:=laxR_len h
   refine ⟨a,cap,by rw [hl],by rw [hl];exact h2,?_⟩
   rcases h3 with h3 | ⟨b,off,h3,h4,h5,h6⟩
   ·left;subst h3;exact List.eq_nil_of_length_eq_zero hl
   ·exact .inr ⟨b,off,h3,h4,h5,rdRows_lax DM.none X b sz off rows rows' h h6⟩
 |
  D,X,.agg cs,y,v,h,hr=>by
  simp only [LaxV] at h
  obtain ⟨cs',rfl,h⟩:=h
  simp only [rd] at hr ⊢
  obtain ⟨a,rfl,hr⟩:=hr
  exact ⟨a,rfl,rdL_lax D X cs cs' _ h hr⟩
 |
  D,X,.tup cs,y,v,h,hr=>by
  simp only [LaxV] at h
  obtain ⟨cs',rfl,h⟩:=h
  simp only [rd] at hr ⊢
  obtain ⟨a,rfl,hr⟩:=hr
  exact ⟨a,rfl,rdL_lax D X cs cs' _ h hr⟩
 |
  D,X,.fptr row off,y,v,h,hr=>by
  simp only [LaxV] at h
  obtain ⟨row',rfl,h⟩:=h
  simp only [rd] at hr ⊢
  obtain ⟨b,o,rfl,h1,h2,h3⟩:=hr
  exact ⟨b,o,rfl,h1,h2,rdCells_lax DM.none X b o row row' h h3⟩
 | _,_,.any,y,v,h,hr=>by simp [rd]
 | _,_,.one,y,v,h,hr=>by simp only [LaxV] at h;subst h;exact hr
 | _,_,.int ..,y,v,h,hr=>by simp only [LaxV] at h;subst h;exact hr
 | _,_,.bool _,y,v,h,hr=>by simp only [LaxV] at h;subst h;exact hr
 | _,_,.str _,y,v,h,hr=>by simp only [LaxV] at h;subst h;exact hr
 | _,_,.nils,y,v,h,hr=>by simp only [LaxV] at h;subst h;exact hr
 | _,_,.msl ..,y,v,h,hr=>by simp only [LaxV] at h;subst h;exact hr
 | _,_,.ptr ..,y,v,h,hr=>by simp only [LaxV] at h;subst h;exact hr
termination_by structural _ _ x=>x
theorem rdL_lax {w : World} : ∀ (D : DM) (X : Nat → Prop) (xs ys : List V) (vs : List Value),LaxL xs ys → rdL w D X ys vs → rdL w D X xs vs
 | D,X,[],ys,vs,h,hr=>by simp only [LaxL] at h;subst h;exact hr
 |
  D,X,x :: xs,ys,vs,h,hr=>by
  simp only [LaxL] at h
  obtain ⟨y,ys',rfl,h1,h2⟩:=h
  simp only [rdL] at hr ⊢
  obtain ⟨v,vs',rfl,k1,k2⟩:=hr
  exact ⟨v,vs',rfl,rd_lax D X x y v h1 k1,rdL_lax D X xs ys' vs' h2 k2⟩
termination_by structural _ _ x=>x
theorem rdCells_lax {w : World} : ∀ (D : DM) (X : Nat → Prop) (b off : Nat) (xs ys : List V),LaxL xs ys → rdCells w D X b off ys → rdCells w D X b off xs
 | D,X,b,off,[],ys,h,hr=>by simp [rdCells]
 |
  D,X,b,off,x :: xs,ys,h,hr=>by
  simp only [LaxL] at h
  obtain ⟨y,ys',rfl,h1,h2⟩:=h
  simp only [rdCells] at hr ⊢
  obtain ⟨k0,⟨c,k1,k2⟩,k3⟩:=hr
  exact ⟨lax_leaf h1 k0,⟨c,k1,rd_lax D X x y c h1 k2⟩,rdCells_lax D X b (off + 1) xs ys' h2 k3⟩
termination_by structural _ _ _ _ x=>x
theorem rdRows_lax {w : World} : ∀ (D : DM) (X : Nat → Prop) (b sz off : Nat) (xs ys : List (List V)),LaxR xs ys → rdRows w D X b sz off ys → rdRows w D X b sz off xs
 | D,X,b,sz,off,[],ys,h,hr=>by simp [rdRows]
 |
  D,X,b,sz,off,x :: xs,ys,h,hr=>by
  simp only [LaxR] at h
  obtain ⟨y,ys',rfl,h1,h2⟩:=h
  simp only [rdRows] at hr ⊢
  exact ⟨(laxL_len h1).trans hr.1,rdCells_lax D X b off x y h1 hr.2.1,rdRows_lax D X b sz (off + sz) xs ys' h2 hr.2.2⟩
termination_by structural _ _ _ _ _ x=>x
end
mutual
theorem laxV_refl : ∀ (x : V),LaxV x x
 | .sl sz rows=>by simp only [LaxV];exact .inr ⟨rows,rfl,laxR_refl rows⟩
 | .agg cs=>by simp only [LaxV];exact ⟨cs,rfl,laxL_refl cs⟩
 | .tup cs=>by simp only [LaxV];exact ⟨cs,rfl,laxL_refl cs⟩
 | .fptr row off=>by simp only [LaxV];exact ⟨row,rfl,laxL_refl row⟩
 | .any=>by simp [LaxV]
 | .one=>by simp [LaxV]
 | .int ..=>by simp [LaxV]
 | .bool _=>by simp [LaxV]
 | .str _=>by simp [LaxV]
 | .nils=>by simp [LaxV]
 | .msl ..=>by simp [LaxV]
 | .ptr ..=>by simp [LaxV]
theorem laxL_refl : ∀ (xs : List V),LaxL xs xs
 | []=>by simp [LaxL]
 | x :: xs=>by simp only [LaxL];exact ⟨x,xs,rfl,laxV_refl x,laxL_refl xs⟩
theorem laxR_refl : ∀ (xs : List (List V)),LaxR xs xs
 | []=>by simp [LaxR]
 | x :: xs=>by simp only [LaxR];exact ⟨x,xs,rfl,laxL_refl x,laxR_refl xs⟩
end
def DM.win (D : DM) (W : Win) (kp : Nat) : DM:=fun k=>match W[k]? with
 |
  some (some (o,s,l))=>(match D o with
  | .live d=>.live ⟨d.blk,d.bas + s * d.sz,d.sz,l,d.cap⟩
  | x=>x)
 | some Option.none=>if k < kp then (match D k with | .live _=>.unborn | x=>x) else .unborn
 | Option.none=>.unborn
section
variable {w : World} {D : DM} {M : Nat → Prop} {σ σ2 : Store} {W : Win} {kp : Nat}
theorem win_live {k : Nat} {d : Desc} (h : D.win W kp k = .live d) : ∃ o s l d0,W[k]? = some (some (o,s,l)) ∧ D o = .live d0 ∧ d = ⟨d0.blk,d0.bas + s * d0.sz,d0.sz,l,d0.cap⟩:=by
 unfold DM.win at h
 split at h
 ·rename_i o s l e
  split at h
  ·rename_i d0 e2
   cases h
   exact ⟨o,s,l,d0,e,e2,rfl⟩
  ·rename_i hx;rw [h] at hx;exact absurd rfl (hx d)
 ·split at h
  ·split at h
   ·cases h
   ·rename_i hx;rw [h] at hx;exact absurd rfl (hx d)
  ·cases h
 ·cases h
theorem xs_win : ∀ b,XS M (D.win W kp) b → XS M D b:=by
 rintro b (h | ⟨k,d,hk,rfl⟩)
 ·exact .inl h
 ·obtain ⟨o,s,l,d0,_,h2,rfl⟩:=win_live hk
  exact .inr ⟨o,d0,h2,rfl⟩
theorem can_leaf : ∀ {x y : V},CanV W σ x y → x.leaf = true → y.leaf = true:=by
 intro x y h hl
 cases x <;> simp only [V.leaf] at hl <;> first | (cases hl;done) | skip
 all_goals simp only [CanV] at h
 case one=>subst h;rfl
 case int=>subst h;rfl
 case bool=>subst h;rfl
 case str=>subst h;rfl
 case nils=>rcases h with rfl | ⟨_,rfl⟩ <;> rfl
 case sl=>exact lax_leaf h rfl
 case msl =>
  rcases h with ⟨k,s0,l0,_,_,_,rfl⟩ | ⟨_,_,sz,rfl⟩ | ⟨h,_⟩
  ·rfl
  ·rfl
  ·exact resolve_leaf h rfl
 case ptr =>
  rcases h with ⟨k,s0,l0,_,_,_,rfl⟩ | ⟨h,_⟩
  ·rfl
  ·exact resolve_leaf h rfl
 case fptr=>exact lax_leaf h rfl
theorem canL_len : ∀ {xs ys : List V},CanL W σ xs ys → ys.length = xs.length
 | [],ys,h=>by simp only [CanL] at h;subst h;rfl
 |
  x :: xs,ys,h=>by
  simp only [CanL] at h
  obtain ⟨y,ys',rfl,_,h2⟩:=h
  simp [canL_len h2]
theorem canL_get : ∀ {xs ys : List V},CanL W σ xs ys → ∀ (i : Nat) (y : V),ys[i]? = some y → ∃ x,xs[i]? = some x ∧ CanV W σ x y
 | [],ys,h,i,y,hi=>by simp only [CanL] at h;subst h;simp at hi
 |
  x :: xs,ys,h,i,y,hi=>by
  simp only [CanL] at h
  obtain ⟨z,zs,rfl,h1,h2⟩:=h
  cases i with
  | zero=>simp at hi;subst hi;exact ⟨x,rfl,h1⟩
  | succ i=>simpa using canL_get h2 i y (by simpa using hi)
theorem rd_noD {D D' : DM} {X X' : Nat → Prop} (hX : ∀ b,X' b → X b) {x : V} {v : Value} (hx : (∃ sz rows,x = .sl sz rows) ∨ ∃ row off,x = .fptr row off) (h : rd w D X x v) : rd w D' X' x v:=by
 have E : Ext w DM.none X w DM.none X':=⟨Nat.le_refl _,fun _ _ _=>rfl,fun b _=>hX b,fun _=>DSle.refl _⟩
 rcases hx with ⟨sz,rows,rfl⟩ | ⟨row,off,rfl⟩
 ·have h' : rd w DM.none X (.sl sz rows) v:=by simpa only [rd] using h
  have:=rd_mono _ _ E h'
  simpa only [rd] using this
 ·have h' : rd w DM.none X (.fptr row off) v:=by simpa only [rd] using h
  have:=rd_mono _ _ E h'
  simpa only [rd] using this
theorem res_msl {o s l n : Nat} {y : V} (h : resolve σ (n + 1) (.msl o s l) = some y) : ∃ sz rows,y = .sl sz rows:=by
 simp only [resolve] at h
 split at h <;> first | (cases h;done) | skip
 split at h <;> first | (cases h;done) | skip
 simp only [Option.map_eq_some_iff] at h
 obtain ⟨_,_,rfl⟩:=h
 exact ⟨_,_,rfl⟩
theorem res_ptr {o r f n : Nat} {y : V} (h : resolve σ (n + 1) (.ptr o r f) = some y) : ∃ row off,y = .fptr row off:=by
 simp only [resolve] at h
 split at h <;> first | (cases h;done) | skip
 split at h <;> first | (cases h;done) | skip
 simp only [Option.map_eq_some_iff] at h
 obtain ⟨_,_,rfl⟩:=h
 exact ⟨_,_,rfl⟩
theorem rd_frozen (hS : SRel w D M σ) {x y : V} {v : Value} (h : resolve σ FD x = some y) (hq : ∀ q,q ∈ reach σ FD x → ∀ (k s0 l0 : Nat),W[k]? ≠ some (some (q,s0,l0)))
  (hy : (∃ sz rows,y = .sl sz rows) ∨ ∃ row off,y = .fptr row off) (hr : rd w D (XS M D) x v) : rd w (D.win W kp) (XS M (D.win W kp)) y v:=by
 have h1:=rd_resolve hS (R:=reach σ FD x) FD x y v h (fun _ ho=>ho) hr
 refine rd_noD (fun b hb=>?_) hy h1
 rcases hb with hb | ⟨k,d,hk,rfl⟩
 ·exact .inl hb
 ·obtain ⟨o,s,l,d0,e1,e2,rfl⟩:=win_live hk
  exact .inr ⟨o,d0,e2,rfl,fun ho=>hq o ho k s l e1⟩
mutual
theorem rd_can (hS : SRel w D M σ) (hW : ∀ (k o s l : Nat),W[k]? = some (some (o,s,l)) → (objAt σ o).isSome = true) : ∀ (x y : V) (v : Value),CanV W σ x y → rd w D (XS M D) x v →
  rd w (D.win W kp) (XS M (D.win W kp)) y v
 |
  .msl o s l,y,v,h,hr=>by
  simp only [CanV] at h
  rcases h with ⟨k,s0,l0,h1,h2,h3,rfl⟩ | ⟨rfl,ho,sz,rfl⟩ | ⟨h1,h2⟩
  ·obtain ⟨ob,hob⟩:=Option.isSome_iff_exists.1 (hW k o s0 l0 h1)
   obtain ⟨d,hd⟩:=hS.alive o ob hob
   simp only [rd,hd] at hr
   obtain ⟨e1,a,cap,rfl,e2,e3⟩:=hr
   simp only [rd,DM.win,h1,hd]
   refine ⟨by omega,a,cap,rfl,e2,e3.imp ?_ id⟩
   rintro ⟨rfl,e4⟩
   have hm : s * d.sz = s0 * d.sz + (s - s0) * d.sz:=by rw [← Nat.add_mul];congr 1;omega
   refine ⟨by congr 2;omega,?_⟩
   have : (s + cap) * d.sz = s0 * d.sz + (s - s0 + cap) * d.sz:=by rw [← Nat.add_mul];congr 1;omega
   omega
  ·obtain ⟨ob,hob⟩:=Option.isSome_iff_exists.1 ho
   obtain ⟨d,hd⟩:=hS.alive o ob hob
   simp only [rd,hd] at hr ⊢
   obtain ⟨e1,a,cap,rfl,e2,e3⟩:=hr
   exact ⟨a,cap,rfl,Nat.zero_le _,.inl (by trivial)⟩
  ·exact rd_frozen hS h1 h2 (.inl (res_msl (n:=11) h1)) hr
 |
  .ptr o r off,y,v,h,hr=>by
  simp only [CanV] at h
  rcases h with ⟨k,s0,l0,h1,h2,h3,rfl⟩ | ⟨h1,h2⟩
  rotate_left
  ·exact rd_frozen hS h1 h2 (.inr (res_ptr (n:=11) h1)) hr
  obtain ⟨ob,hob⟩:=Option.isSome_iff_exists.1 (hW k o s0 l0 h1)
  obtain ⟨d,hd⟩:=hS.alive o ob hob
  simp only [rd,hd] at hr
  subst hr
  simp only [rd,DM.win,h1,hd]
  have hm : r * d.sz = s0 * d.sz + (r - s0) * d.sz:=by rw [← Nat.add_mul];congr 1;omega
  congr 3;omega
 |
  .agg cs,y,v,h,hr=>by
  simp only [CanV] at h
  obtain ⟨ds,rfl,h⟩:=h
  simp only [rd] at hr ⊢
  obtain ⟨a,rfl,hr⟩:=hr
  exact ⟨a,rfl,rdL_can hS hW cs ds _ h hr⟩
 |
  .tup cs,y,v,h,hr=>by
  simp only [CanV] at h
  obtain ⟨ds,rfl,h⟩:=h
  simp only [rd] at hr ⊢
  obtain ⟨a,rfl,hr⟩:=hr
  exact ⟨a,rfl,rdL_can hS hW cs ds _ h hr⟩
 |
  .nils,y,v,h,hr=>by
  simp only [CanV] at h
  simp only [rd] at hr
  obtain ⟨a,rfl⟩:=hr
  rcases h with rfl | ⟨sz,rfl⟩
  ·simp only [rd];exact ⟨a,rfl⟩
  ·simp only [rd];exact ⟨a,0,rfl,Nat.le_refl _,.inl (by trivial)⟩
 |
  .sl sz rows,y,v,h,hr=>by
  simp only [CanV] at h
  exact rd_lax _ _ _ _ _ h (rd_noD xs_win (.inl ⟨sz,rows,rfl⟩) hr)
 |
  .fptr row off,y,v,h,hr=>by
  simp only [CanV] at h
  exact rd_lax _ _ _ _ _ h (rd_noD xs_win (.inr ⟨row,off,rfl⟩) hr)
 | .any,y,v,h,hr=>by simp only [CanV] at h;subst h;simp [rd]
 | .one,y,v,h,hr=>by simp only [CanV] at h;subst h;simpa only [rd] using hr
 | .int ..,y,v,h,hr=>by simp only [CanV] at h;subst h;simpa only [rd] using hr
 | .bool _,y,v,h,hr=>by simp only [CanV] at h;subst h;simpa only [rd] using hr
 | .str _,y,v,h,hr=>by simp only [CanV] at h;subst h;simpa only [rd] using hr
theorem rdL_can (hS : SRel w D M σ) (hW : ∀ (k o s l : Nat),W[k]? = some (some (o,s,l)) → (objAt σ o).isSome = true) : ∀ (xs ys : List V) (vs : List Value),CanL W σ xs ys → rdL w D (XS M D) xs vs →
  rdL w (D.win W kp) (XS M (D.win W kp)) ys vs
 | [],ys,vs,h,hr=>by simp only [CanL] at h;subst h;simpa only [rdL] using hr
 |
  x :: xs,ys,vs,h,hr=>by
  simp only [CanL] at h
  obtain ⟨y,ys',rfl,h1,h2⟩:=h
  simp only [rdL] at hr ⊢
  obtain ⟨v,vs',rfl,k1,k2⟩:=hr
  exact ⟨v,vs',rfl,rd_can hS hW x y v h1 k1,rdL_can hS hW xs ys' vs' h2 k2⟩
end
theorem SRel.re (hS : SRel w D M σ) (h : ReS W σ σ2) (_hkp : kp ≤ W.length) : SRel w (D.win W kp) M σ2:=by
 have hW : ∀ (k o s l : Nat),W[k]? = some (some (o,s,l)) → (objAt σ o).isSome = true:=fun k o s l hk=>by
  obtain ⟨ob,_,h1,_⟩:=h.win k o s l hk
  rw [h1];rfl
 refine ⟨?_,?_,?_,?_,hS.mlt⟩
 ·intro k d hk
  obtain ⟨o,s,l,d0,e1,e2,rfl⟩:=win_live hk
  obtain ⟨ob,ob2,w1,w2,w3,w4,w5,w6⟩:=h.win k o s l e1
  obtain ⟨ob',c,e,h1,h2,h3,h4,h5,h6,h7,h8,h9,h10,h11⟩:=hS.live o d0 e2
  rw [w1] at h1;cases h1
  have hrow : ∀ i r2,ob2.rows[i]? = some r2 → ∃ r,ob.rows[s + i]? = some r ∧ CanL W σ r r2:=by
   intro i r2 hi
   have hlt : s + i < ob.rows.length:=by have:=(List.getElem?_eq_some_iff.1 hi).1;omega
   exact ⟨ob.rows[s + i],List.getElem?_eq_getElem hlt,w6 i _ r2 (List.getElem?_eq_getElem hlt) hi⟩
  have hlen2 : ∀ r ∈ ob2.rows,r.length = ob2.sz:=by
   intro r2 hr2
   obtain ⟨i,hi⟩:=List.mem_iff_getElem?.1 hr2
   obtain ⟨r,hr,hc⟩:=hrow i r2 hi
   rw [canL_len hc,w4];exact h10 r (List.mem_of_getElem? hr)
  refine ⟨ob2,c,e,w3,by simp only [];rw [w4];exact h2,by simp only [];exact w5.symm,h4,h5,h6,h7,h8,?_,hlen2,?_⟩
  ·simp only []
   have : d0.bas + s * d0.sz + l * d0.sz = d0.bas + (s + l) * d0.sz:=by rw [Nat.add_mul];omega
   rw [this]
   refine Nat.le_trans (Nat.add_le_add_left (Nat.mul_le_mul_right _ ?_) _) h9
   omega
  ·intro i z hz
   have hpos : 0 < ob.sz:=by rw [← h2];exact h4
   have hilt:=(List.getElem?_eq_some_iff.1 hz).1
   have hfl:=flat_len hlen2
   have hq : i / ob.sz < ob2.rows.length:=Nat.div_lt_of_lt_mul (by rw [Nat.mul_comm,← w4];omega)
   have hmod : i % ob.sz < ob2.rows[i / ob.sz].length:=by rw [hlen2 _ (by simp),w4];exact Nat.mod_lt _ hpos
   have hz':=flatten_get hlen2 (i:=i / ob.sz) (j:=i % ob.sz) (r:=ob2.rows[i / ob.sz]) (x:=ob2.rows[i / ob.sz][i % ob.sz]) (by simp [hq]) (by simp [hmod])
   have hi : i / ob.sz * ob2.sz + i % ob.sz = i:=by rw [w4,Nat.mul_comm];exact Nat.div_add_mod i ob.sz
   rw [hi,hz] at hz'
   obtain ⟨r,hr,hc⟩:=hrow (i / ob.sz) ob2.rows[i / ob.sz] (by simp [hq])
   obtain ⟨x,hx,hcx⟩:=canL_get hc (i % ob.sz) z (by rw [Option.some.inj hz'];simp [hmod])
   obtain ⟨hlf,cv,k1,k2⟩:=h11 _ x (flatten_get h10 hr hx)
   refine ⟨can_leaf hcx hlf,cv,?_,rd_can hS hW x z cv hcx k2⟩
   rw [← k1]
   simp only []
   congr 1
   have hi2 : i = i / ob.sz * ob.sz + i % ob.sz:=by rw [← w4];rw [w4];rw [w4] at hi;exact hi.symm
   rw [h2,Nat.add_mul]
   omega
 ·intro k ob hk
  have hlt : k < W.length:=by
   rw [← h.len]
   rcases Nat.lt_or_ge k σ2.length with h' | h'
   ·exact h'
   ·rw [objAt,List.getElem?_eq_none h'] at hk;cases hk
  cases hw : W[k] with
  |
   none =>
   have:=h.hole k (by rw [List.getElem?_eq_getElem hlt,hw])
   rw [this] at hk;cases hk
  |
   some p =>
   obtain ⟨o,s,l⟩:=p
   have hk' : W[k]? = some (some (o,s,l)):=by rw [List.getElem?_eq_getElem hlt,hw]
   obtain ⟨ob0,_,w1,_⟩:=h.win k o s l hk'
   obtain ⟨d,hd⟩:=hS.alive o ob0 w1
   exact ⟨⟨d.blk,d.bas + s * d.sz,d.sz,l,d.cap⟩,by simp only [DM.win,hk',hd]⟩
 ·intro k k' d d' hk hk' hb
  obtain ⟨o,s,l,d0,e1,e2,rfl⟩:=win_live hk
  obtain ⟨o',s',l',d0',e1',e2',rfl⟩:=win_live hk'
  have:=hS.inj o o' d0 d0' e2 e2' hb
  subst this
  exact h.nd k k' o s l s' l' e1 e1'
 ·intro k hk
  rw [h.len] at hk
  simp only [DM.win,List.getElem?_eq_none hk]
end
section
variable {P : Program} {ν : Nat → Option Nat} {nt : Nat} {M : Nat → Prop} {w0 : World} {D0 : DM} {st st2 : St} {D : DM} {a : Act} {w : World} {W : Win}
theorem ReS.some {σ σ2 : Store} (h : ReS W σ σ2) : ∀ (k o s l : Nat),W[k]? = some (some (o,s,l)) → (objAt σ o).isSome = true:=fun k o s l hk=>by
 obtain ⟨ob,_,h1,_⟩:=h.win k o s l hk
 rw [h1];rfl
theorem SR.re (h : SR nt M w0 D0 st D a w) (hr : ReSt W st st2) : SR nt M w0 D0 st2 (D.win W st.keep) a w:=by
 have hkp : st.keep ≤ W.length:=by
  rcases Nat.lt_or_ge W.length st.keep with h' | h'
  ·have : W[W.length]? = Option.none:=by simp
   rcases hr.kp W.length h' with ⟨ob,_,h2⟩ | ⟨_,h2⟩ <;> rw [this] at h2 <;> cases h2
  ·exact h'
 refine ⟨fun t=>?_,h.tm,h.df,h.store.re hr.objs hkp,h.gr,?_,?_⟩
 ·rcases hr.env t with e | e
  ·rw [e];simp [rd]
  ·exact rd_can h.store hr.objs.some _ _ _ e (h.env t)
 ·intro k d hk
  obtain ⟨o,s,l,d0,_,e2,rfl⟩:=win_live hk
  exact h.fr o d0 e2
 ·intro k hk
  rw [hr.keep] at hk
  have hle:=h.kp k hk
  rcases hr.kp k hk with ⟨ob,h1,h2⟩ | ⟨h1,h2⟩
  ·obtain ⟨d,hd⟩:=h.store.alive k ob h1
   obtain ⟨ob',c,e,g1,g2,g3,_⟩:=h.store.live k d hd
   rw [h1] at g1;cases g1
   have : D.win W st.keep k = D k:=by
    simp only [DM.win,h2,hd,Nat.zero_mul,Nat.add_zero,← g3]
   rw [this];exact hle
  ·have : D.win W st.keep k = D k:=by
    simp only [DM.win,h2,if_pos hk]
    cases hd : D k with
    |
     live d =>
     obtain ⟨ob',c,e,g1,_⟩:=h.store.live k d hd
     rw [h1] at g1;cases g1
    | _=>rfl
   rw [this];exact hle
theorem SR.forget (h : SR nt M w0 D0 st D a w) (he : ∀ t,st2.env t = .any ∨ LaxV (st2.env t) (st.env t)) (ho : st2.objs = st.objs) (hk : st2.keep = st.keep) : SR nt M w0 D0 st2 D a w:=by
 refine ⟨fun t=>?_,h.tm,h.df,by rw [ho];exact h.store,h.gr,h.fr,by rw [hk];exact h.kp⟩
 rcases he t with e | e
 ·rw [e];simp [rd]
 ·exact rd_lax _ _ _ _ _ e (h.env t)
end
end Go.Ml
end
section
namespace Go.Ml
inductive Fg : St → St → Prop
 | env {st2 st : St} (he : ∀ t,st2.env t = .any ∨ LaxV (st2.env t) (st.env t)) (ho : st2.objs = st.objs) (hk : st2.keep = st.keep) : Fg st2 st
 | re {st2 st : St} (W : Win) (h : ReSt W st st2) : Fg st2 st
theorem Fg.run {T : Nat → Option Fn} {c : C} {st2 st : St} {o : Out} (h : Fg st2 st) (k : Run T (.code c st2) o) : Run T (.code c st) o:=by
 cases h with
 | env he ho hk=>exact .forget he ho hk k
 | re W h=>exact .re W h k
theorem loop_rule1 {T : Nat → Option Fn} {rf : Nat → Nat → Bool} {c : C} {Q : Ex → St → Prop} {α : Type} (I : α → St) (P : α → Prop) (m : α → Nat) (hk : c.okC = true)
  (step : ∀ a,P a → wp T rf c (fun e st'=>seqK e (∃ a',m a' < m a ∧ P a' ∧ Fg (I a') st') (Q e st')) (I a)) :
  ∀ (n : Nat) (a : α) (st : St),m a < n → P a → Fg (I a) st → LoopK T c Q st
 | 0,_,_,hn,_,_=>absurd hn (Nat.not_lt_zero _)
 |
  n + 1,a,st,hn,h,hf=>by
  obtain ⟨e,st1,h1,h2⟩:=wp_sound hk (step a h)
  cases e with
  |
   normal =>
   obtain ⟨a',hlt,h3,h3'⟩:=h2
   obtain ⟨e,st2,h4,h5⟩:=loop_rule1 I P m hk step n a' _ (by omega) h3 h3'
   exact ⟨e,st2,hf.run (.loopN h1 h4),h5⟩
  | exit id=>exact ⟨_,_,hf.run (.loopE (by simp) h1),h2⟩
  | ret=>exact ⟨_,_,hf.run (.loopE (by simp) h1),h2⟩
theorem loop_at {T : Nat → Option Fn} (rf : Nat → Nat → Bool) {c : C} {Q : Ex → St → Prop} {α : Type} (I : α → St) (P : α → Prop) (m : α → Nat) (hk : c.okC = true) (a : α) {st : St} (h0 : P a) (hf : Fg (I a) st)
  (step : ∀ a,P a → wp T rf c (fun e st'=>seqK e (∃ a',m a' < m a ∧ P a' ∧ Fg (I a') st') (Q e st')) (I a)) :
  LoopK T c Q st:=loop_rule1 I P m hk step (m a + 1) a st (by omega) h0 hf
def EvV (v y : V) : Prop:=v = .any ∨ LaxV v y
theorem EvV_any (y : V) : EvV .any y = True:=eq_true (.inl rfl)
theorem EvV_refl (y : V) : EvV y y = True:=eq_true (.inr (laxV_refl y))
theorem EvV_of {v y : V} (h : v = y) : EvV v y:=h ▸ .inr (laxV_refl v)
theorem EvV_int {q : IntKind} {a b : Int} (h : a = b) : EvV (.int q a) (.int q b):=EvV_of (by rw [h])
theorem EvV_nil (sz : Nat) : EvV (.sl sz []) .nils:=.inr (by simp [LaxV])
def EnvLe : List V → Nat → (Nat → V) → Prop
 | [],_,_=>True
 | v :: vs,i,env=>EvV v (env i) ∧ EnvLe vs (i + 1) env
theorem EnvLe_n (i : Nat) (env : Nat → V) : EnvLe [] i env = True:=nr rfl
theorem EnvLe_c (v : V) (vs : List V) (i : Nat) (env : Nat → V) : EnvLe (v :: vs) i env = (EvV v (env i) ∧ EnvLe vs (i + 1) env):=nr rfl
theorem EnvLe.at_ : ∀ {l : List V} {i : Nat} {env : Nat → V},EnvLe l i env → ∀ t,argE l t = .any ∨ LaxV (argE l t) (env (i + t))
 | [],_,_,_,t=>.inl rfl
 | v :: vs,i,env,h,0=>h.1
 |
  v :: vs,i,env,h,t + 1=>by
  have:=EnvLe.at_ h.2 t
  rw [show i + 1 + t = i + (t + 1) by omega] at this
  exact this
theorem Fg_env {l : List V} {env : Nat → V} {objs : Store} {kp b1 b2 : Nat} {r1 r2 m1 m2 : List Nat} (h : EnvLe l 0 env) : Fg ⟨argE l,objs,kp,b1,r1,m1⟩ ⟨env,objs,kp,b2,r2,m2⟩ :=
 .env (fun t=>by have:=h.at_ t;rwa [Nat.zero_add] at this) rfl rfl
theorem Fg_env' {l : List V} {env : Nat → V} {objs objs' : Store} {kp b1 b2 : Nat} {r1 r2 m1 m2 : List Nat} (h : EnvLe l 0 env) (ho : objs' = objs) : Fg ⟨argE l,objs',kp,b1,r1,m1⟩ ⟨env,objs,kp,b2,r2,m2⟩:=by
 subst ho;exact Fg_env h
theorem canV_still {W : Win} {σ : Store} {v : V} (h : v.still = true) : CanV W σ v v:=by
 cases v <;> simp only [V.still] at h <;> first | (cases h;done) | skip
 all_goals simp only [CanV]
 ·exact .inl (by trivial)
 ·exact laxV_refl _
 ·exact laxV_refl _
theorem canL_still {W : Win} {σ : Store} : ∀ {r : List V},(∀ v ∈ r,v.still = true) → CanL W σ r r
 | [],_=>by simp [CanL]
 |
  v :: r,h=>by
  simp only [CanL]
  exact ⟨v,r,rfl,canV_still (h v (by simp)),canL_still fun x hx=>h x (by simp [hx])⟩
theorem reS_list {σ : Store} (l : List (Nat × Obj)) (hn : (l.map (·.1)).Nodup) (h : ∀ p ∈ l,objAt σ p.1 = some p.2 ∧ stillR p.2.rows) :
  ReS (l.map fun p=>some (p.1,0,p.2.rows.length)) σ (l.map fun p=>some p.2):=by
 have hget : ∀ (k o s n : Nat),(l.map fun p=>some (p.1,0,p.2.rows.length))[k]? = some (some (o,s,n)) → ∃ p,l[k]? = some p ∧ o = p.1 ∧ s = 0 ∧ n = p.2.rows.length:=by
  intro k o s n hk
  rw [List.getElem?_map,Option.map_eq_some_iff] at hk
  obtain ⟨p,h1,h2⟩:=hk
  simp only [Option.some.injEq,Prod.mk.injEq] at h2
  exact ⟨p,h1,h2.1.symm,h2.2.1.symm,h2.2.2.symm⟩
 refine ⟨by simp,?_,?_,?_⟩
 ·intro i j o s n s' n' hi hj
  obtain ⟨p,p1,p2,_⟩:=hget i o s n hi
  obtain ⟨q,q1,q2,_⟩:=hget j o s' n' hj
  have hi':=(List.getElem?_eq_some_iff.1 p1).1
  have hj':=(List.getElem?_eq_some_iff.1 q1).1
  have e1:=(List.getElem?_eq_some_iff.1 p1).2
  have e2:=(List.getElem?_eq_some_iff.1 q1).2
  refine (List.getElem_inj (h₀:=by simpa using hi') (h₁:=by simpa using hj') hn).1 ?_
  simp [e1,e2,← p2,← q2]
 ·intro k o s n hk
  obtain ⟨p,p1,rfl,rfl,rfl⟩:=hget k o s n hk
  obtain ⟨h1,h2⟩:=h p (List.mem_of_getElem? p1)
  refine ⟨p.2,p.2,h1,by omega,by unfold objAt;rw [List.getElem?_map,p1];rfl,rfl,rfl,fun i r r2 hr hr2=>?_⟩
  rw [Nat.zero_add,hr2] at hr
  cases hr
  exact canL_still (h2 _ (List.mem_of_getElem? hr2))
 ·intro k hk
  rw [List.getElem?_map,Option.map_eq_some_iff] at hk
  obtain ⟨p,_,h⟩:=hk
  cases h
def CanE (W : Win) (σ : Store) (v y : V) : Prop:=v = .any ∨ CanV W σ y v
theorem CanE_any (W : Win) (σ : Store) (y : V) : CanE W σ .any y = True:=eq_true (.inl rfl)
theorem CanE_int (W : Win) (σ : Store) (q : IntKind) (a b : Int) : CanE W σ (.int q a) (.int q b) = (a = b):=by simp [CanE,CanV]
theorem CanE_bool (W : Win) (σ : Store) (a b : Bool) : CanE W σ (.bool a) (.bool b) = (a = b):=by simp [CanE,CanV]
theorem CanE_still (W : Win) (σ : Store) {y : V} (h : y.still = true) : CanE W σ y y:=.inr (canV_still h)
theorem CanE_sl (W : Win) (σ : Store) (sz : Nat) (rows : List (List V)) : CanE W σ (.sl sz rows) (.sl sz rows) = True:=eq_true (CanE_still W σ rfl)
theorem CanE_str (W : Win) (σ : Store) (a : List UInt8) : CanE W σ (.str a) (.str a) = True:=eq_true (CanE_still W σ rfl)
theorem CanE_nil (W : Win) (σ : Store) (sz : Nat) : CanE W σ (.sl sz []) .nils = True:=eq_true (.inr (by simp only [CanV];exact .inr ⟨sz,rfl⟩))
theorem CanE_nils (W : Win) (σ : Store) : CanE W σ .nils .nils = True:=eq_true (CanE_still W σ rfl)
theorem CanE_msl {W : Win} {σ : Store} {k o l l' n : Nat} (h : W[k]? = some (some (o,0,n))) (hl : l ≤ n) (e : l' = l) : CanE W σ (.msl k 0 l') (.msl o 0 l) :=
 .inr (by simp only [CanV];exact .inl ⟨k,0,n,h,Nat.le_refl _,by omega,by rw [e]⟩)
theorem CanE_ptr {W : Win} {σ : Store} {k o r off n : Nat} (h : W[k]? = some (some (o,0,n))) (hl : r < n) : CanE W σ (.ptr k r off) (.ptr o r off) :=
 .inr (by simp only [CanV];exact .inl ⟨k,0,n,h,Nat.zero_le _,by omega,by simp⟩)
theorem CanE_frz {W : Win} {σ : Store} {o s l : Nat} {y : V} (h : resolve σ FD (.msl o s l) = some y) (hq : ∀ q,q ∈ reach σ FD (.msl o s l) → ∀ (k s0 l0 : Nat),W[k]? ≠ some (some (q,s0,l0))) : CanE W σ y (.msl o s l) :=
 .inr (by simp only [CanV];exact .inr (.inr ⟨h,hq⟩))
theorem CanE_of {W : Win} {σ : Store} {x y : V} (h : y.still = true) (e : x = y) : CanE W σ x y:=e ▸ CanE_still W σ (e ▸ h)
def EnvCan (W : Win) (σ : Store) : List V → Nat → (Nat → V) → Prop
 | [],_,_=>True
 | v :: vs,i,env=>CanE W σ v (env i) ∧ EnvCan W σ vs (i + 1) env
theorem EnvCan_n (W : Win) (σ : Store) (i : Nat) (env : Nat → V) : EnvCan W σ [] i env = True:=nr rfl
theorem EnvCan_c (W : Win) (σ : Store) (v : V) (vs : List V) (i : Nat) (env : Nat → V) : EnvCan W σ (v :: vs) i env = (CanE W σ v (env i) ∧ EnvCan W σ vs (i + 1) env):=nr rfl
theorem EnvCan.at_ {W : Win} {σ : Store} : ∀ {l : List V} {i : Nat} {env : Nat → V},EnvCan W σ l i env → ∀ t,argE l t = .any ∨ CanV W σ (env (i + t)) (argE l t)
 | [],_,_,_,t=>.inl rfl
 | v :: vs,i,env,h,0=>h.1
 |
  v :: vs,i,env,h,t + 1=>by
  have:=EnvCan.at_ h.2 t
  rw [show i + 1 + t = i + (t + 1) by omega] at this
  exact this
theorem Fg_re (l : List (Nat × Obj)) {vs : List V} {env : Nat → V} {σ σ2 : Store} {b1 b2 : Nat} {r1 r2 m1 m2 : List Nat} (hn : (l.map (·.1)).Nodup)
  (h : ∀ p ∈ l,objAt σ p.1 = some p.2 ∧ stillR p.2.rows) (ho : σ2 = l.map fun p=>some p.2)
  (he : EnvCan (l.map fun p=>some (p.1,0,p.2.rows.length)) σ vs 0 env) : Fg ⟨argE vs,σ2,0,b1,r1,m1⟩ ⟨env,σ,0,b2,r2,m2⟩:=by
 subst ho
 exact .re _ ⟨reS_list l hn h,rfl,fun i hi=>absurd hi (Nat.not_lt_zero _),fun t=>by have:=he.at_ t;rwa [Nat.zero_add] at this⟩
theorem outK_c2 (t n : Nat) (rs : List Res) (acc : List V) (st : St) (k : V → Prop) : outK (.cell t n true :: rs) acc st k = optK (rowAt st.objs (st.env t)) fun p=>if p.2 + n ≤ p.1.length then mvK (.agg ((p.1.drop p.2).take n)) fun v=>outK rs (v :: acc) st k else False:=by
 simp only [outK,Res.get]
 cases e : rowAt st.objs (st.env t) with
 | none=>rfl
 |
  some p =>
  by_cases h : p.2 + n ≤ p.1.length
  ·simp only [optK,if_true,mvK,wr_eq,if_pos h]
  ·simp only [optK,if_true,mvK,wr_eq,if_neg h]
theorem ifO_pos {c : Prop} [Decidable c] {α : Type} {a b : Option α} (h : c) : (if c then a else b) = a:=by rw [if_pos h]
def fillsK (env : Nat → V) (sz : Nat) : List (List V) → List (Nat × Src) → (List (List V) → Prop) → Prop
 | rows,[],k=>k rows
 | rows,(i,s) :: rest,k=>cellsK (s.ev env) fun cs=>(cs.length = sz ∧ i < rows.length) ∧ fillsK env sz (rows.set i cs) rest k
@[congr] theorem fillsK_cg {env : Nat → V} {sz : Nat} {r r' : List (List V)} {ps : List (Nat × Src)} {k : List (List V) → Prop} (h : wr r = r') : fillsK env sz r ps k = fillsK env sz r' ps k:=by rw [← h,wr_eq]
theorem fillsK_n (env : Nat → V) (sz : Nat) (rows : List (List V)) (k : List (List V) → Prop) : fillsK env sz rows [] k = k rows:=nr rfl
theorem fillsK_c (env : Nat → V) (sz : Nat) (r : List V) (rows : List (List V)) (i : Nat) (s : Src) (rest : List (Nat × Src)) (k : List (List V) → Prop) :
  fillsK env sz (r :: rows) ((i,s) :: rest) k = cellsK (s.ev env) fun cs=>(cs.length = sz ∧ i < (r :: rows).length) ∧ fillsK env sz ((r :: rows).set i cs) rest k:=nr rfl
theorem fillsK_eq {env : Nat → V} {sz : Nat} : ∀ {ps : List (Nat × Src)} {rows : List (List V)} {k : List (List V) → Prop},optK (fillRows env sz rows ps) k = fillsK env sz rows ps k
 | [],rows,k=>rfl
 |
  (i,s) :: rest,rows,k=>by
  simp only [fillRows,fillsK,cellsK]
  cases h : (s.ev env).cells? with
  | none=>rfl
  |
   some cs =>
   simp only [optK]
   by_cases hc : cs.length = sz ∧ i < rows.length
   ·rw [if_pos hc]
    simp only [hc,and_self,true_and]
    exact fillsK_eq
   ·rw [if_neg hc]
    simp only [hc,false_and]
theorem e_mkSl' (env : Nat → V) (σ : Store) (k : Eff → Prop) (sz : Nat) (z : List V) (n : Nat) (ps : List (Nat × Src)) : I.effK env σ (.mkSl sz z (n + 1) ps) k = fillsK env sz (List.replicate (n + 1) z) ps fun rows=>k (.newS ⟨sz,rows⟩ (n + 1)):=by
 rw [e_mkSl,fillsK_eq]
 congr 1
theorem e_mkSl0 (env : Nat → V) (σ : Store) (k : Eff → Prop) (sz : Nat) (z : List V) : I.effK env σ (.mkSl sz z 0 []) k = k (.val .nils):=nr rfl
def fillK (env : Nat → V) : List V → List (Nat × Nat × Src) → (List V → Prop) → Prop
 | row,[],k=>k row
 | row,(off,n,s) :: rest,k=>cellsK (s.ev env) fun cs=>(cs.length = n ∧ off + n ≤ row.length) ∧ fillK env (splice row off cs) rest k
@[congr] theorem fillK_cg {env : Nat → V} {r r' : List V} {ps : List (Nat × Nat × Src)} {k : List V → Prop} (h : wr r = r') : fillK env r ps k = fillK env r' ps k:=by rw [← h,wr_eq]
theorem fillK_n (env : Nat → V) (row : List V) (k : List V → Prop) : fillK env row [] k = k row:=nr rfl
theorem fillK_c (env : Nat → V) (c : V) (row : List V) (off n : Nat) (s : Src) (rest : List (Nat × Nat × Src)) (k : List V → Prop) :
  fillK env (c :: row) ((off,n,s) :: rest) k = cellsK (s.ev env) fun cs=>(cs.length = n ∧ off + n ≤ (c :: row).length) ∧ fillK env (splice (c :: row) off cs) rest k:=nr rfl
theorem fillK_eq {env : Nat → V} : ∀ {ps : List (Nat × Nat × Src)} {row : List V} {k : List V → Prop},optK (fillRow env row ps) k = fillK env row ps k
 | [],row,k=>rfl
 |
  (off,n,s) :: rest,row,k=>by
  simp only [fillRow,fillK,cellsK]
  cases h : (s.ev env).cells? with
  | none=>rfl
  |
   some cs =>
   simp only [optK]
   by_cases hc : cs.length = n ∧ off + n ≤ row.length
   ·rw [if_pos hc]
    simp only [hc,and_self,true_and]
    exact fillK_eq
   ·rw [if_neg hc]
    simp only [hc,false_and]
theorem e_build' (env : Nat → V) (σ : Store) (k : Eff → Prop) (z : List V) (ps : List (Nat × Nat × Src)) : I.effK env σ (.build z ps) k = fillK env z ps fun cs=>mvK (.agg cs) fun v=>k (.val v):=by
 rw [e_build,fillK_eq];rfl
def hiKK : Option Src → (Nat → V) → Nat → (Nat → Prop) → Prop
 | none,_,n,k=>natK n k
 | some h,env,n,k=>asBoundK n (h.ev env) k
def loKK : Option Src → (Nat → V) → Nat → (Nat → Prop) → Prop
 | none,_,_,k=>k 0
 | some h,env,n,k=>asBoundK n (h.ev env) k
theorem hiKK_n (env : Nat → V) (n : Nat) (k : Nat → Prop) : hiKK none env n k = natK n k:=nr rfl
theorem hiKK_s (h : Src) (env : Nat → V) (n : Nat) (k : Nat → Prop) : hiKK (some h) env n k = asBoundK n (h.ev env) k:=nr rfl
theorem loKK_n (env : Nat → V) (n : Nat) (k : Nat → Prop) : loKK none env n k = k 0:=nr rfl
theorem loKK_s (h : Src) (env : Nat → V) (n : Nat) (k : Nat → Prop) : loKK (some h) env n k = asBoundK n (h.ev env) k:=nr rfl
@[congr] theorem hiKK_cg {o : Option Src} {env : Nat → V} {n n' : Nat} {k : Nat → Prop} (h : wr n = n') : hiKK o env n k = hiKK o env n' k:=by rw [← h,wr_eq]
@[congr] theorem loKK_cg {o : Option Src} {env : Nat → V} {n n' : Nat} {k : Nat → Prop} (h : wr n = n') : loKK o env n k = loKK o env n' k:=by rw [← h,wr_eq]
theorem e_slice (env : Nat → V) (σ : Store) (k : Eff → Prop) (sz : Nat) (x : Src) (lo hi : Option Src) : I.effK env σ (.slice sz x lo hi) k =
  optK (lenOf σ (x.ev env)) fun n=>hiKK hi env n fun h=>loKK lo env h fun l=>slK (x.ev env) (mvK .nils fun v=>k (.val v)) (fun sz' rows=>sz' = sz ∧ mvK (.sl sz' ((rows.take h).drop l)) fun v=>k (.val v))
   (fun o s _=>optK (objAt σ o) fun ob=>ob.sz = sz ∧ mvK (.msl o (s + l) (h - l)) fun v=>k (.val v)):=by
 simp only [I.effK]
 congr 1
 funext n
 cases hi <;> cases lo <;> simp only [hiKK,loKK,natK,mvK] <;> (cases x.ev env <;> rfl)
theorem e_sliceS (env : Nat → V) (σ : Store) (k : Eff → Prop) (x : Src) (lo hi : Option Src) : I.effK env σ (.sliceS x lo hi) k =
  strK (x.ev env) fun s=>hiKK hi env s.length fun h=>loKK lo env h fun l=>mvK (.str ((s.take h).drop l)) fun v=>k (.val v):=by
 simp only [I.effK]
 cases x.ev env <;> first | rfl | (cases hi <;> cases lo <;> rfl)
theorem PF.lax {T : Nat → Option Fn} {f : Nat} {as as' : List V} {r r' : V} (h : PF T f as r) (ha : LaxL as as') (hr : LaxV r' r) : PF T f as' r':=Run.laxF ha h hr
def val : List Int → Nat
 | []=>0
 | d :: l=>d.toNat + 1000000000 * val l
def mk (n : Nat) : List Int:=if h : n = 0 then [] else ((n % 1000000000 : Nat) : Int) :: mk (n / 1000000000)
termination_by n
decreasing_by omega
def Lb (l : List Int) : Prop:=∀ d ∈ l,0 ≤ d ∧ d < 1000000000
theorem mk_zero : mk 0 = []:=by rw [mk];rfl
theorem mk_pos {n : Nat} (h : n ≠ 0) : mk n = ((n % 1000000000 : Nat) : Int) :: mk (n / 1000000000):=by rw [mk];rw [dif_neg h]
theorem val_mk (n : Nat) : val (mk n) = n:=by
 induction n using Nat.strongRecOn with
 |
  ind n ih =>
  by_cases h : n = 0
  ·subst h;rw [mk_zero];rfl
  ·rw [mk_pos h]
   simp only [val]
   rw [ih _ (by omega),Int.toNat_natCast]
   omega
theorem lb_mk (n : Nat) : Lb (mk n):=by
 induction n using Nat.strongRecOn with
 |
  ind n ih =>
  by_cases h : n = 0
  ·subst h;rw [mk_zero];intro d hd;cases hd
  ·rw [mk_pos h]
   intro d hd
   rcases List.mem_cons.1 hd with rfl | hd
   ·omega
   ·exact ih _ (by omega) d hd
theorem val_append (a b : List Int) : val (a ++ b) = val a + 1000000000 ^ a.length * val b:=by
 induction a with
 | nil=>simp [val]
 |
  cons d a ih =>
  simp only [List.cons_append,val,ih,List.length_cons,Nat.pow_succ,Nat.mul_add]
  rw [Nat.mul_comm (1000000000 ^ a.length) 1000000000,Nat.mul_assoc]
  omega
theorem val_lt {l : List Int} (h : Lb l) : val l < 1000000000 ^ l.length:=by
 induction l with
 | nil=>simp [val]
 |
  cons d l ih =>
  have h1:=h d (by simp)
  have h2:=ih fun x hx=>h x (by simp [hx])
  simp only [val,List.length_cons,Nat.pow_succ]
  have : d.toNat < 1000000000:=by omega
  generalize 1000000000 ^ l.length = p at *
  omega
theorem mk_append_zero (n : Nat) : ∀ (l : List Int),Lb l → val l = n → n ≠ 0 → l.getLast? ≠ some 0 → mk n = l:=by
 induction n using Nat.strongRecOn with
 |
  ind n ih =>
  intro l hl hv hn ht
  cases l with
  | nil=>simp [val] at hv;omega
  |
   cons d l =>
   have hd:=hl d (by simp)
   have hl' : Lb l:=fun x hx=>hl x (by simp [hx])
   simp only [val] at hv
   rw [mk_pos hn]
   have e1 : ((n % 1000000000 : Nat) : Int) = d:=by omega
   have e2 : n / 1000000000 = val l:=by omega
   rw [e1,e2]
   congr 1
   by_cases h0 : val l = 0
   ·rw [h0,mk_zero]
    have hz : ∀ (l : List Int),Lb l → val l = 0 → ∀ x ∈ l,x = 0:=by
     intro l
     induction l with
     | nil=>intro _ _ x hx;cases hx
     |
      cons y l ih2 =>
      intro hl hv x hx
      simp only [val] at hv
      have hy:=hl y (by simp)
      rcases List.mem_cons.1 hx with rfl | hx
      ·omega
      ·exact ih2 (fun z hz=>hl z (by simp [hz])) (by omega) x hx
    cases l with
    | nil=>rfl
    |
     cons y l =>
     exfalso
     apply ht
     have hlast : (d :: y :: l).getLast? = some ((y :: l).getLast (by simp)):=by
      rw [List.getLast?_cons_cons,List.getLast?_eq_some_getLast (by simp)]
     rw [hlast]
     congr 1
     exact hz _ hl' h0 _ (List.getLast_mem _)
   ·refine ih (val l) (by omega) l hl' rfl h0 ?_
    cases l with
    | nil=>simp [val] at h0
    | cons y l=>rwa [List.getLast?_cons_cons] at ht
def Can (l : List Int) : Prop:=Lb l ∧ l.getLast? ≠ some 0
theorem mk_val {l : List Int} (h : Can l) : mk (val l) = l:=by
 by_cases h0 : val l = 0
 ·rw [h0,mk_zero]
  cases l with
  | nil=>rfl
  |
   cons d l =>
   exfalso
   apply h.2
   have hz : ∀ (l : List Int),Lb l → val l = 0 → ∀ x ∈ l,x = 0:=by
    intro l
    induction l with
    | nil=>intro _ _ x hx;cases hx
    |
     cons y l ih2 =>
     intro hl hv x hx
     simp only [val] at hv
     have hy:=hl y (by simp)
     rcases List.mem_cons.1 hx with rfl | hx
     ·omega
     ·exact ih2 (fun z hz=>hl z (by simp [hz])) (by omega) x hx
   rw [List.getLast?_eq_some_getLast (by simp)]
   congr 1
   exact hz _ h.1 h0 _ (List.getLast_mem _)
 ·exact mk_append_zero _ l h.1 rfl h0 h.2
theorem can_mk (n : Nat) : Can (mk n):=by
 refine ⟨lb_mk n,?_⟩
 induction n using Nat.strongRecOn with
 |
  ind n ih =>
  by_cases h : n = 0
  ·subst h;rw [mk_zero];simp
  ·rw [mk_pos h]
   by_cases h1 : n / 1000000000 = 0
   ·rw [h1,mk_zero]
    simp
    omega
   ·rw [mk_pos h1,List.getLast?_cons_cons,← mk_pos h1]
    exact ih _ (by omega)
theorem mk_len_le {n k : Nat} : (mk n).length ≤ k ↔ n < 1000000000 ^ k:=by
 constructor
 ·intro h
  have h1:=val_lt (lb_mk n)
  rw [val_mk] at h1
  exact Nat.lt_of_lt_of_le h1 (Nat.pow_le_pow_right (by omega) h)
 ·induction k generalizing n with
  | zero =>
       intro h;have : n = 0:=by simpa using h
       subst this;rw [mk_zero];simp
  |
   succ k ih =>
   intro h
   by_cases h0 : n = 0
   ·subst h0;rw [mk_zero];simp
   ·rw [mk_pos h0,List.length_cons]
    have : n / 1000000000 < 1000000000 ^ k:=by
     rw [Nat.pow_succ,Nat.mul_comm] at h
     exact Nat.div_lt_of_lt_mul h
    have:=ih this
    omega
theorem mk_len_lt {n k : Nat} : k < (mk n).length ↔ 1000000000 ^ k ≤ n:=by
 have:=@mk_len_le n k
 omega
theorem mk_nil {n : Nat} : mk n = [] ↔ n = 0:=by
 constructor
 ·intro h;have:=val_mk n;rw [h] at this;simpa [val] using this.symm
 ·rintro rfl;exact mk_zero
theorem mk_ne {n : Nat} (h : n ≠ 0) : 0 < (mk n).length:=by
 rw [mk_pos h];simp
theorem can_of_ge {l : List Int} (h : Lb l) (hv : l ≠ [] → 1000000000 ^ (l.length - 1) ≤ val l) : Can l:=by
 refine ⟨h,fun ht=>?_⟩
 cases hl : l with
 | nil=>rw [hl] at ht;simp at ht
 |
  cons d r =>
  have hne : l ≠ []:=by rw [hl];simp
  have h1:=hv hne
  have h2 : l = l.dropLast ++ [0]:=by
   have:=List.dropLast_concat_getLast hne
   rw [List.getLast?_eq_some_getLast hne] at ht
   rw [Option.some.inj ht] at this
   exact this.symm
  have h3 : Lb l.dropLast:=fun x hx=>h x (List.dropLast_subset _ hx)
  have h4:=val_lt h3
  rw [h2,val_append] at h1
  simp only [val,List.length_append,List.length_cons,List.length_nil,List.length_dropLast] at h1 h4
  simp at h1
  omega
def trimN (l : List Int) : Nat → Nat
 | 0=>0
 | n + 1=>if l.getD n 0 = 0 then trimN l n else n + 1
def trim (l : List Int) : List Int:=l.take (trimN l l.length)
theorem trimN_le (l : List Int) : ∀ n,trimN l n ≤ n
 | 0=>Nat.le_refl _
 | n + 1=>by simp only [trimN];split;exact Nat.le_succ_of_le (trimN_le l n);exact Nat.le_refl _
theorem take_succ_getD {l : List Int} {n : Nat} (h : n < l.length) : l.take (n + 1) = l.take n ++ [l.getD n 0]:=by
 rw [List.take_add_one]
 simp [List.getD_eq_getElem?_getD,h]
theorem trim_spec (l : List Int) : ∀ n,n ≤ l.length → val (l.take (trimN l n)) = val (l.take n) ∧ (l.take (trimN l n)).getLast? ≠ some 0
 | 0,_=>by simp [trimN]
 |
  n + 1,h=>by
  simp only [trimN]
  obtain ⟨h1,h2⟩:=trim_spec l n (by omega)
  split
  ·rename_i h0
   refine ⟨?_,h2⟩
   rw [h1,take_succ_getD (by omega),h0,val_append]
   simp [val]
  ·rename_i h0
   refine ⟨rfl,?_⟩
   rw [take_succ_getD (by omega)]
   simp only [List.getLast?_append,List.getLast?_singleton,Option.some_or,ne_eq,Option.some.injEq]
   exact h0
theorem lb_take {l : List Int} (h : Lb l) (n : Nat) : Lb (l.take n):=fun x hx=>h x (List.mem_of_mem_take hx)
theorem trim_mk {l : List Int} (h : Lb l) : trim l = mk (val l):=by
 obtain ⟨h1,h2⟩:=trim_spec l l.length (Nat.le_refl _)
 rw [List.take_length] at h1
 have hc : Can (trim l):=⟨lb_take h _,h2⟩
 rw [← h1]
 exact (mk_val hc).symm
theorem trim_can {l : List Int} (h : Can l) : trim l = l:=by rw [trim_mk h.1,mk_val h]
theorem lb_nil : Lb []:=fun x hx=>by cases hx
theorem lb_snoc {d : Int} {l : List Int} (h0 : 0 ≤ d) (h1 : d < 1000000000) (h : Lb l) : Lb (l ++ [d]):=by
 intro x hx
 rcases List.mem_append.1 hx with hx | hx
 ·exact h x hx
 ·simp at hx;subst hx;exact ⟨h0,h1⟩
theorem lb_set {l : List Int} {d : Int} {i : Nat} (h0 : 0 ≤ d) (h1 : d < 1000000000) (h : Lb l) : Lb (l.set i d):=by
 intro x hx
 rcases List.mem_or_eq_of_mem_set hx with hx | rfl
 ·exact h x hx
 ·exact ⟨h0,h1⟩
theorem lb_at {l : List Int} (h : Lb l) (i : Nat) : 0 ≤ l.getD i 0 ∧ l.getD i 0 < 1000000000:=by
 by_cases hi : i < l.length
 ·rw [List.getD_eq_getElem?_getD,List.getElem?_eq_getElem hi]
  exact h _ (List.getElem_mem _)
 ·rw [List.getD_eq_getElem?_getD,List.getElem?_eq_none (by omega)];simp
theorem lb_rep (n : Nat) : Lb (List.replicate n 0):=by
 intro x hx
 have:=List.eq_of_mem_replicate hx
 subst this;omega
theorem val_snoc (l : List Int) (d : Int) : val (l ++ [d]) = val l + 1000000000 ^ l.length * d.toNat:=by
 rw [val_append];simp [val]
theorem val_drop {l : List Int} {i : Nat} (h : i < l.length) : val (l.drop i) = (l.getD i 0).toNat + 1000000000 * val (l.drop (i + 1)):=by
 rw [List.drop_eq_getElem_cons h]
 simp [val,List.getD_eq_getElem?_getD,h]
theorem val_drop_ge {l : List Int} {i : Nat} (h : l.length ≤ i) : val (l.drop i) = 0:=by
 rw [List.drop_eq_nil_of_le h];rfl
theorem val_take_drop (l : List Int) (i : Nat) : val l = val (l.take i) + 1000000000 ^ (l.take i).length * val (l.drop i):=by
 rw [← val_append,List.take_append_drop]
theorem val_rep (n : Nat) : val (List.replicate n 0) = 0:=by
 induction n with
 | zero=>rfl
 | succ n ih=>simp [List.replicate_succ,val,ih]
theorem val_set {l : List Int} {i : Nat} {d : Int} (h : i < l.length) : val (l.set i d) + 1000000000 ^ i * (l.getD i 0).toNat = val l + 1000000000 ^ i * d.toNat:=by
 induction l generalizing i with
 | nil=>simp at h
 |
  cons x l ih =>
  cases i with
  | zero=>simp [val];omega
  |
   succ i =>
   have:=ih (i:=i) (by simpa using h)
   simp only [List.set_cons_succ,val,Nat.pow_succ]
   have e : (x :: l).getD (i + 1) 0 = l.getD i 0:=by simp
   rw [e]
   have e1 : ∀ z,1000000000 ^ i * 1000000000 * z = 1000000000 * (1000000000 ^ i * z):=fun z=>by rw [Nat.mul_comm (1000000000 ^ i) 1000000000,Nat.mul_assoc]
   rw [e1,e1]
   generalize 1000000000 ^ i * (l.getD i 0).toNat = p at *
   generalize 1000000000 ^ i * d.toNat = q at *
   omega
def cmpN (a b : Nat) : Int:=if a < b then -1 else if b < a then 1 else 0
theorem val_last {l : List Int} {n : Nat} (h : n < l.length) : val (l.take (n + 1)) = val (l.take n) + 1000000000 ^ n * (l.getD n 0).toNat:=by
 have e : (l.take n).length = n:=by simp;omega
 rw [take_succ_getD h,val_snoc,e]
theorem can_ge {l : List Int} (h : Can l) (hne : l ≠ []) : 1000000000 ^ (l.length - 1) ≤ val l:=by
 have h1:=@mk_len_lt (val l) (l.length - 1)
 rw [mk_val h] at h1
 apply h1.1
 have : l.length ≠ 0:=fun e=>hne (List.eq_nil_of_length_eq_zero e)
 omega
theorem val_lt_of_len {a b : List Int} (ha : Lb a) (hb : Can b) (h : a.length < b.length) : val a < val b:=by
 have h1:=val_lt ha
 have hne : b ≠ []:=by intro e;subst e;simp at h
 have h2:=can_ge hb hne
 exact Nat.lt_of_lt_of_le h1 (Nat.le_trans (Nat.pow_le_pow_right (by omega) (by omega)) h2)
theorem val_lt_at {a b : List Int} (ha : Lb a) (hb : Lb b) {i : Nat} (hia : i < a.length) (hib : i < b.length) (hd : a.drop (i + 1) = b.drop (i + 1)) (hlt : a.getD i 0 < b.getD i 0) : val a < val b:=by
 rw [val_take_drop a (i + 1),val_take_drop b (i + 1),hd,val_last hia,val_last hib]
 have h1:=val_lt (lb_take ha i)
 have e1 : (a.take (i + 1)).length = i + 1:=by simp;omega
 have e2 : (b.take (i + 1)).length = i + 1:=by simp;omega
 have e3 : (a.take i).length = i:=by simp;omega
 rw [e1,e2]
 rw [e3] at h1
 have h2:=lb_at ha i
 have h3:=lb_at hb i
 have : 1000000000 ^ i * (a.getD i 0).toNat + 1000000000 ^ i ≤ 1000000000 ^ i * (b.getD i 0).toNat:=by
  rw [← Nat.mul_succ]
  exact Nat.mul_le_mul_left _ (by omega)
 omega
structure R where
 neg : Bool
 mag : List Int
 den : List Int
 deriving DecidableEq
instance : Inhabited R:=⟨⟨false,[],[]⟩⟩
def fits (q : Rat) : Bool:=decide (q.num.natAbs < 1000000000 ^ 24) && decide (q.den < 1000000000 ^ 24)
abbrev Q:=Option Rat
def norm (q : Rat) : Q:=if fits q = true then some q else none
def Q.raw : Q → R
 | none=>⟨false,[],[]⟩
 | some q=>⟨decide (q.num < 0),mk q.num.natAbs,mk q.den⟩
def Q.ok : Q → Prop
 | none=>True
 | some q=>fits q = true
theorem norm_ok (q : Rat) : (norm q).ok:=by
 unfold norm
 split
 ·assumption
 ·trivial
theorem norm_fits {q : Rat} (h : fits q = true) : norm q = some q:=by unfold norm;rw [if_pos h]
theorem norm_none {q : Rat} (h : fits q = false) : norm q = none:=by unfold norm;rw [if_neg (by simp [h])]
def negQ : Q → Q
 | some a=>some (-a)
 | none=>none
def addQ : Q → Q → Q
 | some a,some b=>norm (a + b)
 | _,_=>none
def subQ (a b : Q) : Q:=addQ a (negQ b)
def mulQ : Q → Q → Q
 | some a,some b=>norm (a * b)
 | _,_=>none
def divQ : Q → Q → Q
 | some a,some b=>if b = 0 then none else norm (a / b)
 | _,_=>none
def mkQ (n d : Int) : Q:=if d = 0 then none else norm (Rat.divInt n d)
def sgn (n : Int) : Int:=if n < 0 then -1 else if n = 0 then 0 else 1
def signQ : Q → Int
 | some a=>sgn a.num
 | none=>0
def intQ (n : Int) : Q:=some (n : Rat)
theorem negQ_ok {a : Q} (h : a.ok) : (negQ a).ok:=by
 cases a with
 | none=>trivial
 |
  some a =>
  simp only [negQ,Q.ok,fits,Rat.neg_num,Rat.neg_den,Int.natAbs_neg] at h ⊢
  exact h
theorem addQ_ok (a b : Q) : (addQ a b).ok:=by
 unfold addQ;split <;> first | exact norm_ok _ | trivial
theorem subQ_ok (a b : Q) : (subQ a b).ok:=addQ_ok _ _
theorem mulQ_ok (a b : Q) : (mulQ a b).ok:=by
 unfold mulQ;split <;> first | exact norm_ok _ | trivial
theorem divQ_ok (a b : Q) : (divQ a b).ok:=by
 unfold divQ;split <;> first | (split <;> first | exact norm_ok _ | trivial) | trivial
theorem intQ_ok {n : Int} (h : n.natAbs < 1000000000 ^ 24) : (intQ n).ok:=by
 have h1 : decide (n.natAbs < 1000000000 ^ 24) = true:=decide_eq_true h
 show (decide ((n : Rat).num.natAbs < 1000000000 ^ 24) && decide ((n : Rat).den < 1000000000 ^ 24)) = true
 rw [Rat.num_intCast,Rat.den_intCast,h1]
 rfl
theorem mkQ_add (a b : Rat) : mkQ (a.num * b.den + b.num * a.den) (a.den * b.den) = norm (a + b):=by
 have ha:=a.den_nz
 have hb:=b.den_nz
 have h0 : (a.den : Int) * b.den ≠ 0:=by
  intro h
  rcases Int.mul_eq_zero.1 h with h | h <;> omega
 unfold mkQ
 rw [if_neg h0,Rat.add_def',← Rat.divInt_ofNat]
 simp
theorem mkQ_mul (a b : Rat) : mkQ (a.num * b.num) (a.den * b.den) = norm (a * b):=by
 have ha:=a.den_nz
 have hb:=b.den_nz
 have h0 : (a.den : Int) * b.den ≠ 0:=by
  intro h
  rcases Int.mul_eq_zero.1 h with h | h <;> omega
 unfold mkQ
 rw [if_neg h0,Rat.mul_def',← Rat.divInt_ofNat]
 simp
theorem mkQ_div (a b : Rat) : mkQ (a.num * b.den) (b.num * a.den) = if b = 0 then none else norm (a / b):=by
 have ha:=a.den_nz
 have hb:=b.den_nz
 unfold mkQ
 by_cases h : b = 0
 ·subst h;simp
 ·have hn : b.num ≠ 0:=fun k=>h (Rat.num_eq_zero.1 k)
  have h0 : b.num * (a.den : Int) ≠ 0:=by
   intro h
   rcases Int.mul_eq_zero.1 h with h | h <;> omega
  rw [if_neg h0,if_neg h,Rat.div_def,Rat.inv_def]
  congr 1
  conv=>rhs;lhs;rw [← Rat.num_divInt_den a]
  rw [Rat.divInt_mul_divInt,Int.mul_comm b.num]
theorem divInt_num {n d : Int} (h : d ≠ 0) : (Rat.divInt n d).num.natAbs = n.natAbs / Nat.gcd n.natAbs d.natAbs ∧ (Rat.divInt n d).den = d.natAbs / Nat.gcd n.natAbs d.natAbs ∧
  (decide ((Rat.divInt n d).num < 0) = (decide (n ≠ 0) && (decide (n < 0) != decide (d < 0)))):=by
 have hg : d.gcd n = Nat.gcd n.natAbs d.natAbs:=by rw [Int.gcd_comm];rfl
 have hgpos : 0 < Nat.gcd n.natAbs d.natAbs:=Nat.gcd_pos_of_pos_right _ (by omega)
 have hdvd : ((Nat.gcd n.natAbs d.natAbs : Nat) : Int) ∣ d.sign * n:=by
  have : ((Nat.gcd n.natAbs d.natAbs : Nat) : Int) ∣ n:=Int.ofNat_dvd_left.2 (Nat.gcd_dvd_left _ _)
  exact Int.dvd_trans this (Int.dvd_mul_left _ _)
 rw [Rat.num_divInt,Rat.den_divInt,if_neg h,hg]
 obtain ⟨c,hc⟩:=hdvd
 have hsg : d.sign = 1 ∨ d.sign = -1:=by
  rcases Int.lt_trichotomy d 0 with h1 | h1 | h1
  ·right;exact Int.sign_eq_neg_one_of_neg h1
  ·exact absurd h1 h
  ·left;exact Int.sign_eq_one_of_pos h1
 refine ⟨?_,rfl,?_⟩
 ·rw [hc,Int.mul_ediv_cancel_left _ (by omega)]
  have h1 : (d.sign * n).natAbs = n.natAbs:=by
   rcases hsg with e | e <;> rw [e] <;> simp
  have h2 : n.natAbs = Nat.gcd n.natAbs d.natAbs * c.natAbs:=by
   have h3:=congrArg Int.natAbs hc
   rw [h1,Int.natAbs_mul,Int.natAbs_natCast] at h3
   exact h3
  generalize hG : Nat.gcd n.natAbs d.natAbs = G at *
  rw [h2,Nat.mul_div_cancel_left _ hgpos]
 ·rw [hc,Int.mul_ediv_cancel_left _ (by omega)]
  have hcn : (c < 0) ↔ (d.sign * n < 0):=by
   rw [hc]
   constructor
   ·intro hlt;exact Int.mul_neg_of_pos_of_neg (by omega) hlt
   ·intro hlt
    by_cases k : c < 0
    ·exact k
    ·have k : 0 ≤ c:=by omega
     have:=Int.mul_nonneg (by omega : (0 : Int) ≤ ((Nat.gcd n.natAbs d.natAbs : Nat) : Int)) k
     omega
  rcases Int.lt_trichotomy d 0 with h1 | h1 | h1
  ·rw [Int.sign_eq_neg_one_of_neg h1] at hcn
   have e1 : decide (d < 0) = true:=by simpa using h1
   rw [e1]
   by_cases hn : n < 0
   ·have : ¬ c < 0:=by rw [hcn];omega
    simp [hn,this]
   ·by_cases hn0 : n = 0
    ·have : ¬ c < 0:=by rw [hcn];omega
     simp [hn0,this]
    ·have : c < 0:=by rw [hcn];omega
     simp [hn,hn0,this]
  ·exact absurd h1 h
  ·rw [Int.sign_eq_one_of_pos h1] at hcn
   have e1 : decide (d < 0) = false:=by simp;omega
   rw [e1]
   by_cases hn : n < 0
   ·have : c < 0:=by rw [hcn];omega
    have h2 : n ≠ 0:=by omega
    simp [hn,this,h2]
   ·have : ¬ c < 0:=by rw [hcn];omega
    simp [hn,this]
def natOk (a : List Int) : Bool:=decide (a.length ≤ 60) && a.all (fun d=>decide (0 ≤ d) && decide (d < 1000000000)) && (a.isEmpty || decide (a.getD (a.length - 1) 0 ≠ 0))
theorem natOk_can {a : List Int} : natOk a = true ↔ a.length ≤ 60 ∧ Can a:=by
 unfold natOk Can Lb
 simp only [Bool.and_eq_true,decide_eq_true_eq,List.all_eq_true,Bool.or_eq_true,List.isEmpty_iff]
 have h : (a = [] ∨ a.getD (a.length - 1) 0 ≠ 0) ↔ a.getLast? ≠ some 0:=by
  cases a with
  | nil=>simp
  |
   cons d l =>
   rw [List.getLast?_eq_getElem?,List.getD_eq_getElem?_getD]
   simp
 rw [h,and_assoc]
theorem natOk_mk {a : List Int} (h : natOk a = true) : a = mk (val a):=(mk_val (natOk_can.1 h).2).symm
theorem natOk_of {n : Nat} (h : n < 1000000000 ^ 60) : natOk (mk n) = true:=natOk_can.2 ⟨mk_len_le.2 h,can_mk n⟩
def R.ok (r : R) : Bool:=natOk r.mag && (!(r.neg && r.mag.isEmpty)) && natOk r.den && !r.den.isEmpty && decide (r.mag.length ≤ 24) && decide (r.den.length ≤ 24) &&
 decide (Nat.gcd (val r.mag) (val r.den) = 1)
theorem raw_ok {q : Rat} (h : fits q = true) : (Q.raw (some q)).ok = true:=by
 simp only [fits,Bool.and_eq_true,decide_eq_true_eq] at h
 obtain ⟨h1,h2⟩:=h
 have p : (1000000000 : Nat) ^ 24 ≤ 1000000000 ^ 60:=Nat.pow_le_pow_right (by omega) (by omega)
 unfold R.ok Q.raw
 simp only [Bool.and_eq_true,decide_eq_true_eq,Bool.not_eq_true',Bool.and_eq_false_iff,List.isEmpty_eq_false_iff,val_mk]
 refine ⟨⟨⟨⟨⟨⟨natOk_of (by omega),?_⟩,natOk_of (by omega)⟩,?_⟩,mk_len_le.2 h1⟩,mk_len_le.2 h2⟩,q.reduced⟩
 ·by_cases h0 : q.num < 0
  ·right;intro e;rw [mk_nil] at e;omega
  ·left;exact decide_eq_false h0
 ·intro e;rw [mk_nil] at e;exact q.den_nz e
theorem ok_raw {r : R} (h : r.ok = true) : ∃ q : Rat,fits q = true ∧ r = Q.raw (some q):=by
 obtain ⟨neg,mag,den⟩:=r
 unfold R.ok at h
 simp only [Bool.and_eq_true,decide_eq_true_eq,Bool.not_eq_true',Bool.and_eq_false_iff,List.isEmpty_eq_false_iff] at h
 obtain ⟨⟨⟨⟨⟨⟨h1,h2⟩,h3⟩,h4⟩,h5⟩,h6⟩,h7⟩:=h
 have em:=natOk_mk h1
 have ed:=natOk_mk h3
 have hdn : val den ≠ 0:=by intro e;rw [e,mk_zero] at ed;exact h4 ed
 refine ⟨⟨if neg then -(val mag : Int) else val mag,val den,hdn,?_⟩,?_,?_⟩
 ·unfold Nat.Coprime
  cases neg <;> simpa using h7
 ·simp only [fits,Bool.and_eq_true,decide_eq_true_eq]
  rw [em] at h5
  rw [ed] at h6
  rw [mk_len_le] at h5 h6
  refine ⟨?_,h6⟩
  cases neg <;> simpa using h5
 ·simp only [Q.raw,R.mk.injEq]
  refine ⟨?_,?_,ed⟩
  ·cases neg with
   | false=>simp
   |
    true =>
    simp only [if_true]
    rcases h2 with h2 | h2
    ·cases h2
    ·have : val mag ≠ 0:=by intro e;rw [e,mk_zero] at em;exact h2 em
     simp;omega
  ·have : (if neg = true then -(val mag : Int) else (val mag : Int)).natAbs = val mag:=by cases neg <;> simp
   rw [this];exact em
theorem raw_none_ok : (Q.raw none).ok = false:=by decide
def R.q (r : R) : Q:=if r.ok = true then some (mkRat (if r.neg then -(val r.mag : Int) else val r.mag) (val r.den)) else none
theorem q_raw {q : Q} (h : q.ok) : (Q.raw q).q = q:=by
 cases q with
 | none=>unfold R.q;rw [raw_none_ok];rfl
 |
  some q =>
  have h' : fits q = true:=h
  unfold R.q
  rw [if_pos (raw_ok h')]
  congr 1
  simp only [Q.raw,val_mk]
  have : (if decide (q.num < 0) = true then -(q.num.natAbs : Int) else (q.num.natAbs : Int)) = q.num:=by
   split
   ·rename_i h;have h:=of_decide_eq_true h;omega
   ·rename_i h;have h : ¬ q.num < 0:=fun k=>h (decide_eq_true k);omega
  rw [this,Rat.mkRat_self]
theorem q_ok (r : R) : r.q.ok:=by
 by_cases h : r.ok = true
 ·obtain ⟨q,h1,rfl⟩:=ok_raw h
  rw [q_raw (q:=some q) h1];exact h1
 ·unfold R.q;rw [if_neg h];trivial
theorem raw_q {r : R} (h : r.ok = true) : Q.raw r.q = r:=by
 obtain ⟨q,h1,rfl⟩:=ok_raw h
 rw [q_raw (q:=some q) h1]
theorem q_some {r : R} : r.q.isSome = r.ok:=by
 unfold R.q;split <;> simp_all
abbrev iv (n : Int) : V:=.int .i64 n
structure Lk where
 a : Int
 b : Int
 w : R
 dx : R
 dy : R
 deriving Inhabited,DecidableEq
structure Pt where
 x : R
 y : R
 deriving Inhabited,DecidableEq
structure Pa where
 node : Int
 share : R
 dx : R
 dy : R
 deriving Inhabited,DecidableEq
structure Cd where
 node : Int
 total : R
 ps : List Pa
 deriving Inhabited,DecidableEq
structure Tn where
 node : Int
 up : Int
 own : List Lk
 cond : Cd
 msgs : List Lk
 energy : R
 deriving Inhabited,DecidableEq
structure Po where
 turn : Int
 x : Int
 y : Int
 deriving Inhabited,DecidableEq
structure Bi where
 neg : Bool
 mag : List Int
 deriving Inhabited,DecidableEq
abbrev R.num (r : R) : Bi:=⟨r.neg,r.mag⟩
abbrev Bi.cells (z : Bi) : List V:=[.bool z.neg,ints z.mag]
abbrev R.cells (r : R) : List V:=[.bool r.neg,ints r.mag,ints r.den]
abbrev Lk.cells (l : Lk) : List V:=[iv l.a,iv l.b,.bool l.w.neg,ints l.w.mag,ints l.w.den,.bool l.dx.neg,ints l.dx.mag,ints l.dx.den,.bool l.dy.neg,ints l.dy.mag,ints l.dy.den]
abbrev Pt.cells (p : Pt) : List V:=[.bool p.x.neg,ints p.x.mag,ints p.x.den,.bool p.y.neg,ints p.y.mag,ints p.y.den]
abbrev Pa.cells (p : Pa) : List V:=[iv p.node,.bool p.share.neg,ints p.share.mag,ints p.share.den,.bool p.dx.neg,ints p.dx.mag,ints p.dx.den,.bool p.dy.neg,ints p.dy.mag,ints p.dy.den]
abbrev pasV (l : List Pa) : V:=.sl 10 (l.map Pa.cells)
abbrev lksV (l : List Lk) : V:=.sl 11 (l.map Lk.cells)
abbrev ptsV (l : List Pt) : V:=.sl 6 (l.map Pt.cells)
abbrev ratsV (l : List R) : V:=.sl 3 (l.map R.cells)
abbrev Cd.cells (c : Cd) : List V:=[iv c.node,.bool c.total.neg,ints c.total.mag,ints c.total.den,pasV c.ps]
abbrev Tn.cells (t : Tn) : List V:=[iv t.node,iv t.up,lksV t.own,iv t.cond.node,.bool t.cond.total.neg,ints t.cond.total.mag,ints t.cond.total.den,pasV t.cond.ps,lksV t.msgs,
 .bool t.energy.neg,ints t.energy.mag,ints t.energy.den]
abbrev tnsV (l : List Tn) : V:=.sl 12 (l.map Tn.cells)
abbrev ratssV (l : List (List R)) : V:=.sl 1 (l.map fun r=>[ratsV r])
abbrev Po.cells (p : Po) : List V:=[iv p.turn,iv p.x,iv p.y]
abbrev ratV (r : R) : V:=.agg r.cells
abbrev biV (z : Bi) : V:=.agg z.cells
abbrev lkV (l : Lk) : V:=.agg l.cells
abbrev ptV (p : Pt) : V:=.agg p.cells
theorem mg {α : Type} [Inhabited α] {l : List α} {f : α → List V} {j : Nat} (h : j < l.length) : (l.map f).getD j [] = f (l.getD j default):=by
 simp [List.getD_eq_getElem?_getD,List.getElem?_eq_getElem h]
theorem mg? {α : Type} [Inhabited α] {l : List α} {f : α → List V} {j : Nat} (h : j < l.length) : (l.map f)[j]? = some (f (l.getD j default)):=by
 simp [List.getD_eq_getElem?_getD,List.getElem?_eq_getElem h]
theorem R.ext' {p q : R} (h1 : p.neg = q.neg) (h2 : p.mag = q.mag) (h3 : p.den = q.den) : p = q:=by cases p;cases q;simp_all
theorem Pt.ext' {p q : Pt} (h1 : p.x = q.x) (h2 : p.y = q.y) : p = q:=by cases p;cases q;simp_all
theorem Lk.ext' {p q : Lk} (h1 : p.a = q.a) (h2 : p.b = q.b) (h3 : p.w = q.w) (h4 : p.dx = q.dx) (h5 : p.dy = q.dy) : p = q:=by cases p;cases q;simp_all
theorem Pa.ext' {p q : Pa} (h1 : p.node = q.node) (h2 : p.share = q.share) (h3 : p.dx = q.dx) (h4 : p.dy = q.dy) : p = q:=by cases p;cases q;simp_all
theorem Cd.ext' {p q : Cd} (h1 : p.node = q.node) (h2 : p.total = q.total) (h3 : p.ps = q.ps) : p = q:=by cases p;cases q;simp_all
theorem Tn.ext' {p q : Tn} (h1 : p.node = q.node) (h2 : p.up = q.up) (h3 : p.own = q.own) (h4 : p.cond = q.cond) (h5 : p.msgs = q.msgs) (h6 : p.energy = q.energy) : p = q:=by cases p;cases q;simp_all
def szr (left : Int) (n : Nat) : Int:=if left < n then -1 else left - n
theorem szr_neg {left : Int} {n : Nat} (h : szr left n < 0) (h0 : 0 ≤ left) (m : Nat) : szr left (n + m) = -1:=by
 unfold szr at h ⊢
 split at h
 ·rw [if_pos (by omega)]
 ·omega
theorem szr_add {left : Int} {n : Nat} (h : ¬ szr left n < 0) (m : Nat) : szr (szr left n) m = szr left (n + m):=by
 unfold szr at h ⊢
 split at h
 ·omega
 ·rename_i k
  rw [if_neg k]
  by_cases e : left < ((n + m : Nat) : Int)
  ·rw [if_pos (by omega),if_pos e]
  ·rw [if_neg (by omega),if_neg e];omega
theorem szr_le {left : Int} {n : Nat} : szr left n ≤ left ∨ szr left n = -1:=by
 unfold szr;split <;> omega
def sumTo {α : Type} (f : α → Nat) (l : List α) (i : Nat) : Nat:=((l.take i).map f).sum
theorem sumTo_zero {α : Type} (f : α → Nat) (l : List α) : sumTo f l 0 = 0:=by simp [sumTo]
theorem sumTo_succ {α : Type} [Inhabited α] (f : α → Nat) {l : List α} {i : Nat} (h : i < l.length) : sumTo f l (i + 1) = sumTo f l i + f (l.getD i default):=by
 unfold sumTo
 rw [List.take_add_one,List.getElem?_eq_getElem h,List.getD_eq_getElem?_getD,List.getElem?_eq_getElem h]
 simp only [Option.toList,Option.getD,List.map_append,List.map_cons,List.map_nil,List.sum_append,List.sum_cons,List.sum_nil,Nat.add_zero]
theorem sumTo_all {α : Type} (f : α → Nat) (l : List α) : sumTo f l l.length = (l.map f).sum:=by simp [sumTo]
theorem sumTo_le {α : Type} (f : α → Nat) (l : List α) (i : Nat) : sumTo f l i ≤ (l.map f).sum:=by
 unfold sumTo
 conv=>rhs;rw [← List.take_append_drop i l]
 rw [List.map_append,List.sum_append]
 omega
theorem sumTo_mono {α : Type} [Inhabited α] (f : α → Nat) {l : List α} {i : Nat} (h : i < l.length) : sumTo f l i + f (l.getD i default) ≤ (l.map f).sum:=by
 rw [← sumTo_succ f h];exact sumTo_le f l _
def szL {α : Type} (f : α → Nat) (l : List α) : Nat:=l.length + (l.map f).sum
theorem szL_eq {α : Type} (f : α → Nat) (l : List α) : szL f l = l.length + (l.map f).sum:=rfl
def R.sz (r : R) : Nat:=r.mag.length + r.den.length
def Lk.sz (l : Lk) : Nat:=l.w.sz + l.dx.sz + l.dy.sz
def Pt.sz (p : Pt) : Nat:=p.x.sz + p.y.sz
def Pa.sz (p : Pa) : Nat:=p.share.sz + p.dx.sz + p.dy.sz
def Cd.sz (c : Cd) : Nat:=c.total.sz + szL Pa.sz c.ps
def Tn.sz (t : Tn) : Nat:=szL Lk.sz t.own + t.cond.sz + szL Lk.sz t.msgs + t.energy.sz
def R.wf (r : R) : Prop:=r.mag.length ≤ 9223372036854775807 ∧ r.den.length ≤ 9223372036854775807
def Lk.wf (l : Lk) : Prop:=l.w.wf ∧ l.dx.wf ∧ l.dy.wf
def Pt.wf (p : Pt) : Prop:=p.x.wf ∧ p.y.wf
def Pa.wf (p : Pa) : Prop:=p.share.wf ∧ p.dx.wf ∧ p.dy.wf
def wfL {α : Type} (f : α → Prop) (l : List α) : Prop:=l.length ≤ 9223372036854775807 ∧ ∀ x ∈ l,f x
def Cd.wf (c : Cd) : Prop:=c.total.wf ∧ wfL Pa.wf c.ps
def Tn.wf (t : Tn) : Prop:=wfL Lk.wf t.own ∧ t.cond.wf ∧ wfL Lk.wf t.msgs ∧ t.energy.wf
theorem wfL.at_ {α : Type} [Inhabited α] {f : α → Prop} {l : List α} (h : wfL f l) {i : Nat} (hi : i < l.length) : f (l.getD i default):=by
 refine h.2 _ ?_
 simp [List.getD_eq_getElem?_getD,List.getElem?_eq_getElem hi]
theorem getD_mem {α : Type} [Inhabited α] {l : List α} {i : Nat} (hi : i < l.length) : l.getD i default ∈ l:=by
 simp [List.getD_eq_getElem?_getD,List.getElem?_eq_getElem hi]
def fillTo {α : Type} (l : List α) (z : α) (i : Nat) : List α:=l.take i ++ List.replicate (l.length - i) z
theorem fillTo_zero {α : Type} (l : List α) (z : α) : fillTo l z 0 = List.replicate l.length z:=by simp [fillTo]
theorem fillTo_all {α : Type} (l : List α) (z : α) : fillTo l z l.length = l:=by simp [fillTo]
theorem fillTo_len {α : Type} (l : List α) (z : α) {i : Nat} (h : i ≤ l.length) : (fillTo l z i).length = l.length:=by simp [fillTo];omega
theorem fillTo_set {α : Type} [Inhabited α] (l : List α) (z : α) {i : Nat} (h : i < l.length) : (fillTo l z i).set i (l.getD i default) = fillTo l z (i + 1):=by
 unfold fillTo
 have e : l.length - i = (l.length - (i + 1)) + 1:=by omega
 rw [List.set_append_right _ _ (by simp;omega),e,List.replicate_succ]
 have e2 : i - (l.take i).length = 0:=by simp;omega
 rw [e2,List.set_cons_zero,List.take_add_one,List.getElem?_eq_getElem h,List.getD_eq_getElem?_getD,List.getElem?_eq_getElem h]
 simp only [Option.toList,Option.getD,List.append_assoc,List.cons_append,List.nil_append]
theorem getD_ext' {α : Type} [Inhabited α] {a b : List α} (hl : a.length = b.length) (h : ∀ j,j < a.length → a.getD j default = b.getD j default) : a = b:=by
 refine List.ext_getElem hl fun i h1 h2=>?_
 have:=h i h1
 simpa [List.getD_eq_getElem?_getD,h1,h2] using this
theorem map_set {α : Type} (f : α → List V) (l : List α) (i : Nat) (z : α) : (l.map f).set i (f z) = (l.set i z).map f:=by simp [List.map_set]
theorem still_map {α : Type} {f : α → List V} {l : List α} (h : ∀ x ∈ l,∀ v ∈ f x,v.still = true) : stillR (l.map f):=by
 intro r hr v hv
 obtain ⟨x,hx,rfl⟩:=List.mem_map.1 hr
 exact h x hx v hv
end Go.Ml
namespace Go.Ml
theorem szr_neg0 {left : Int} {n : Nat} (h : szr left n < 0) (h0 : 0 ≤ left) : szr left n = -1:=szr_neg h h0 0
theorem szr_ok {left : Int} {n : Nat} (h : (n : Int) ≤ left) : szr left n = left - n:=by unfold szr;rw [if_neg (by omega)]
theorem szr_no {left : Int} {n : Nat} (h : left < (n : Int)) : szr left n = -1:=by unfold szr;rw [if_pos h]
theorem szr_lt {left : Int} {n : Nat} (h : szr left n < 0) (h0 : 0 ≤ left) : left < (n : Int):=by unfold szr at h;split at h <;> omega
theorem szr_nlt {left : Int} {n : Nat} (h : ¬ szr left n < 0) : (n : Int) ≤ left:=by unfold szr at h;split at h <;> omega
def fillR {α : Type} (f : α → List V) (l : List α) (z : List V) (i : Nat) : List (List V):=(l.take i).map f ++ List.replicate (l.length - i) z
theorem fillR_zero {α : Type} (f : α → List V) (l : List α) (z : List V) : fillR f l z 0 = List.replicate l.length z:=by simp [fillR]
theorem fillR_all {α : Type} (f : α → List V) (l : List α) (z : List V) : fillR f l z l.length = l.map f:=by simp [fillR]
theorem fillR_len {α : Type} (f : α → List V) (l : List α) (z : List V) {i : Nat} (h : i ≤ l.length) : (fillR f l z i).length = l.length:=by simp [fillR];omega
theorem fillR_set {α : Type} [Inhabited α] (f : α → List V) (l : List α) (z : List V) {i : Nat} (h : i < l.length) : (fillR f l z i).set i (f (l.getD i default)) = fillR f l z (i + 1):=by
 unfold fillR
 have e : l.length - i = (l.length - (i + 1)) + 1:=by omega
 rw [List.set_append_right _ _ (by simp;omega),e,List.replicate_succ]
 have e2 : i - ((l.take i).map f).length = 0:=by simp;omega
 rw [e2,List.set_cons_zero,List.take_add_one,List.getElem?_eq_getElem h,List.getD_eq_getElem?_getD,List.getElem?_eq_getElem h]
 simp only [Option.toList,Option.getD,List.map_append,List.map_cons,List.map_nil,List.append_assoc,List.cons_append,List.nil_append]
theorem fillR_get {α : Type} (f : α → List V) (l : List α) (z : List V) {i : Nat} (h : i < l.length) : (fillR f l z i)[i]? = some z:=by
 unfold fillR
 rw [List.getElem?_append_right (by simp;omega)]
 have e2 : i - ((l.take i).map f).length = 0:=by simp;omega
 rw [e2,show l.length - i = (l.length - (i + 1)) + 1 by omega,List.replicate_succ]
 rfl
theorem szL_bd {α : Type} {f : α → Nat} {k : Nat} : ∀ {l : List α},(∀ x ∈ l,f x ≤ k) → szL f l ≤ l.length * (k + 1)
 | [],_=>by simp [szL]
 |
  x :: l,h=>by
  have h1:=h x (by simp)
  have h2:=szL_bd (f:=f) (k:=k) (l:=l) fun y hy=>h y (by simp [hy])
  unfold szL at h2 ⊢
  simp only [List.length_cons,List.map_cons,List.sum_cons]
  rw [Nat.succ_mul]
  omega
def resO (σ : Store) (s l : Nat) (o : Option Obj) : Option V:=match o with
 | some ob=>if s + l ≤ ob.rows.length then (((ob.rows.drop s).take l).mapM fun (r : List V)=>r.mapM (resolve σ 11)).map (.sl ob.sz) else none
 | none=>none
def resO1 (σ : Store) (s l : Nat) (o : Option Obj) : Option V:=match o with
 | some ob=>if s + l ≤ ob.rows.length then (((ob.rows.drop s).take l).mapM fun (r : List V)=>r.mapM (resolve σ 10)).map (.sl ob.sz) else none
 | none=>none
theorem r_mslO (σ : Store) (o s l : Nat) : resolve σ FD (.msl o s l) = resO σ s l (objAt σ o):=nr rfl
theorem r1_mslO (σ : Store) (o s l : Nat) : resolve σ 11 (.msl o s l) = resO1 σ s l (objAt σ o):=nr rfl
@[congr] theorem resO_cg {σ : Store} {s l : Nat} {o o' : Option Obj} (h : wr o = o') : resO σ s l o = resO σ s l o':=by rw [← h,wr_eq]
@[congr] theorem resO1_cg {σ : Store} {s l : Nat} {o o' : Option Obj} (h : wr o = o') : resO1 σ s l o = resO1 σ s l o':=by rw [← h,wr_eq]
theorem resO_st {σ : Store} {s l n : Nat} {rows : List (List V)} (hs : stillR rows) (h : s + l ≤ rows.length) : resO σ s l (some ⟨n,rows⟩) = some (.sl n ((rows.drop s).take l)):=by
 unfold resO
 simp only []
 rw [if_pos h,mapM_stillR (n:=10) (hs.part s l)];rfl
theorem resO1_st {σ : Store} {s l n : Nat} {rows : List (List V)} (hs : stillR rows) (h : s + l ≤ rows.length) : resO1 σ s l (some ⟨n,rows⟩) = some (.sl n ((rows.drop s).take l)):=by
 unfold resO1
 simp only []
 rw [if_pos h,mapM_stillR (n:=9) (hs.part s l)];rfl
theorem resO_i {σ : Store} {s l n : Nat} {xs : List Int} (h : s + l ≤ xs.length) : resO σ s l (some ⟨n,irows xs⟩) = some (.sl n (irows ((xs.drop s).take l))):=by
 rw [resO_st (ir_still xs) (by rw [ir_len];exact h),ir_drop,ir_take]
theorem resO1_i {σ : Store} {s l n : Nat} {xs : List Int} (h : s + l ≤ xs.length) : resO1 σ s l (some ⟨n,irows xs⟩) = some (.sl n (irows ((xs.drop s).take l))):=by
 rw [resO1_st (ir_still xs) (by rw [ir_len];exact h),ir_drop,ir_take]
theorem map_drop_take {α : Type} (f : α → List V) (L : List α) (s l : Nat) : ((L.map f).drop s).take l = ((L.drop s).take l).map f:=by simp [List.map_drop,List.map_take]
theorem st_R (L : List R) : stillR (L.map R.cells):=still_map (by intro x _ v hv;simp at hv;rcases hv with rfl | rfl | rfl <;> rfl)
theorem st_Pt (L : List Pt) : stillR (L.map Pt.cells):=still_map (by intro x _ v hv;simp at hv;rcases hv with rfl | rfl | rfl | rfl | rfl | rfl <;> rfl)
theorem st_Lk (L : List Lk) : stillR (L.map Lk.cells):=still_map (by intro x _ v hv;simp at hv;rcases hv with rfl | rfl | rfl | rfl | rfl | rfl | rfl | rfl | rfl | rfl | rfl <;> rfl)
theorem st_Pa (L : List Pa) : stillR (L.map Pa.cells):=still_map (by intro x _ v hv;simp at hv;rcases hv with rfl | rfl | rfl | rfl | rfl | rfl | rfl | rfl | rfl | rfl <;> rfl)
theorem st_Cd (L : List Cd) : stillR (L.map Cd.cells):=still_map (by intro x _ v hv;simp at hv;rcases hv with rfl | rfl | rfl | rfl | rfl <;> rfl)
theorem st_Rs (L : List (List R)) : stillR (L.map fun r=>[ratsV r]):=still_map (by intro x _ v hv;simp at hv;subst hv;rfl)
theorem resO_R {σ : Store} {s l n : Nat} {L : List R} (h : s + l ≤ L.length) : resO σ s l (some ⟨n,L.map R.cells⟩) = some (.sl n (((L.drop s).take l).map R.cells)):=by rw [resO_st (st_R L) (by simpa using h),map_drop_take]
theorem resO_Pt {σ : Store} {s l n : Nat} {L : List Pt} (h : s + l ≤ L.length) : resO σ s l (some ⟨n,L.map Pt.cells⟩) = some (.sl n (((L.drop s).take l).map Pt.cells)):=by rw [resO_st (st_Pt L) (by simpa using h),map_drop_take]
theorem resO_Lk {σ : Store} {s l n : Nat} {L : List Lk} (h : s + l ≤ L.length) : resO σ s l (some ⟨n,L.map Lk.cells⟩) = some (.sl n (((L.drop s).take l).map Lk.cells)):=by rw [resO_st (st_Lk L) (by simpa using h),map_drop_take]
theorem resO_Pa {σ : Store} {s l n : Nat} {L : List Pa} (h : s + l ≤ L.length) : resO σ s l (some ⟨n,L.map Pa.cells⟩) = some (.sl n (((L.drop s).take l).map Pa.cells)):=by rw [resO_st (st_Pa L) (by simpa using h),map_drop_take]
theorem resO1_Pa {σ : Store} {s l n : Nat} {L : List Pa} (h : s + l ≤ L.length) : resO1 σ s l (some ⟨n,L.map Pa.cells⟩) = some (.sl n (((L.drop s).take l).map Pa.cells)):=by rw [resO1_st (st_Pa L) (by simpa using h),map_drop_take]
theorem resO_Cd {σ : Store} {s l n : Nat} {L : List Cd} (h : s + l ≤ L.length) : resO σ s l (some ⟨n,L.map Cd.cells⟩) = some (.sl n (((L.drop s).take l).map Cd.cells)):=by rw [resO_st (st_Cd L) (by simpa using h),map_drop_take]
theorem resO_Rs {σ : Store} {s l n : Nat} {L : List (List R)} (h : s + l ≤ L.length) : resO σ s l (some ⟨n,L.map fun r=>[ratsV r]⟩) = some (.sl n (((L.drop s).take l).map fun r=>[ratsV r])):=by rw [resO_st (st_Rs L) (by simpa using h),map_drop_take]
def reachRs (σ : Store) (rows : List (List V)) : List Nat:=rows.flatMap fun (r : List V)=>r.flatMap (reach σ 11)
def reachO (σ : Store) (o : Option Obj) : List Nat:=match o with
 | some ob=>reachRs σ ob.rows
 | none=>[]
theorem h_mslO (σ : Store) (o s l : Nat) : reach σ FD (.msl o s l) = o :: reachO σ (objAt σ o):=nr rfl
@[congr] theorem reachO_cg {σ : Store} {o o' : Option Obj} (h : wr o = o') : reachO σ o = reachO σ o':=by rw [← h,wr_eq]
theorem reachO_s (σ : Store) (n : Nat) (rows : List (List V)) : reachO σ (some ⟨n,rows⟩) = reachRs σ rows:=nr rfl
theorem reachO_n (σ : Store) : reachO σ none = []:=nr rfl
theorem reachRs_st {σ : Store} {rows : List (List V)} (h : stillR rows) : reachRs σ rows = []:=by
 unfold reachRs
 rw [List.flatMap_eq_nil_iff]
 intro r hr
 rw [List.flatMap_eq_nil_iff]
 intro v hv
 exact reach_still (n:=10) (h r hr v hv)
theorem reachRs_i (σ : Store) (xs : List Int) : reachRs σ (irows xs) = []:=reachRs_st (ir_still xs)
theorem reachRs_R (σ : Store) (L : List R) : reachRs σ (L.map R.cells) = []:=reachRs_st (st_R L)
theorem reachRs_Pt (σ : Store) (L : List Pt) : reachRs σ (L.map Pt.cells) = []:=reachRs_st (st_Pt L)
theorem reachRs_Lk (σ : Store) (L : List Lk) : reachRs σ (L.map Lk.cells) = []:=reachRs_st (st_Lk L)
theorem reachRs_Pa (σ : Store) (L : List Pa) : reachRs σ (L.map Pa.cells) = []:=reachRs_st (st_Pa L)
theorem reachRs_Cd (σ : Store) (L : List Cd) : reachRs σ (L.map Cd.cells) = []:=reachRs_st (st_Cd L)
theorem reachRs_Rs (σ : Store) (L : List (List R)) : reachRs σ (L.map fun r=>[ratsV r]) = []:=reachRs_st (st_Rs L)
theorem s_sl (sz : Nat) (r : List (List V)) : scalar SD (.sl sz r) = false:=nr rfl
theorem s_nils : scalar SD .nils = true:=nr rfl
def scalC (n : Nat) (cs : List V) : Bool:=cs.all (scalar n)
theorem s_agg (cs : List V) : scalar SD (.agg cs) = scalC 3 cs:=nr rfl
theorem s_tup (cs : List V) : scalar SD (.tup cs) = scalC 3 cs:=nr rfl
theorem scalC_n (n : Nat) : scalC n [] = true:=nr rfl
theorem scalC_c (n : Nat) (c : V) (cs : List V) : scalC n (c :: cs) = (scalar n c && scalC n cs):=nr rfl
theorem s3_int (q : IntKind) (n : Int) : scalar 3 (.int q n) = true:=nr rfl
theorem s3_bool (b : Bool) : scalar 3 (.bool b) = true:=nr rfl
theorem s3_str (s : List UInt8) : scalar 3 (.str s) = true:=nr rfl
theorem s3_nils : scalar 3 .nils = true:=nr rfl
theorem s3_sl (sz : Nat) (r : List (List V)) : scalar 3 (.sl sz r) = false:=nr rfl
theorem s3_agg (cs : List V) : scalar 3 (.agg cs) = scalC 2 cs:=nr rfl
theorem s2_int (q : IntKind) (n : Int) : scalar 2 (.int q n) = true:=nr rfl
theorem s2_bool (b : Bool) : scalar 2 (.bool b) = true:=nr rfl
theorem s2_str (s : List UInt8) : scalar 2 (.str s) = true:=nr rfl
theorem s2_nils : scalar 2 .nils = true:=nr rfl
theorem s2_sl (sz : Nat) (r : List (List V)) : scalar 2 (.sl sz r) = false:=nr rfl
theorem w64d {t b : Int} (h : 0 ≤ t ∧ t ≤ 9223372036854775807 ∧ 0 < b) : IntKind.i64.wrap (t.tdiv b) = t.tdiv b:=by
 rw [Int.tdiv_eq_ediv_of_nonneg h.1]
 have h1 : 0 ≤ t / b:=Int.ediv_nonneg h.1 (by omega)
 have h2 : t / b ≤ t:=Int.ediv_le_self _ h.1
 exact w64 (by omega)
theorem take_all {α : Type} {l : List α} {n : Nat} (h : l.length ≤ n) : l.take n = l:=List.take_of_length_le h
theorem rdi_mov (env : Nat → V) (x : Src) : I.reads env (.mov x) = []:=by simp [I.reads,I.mems]
theorem rdi_box (env : Nat → V) (x : Src) : I.reads env (.box x) = []:=by simp [I.reads,I.mems]
theorem rdi_lenS (env : Nat → V) (x : Src) : I.reads env (.lenS x) = []:=by simp [I.reads,I.mems]
theorem rdi_len (env : Nat → V) (x : Src) : I.reads env (.len x) = refs1 (x.ev env):=by simp [I.reads,I.mems]
theorem rdi_chk (env : Nat → V) (x : Src) : I.reads env (.chk x) = refs1 (x.ev env):=by simp [I.reads,I.mems]
theorem rdi_fld (env : Nat → V) (d : Nat) (x : Src) : I.reads env (.fld d x) = refs1 (x.ev env):=by simp [I.reads,I.mems]
theorem rdi_un (env : Nat → V) (d : UnOp) (x : Src) : I.reads env (.un d x) = []:=by simp [I.reads,I.mems]
theorem rdi_conv (env : Nat → V) (d : IntKind) (x : Src) : I.reads env (.conv d x) = []:=by simp [I.reads,I.mems]
theorem rdi_extr (env : Nat → V) (d : Nat) (x : Src) : I.reads env (.extr d x) = []:=by simp [I.reads,I.mems]
theorem rdi_load (env : Nat → V) (n : Nat) (b : Bool) (x : Src) : I.reads env (.load n b x) = refs1 (x.ev env):=by simp [I.reads,I.mems]
theorem rdi_make (env : Nat → V) (z : List V) (n : Nat) (x : Src) : I.reads env (.make z n x) = []:=by simp [I.reads,I.mems]
theorem rdi_alloc (env : Nat → V) (z : List V) : I.reads env (.alloc z) = []:=by simp [I.reads,I.mems]
theorem rdi_pick (env : Nat → V) (x y z : Src) : I.reads env (.pick x y z) = []:=by simp [I.reads,I.mems]
theorem rdi_store (env : Nat → V) (n : Nat) (x y : Src) : I.reads env (.store n x y) = refs1 (x.ev env):=by simp [I.reads,I.mems]
theorem rdi_idx (env : Nat → V) (n : Nat) (x y : Src) : I.reads env (.idx n x y) = refs1 (x.ev env):=by simp [I.reads,I.mems]
theorem rdi_idxA (env : Nat → V) (m n : Nat) (x y : Src) : I.reads env (.idxA m n x y) = refs1 (x.ev env):=by simp [I.reads,I.mems]
theorem rdi_idxS (env : Nat → V) (x y : Src) : I.reads env (.idxS x y) = []:=by simp [I.reads,I.mems]
theorem rdi_idxV (env : Nat → V) (m : Nat) (x y : Src) : I.reads env (.idxV m x y) = []:=by simp [I.reads,I.mems]
theorem rdi_bin (env : Nat → V) (n : BinOp) (x y : Src) : I.reads env (.bin n x y) = []:=by simp [I.reads,I.mems]
theorem rdi_beq (env : Nat → V) (n : Bool) (x y : Src) : I.reads env (.beq n x y) = []:=by simp [I.reads,I.mems]
theorem rdi_app (env : Nat → V) (m n : Nat) (x y : Src) : I.reads env (.app m n x y) = refs1 (x.ev env) ++ refs1 (y.ev env):=by simp [I.reads,I.mems]
theorem rdi_max (env : Nat → V) (x y : Src) : I.reads env (.max x y) = []:=by simp [I.reads,I.mems]
theorem rdi_bn (env : Nat → V) (z : List V) : I.reads env (.build z []) = []:=by simp [I.reads,I.mems]
theorem rdi_bc (env : Nat → V) (z : List V) (a b : Nat) (x : Src) (l : List (Nat × Nat × Src)) : I.reads env (.build z ((a,b,x) :: l)) = []:=by simp [I.reads,I.mems]
theorem rdi_sn (env : Nat → V) (sz : Nat) (z : List V) (n : Nat) : I.reads env (.mkSl sz z n []) = []:=by simp [I.reads,I.mems]
theorem rdi_sc (env : Nat → V) (sz : Nat) (z : List V) (n a : Nat) (x : Src) (l : List (Nat × Src)) : I.reads env (.mkSl sz z n ((a,x) :: l)) = []:=by simp [I.reads,I.mems]
theorem rf1_int (q : IntKind) (n : Int) : refs1 (.int q n) = []:=nr rfl
theorem rf1_bool (b : Bool) : refs1 (.bool b) = []:=nr rfl
theorem rf1_str (b : List UInt8) : refs1 (.str b) = []:=nr rfl
theorem rf1_nils  : refs1 .nils = []:=nr rfl
theorem rf1_one  : refs1 .one = []:=nr rfl
theorem rf1_any  : refs1 .any = []:=nr rfl
theorem rf1_sl (n : Nat) (r : List (List V)) : refs1 (.sl n r) = []:=nr rfl
theorem rf1_fptr (r : List V) (n : Nat) : refs1 (.fptr r n) = []:=nr rfl
theorem rf1_agg (r : List V) : refs1 (.agg r) = []:=nr rfl
theorem rf1_tup (r : List V) : refs1 (.tup r) = []:=nr rfl
theorem rf1_ptr (o r k : Nat) : refs1 (.ptr o r k) = [o]:=nr rfl
theorem rf1_msl (o r k : Nat) : refs1 (.msl o r k) = [o]:=nr rfl
end Go.Ml
end
section
set_option linter.defProp false
namespace Go.Ml
def EVp:=(And.intro (And.intro (And.intro (And.intro (And.intro (And.intro @Go.Ml.wr_eq.{1} @Go.Ml.brK_t) (And.intro @Go.Ml.brK_f (And.intro @Go.Ml.wp_skip 
 @Go.Ml.wp_regF))) (And.intro (And.intro @Go.Ml.wp_regT @Go.Ml.wp_seq) (And.intro @Go.Ml.wp_cond' (And.intro @Go.Ml.wp_block @Go.Ml.wp_loop)))) (And.intro 
 (And.intro (And.intro @Go.Ml.wp_exit @Go.Ml.wp_ret) (And.intro @Go.Ml.seqK_n (And.intro @Go.Ml.seqK_e @Go.Ml.seqK_r))) (And.intro (And.intro @Go.Ml.opsK_n 
 (And.intro @Go.Ml.opsK_c @Go.Ml.opK_mk)) (And.intro @Go.Ml.any0K_n (And.intro @Go.Ml.any0K_c @Go.Ml.anyK_n))))) (And.intro (And.intro (And.intro (And.intro 
 @Go.Ml.anyK_c @Go.Ml.gK_0) (And.intro @Go.Ml.gK_t (And.intro @Go.Ml.gK_f @Go.Ml.valK_v))) (And.intro (And.intro @Go.Ml.goK_v (And.intro @Go.Ml.goK_v0 
 @Go.Ml.goK_p)) (And.intro @Go.Ml.goK_s (And.intro @Go.Ml.goK_u @Go.Ml.goK_m)))) (And.intro (And.intro (And.intro @Go.Ml.enter_mk @Go.Ml.e_mov) (And.intro 
 @Go.Ml.e_pick (And.intro @Go.Ml.e_alloc @Go.Ml.e_box))) (And.intro (And.intro @Go.Ml.e_build' (And.intro @Go.Ml.e_mkSl' @Go.Ml.e_mkSl0)) (And.intro 
 @Go.Ml.fillsK_n (And.intro @Go.Ml.fillsK_c @Go.Ml.fillK_n)))))) (And.intro (And.intro (And.intro (And.intro (And.intro @Go.Ml.fillK_c @Go.Ml.e_make) (And.intro 
 @Go.Ml.e_load1 (And.intro @Go.Ml.e_loadn @Go.Ml.e_store))) (And.intro (And.intro @Go.Ml.e_fld @Go.Ml.e_idx) (And.intro @Go.Ml.e_idxA (And.intro @Go.Ml.e_idxS 
 @Go.Ml.e_idxV)))) (And.intro (And.intro (And.intro @Go.Ml.e_len @Go.Ml.e_lenS) (And.intro @Go.Ml.e_bin (And.intro @Go.Ml.e_beq @Go.Ml.e_not))) (And.intro 
 (And.intro @Go.Ml.e_neg (And.intro @Go.Ml.e_conv @Go.Ml.e_max)) (And.intro @Go.Ml.e_extr (And.intro @Go.Ml.e_chk @Go.Ml.e_slice))))) (And.intro (And.intro 
 (And.intro (And.intro @Go.Ml.e_sliceS @Go.Ml.hiKK_n) (And.intro @Go.Ml.hiKK_s (And.intro @Go.Ml.loKK_n @Go.Ml.loKK_s))) (And.intro (And.intro @Go.Ml.e_app 
 (And.intro @Go.Ml.resK_n @Go.Ml.resK_c)) (And.intro @Go.Ml.endK_n (And.intro @Go.Ml.endK_r @Go.Ml.outK_n)))) (And.intro (And.intro (And.intro @Go.Ml.outK_t 
 @Go.Ml.outK_c1) (And.intro @Go.Ml.outK_c2 (And.intro @Go.Ml.ev_t @Go.Ml.ev_c))) (And.intro (And.intro @Go.Ml.updO_at (And.intro @Go.Ml.updO_none @Go.Ml.upd_at)) 
 (And.intro @Go.Ml.argE_0 (And.intro @Go.Ml.argE_s @Go.Ml.argE_n)))))))
def EVq:=(And.intro (And.intro (And.intro (And.intro (And.intro (And.intro (And.intro (And.intro @Go.Ml.brK_not @Go.Ml.brK_t) (And.intro @Go.Ml.brK_f @Go.Ml.stoK_n)) 
 (And.intro (And.intro @Go.Ml.stoK_c @Go.Ml.natK_eq) (And.intro @Go.Ml.mvK_eq @Go.Ml.optK_some))) (And.intro (And.intro (And.intro @Go.Ml.boolK_b @Go.Ml.gdK_b) 
 (And.intro @Go.Ml.gdK_u @Go.Ml.numK_nil)) (And.intro (And.intro @Go.Ml.numK_cons @Go.Ml.asIdxK_ok) (And.intro @Go.Ml.asBoundK_ok (And.intro @Go.Ml.cellsK_int 
 @Go.Ml.cellsK_bool))))) (And.intro (And.intro (And.intro (And.intro @Go.Ml.cellsK_str @Go.Ml.cellsK_nils) (And.intro @Go.Ml.cellsK_one @Go.Ml.cellsK_sl)) 
 (And.intro (And.intro @Go.Ml.cellsK_msl @Go.Ml.cellsK_ptr) (And.intro @Go.Ml.cellsK_fptr (And.intro @Go.Ml.cellsK_agg @Go.Ml.refK_p)))) (And.intro (And.intro 
 (And.intro @Go.Ml.refK_f @Go.Ml.slK_n) (And.intro @Go.Ml.slK_f @Go.Ml.slK_m)) (And.intro (And.intro @Go.Ml.intK_i @Go.Ml.strK_s) (And.intro @Go.Ml.tupK_t 
 (And.intro @Go.Ml.aggK_a @Go.Ml.b_shr)))))) (And.intro (And.intro (And.intro (And.intro (And.intro @Go.Ml.b_and @Go.Ml.b_xor) (And.intro @Go.Ml.b_add 
 @Go.Ml.b_sub)) (And.intro (And.intro @Go.Ml.b_mul @Go.Ml.b_quo) (And.intro @Go.Ml.b_rem (And.intro @Go.Ml.b_eql @Go.Ml.b_neq)))) (And.intro (And.intro 
 (And.intro @Go.Ml.b_lss @Go.Ml.b_leq) (And.intro @Go.Ml.b_gtr @Go.Ml.b_geq)) (And.intro (And.intro @Go.Ml.b_eqls @Go.Ml.b_neqs) (And.intro @Go.Ml.w64 (And.intro 
 @Go.Ml.rowAt_f @Go.Ml.rowAt_p))))) (And.intro (And.intro (And.intro (And.intro @Go.Ml.lenOf_n @Go.Ml.lenOf_f) (And.intro @Go.Ml.lenOf_m @Go.Ml.rowsOf_n)) 
 (And.intro (And.intro @Go.Ml.rowsOf_f @Go.Ml.rowsOf_m) (And.intro @Go.Ml.r_int (And.intro @Go.Ml.r_bool @Go.Ml.r_str)))) (And.intro (And.intro (And.intro 
 @Go.Ml.r_nils @Go.Ml.r_one) (And.intro @Go.Ml.r_sl @Go.Ml.r_fptr)) (And.intro (And.intro @Go.Ml.r_agg @Go.Ml.r_tup) (And.intro @Go.Ml.resC_n (And.intro 
 @Go.Ml.resC_c @Go.Ml.r1_int))))))) (And.intro (And.intro (And.intro (And.intro (And.intro (And.intro @Go.Ml.r1_bool @Go.Ml.r1_str) (And.intro @Go.Ml.r1_nils 
 @Go.Ml.r1_one)) (And.intro (And.intro @Go.Ml.r1_sl @Go.Ml.r1_fptr) (And.intro @Go.Ml.ra_n (And.intro @Go.Ml.ra_c @Go.Ml.h_int)))) (And.intro (And.intro 
 (And.intro @Go.Ml.h_bool @Go.Ml.h_str) (And.intro @Go.Ml.h_nils @Go.Ml.h_sl)) (And.intro (And.intro @Go.Ml.h_fptr @Go.Ml.h_agg) (And.intro @Go.Ml.hC_n 
 (And.intro @Go.Ml.hC_c @Go.Ml.h1_int))))) (And.intro (And.intro (And.intro (And.intro @Go.Ml.h1_bool @Go.Ml.h1_str) (And.intro @Go.Ml.h1_nils @Go.Ml.h1_sl)) 
 (And.intro (And.intro @Go.Ml.h1_fptr @Go.Ml.s_int) (And.intro @Go.Ml.s_bool (And.intro @Go.Ml.s_str @Go.Ml.pack1)))) (And.intro (And.intro (And.intro 
 @Go.Ml.pack2 @Go.Ml.pack3) (And.intro @Go.Ml.objAt_0 @Go.Ml.objAt_s)) (And.intro (And.intro @Go.Ml.objAt_n @Go.Ml.set_0) (And.intro @Go.Ml.set_s (And.intro 
 @Go.Ml.padS_0 @Go.Ml.padS_s)))))) (And.intro (And.intro (And.intro (And.intro (And.intro @Go.Ml.kill_nil @Go.Ml.kill_cons) (And.intro @Go.Ml.exIn_n 
 @Go.Ml.exIn_r)) (And.intro (And.intro @Go.Ml.exIn_e @Go.Ml.wr_v) (And.intro @Go.Ml.wr_p (And.intro @Go.Ml.wr_s @Go.Ml.wr_u)))) (And.intro (And.intro (And.intro 
 @Go.Ml.wr_m @Go.Ml.ir_len) (And.intro @Go.Ml.ir_getD @Go.Ml.ir_get)) (And.intro (And.intro @Go.Ml.ir_set @Go.Ml.splice1) (And.intro @Go.Ml.rdi_mov (And.intro 
 @Go.Ml.rdi_box @Go.Ml.rdi_lenS))))) (And.intro (And.intro (And.intro (And.intro @Go.Ml.rdi_len @Go.Ml.rdi_chk) (And.intro @Go.Ml.rdi_fld @Go.Ml.rdi_un)) 
 (And.intro (And.intro @Go.Ml.rdi_conv @Go.Ml.rdi_extr) (And.intro @Go.Ml.rdi_load (And.intro @Go.Ml.rdi_make @Go.Ml.rdi_alloc)))) (And.intro (And.intro 
 (And.intro @Go.Ml.rdi_pick @Go.Ml.rdi_store) (And.intro @Go.Ml.rdi_idx @Go.Ml.rdi_idxA)) (And.intro (And.intro @Go.Ml.rdi_idxS @Go.Ml.rdi_idxV) (And.intro 
 @Go.Ml.rdi_bin (And.intro @Go.Ml.rdi_beq @Go.Ml.rdi_app)))))))) (And.intro (And.intro (And.intro (And.intro (And.intro (And.intro (And.intro @Go.Ml.rdi_max 
 @Go.Ml.rdi_bn) (And.intro @Go.Ml.rdi_bc @Go.Ml.rdi_sn)) (And.intro (And.intro @Go.Ml.rdi_sc @Go.Ml.rf1_int) (And.intro @Go.Ml.rf1_bool @Go.Ml.rf1_str))) 
 (And.intro (And.intro (And.intro @Go.Ml.rf1_nils @Go.Ml.rf1_one) (And.intro @Go.Ml.rf1_any @Go.Ml.rf1_sl)) (And.intro (And.intro @Go.Ml.rf1_fptr @Go.Ml.rf1_agg) 
 (And.intro @Go.Ml.rf1_tup (And.intro @Go.Ml.rf1_ptr @Go.Ml.rf1_msl))))) (And.intro (And.intro (And.intro (And.intro @Int.toNat_zero @Int.toNat_one) (And.intro 
 @Go.Ml.w64d @Bool.false_and)) (And.intro (And.intro @Bool.true_and @Bool.and_false) (And.intro @Go.Ml.r_mslO (And.intro @Go.Ml.r1_mslO @Go.Ml.resO_i)))) 
 (And.intro (And.intro (And.intro @Go.Ml.resO1_i @Go.Ml.resO_R) (And.intro @Go.Ml.resO_Pt @Go.Ml.resO_Lk)) (And.intro (And.intro @Go.Ml.resO_Pa @Go.Ml.resO1_Pa) 
 (And.intro @Go.Ml.resO_Cd (And.intro @Go.Ml.resO_Rs @Go.Ml.h_mslO)))))) (And.intro (And.intro (And.intro (And.intro (And.intro @Go.Ml.reachO_s @Go.Ml.reachO_n) 
 (And.intro @Go.Ml.reachRs_i @Go.Ml.reachRs_R)) (And.intro (And.intro @Go.Ml.reachRs_Pt @Go.Ml.reachRs_Lk) (And.intro @Go.Ml.reachRs_Pa (And.intro 
 @Go.Ml.reachRs_Cd @Go.Ml.reachRs_Rs)))) (And.intro (And.intro (And.intro @Go.Ml.s_sl @Go.Ml.s_nils) (And.intro @Go.Ml.s_agg @Go.Ml.s_tup)) (And.intro (And.intro 
 @Go.Ml.scalC_n @Go.Ml.scalC_c) (And.intro @Go.Ml.s3_int (And.intro @Go.Ml.s3_bool @Go.Ml.s3_str))))) (And.intro (And.intro (And.intro (And.intro @Go.Ml.s3_nils 
 @Go.Ml.s3_sl) (And.intro @Go.Ml.s3_agg @Go.Ml.s2_int)) (And.intro (And.intro @Go.Ml.s2_bool @Go.Ml.s2_str) (And.intro @Go.Ml.s2_nils (And.intro @Go.Ml.s2_sl 
 @Go.Ml.take_all)))) (And.intro (And.intro (And.intro @Go.Ml.ifO_pos @Nat.le_refl) (And.intro @List.replicate_succ.{0} @List.replicate_zero.{0})) (And.intro 
 (And.intro @List.take_length.{0} @Go.Ml.w64u) (And.intro @Go.Ml.w8u (And.intro @Go.Ml.w32u @Go.Ml.ir_take))))))) (And.intro (And.intro (And.intro (And.intro 
 (And.intro (And.intro @Go.Ml.ir_drop @Nat.sub_zero) (And.intro @implies_true.{0} @false_implies)) (And.intro (And.intro @true_implies @List.length_map.{0,0}) 
 (And.intro @true_or (And.intro @or_true @Bool.beq_eq_decide_eq.{0})))) (And.intro (And.intro (And.intro @List.set_cons_zero.{0} @List.set_cons_succ.{0}) 
 (And.intro @Go.Ml.EnvLe_n @Go.Ml.EnvLe_c)) (And.intro (And.intro @Go.Ml.EvV_any @Go.Ml.EvV_refl) (And.intro @Go.Ml.EnvCan_n (And.intro @Go.Ml.EnvCan_c 
 @Go.Ml.CanE_any))))) (And.intro (And.intro (And.intro (And.intro @Go.Ml.CanE_sl @Go.Ml.CanE_int) (And.intro @Go.Ml.CanE_bool @Go.Ml.CanE_str)) (And.intro 
 (And.intro @Go.Ml.CanE_nil @Go.Ml.CanE_nils) (And.intro @List.reverse_cons.{0} (And.intro @List.reverse_nil.{0} @List.nil_append.{0})))) (And.intro (And.intro 
 (And.intro @List.cons_append.{0} @List.append_nil.{0}) (And.intro @List.length_cons.{0} @List.length_nil.{0})) (And.intro (And.intro 
 @List.getElem?_cons_zero.{0} @List.getElem?_cons_succ.{0}) (And.intro @Nat.zero_add (And.intro @Nat.add_zero @ite_self.{1})))))) (And.intro (And.intro 
 (And.intro (And.intro (And.intro @ite_true.{1} @ite_false.{1}) (And.intro @if_true.{1} @if_false.{1})) (And.intro (And.intro @eq_self.{1} @and_true) (And.intro 
 @true_and (And.intro @and_self @Bool.not_true)))) (And.intro (And.intro (And.intro @Bool.not_false @Bool.true_eq_false) (And.intro @Bool.false_eq_true 
 @Bool.not_eq_true')) (And.intro (And.intro @decide_eq_true_eq @decide_eq_false_iff_not) (And.intro @Bool.not_eq_eq_eq_not (And.intro @Option.map_some.{0,0} 
 @Option.map_none.{0,0}))))) (And.intro (And.intro (And.intro (And.intro @Int.toNat_natCast @List.drop_zero.{0}) (And.intro @List.drop_succ_cons.{0} 
 @List.take_succ_cons.{0})) (And.intro (And.intro @List.take_zero.{0} @List.all_cons.{0}) (And.intro @List.all_nil.{0} (And.intro @Bool.and_true 
 @Bool.and_self)))) (And.intro (And.intro (And.intro @Go.Ml.Ex.exit.injEq @not_false_eq_true) (And.intro @not_true_eq_false @decide_true)) (And.intro (And.intro 
 @decide_false @ite_not.{1}) (And.intro @decide_not (And.intro @Bool.not_not @ne_eq.{1})))))))))
theorem ev {P Q : Prop} (h : Q) (e : P = Q:=by conv=>lhs;simp (maxSteps:=1000000) (disch:=first | omega | assumption | (simp;done) | (simp;omega)) only [↓EVp,EVq,splice,Nat.reduceAdd,Nat.reduceEqDiff,Nat.reduceMul,Nat.reduceLT,Nat.reduceLeDiff,reduceIte,V.leaf,noWr,noRf,dN_s,Bool.true_and,Bool.false_and,Bool.or_false,Bool.false_or,Bool.true_or,reduceCtorEq]) : P:=Eq.mpr (e) h
theorem ev1 {P Q A1 : Prop} (x1 : A1) (h : Q) (e : A1 → P = Q:=by intro x1;conv=>lhs;simp (maxSteps:=1000000) (disch:=first | omega | assumption | (simp;done) | (simp;omega)) only [↓EVp,EVq,splice,Nat.reduceAdd,Nat.reduceEqDiff,Nat.reduceMul,Nat.reduceLT,Nat.reduceLeDiff,reduceIte,V.leaf,noWr,noRf,dN_s,Bool.true_and,Bool.false_and,Bool.or_false,Bool.false_or,Bool.true_or,reduceCtorEq,x1]) : P:=Eq.mpr (e x1) h
theorem ev2 {P Q A1 A2 : Prop} (x1 : A1) (x2 : A2) (h : Q) (e : A1 → A2 → P = Q:=by intro x1 x2;conv=>lhs;simp (maxSteps:=1000000) (disch:=first | omega | assumption | (simp;done) | (simp;omega)) only [↓EVp,EVq,splice,Nat.reduceAdd,Nat.reduceEqDiff,Nat.reduceMul,Nat.reduceLT,Nat.reduceLeDiff,reduceIte,V.leaf,noWr,noRf,dN_s,Bool.true_and,Bool.false_and,Bool.or_false,Bool.false_or,Bool.true_or,reduceCtorEq,x1,x2]) : P:=Eq.mpr (e x1 x2) h
theorem ev3 {P Q A1 A2 A3 : Prop} (x1 : A1) (x2 : A2) (x3 : A3) (h : Q) (e : A1 → A2 → A3 → P = Q:=by intro x1 x2 x3;conv=>lhs;simp (maxSteps:=1000000) (disch:=first | omega | assumption | (simp;done) | (simp;omega)) only [↓EVp,EVq,splice,Nat.reduceAdd,Nat.reduceEqDiff,Nat.reduceMul,Nat.reduceLT,Nat.reduceLeDiff,reduceIte,V.leaf,noWr,noRf,dN_s,Bool.true_and,Bool.false_and,Bool.or_false,Bool.false_or,Bool.true_or,reduceCtorEq,x1,x2,x3]) : P:=Eq.mpr (e x1 x2 x3) h
theorem ev4 {P Q A1 A2 A3 A4 : Prop} (x1 : A1) (x2 : A2) (x3 : A3) (x4 : A4) (h : Q) (e : A1 → A2 → A3 → A4 → P = Q:=by intro x1 x2 x3 x4;conv=>lhs;simp (maxSteps:=1000000) (disch:=first | omega | assumption | (simp;done) | (simp;omega)) only [↓EVp,EVq,splice,Nat.reduceAdd,Nat.reduceEqDiff,Nat.reduceMul,Nat.reduceLT,Nat.reduceLeDiff,reduceIte,V.leaf,noWr,noRf,dN_s,Bool.true_and,Bool.false_and,Bool.or_false,Bool.false_or,Bool.true_or,reduceCtorEq,x1,x2,x3,x4]) : P:=Eq.mpr (e x1 x2 x3 x4) h
theorem ev5 {P Q A1 A2 A3 A4 A5 : Prop} (x1 : A1) (x2 : A2) (x3 : A3) (x4 : A4) (x5 : A5) (h : Q) (e : A1 → A2 → A3 → A4 → A5 → P = Q:=by intro x1 x2 x3 x4 x5;conv=>lhs;simp (maxSteps:=1000000) (disch:=first | omega | assumption | (simp;done) | (simp;omega)) only [↓EVp,EVq,splice,Nat.reduceAdd,Nat.reduceEqDiff,Nat.reduceMul,Nat.reduceLT,Nat.reduceLeDiff,reduceIte,V.leaf,noWr,noRf,dN_s,Bool.true_and,Bool.false_and,Bool.or_false,Bool.false_or,Bool.true_or,reduceCtorEq,x1,x2,x3,x4,x5]) : P:=Eq.mpr (e x1 x2 x3 x4 x5) h
abbrev oN (d : Nat) (i : I) : OpI:=⟨none,some d,0,i,[]⟩
abbrev oS (i : I) : OpI:=⟨none,none,0,i,[]⟩
abbrev oG (g : Nat) (b : Bool) (d : Nat) (i : I) : OpI:=⟨some (g,b),some d,0,i,[]⟩
abbrev oK (d k : Nat) (i : I) : OpI:=⟨none,some d,k,i,[]⟩
abbrev oA (d k : Nat) (i : I) (a : List Nat) : OpI:=⟨none,some d,k,i,a⟩
abbrev oH (g : Nat) (b : Bool) (d k : Nat) (i : I) (a : List Nat) : OpI:=⟨some (g,b),some d,k,i,a⟩
abbrev oV (n : Nat) : I:=.mov (.t n)
abbrev cI (n : Int) : Src:=.c (.int .i64 n)
end Go.Ml
end
namespace Go.Ml
theorem fgV {l : List V} {env : Nat → V} (h : EnvLe l 0 env:=by (try (refine ev ?_;try with_reducible exact True.intro)) <;> (repeat' (first | refine ⟨?_,?_⟩ | exact EvV_int (by omega) | exact EvV_of (by simp) | exact EvV_nil _))) : EnvLe l 0 env:=h
end Go.Ml
section
namespace Go.Ml
def slV : Nat → V
 | 0=>.nils
 | n + 1=>.msl 0 0 (n + 1)
def slS (n : Nat) : List (List V) → Store
 | []=>[]
 | r :: rs=>[some ⟨n,r :: rs⟩]
theorem slV_0 : slV 0 = .nils:=nr rfl
theorem slV_s (n : Nat) : slV (n + 1) = .msl 0 0 (n + 1):=nr rfl
theorem slS_snoc (n : Nat) (rows : List (List V)) (r : List V) : slS n (rows ++ [r]) = [some ⟨n,rows ++ [r]⟩]:=by cases rows <;> rfl
theorem Fg_push {vs : List V} {env : Nat → V} {σ : Store} {b1 b2 n k : Nat} {r1 r2 m1 m2 : List Nat} {rows : List (List V)} {r : List V} (hs : stillR (rows ++ [r]))
  (h : objAt σ k = some ⟨n,rows ++ [r]⟩) (he : EnvCan [some (k,0,rows.length + 1)] σ vs 0 env) : Fg ⟨argE vs,slS n (rows ++ [r]),0,b1,r1,m1⟩ ⟨env,σ,0,b2,r2,m2⟩:=by
 rw [slS_snoc]
 refine Fg_re [(k,⟨n,rows ++ [r]⟩)] (by simp) ?_ rfl (by simpa using he)
 intro p hp
 simp only [List.mem_cons,List.not_mem_nil,or_false] at hp
 subst hp
 exact ⟨h,hs⟩
theorem CanE_push {σ : Store} {k l n m : Nat} (hl : l ≤ m) (e : n = l) (h0 : 0 < n) : CanE [some (k,0,m)] σ (slV n) (.msl k 0 l):=by
 subst e
 obtain ⟨j,rfl⟩ : ∃ j,n = j + 1:=⟨n - 1,by omega⟩
 rw [slV_s]
 exact CanE_msl rfl hl rfl
theorem pf_endL {T : Nat → Option Fn} {f : Nat} {F : Fn} {args : List V} {r : V} (rf : Nat → Nat → Bool) (hT : T f = some F) (hl : args.length = F.nargs) (hk : F.body.okC = true)
  (h : wp T rf F.body (fun e st=>endK F.res e (LaxV r) st) (St.enter args [])) : PF T f args r:=by
 obtain ⟨e,st',h1,h2⟩:=wp_sound hk h
 have h3 : (e = .normal ∨ e = .ret) ∧ outK F.res [] st' (LaxV r):=by
  cases e with
  | normal=>exact ⟨.inl rfl,h2⟩
  | ret=>exact ⟨.inr rfl,h2⟩
  | exit id=>exact h2.elim
 obtain ⟨he,h3⟩:=h3
 have:=outK_spec _ _ h3
 obtain ⟨rs,e1,h4⟩:=optK_spec this
 obtain ⟨r',e2,h5⟩:=optK_spec h4
 exact .laxF (laxL_refl _) (.frz (.fn hT hl h1 he e1) e2) h5
theorem LaxV_bool (a b : Bool) : LaxV (.bool a) (.bool b) = (b = a):=by simp [LaxV]
theorem LaxV_nil (sz : Nat) : LaxV (.sl sz []) .nils = True:=by simp [LaxV]
theorem LaxV_agg (xs ys : List V) : LaxV (.agg xs) (.agg ys) = LaxL xs ys:=by simp [LaxV]
theorem LaxL_n : LaxL [] [] = True:=by simp [LaxL]
theorem LaxL_c (x y : V) (xs ys : List V) : LaxL (x :: xs) (y :: ys) = (LaxV x y ∧ LaxL xs ys):=by
 simp only [LaxL,List.cons.injEq]
 exact propext ⟨fun ⟨_,_,⟨e1,e2⟩,h1,h2⟩=>by subst e1;subst e2;exact ⟨h1,h2⟩,fun ⟨h1,h2⟩=>⟨y,ys,⟨rfl,rfl⟩,h1,h2⟩⟩
theorem PFK_of' {T : Nat → Option Fn} {f : Nat} {as as' : List V} {k : V → Prop} {r : V} (h : PF T f as' r) (ha : LaxL as' as) (hk : k r) : PFK T f as k:=⟨r,h.lax ha (laxV_refl r),hk⟩
theorem irows_snoc (l : List Int) (d : Int) : irows l ++ [[V.int .i64 d]] = irows (l ++ [d]):=by simp [irows]
theorem EVi : (∀ x : Int,[[V.int .i64 x]] = irows [x]) ∧ (∀ (x : Int) (l : List Int),[V.int .i64 x] :: irows l = irows (x :: l)) ∧ (∀ (l : List Int) (x : Int),irows l ++ [[V.int .i64 x]] = irows (l ++ [x])) ∧
  (∀ l m : List Int,irows l ++ irows m = irows (l ++ m)) :=
 ⟨fun _=>rfl,fun _ _=>rfl,fun l x=>by simp [irows],fun l m=>by simp [irows]⟩
theorem irows_nil' {l : List Int} : irows l = [] ↔ l = []:=by simp [irows]
theorem slI_nil : slS 1 (irows []) = []:=rfl
theorem slI_cons (x : Int) (l : List Int) : slS 1 (irows (x :: l)) = [some ⟨1,irows (x :: l)⟩]:=rfl
theorem still_isnoc (l : List Int) (d : Int) : stillR (irows l ++ [[V.int .i64 d]]):=by rw [irows_snoc];exact ir_still _
theorem irows_nil : irows [] = []:=rfl
theorem irows_cons (x : Int) (l : List Int) : irows (x :: l) = [V.int .i64 x] :: irows l:=rfl
mutual
def OwV (σ : Store) : V → V → List Nat → Prop
 | v,.sl sz rows,os=>(rows = [] ∧ v = .sl sz [] ∧ os = []) ∨ ∃ o rows' os',v = .msl o 0 rows.length ∧ objAt σ o = some ⟨sz,rows'⟩ ∧ os = o :: os' ∧ OwR σ rows' rows os'
 | v,.agg cs,os=>∃ cs',v = .agg cs' ∧ OwL σ cs' cs os
 | v,.tup cs,os=>∃ cs',v = .tup cs' ∧ OwL σ cs' cs os
 | v,.any,os=>False
 | v,.one,os=>False
 | v,.int k n,os=>v = .int k n ∧ os = []
 | v,.bool b,os=>v = .bool b ∧ os = []
 | v,.str s,os=>v = .str s ∧ os = []
 | v,.nils,os=>False
 | v,.msl _ _ _,os=>False
 | v,.ptr _ _ _,os=>False
 | v,.fptr _ _,os=>False
def OwL (σ : Store) : List V → List V → List Nat → Prop
 | vs,[],os=>vs = [] ∧ os = []
 | vs,t :: ts,os=>∃ v vs' o1 o2,vs = v :: vs' ∧ os = o1 ++ o2 ∧ OwV σ v t o1 ∧ OwL σ vs' ts o2
def OwR (σ : Store) : List (List V) → List (List V) → List Nat → Prop
 | vs,[],os=>vs = [] ∧ os = []
 | vs,t :: ts,os=>∃ v vs' o1 o2,vs = v :: vs' ∧ os = o1 ++ o2 ∧ OwL σ v t o1 ∧ OwR σ vs' ts o2
end
section
variable {σ σ' : Store}
theorem objAt_lt {o : Nat} {ob : Obj} (h : objAt σ o = some ob) : o < σ.length:=by
 rcases Nat.lt_or_ge o σ.length with k | k
 ·exact k
 ·rw [objAt,List.getElem?_eq_none k] at h;cases h
mutual
theorem OwV.lt : ∀ {t v : V} {os : List Nat},OwV σ v t os → ∀ o ∈ os,o < σ.length
 |
  .sl sz rows,v,os,h=>by
  simp only [OwV] at h
  rcases h with ⟨_,_,rfl⟩ | ⟨o,rows',os',_,h2,rfl,h3⟩
  ·intro o ho;cases ho
  ·intro q hq
   rcases List.mem_cons.1 hq with rfl | hq
   ·exact objAt_lt h2
   ·exact OwR.lt h3 q hq
 | .agg cs,v,os,h=>by simp only [OwV] at h;obtain ⟨cs',_,h⟩:=h;exact OwL.lt h
 | .tup cs,v,os,h=>by simp only [OwV] at h;obtain ⟨cs',_,h⟩:=h;exact OwL.lt h
 | .any,v,os,h=>by simp [OwV] at h
 | .one,v,os,h=>by simp [OwV] at h
 | .int ..,v,os,h=>by simp only [OwV] at h;rw [h.2];intro o ho;cases ho
 | .bool _,v,os,h=>by simp only [OwV] at h;rw [h.2];intro o ho;cases ho
 | .str _,v,os,h=>by simp only [OwV] at h;rw [h.2];intro o ho;cases ho
 | .nils,v,os,h=>by simp [OwV] at h
 | .msl ..,v,os,h=>by simp [OwV] at h
 | .ptr ..,v,os,h=>by simp [OwV] at h
 | .fptr ..,v,os,h=>by simp [OwV] at h
theorem OwL.lt : ∀ {ts vs : List V} {os : List Nat},OwL σ vs ts os → ∀ o ∈ os,o < σ.length
 | [],vs,os,h=>by simp only [OwL] at h;rw [h.2];intro o ho;cases ho
 |
  t :: ts,vs,os,h=>by
  simp only [OwL] at h
  obtain ⟨v,vs',o1,o2,_,rfl,h1,h2⟩:=h
  intro o ho
  rcases List.mem_append.1 ho with ho | ho
  ·exact OwV.lt h1 o ho
  ·exact OwL.lt h2 o ho
theorem OwR.lt : ∀ {ts vs : List (List V)} {os : List Nat},OwR σ vs ts os → ∀ o ∈ os,o < σ.length
 | [],vs,os,h=>by simp only [OwR] at h;rw [h.2];intro o ho;cases ho
 |
  t :: ts,vs,os,h=>by
  simp only [OwR] at h
  obtain ⟨v,vs',o1,o2,_,rfl,h1,h2⟩:=h
  intro o ho
  rcases List.mem_append.1 ho with ho | ho
  ·exact OwL.lt h1 o ho
  ·exact OwR.lt h2 o ho
end
mutual
theorem OwV.frame : ∀ {t v : V} {os : List Nat},OwV σ v t os → (∀ o ∈ os,objAt σ' o = objAt σ o) → OwV σ' v t os
 |
  .sl sz rows,v,os,h,hf=>by
  simp only [OwV] at h ⊢
  rcases h with h | ⟨o,rows',os',h1,h2,rfl,h3⟩
  ·exact .inl h
  ·exact .inr ⟨o,rows',os',h1,by rw [hf o (by simp)];exact h2,rfl,OwR.frame h3 fun q hq=>hf q (by simp [hq])⟩
 | .agg cs,v,os,h,hf=>by simp only [OwV] at h ⊢;obtain ⟨cs',e,h⟩:=h;exact ⟨cs',e,OwL.frame h hf⟩
 | .tup cs,v,os,h,hf=>by simp only [OwV] at h ⊢;obtain ⟨cs',e,h⟩:=h;exact ⟨cs',e,OwL.frame h hf⟩
 | .any,v,os,h,_=>by simp [OwV] at h
 | .one,v,os,h,_=>by simp [OwV] at h
 | .int ..,v,os,h,_=>by simpa only [OwV] using h
 | .bool _,v,os,h,_=>by simpa only [OwV] using h
 | .str _,v,os,h,_=>by simpa only [OwV] using h
 | .nils,v,os,h,_=>by simp [OwV] at h
 | .msl ..,v,os,h,_=>by simp [OwV] at h
 | .ptr ..,v,os,h,_=>by simp [OwV] at h
 | .fptr ..,v,os,h,_=>by simp [OwV] at h
theorem OwL.frame : ∀ {ts vs : List V} {os : List Nat},OwL σ vs ts os → (∀ o ∈ os,objAt σ' o = objAt σ o) → OwL σ' vs ts os
 | [],vs,os,h,_=>by simpa only [OwL] using h
 |
  t :: ts,vs,os,h,hf=>by
  simp only [OwL] at h ⊢
  obtain ⟨v,vs',o1,o2,e,rfl,h1,h2⟩:=h
  exact ⟨v,vs',o1,o2,e,rfl,OwV.frame h1 fun q hq=>hf q (by simp [hq]),OwL.frame h2 fun q hq=>hf q (by simp [hq])⟩
theorem OwR.frame : ∀ {ts vs : List (List V)} {os : List Nat},OwR σ vs ts os → (∀ o ∈ os,objAt σ' o = objAt σ o) → OwR σ' vs ts os
 | [],vs,os,h,_=>by simpa only [OwR] using h
 |
  t :: ts,vs,os,h,hf=>by
  simp only [OwR] at h ⊢
  obtain ⟨v,vs',o1,o2,e,rfl,h1,h2⟩:=h
  exact ⟨v,vs',o1,o2,e,rfl,OwL.frame h1 fun q hq=>hf q (by simp [hq]),OwR.frame h2 fun q hq=>hf q (by simp [hq])⟩
end
theorem OwV.leaf {t v : V} {os : List Nat} (h : OwV σ v t os) (hl : t.leaf = true) : v.leaf = true:=by
 cases t <;> simp only [V.leaf] at hl <;> first | (cases hl;done) | skip
 all_goals simp only [OwV] at h
 all_goals first | (cases h;done) | skip
 case int=>rw [h.1];rfl
 case bool=>rw [h.1];rfl
 case str=>rw [h.1];rfl
 case sl=>rcases h with ⟨_,rfl,_⟩ | ⟨_,_,_,rfl,_⟩ <;> rfl
theorem OwR.len : ∀ {ts vs : List (List V)} {os : List Nat},OwR σ vs ts os → vs.length = ts.length
 | [],vs,os,h=>by simp only [OwR] at h;simp [h.1]
 |
  t :: ts,vs,os,h=>by
  simp only [OwR] at h
  obtain ⟨v,vs',o1,o2,rfl,_,_,h2⟩:=h
  simp [OwR.len h2]
mutual
theorem OwV.shift {n : Nat} (hn : ∀ o,objAt σ' (n + o) = (objAt σ o).map (mapO (shiftN n))) : ∀ {t v : V} {os : List Nat},OwV σ v t os → OwV σ' (mapV (shiftN n) v) t (os.map (n + ·))
 |
  .sl sz rows,v,os,h=>by
  simp only [OwV] at h ⊢
  rcases h with ⟨h1,rfl,rfl⟩ | ⟨o,rows',os',rfl,h2,rfl,h3⟩
  ·exact .inl ⟨h1,rfl,rfl⟩
  ·exact .inr ⟨n + o,_,os'.map (n + ·),rfl,by rw [hn,h2];rfl,rfl,OwR.shift hn h3⟩
 | .agg cs,v,os,h=>by simp only [OwV] at h ⊢;obtain ⟨cs',rfl,h⟩:=h;exact ⟨_,rfl,OwL.shift hn h⟩
 | .tup cs,v,os,h=>by simp only [OwV] at h ⊢;obtain ⟨cs',rfl,h⟩:=h;exact ⟨_,rfl,OwL.shift hn h⟩
 | .any,v,os,h=>by simp [OwV] at h
 | .one,v,os,h=>by simp [OwV] at h
 | .int ..,v,os,h=>by simp only [OwV] at h ⊢;obtain ⟨rfl,rfl⟩:=h;exact ⟨rfl,rfl⟩
 | .bool _,v,os,h=>by simp only [OwV] at h ⊢;obtain ⟨rfl,rfl⟩:=h;exact ⟨rfl,rfl⟩
 | .str _,v,os,h=>by simp only [OwV] at h ⊢;obtain ⟨rfl,rfl⟩:=h;exact ⟨rfl,rfl⟩
 | .nils,v,os,h=>by simp [OwV] at h
 | .msl ..,v,os,h=>by simp [OwV] at h
 | .ptr ..,v,os,h=>by simp [OwV] at h
 | .fptr ..,v,os,h=>by simp [OwV] at h
theorem OwL.shift {n : Nat} (hn : ∀ o,objAt σ' (n + o) = (objAt σ o).map (mapO (shiftN n))) : ∀ {ts vs : List V} {os : List Nat},OwL σ vs ts os → OwL σ' (mapV.mapL (shiftN n) vs) ts (os.map (n + ·))
 | [],vs,os,h=>by simp only [OwL] at h ⊢;obtain ⟨rfl,rfl⟩:=h;exact ⟨rfl,rfl⟩
 |
  t :: ts,vs,os,h=>by
  simp only [OwL] at h ⊢
  obtain ⟨v,vs',o1,o2,rfl,rfl,h1,h2⟩:=h
  exact ⟨_,_,_,_,rfl,by rw [List.map_append],OwV.shift hn h1,OwL.shift hn h2⟩
theorem OwR.shift {n : Nat} (hn : ∀ o,objAt σ' (n + o) = (objAt σ o).map (mapO (shiftN n))) : ∀ {ts vs : List (List V)} {os : List Nat},OwR σ vs ts os → OwR σ' (vs.map fun r=>r.map (mapV (shiftN n))) ts (os.map (n + ·))
 | [],vs,os,h=>by simp only [OwR] at h ⊢;obtain ⟨rfl,rfl⟩:=h;exact ⟨rfl,rfl⟩
 |
  t :: ts,vs,os,h=>by
  simp only [OwR] at h ⊢
  obtain ⟨v,vs',o1,o2,rfl,rfl,h1,h2⟩:=h
  have hm : ∀ l : List V,mapV.mapL (shiftN n) l = l.map (mapV (shiftN n)):=by
   intro l
   induction l with
   | nil=>rfl
   | cons x l ih=>simp only [mapV.mapL,List.map_cons,ih]
  exact ⟨_,_,_,_,rfl,by rw [List.map_append],by rw [show (fun r=>List.map (mapV (shiftN n)) r) v = mapV.mapL (shiftN n) v from (hm v).symm];exact OwL.shift hn h1,OwR.shift hn h2⟩
end
def DepLe : Nat → V → Prop
 | 0,_=>False
 | n + 1,.sl _ rows=>∀ r ∈ rows,∀ c ∈ r,DepLe n c
 | n + 1,.agg cs=>∀ c ∈ cs,DepLe n c
 | n + 1,.tup cs=>∀ c ∈ cs,DepLe n c
 | _ + 1,_=>True
theorem ow_res : ∀ (n : Nat) {t v : V} {os : List Nat},OwV σ v t os → DepLe n t → resolve σ n v = some t
 | 0,t,v,os,_,hd=>by simp [DepLe] at hd
 |
  n + 1,t,v,os,h,hd=>by
  have hl : ∀ (ts vs : List V) (os : List Nat),OwL σ vs ts os → (∀ c ∈ ts,DepLe n c) → vs.mapM (resolve σ n) = some ts:=by
   intro ts
   induction ts with
   | nil=>intro vs os h _;simp only [OwL] at h;rw [h.1];rfl
   |
    cons t ts ih =>
    intro vs os h hd
    simp only [OwL] at h
    obtain ⟨v,vs',o1,o2,rfl,rfl,h1,h2⟩:=h
    rw [List.mapM_cons,ow_res n h1 (hd t (by simp)),ih vs' o2 h2 fun c hc=>hd c (by simp [hc])]
    rfl
  have hr : ∀ (ts vs : List (List V)) (os : List Nat),OwR σ vs ts os → (∀ r ∈ ts,∀ c ∈ r,DepLe n c) → (vs.mapM fun (r : List V)=>r.mapM (resolve σ n)) = some ts:=by
   intro ts
   induction ts with
   | nil=>intro vs os h _;simp only [OwR] at h;rw [h.1];rfl
   |
    cons t ts ih =>
    intro vs os h hd
    simp only [OwR] at h
    obtain ⟨v,vs',o1,o2,rfl,rfl,h1,h2⟩:=h
    rw [List.mapM_cons,hl t v o1 h1 (hd t (by simp)),ih vs' o2 h2 fun c hc=>hd c (by simp [hc])]
    rfl
  cases t with
  |
   sl sz rows =>
   simp only [OwV] at h
   simp only [DepLe] at hd
   rcases h with ⟨rfl,rfl,_⟩ | ⟨o,rows',os',rfl,h2,_,h3⟩
   ·rfl
   ·rw [resolve]
    simp only [h2]
    have:=h3.len
    rw [if_pos (by omega),List.drop_zero,List.take_of_length_le (by omega),hr rows rows' os' h3 hd];rfl
  |
   agg cs =>
   simp only [OwV] at h
   obtain ⟨cs',rfl,h⟩:=h
   rw [resolve]
   rw [hl cs cs' os h hd];rfl
  |
   tup cs =>
   simp only [OwV] at h
   obtain ⟨cs',rfl,h⟩:=h
   rw [resolve]
   rw [hl cs cs' os h hd];rfl
  | any=>simp [OwV] at h
  | one=>simp [OwV] at h
  | int k i=>simp only [OwV] at h;rw [h.1];rfl
  | bool b=>simp only [OwV] at h;rw [h.1];rfl
  | str s=>simp only [OwV] at h;rw [h.1];rfl
  | nils=>simp [OwV] at h
  | msl=>simp [OwV] at h
  | ptr=>simp [OwV] at h
  | fptr=>simp [OwV] at h
mutual
theorem OwV.noFrz : ∀ {t v : V} {os : List Nat},OwV σ v t os → noFrz v = true
 |
  .sl sz rows,v,os,h=>by
  simp only [OwV] at h
  rcases h with ⟨rfl,rfl,_⟩ | ⟨o,rows',os',rfl,_⟩ <;> rfl
 | .agg cs,v,os,h=>by simp only [OwV] at h;obtain ⟨cs',rfl,h⟩:=h;simp only [Ml.noFrz];exact OwL.noFrz h
 | .tup cs,v,os,h=>by simp only [OwV] at h;obtain ⟨cs',rfl,h⟩:=h;simp only [Ml.noFrz];exact OwL.noFrz h
 | .any,v,os,h=>by simp [OwV] at h
 | .one,v,os,h=>by simp [OwV] at h
 | .int ..,v,os,h=>by simp only [OwV] at h;rw [h.1];rfl
 | .bool _,v,os,h=>by simp only [OwV] at h;rw [h.1];rfl
 | .str _,v,os,h=>by simp only [OwV] at h;rw [h.1];rfl
 | .nils,v,os,h=>by simp [OwV] at h
 | .msl ..,v,os,h=>by simp [OwV] at h
 | .ptr ..,v,os,h=>by simp [OwV] at h
 | .fptr ..,v,os,h=>by simp [OwV] at h
theorem OwL.noFrz : ∀ {ts vs : List V} {os : List Nat},OwL σ vs ts os → noFrz.allNoFrz vs = true
 | [],vs,os,h=>by simp only [OwL] at h;rw [h.1];rfl
 |
  t :: ts,vs,os,h=>by
  simp only [OwL] at h
  obtain ⟨v,vs',o1,o2,rfl,rfl,h1,h2⟩:=h
  simp only [noFrz.allNoFrz,OwV.noFrz h1,OwL.noFrz h2,Bool.and_self]
end
end
end Go.Ml
end
section
namespace Go.Ml
mutual
theorem rd_noFrz {w : World} {D : DM} {X X' : Nat → Prop} : ∀ (x : V) (v : Value),noFrz x = true → rd w D X x v → rd w D X' x v
 |
  .sl sz rows,v,h,hr=>by
  simp only [noFrz,List.isEmpty_iff] at h
  subst h
  simp only [rd] at hr ⊢
  obtain ⟨a,cap,h1,h2,_⟩:=hr
  exact ⟨a,cap,h1,h2,.inl (by trivial)⟩
 |
  .agg cs,v,h,hr=>by
  simp only [noFrz] at h
  simp only [rd] at hr ⊢
  obtain ⟨a,rfl,hr⟩:=hr
  exact ⟨a,rfl,rdL_noFrz cs _ h hr⟩
 |
  .tup cs,v,h,hr=>by
  simp only [noFrz] at h
  simp only [rd] at hr ⊢
  obtain ⟨a,rfl,hr⟩:=hr
  exact ⟨a,rfl,rdL_noFrz cs _ h hr⟩
 | .fptr ..,v,h,hr=>by simp [noFrz] at h
 | .any,_,_,_=>by simp [rd]
 | .one,v,h,hr=>by simpa only [rd] using hr
 | .int ..,v,h,hr=>by simpa only [rd] using hr
 | .bool _,v,h,hr=>by simpa only [rd] using hr
 | .str _,v,h,hr=>by simpa only [rd] using hr
 | .nils,v,h,hr=>by simpa only [rd] using hr
 | .msl ..,v,h,hr=>by simpa only [rd] using hr
 | .ptr ..,v,h,hr=>by simpa only [rd] using hr
theorem rdL_noFrz {w : World} {D : DM} {X X' : Nat → Prop} : ∀ (xs : List V) (vs : List Value),noFrz.allNoFrz xs = true → rdL w D X xs vs → rdL w D X' xs vs
 | [],vs,_,hr=>by simpa only [rdL] using hr
 |
  x :: xs,vs,h,hr=>by
  simp only [noFrz.allNoFrz,Bool.and_eq_true] at h
  simp only [rdL] at hr ⊢
  obtain ⟨v,vs',rfl,k1,k2⟩:=hr
  exact ⟨v,vs',rfl,rd_noFrz x v h.1 k1,rdL_noFrz xs vs' h.2 k2⟩
end
mutual
theorem noFrz_map {g : Nat → Option Nat} : ∀ (x : V),noFrz x = true → noFrz (mapV g x) = true
 | .sl sz rows,h=>by simpa only [mapV] using h
 | .agg cs,h=>by simp only [noFrz,mapV] at h ⊢;exact allNoFrz_map cs h
 | .tup cs,h=>by simp only [noFrz,mapV] at h ⊢;exact allNoFrz_map cs h
 | .fptr ..,h=>by simp [noFrz] at h
 | .msl o s l,_=>by simp only [mapV];split <;> rfl
 | .ptr o s l,_=>by simp only [mapV];split <;> rfl
 | .any,_=>rfl
 | .one,_=>rfl
 | .int ..,_=>rfl
 | .bool _,_=>rfl
 | .str _,_=>rfl
 | .nils,_=>rfl
theorem allNoFrz_map {g : Nat → Option Nat} : ∀ (xs : List V),noFrz.allNoFrz xs = true → noFrz.allNoFrz (mapV.mapL g xs) = true
 | [],_=>rfl
 |
  x :: xs,h=>by
  simp only [noFrz.allNoFrz,Bool.and_eq_true,mapV.mapL] at h ⊢
  exact ⟨noFrz_map x h.1,allNoFrz_map xs h.2⟩
end
theorem objAt_addS {σ σ' : Store} {o : Nat} : objAt (addS σ σ') o = if o < σ.length then objAt σ o else (objAt σ' (o - σ.length)).map (mapO (shiftN σ.length)):=by
 unfold addS objAt
 by_cases h : o < σ.length
 ·rw [if_pos h,List.getElem?_append_left h]
 ·rw [if_neg h,List.getElem?_append_right (by omega),List.getElem?_map]
  cases σ'[o - σ.length]? <;> rfl
section
variable {P : Program} {ν : Nat → Option Nat} {nt : Nat} {M : Nat → Prop} {w0 : World} {D0 : DM} {st : St} {D : DM} {a : Act} {w : World}
theorem opOk_callG {x : OpI} {f : Nat} {as : List Src} {as' : List V} {r : V} {σ' : Store} {R : List Nat} (hg : ∀ g want,x.g = some (g,want) → st.env g = .bool want) (hi : x.i = .call f as)
  (ha : as.mapM (fun s=>resolve st.objs FD (s.ev st.env)) = some as') (ih : FnOk P ν f as' [] r σ')
  (hR : R = if noFrz r && freshS σ' then [] else as.flatMap fun s=>reach st.objs FD (s.ev st.env)) :
  OpOk P ν x st { st with env:=updO st.env x.dst (mapV (shiftN st.objs.length) r),objs:=addS (killAll st.objs R) σ' }:=by
 have hlk : (killAll st.objs R).length = st.objs.length:=len_kill R _
 refine ⟨rfl,rfl,by simp [addS,hlk],?_⟩
 intro ops dr nt m k o htr M w0 D0 D a w hs _ K Q hK
 obtain ⟨t1,t2,t3,t4⟩:=trOp_spec htr
 rw [if_pos ((wanted_iff hs t4).1 hg)]
 rw [hi] at t1
 obtain ⟨fid,xs,c1,c2,c3⟩:=run_call_op t1
 have hrd:=trArgs_rd hs.store hs.env xs c2 ha (R:=as.flatMap fun s=>reach st.objs FD (s.ev st.env)) (fun o h=>h)
 let X' : Nat → Prop:=fun b=>M b ∨ ∃ o d,D o = .live d ∧ d.blk = b ∧ o ∉ as.flatMap fun s=>reach st.objs FD (s.ev st.env)
 have hX : ∀ b,XS X' DM.none b → X' b:=by
  rintro b (h | ⟨o,d,h,_⟩)
  ·exact h
  ·simp [DM.none] at h
 have hlt : ∀ b,X' b → b < w.heap.size:=by
  rintro b (h | ⟨o,d,h,rfl,_⟩)
  ·exact hs.store.mlt b h
  ·obtain ⟨_,_,_,_,_,_,_,_,h6,_⟩:=hs.store.live o d h
   exact h6
 have hcall:=ih fid c1 w X' DM.none (xs.map a.eval).toArray (by simpa using rdL_mono' hrd hX)
  ⟨fun o d h=>by simp [DM.none] at h,fun o ob h=>by simp [objAt] at h,fun o o' d d' h=>by simp [DM.none] at h,fun _ _=>rfl,hlt⟩
 refine enter_wp (c3 a w) (R:=fun v w'=>∃ Dc,rd w' Dc (XS X' Dc) r v ∧ SRel w' Dc X' σ' ∧ Gr (Own DM.none) w w' ∧ ∀ o d,Dc o = .live d → w.heap.size ≤ d.blk) (hcall.mono ?_) ?_
 ·rintro e w' ⟨v,D',rfl,h1,h2,h3,h4,_⟩
  refine ⟨v,rfl,D',h1,h2,h3,fun o d ho=>?_⟩
  rcases h4 o d ho with ⟨_,_,h,_⟩ | h
  ·simp [DM.none] at h
  ·exact h
 ·rintro v w' ⟨Dc,h1,h2,h3,h4⟩
  have hsame : ∀ b,b < w.heap.size → w'.heap[b]? = w.heap[b]?:=fun b hb=>h3.block b hb (by rintro ⟨o,d,h,_⟩;simp [DM.none] at h)
  let n:=st.objs.length
  let D' : DM:=fun o=>if o < n then D.kill R o else Dc (o - n)
  have dOld : ∀ o,o < n → D' o = D.kill R o:=fun o h=>by simp only [D',if_pos h]
  have dNew : ∀ j,D' (n + j) = Dc j:=fun j=>by simp only [D'];rw [if_neg (by omega)];congr 1;omega
  have dFrom : ∀ o d,D' o = .live d → (o < n ∧ o ∉ R ∧ D o = .live d) ∨ (n ≤ o ∧ Dc (o - n) = .live d):=by
   intro o d ho
   by_cases hon : o < n
   ·rw [dOld o hon] at ho
    obtain ⟨k1,k2⟩:=kill_live ho
    exact .inl ⟨hon,k2,k1⟩
   ·simp only [D',if_neg hon] at ho
    exact .inr ⟨by omega,ho⟩
  have E : Ext w D (XS M D) w' D' (XS M D'):=by
   refine ⟨h3.size,fun b hb _=>hsame b hb,?_,?_⟩
   ·rintro b hb (h | ⟨o,d,ho,rfl⟩)
    ·exact .inl h
    ·rcases dFrom o d ho with ⟨_,_,k⟩ | ⟨_,k⟩
     ·exact .inr ⟨o,d,k,rfl⟩
     ·have:=h4 _ d k;omega
   ·intro o
    by_cases hon : o < n
    ·rw [dOld o hon];exact kill_le D R o
    ·rw [hs.store.far o (by omega)];trivial
  have hmapX : ∀ {x : V} {v : Value},((noFrz r && freshS σ') = true → noFrz x = true) → rd w' Dc (XS X' Dc) x v → rd w' D' (XS M D') (mapV (shiftN n) x) v:=by
   intro x v hx hr
   have h:=rd_map (D':=D') (g:=shiftN n) (fun j j' hj=>by simp only [shiftN,Option.some.injEq] at hj;subst hj;rw [dNew];exact DSle.refl _) x v hr
   by_cases hf : (noFrz r && freshS σ') = true
   ·exact rd_noFrz _ _ (noFrz_map _ (hx hf)) h
   ·rw [if_neg hf] at hR
    refine rd_mono _ _ ⟨Nat.le_refl _,fun _ _ _=>rfl,fun b _ hb=>?_,fun _=>DSle.refl _⟩ h
    rcases hb with hb | ⟨o,d,ho,rfl⟩
    ·exact .inl (.inl hb)
    ·rcases dFrom o d ho with ⟨_,k2,k⟩ | ⟨_,k⟩
     ·exact .inl (.inr ⟨o,d,k,rfl,by rw [← hR];exact k2⟩)
     ·exact .inr ⟨_,d,k,rfl⟩
  have hcell : ∀ {j : Nat} {ob : Obj},objAt σ' j = some ob → ∀ x ∈ ob.rows.flatten,((noFrz r && freshS σ') = true → noFrz x = true):=by
   intro j ob hj x hx hf
   simp only [Bool.and_eq_true,freshS,List.all_eq_true] at hf
   have hmem : some ob ∈ σ':=by
    unfold objAt at hj
    cases hc : σ'[j]? with
    | none=>rw [hc] at hj;cases hj
    | some z=>rw [hc] at hj;simp at hj;subst hj;exact List.mem_of_getElem? hc
   obtain ⟨rw',hr1,hr2⟩:=List.mem_flatten.1 hx
   have:=hf.2 _ hmem
   simp only [List.all_eq_true] at this
   exact this rw' hr1 x hr2
  have hst : SRel w' D' M (addS (killAll st.objs R) σ'):=by
   refine ⟨?_,?_,?_,?_,fun b hb=>Nat.lt_of_lt_of_le (hs.store.mlt b hb) h3.size⟩
   ·intro o d ho
    rcases dFrom o d ho with ⟨k1,k2,k⟩ | ⟨k1,k⟩
    ·obtain ⟨ob,c,e,g1,g2,g3,g4,g5,g6,g7,g8,g9,g10,g11⟩:=hs.store.live o d k
     refine ⟨ob,c,e,by rw [objAt_addS,hlk,if_pos k1,objAt_kill,if_neg k2];exact g1,g2,g3,g4,g5,Nat.lt_of_lt_of_le g6 h3.size,by rw [hsame _ g6];exact g7,g8,g9,g10,fun i x hi=>?_⟩
     obtain ⟨k0,y,j1,j2⟩:=g11 i x hi
     exact ⟨k0,y,j1,rd_mono _ _ E j2⟩
    ·obtain ⟨ob,c,e,g1,g2,g3,g4,g5,g6,g7,g8,g9,g10,g11⟩:=h2.live _ d k
     refine ⟨mapO (shiftN n) ob,c,e,by rw [objAt_addS,hlk,if_neg (by omega),g1];rfl,g2,by simp [mapO,g3],g4,fun hm=>g5 (.inl hm),g6,g7,g8,g9,?_,fun i x hi=>?_⟩
     ·intro rr hrr
      simp only [mapO,List.mem_map] at hrr
      obtain ⟨r0,hr0,rfl⟩:=hrr
      simpa [mapO] using g10 r0 hr0
     ·rw [flatten_mapO,List.getElem?_map,Option.map_eq_some_iff] at hi
      obtain ⟨x0,hx0,rfl⟩:=hi
      obtain ⟨k0,y,j1,j2⟩:=g11 i x0 hx0
      exact ⟨leaf_map k0,y,j1,hmapX (hcell g1 x0 (List.mem_of_getElem? hx0)) j2⟩
   ·intro o ob ho
    rw [objAt_addS,hlk] at ho
    split at ho
    ·rename_i hon
     rw [objAt_kill] at ho
     split at ho
     ·cases ho
     ·rename_i hR'
      obtain ⟨d,hd⟩:=hs.store.alive o ob ho
      exact ⟨d,by rw [dOld o hon];simp only [DM.kill,if_neg hR'];exact hd⟩
    ·rename_i hon
     simp only [Option.map_eq_some_iff] at ho
     obtain ⟨ob0,ho,_⟩:=ho
     obtain ⟨d,hd⟩:=h2.alive _ ob0 ho
     refine ⟨d,?_⟩
     show (if o < n then _ else _) = _
     rw [if_neg hon];exact hd
   ·intro o o' d d' ho ho' hb
    rcases dFrom o d ho with ⟨a1,a2,a3⟩ | ⟨a1,a3⟩ <;> rcases dFrom o' d' ho' with ⟨b1,b2,b3⟩ | ⟨b1,b3⟩
    ·exact hs.store.inj o o' d d' a3 b3 hb
    ·obtain ⟨_,_,_,_,_,_,_,_,g6,_⟩:=hs.store.live o d a3
     have:=h4 _ d' b3;omega
    ·obtain ⟨_,_,_,_,_,_,_,_,g6,_⟩:=hs.store.live o' d' b3
     have:=h4 _ d a3;omega
    ·have:=h2.inj _ _ d d' a3 b3 hb
     omega
   ·intro o ho
    have hlo : n + σ'.length ≤ o:=by simpa [addS,hlk] using ho
    simp only [D']
    rw [if_neg (by omega)]
    exact h2.far _ (by omega)
  rw [t2]
  refine hK D' _ w' ⟨rd_put (fun t=>rd_mono _ _ E (hs.env t)) (fun d hd=>by rw [hs.tm];exact t3 d (t2.trans hd)) (hmapX (fun hf=>by simp only [Bool.and_eq_true] at hf;exact hf.1) h1),?_,?_,hst,?_,?_,fun o ho=>(hs.kp o ho).trans (E.ds o)⟩ ?_
  ·rw [← hs.tm];cases x.dst <;> simp [Act.put]
  ·rw [← hs.df];cases x.dst <;> rfl
  ·exact hs.gr.trans (h3.mono fun b _ ⟨o,d,h,_⟩=>by simp [DM.none] at h)
  ·intro o d ho
   rcases dFrom o d ho with ⟨_,_,k⟩ | ⟨_,k⟩
   ·exact hs.fr o d k
   ·exact .inr (Nat.le_trans hs.gr.size (h4 _ d k))
  ·intro o _ ho hu _
   rw [dOld o ho]
   simp only [DM.kill,hu];split <;> rfl
theorem trArgs_id {X : Nat → Prop} {env : Nat → V} (he : ∀ t,rd w D X (env t) (a.tmps.getD t undef)) :
  ∀ (xs : List Operand) {as : List Src},trArgs xs = some as → rdL w D X (as.map fun s=>s.ev env) (xs.map a.eval)
 | [],as,h=>by simp only [trArgs,Option.some.injEq] at h;subst h;simp [rdL]
 |
  x :: xs,as,h=>by
  simp only [trArgs] at h
  split at h <;> first | (cases h;done) | skip
  rename_i s r h1 h2
  simp only [Option.some.injEq] at h;subst h
  simp only [List.map_cons,rdL]
  exact ⟨_,_,rfl,rd_src he h1,trArgs_id he xs h2⟩
theorem opOk_callI {x : OpI} {f : Nat} {as : List Src} {r : V} {σ' : Store} (hg : ∀ g want,x.g = some (g,want) → st.env g = .bool want) (hi : x.i = .call f as)
  (ih : FnOk P ν f (as.map fun s=>s.ev st.env) st.objs r σ') (hl : st.objs.length ≤ σ'.length) (hb : st.objs.length ≤ st.base) :
  OpOk P ν x st { st with env:=updO st.env x.dst r,objs:=σ' }:=by
 refine ⟨rfl,rfl,hl,?_⟩
 intro ops dr nt m k o htr M w0 D0 D a w hs _ K Q hK
 obtain ⟨t1,t2,t3,t4⟩:=trOp_spec htr
 rw [if_pos ((wanted_iff hs t4).1 hg)]
 rw [hi] at t1
 obtain ⟨fid,xs,c1,c2,c3⟩:=run_call_op t1
 have hcall:=ih fid c1 w M D (xs.map a.eval).toArray (by simpa using trArgs_id hs.env xs c2) hs.store
 refine enter_wp (c3 a w) (R:=fun v w'=>∃ D',rd w' D' (XS M D') r v ∧ SRel w' D' M σ' ∧ Gr (Own D) w w' ∧ (∀ o d,D' o = .live d → Own D d.blk ∨ w.heap.size ≤ d.blk) ∧ ∀ j,j < st.objs.length → DSle (D j) (D' j)) (hcall.mono ?_) ?_
 ·rintro e w' ⟨v,D',rfl,h1,h2,h3,h4,h5⟩
  exact ⟨v,rfl,D',h1,h2,h3,h4,h5⟩
 ·rintro v w' ⟨D',h1,h2,h3,h4,h5⟩
  have E : Ext w D (XS M D) w' D' (XS M D'):=by
   refine ⟨h3.size,fun b hb hx=>h3.block b hb (fun ho=>hx (.inr ho)),?_,?_⟩
   ·rintro b hb (h | ⟨o,d,ho,rfl⟩)
    ·exact .inl h
    ·rcases h4 o d ho with h | h
     ·exact .inr h
     ·omega
   ·intro o
    rcases Nat.lt_or_ge o st.objs.length with h | h
    ·exact h5 o h
    ·rw [hs.store.far o h];trivial
  rw [t2]
  refine hK D' _ w' ⟨rd_put (fun t=>rd_mono _ _ E (hs.env t)) (fun d hd=>by rw [hs.tm];exact t3 d (t2.trans hd)) h1,?_,?_,h2,?_,?_,fun o ho=>(hs.kp o ho).trans (E.ds o)⟩ ?_
  ·rw [← hs.tm];cases x.dst <;> simp [Act.put]
  ·rw [← hs.df];cases x.dst <;> rfl
  ·exact hs.gr.trans (h3.mono fun b _ ho=>by obtain ⟨o,d,h,hb⟩:=ho;rw [← hb];exact hs.fr o d h)
  ·intro o d ho
   rcases h4 o d ho with ⟨q,d',hq,hb⟩ | h
   ·rw [← hb];exact hs.fr q d' hq
   ·exact .inr (Nat.le_trans hs.gr.size h)
  ·intro o h1 h2 _ _
   omega
theorem fnOk_reF {W : Win} {f : Nat} {args args2 : List V} {σ' σ2 : Store} {r r2 : V} (ha : LaxL args args2) (hs : ReS W σ' σ2) (hr : CanV W σ' r r2) (ih : FnOk P ν f args [] r σ') : FnOk P ν f args2 [] r2 σ2:=by
 intro fid hf w M D vals h1 h2
 refine (ih fid hf w M D vals (rdL_lax _ _ _ _ _ ha h1) h2).mono ?_
 rintro e w' ⟨v,D',rfl,k1,k2,k3,k4,k5⟩
 refine ⟨v,D'.win W 0,rfl,rd_can k2 hs.some _ _ _ hr k1,k2.re hs (Nat.zero_le _),k3,?_,fun o ho=>by simp at ho⟩
 intro k d hk
 obtain ⟨o,s,l,d0,_,e2,rfl⟩:=win_live hk
 exact k4 o d0 e2
theorem fnOk_laxF {f : Nat} {args args2 : List V} {σ σ' : Store} {r r2 : V} (ha : LaxL args args2) (hr : LaxV r2 r) (ih : FnOk P ν f args σ r σ') : FnOk P ν f args2 σ r2 σ':=by
 intro fid hf w M D vals h1 h2
 refine (ih fid hf w M D vals (rdL_lax _ _ _ _ _ ha h1) h2).mono ?_
 rintro e w' ⟨v,D',rfl,k1,k2⟩
 exact ⟨v,D',rfl,rd_lax _ _ _ _ _ hr k1,k2⟩
end
end Go.Ml
end
section
namespace Go.Ml
section
variable {σ : Store} {ρ : List Nat}
mutual
theorem OwV.gc {g : Nat → Nat} : ∀ {t v : V} {os : List Nat},OwV σ v t os → (∀ o ∈ os,place ρ o = some (g o) ∧ o ∈ ρ) → OwV (gcS ρ σ) (mapV (place ρ) v) t (os.map g)
 |
  .sl sz rows,v,os,h,hg=>by
  simp only [OwV] at h ⊢
  rcases h with ⟨h1,rfl,rfl⟩ | ⟨o,rows',os',rfl,h2,rfl,h3⟩
  ·exact .inl ⟨h1,rfl,rfl⟩
  ·obtain ⟨g1,g2⟩:=hg o (by simp)
   refine .inr ⟨g o,rows'.map fun r=>r.map (mapV (place ρ)),os'.map g,by simp only [mapV,g1],?_,rfl,OwR.gc h3 fun q hq=>hg q (by simp [hq])⟩
   rw [objAt_gcS,place_some g1]
   simp only [h2,Option.map_some];rfl
 | .agg cs,v,os,h,hg=>by simp only [OwV] at h ⊢;obtain ⟨cs',rfl,h⟩:=h;exact ⟨_,rfl,OwL.gc h hg⟩
 | .tup cs,v,os,h,hg=>by simp only [OwV] at h ⊢;obtain ⟨cs',rfl,h⟩:=h;exact ⟨_,rfl,OwL.gc h hg⟩
 | .any,v,os,h,_=>by simp [OwV] at h
 | .one,v,os,h,_=>by simp [OwV] at h
 | .int ..,v,os,h,_=>by simp only [OwV] at h ⊢;obtain ⟨rfl,rfl⟩:=h;exact ⟨rfl,rfl⟩
 | .bool _,v,os,h,_=>by simp only [OwV] at h ⊢;obtain ⟨rfl,rfl⟩:=h;exact ⟨rfl,rfl⟩
 | .str _,v,os,h,_=>by simp only [OwV] at h ⊢;obtain ⟨rfl,rfl⟩:=h;exact ⟨rfl,rfl⟩
 | .nils,v,os,h,_=>by simp [OwV] at h
 | .msl ..,v,os,h,_=>by simp [OwV] at h
 | .ptr ..,v,os,h,_=>by simp [OwV] at h
 | .fptr ..,v,os,h,_=>by simp [OwV] at h
theorem OwL.gc {g : Nat → Nat} : ∀ {ts vs : List V} {os : List Nat},OwL σ vs ts os → (∀ o ∈ os,place ρ o = some (g o) ∧ o ∈ ρ) → OwL (gcS ρ σ) (mapV.mapL (place ρ) vs) ts (os.map g)
 | [],vs,os,h,_=>by simp only [OwL] at h ⊢;obtain ⟨rfl,rfl⟩:=h;exact ⟨rfl,rfl⟩
 |
  t :: ts,vs,os,h,hg=>by
  simp only [OwL] at h ⊢
  obtain ⟨v,vs',o1,o2,rfl,rfl,h1,h2⟩:=h
  exact ⟨_,_,_,_,rfl,by rw [List.map_append],OwV.gc h1 fun q hq=>hg q (by simp [hq]),OwL.gc h2 fun q hq=>hg q (by simp [hq])⟩
theorem OwR.gc {g : Nat → Nat} : ∀ {ts vs : List (List V)} {os : List Nat},OwR σ vs ts os → (∀ o ∈ os,place ρ o = some (g o) ∧ o ∈ ρ) → OwR (gcS ρ σ) (vs.map fun r=>r.map (mapV (place ρ))) ts (os.map g)
 | [],vs,os,h,_=>by simp only [OwR] at h ⊢;obtain ⟨rfl,rfl⟩:=h;exact ⟨rfl,rfl⟩
 |
  t :: ts,vs,os,h,hg=>by
  simp only [OwR] at h ⊢
  obtain ⟨v,vs',o1,o2,rfl,rfl,h1,h2⟩:=h
  have hm : ∀ l : List V,mapV.mapL (place ρ) l = l.map (mapV (place ρ)):=by
   intro l
   induction l with
   | nil=>rfl
   | cons x l ih=>simp only [mapV.mapL,List.map_cons,ih]
  exact ⟨_,_,_,_,rfl,by rw [List.map_append],by rw [show (fun r=>List.map (mapV (place ρ)) r) v = mapV.mapL (place ρ) v from (hm v).symm];exact OwL.gc h1 fun q hq=>hg q (by simp [hq]),OwR.gc h2 fun q hq=>hg q (by simp [hq])⟩
end
theorem allNoFrz_iff {cs : List V} : noFrz.allNoFrz cs = true ↔ ∀ c ∈ cs,noFrz c = true:=by
 induction cs with
 | nil=>simp [noFrz.allNoFrz]
 | cons c cs ih=>simp [noFrz.allNoFrz,ih]
mutual
theorem OwV.objs : ∀ {t v : V} {os : List Nat},OwV σ v t os → ∀ o ∈ os,∃ ob,objAt σ o = some ob ∧ ∀ r ∈ ob.rows,∀ c ∈ r,noFrz c = true
 |
  .sl sz rows,v,os,h=>by
  simp only [OwV] at h
  rcases h with ⟨_,_,rfl⟩ | ⟨o,rows',os',_,h2,rfl,h3⟩
  ·intro o ho;cases ho
  ·intro q hq
   rcases List.mem_cons.1 hq with rfl | hq
   ·exact ⟨_,h2,OwR.noFrz h3⟩
   ·exact OwR.objs h3 q hq
 | .agg cs,v,os,h=>by simp only [OwV] at h;obtain ⟨cs',_,h⟩:=h;exact OwL.objs h
 | .tup cs,v,os,h=>by simp only [OwV] at h;obtain ⟨cs',_,h⟩:=h;exact OwL.objs h
 | .any,v,os,h=>by simp [OwV] at h
 | .one,v,os,h=>by simp [OwV] at h
 | .int ..,v,os,h=>by simp only [OwV] at h;rw [h.2];intro o ho;cases ho
 | .bool _,v,os,h=>by simp only [OwV] at h;rw [h.2];intro o ho;cases ho
 | .str _,v,os,h=>by simp only [OwV] at h;rw [h.2];intro o ho;cases ho
 | .nils,v,os,h=>by simp [OwV] at h
 | .msl ..,v,os,h=>by simp [OwV] at h
 | .ptr ..,v,os,h=>by simp [OwV] at h
 | .fptr ..,v,os,h=>by simp [OwV] at h
theorem OwL.objs : ∀ {ts vs : List V} {os : List Nat},OwL σ vs ts os → ∀ o ∈ os,∃ ob,objAt σ o = some ob ∧ ∀ r ∈ ob.rows,∀ c ∈ r,noFrz c = true
 | [],vs,os,h=>by simp only [OwL] at h;rw [h.2];intro o ho;cases ho
 |
  t :: ts,vs,os,h=>by
  simp only [OwL] at h
  obtain ⟨v,vs',o1,o2,_,rfl,h1,h2⟩:=h
  intro o ho
  rcases List.mem_append.1 ho with ho | ho
  ·exact OwV.objs h1 o ho
  ·exact OwL.objs h2 o ho
theorem OwR.objs : ∀ {ts vs : List (List V)} {os : List Nat},OwR σ vs ts os → ∀ o ∈ os,∃ ob,objAt σ o = some ob ∧ ∀ r ∈ ob.rows,∀ c ∈ r,noFrz c = true
 | [],vs,os,h=>by simp only [OwR] at h;rw [h.2];intro o ho;cases ho
 |
  t :: ts,vs,os,h=>by
  simp only [OwR] at h
  obtain ⟨v,vs',o1,o2,_,rfl,h1,h2⟩:=h
  intro o ho
  rcases List.mem_append.1 ho with ho | ho
  ·exact OwL.objs h1 o ho
  ·exact OwR.objs h2 o ho
theorem OwR.noFrz : ∀ {ts vs : List (List V)} {os : List Nat},OwR σ vs ts os → ∀ r ∈ vs,∀ c ∈ r,Ml.noFrz c = true
 | [],vs,os,h=>by simp only [OwR] at h;rw [h.1];intro r hr;cases hr
 |
  t :: ts,vs,os,h=>by
  simp only [OwR] at h
  obtain ⟨v,vs',o1,o2,rfl,_,h1,h2⟩:=h
  intro r hr
  rcases List.mem_cons.1 hr with rfl | hr
  ·exact allNoFrz_iff.1 (OwL.noFrz h1)
  ·exact OwR.noFrz h2 r hr
end
def PO (T : Nat → Option Fn) (f : Nat) (args : List V) (t : V) : Prop :=
 ∃ r σ' os,Run T (.fn f args []) (.fn r σ') ∧ OwV σ' r t os ∧ os.Nodup ∧ freshS σ' = true
theorem PO.of {T : Nat → Option Fn} {f : Nat} {args : List V} {t r : V} {σ' : Store} {os : List Nat} (h : Run T (.fn f args []) (.fn r σ')) (ho : OwV σ' r t os) (hn : os.Nodup) : PO T f args t:=by
 have hg : ∀ o ∈ os,place os o = some ((place os o).getD 0) ∧ o ∈ os:=by
  intro o hm
  refine ⟨?_,hm⟩
  cases hp : place os o with
  | none=>exact absurd hm (place_none hp)
  | some j=>rfl
 refine ⟨_,_,_,.gcF os hn (fun i hi=>by simp at hi) h,ho.gc hg,?_,?_⟩
 ·refine (List.pairwise_map.2 ?_)
  refine List.Pairwise.imp_of_mem (fun {a b} ha hb hne e=>hne ?_) hn
  have e1:=place_some (hg a ha).1
  have e2:=place_some (hg b hb).1
  rw [e,e2] at e1
  exact (Option.some.inj e1).symm
 ·simp only [freshS,List.all_eq_true]
  intro x hx
  obtain ⟨o,hm,rfl⟩:=List.mem_map.1 hx
  obtain ⟨ob,h1,h2⟩:=ho.objs o hm
  rw [h1]
  simp only [Option.map_some,mapO,List.all_eq_true]
  intro r hr c hc
  obtain ⟨r0,hr0,rfl⟩:=List.mem_map.1 hr
  obtain ⟨c0,hc0,rfl⟩:=List.mem_map.1 hc
  exact noFrz_map _ (h2 r0 hr0 c0 hc0)
theorem PO.frz {T : Nat → Option Fn} {f : Nat} {args : List V} {t : V} (h : PO T f args t) (hd : DepLe FD t) : PF T f args t:=by
 obtain ⟨r,σ',os,h1,h2,_,_⟩:=h
 exact .frz h1 (ow_res FD h2 hd)
theorem RefK_own {T : Nat → Option Fn} {f : Nat} {as : List Src} {dst : Option Nat} {env : Nat → V} {σ : Store} {kp bs : Nat} {rs ms : List Nat} {k : St → Prop} {as' : List V} {t : V} (h : PO T f as' t)
  (ha : resK env σ as (· = as'))
  (hk : ∀ r σ2 os,OwV σ2 r t os → os.Nodup → (∀ o ∈ os,σ.length ≤ o) → (∀ o,o < σ.length → objAt σ2 o = objAt σ o) → σ.length ≤ σ2.length → k ⟨updO env dst r,σ2,kp,bs,rs,ms⟩) :
  RefK T f as dst ⟨env,σ,kp,bs,rs,ms⟩ k:=by
 obtain ⟨r,σ',os,h1,h2,h3,h4⟩:=h
 obtain ⟨vs,e,rfl⟩:=resK_spec ha
 refine ⟨_,.own e h1 (R:=[]) (by rw [if_pos];simp [h2.noFrz,h4]),?_⟩
 have key : ∀ o,objAt (addS (killAll σ []) σ') (σ.length + o) = (objAt σ' o).map (mapO (shiftN σ.length)):=by
  intro o
  show objAt (addS σ σ') _ = _
  rw [objAt_addS,if_neg (by omega)]
  congr 2;omega
 refine hk _ _ (os.map (σ.length + ·)) (h2.shift key) ?_ ?_ ?_ ?_
 ·exact List.pairwise_map.2 (h3.imp fun hne e=>hne (by omega))
 ·intro o ho
  obtain ⟨q,_,rfl⟩:=List.mem_map.1 ho
  omega
 ·intro o ho
  show objAt (addS σ σ') _ = _
  rw [objAt_addS,if_pos ho]
 ·simp [addS,killAll]
theorem RefK_idn {T : Nat → Option Fn} {f : Nat} {as : List Src} {dst : Option Nat} {env : Nat → V} {σ σ' : Store} {kp bs : Nat} {rs ms : List Nat} {k : St → Prop} {r : V}
  (h : Run T (.fn f (as.map fun s=>s.ev env) σ) (.fn r σ')) (hl : σ.length ≤ σ'.length) (hb : σ.length ≤ bs) (hk : k ⟨updO env dst r,σ',kp,bs,rs,ms⟩) : RefK T f as dst ⟨env,σ,kp,bs,rs,ms⟩ k :=
 ⟨_,.idn h hl hb,hk⟩
def outW : List Res → List V → St → (V → Store → Prop) → Prop
 | [],acc,st,k=>mvK (packRes acc.reverse) fun v=>k v st.objs
 | r :: rs,acc,st,k=>optK (r.get st) fun v=>mvK v fun v=>outW rs (v :: acc) st k
theorem outW_spec {st : St} {k : V → Store → Prop} : ∀ (rs : List Res) (acc : List V),outW rs acc st k → optK (rs.mapM (Res.get st)) fun vs=>k (packRes (acc.reverse ++ vs)) st.objs
 | [],acc,h=>by simpa [optK,outW,mvK] using h
 |
  r :: rs,acc,h=>by
  obtain ⟨v,e,h⟩:=optK_spec h
  have:=outW_spec rs (v :: acc) h
  obtain ⟨vs,e2,h⟩:=optK_spec this
  simp only [List.mapM_cons,e,e2]
  simpa [optK,wr] using h
def endW (rs : List Res) (e : Ex) (k : V → Store → Prop) (st : St) : Prop:=match e with
 | .normal=>outW rs [] st k
 | .ret=>outW rs [] st k
 | .exit _=>False
theorem endW_n (rs : List Res) (k : V → Store → Prop) (st : St) : endW rs .normal k st = outW rs [] st k:=nr rfl
theorem endW_r (rs : List Res) (k : V → Store → Prop) (st : St) : endW rs .ret k st = outW rs [] st k:=nr rfl
theorem outW_n (acc : List V) (st : St) (k : V → Store → Prop) : outW [] acc st k = mvK (packRes acc.reverse) fun v=>k v st.objs:=nr rfl
theorem outW_t (t : Nat) (rs : List Res) (acc : List V) (st : St) (k : V → Store → Prop) : outW (.tmp t :: rs) acc st k = mvK (st.env t) fun v=>outW rs (v :: acc) st k:=nr rfl
theorem outW_c1 (t n : Nat) (rs : List Res) (acc : List V) (st : St) (k : V → Store → Prop) : outW (.cell t n false :: rs) acc st k = optK (rowAt st.objs (st.env t)) fun p=>optK p.1[p.2]? fun v=>mvK v fun v=>outW rs (v :: acc) st k:=by
 simp only [outW,Res.get]
 cases rowAt st.objs (st.env t) <;> rfl
theorem outW_cn (t n : Nat) (rs : List Res) (acc : List V) (st : St) (k : V → Store → Prop) : outW (.cell t n true :: rs) acc st k = optK (rowAt st.objs (st.env t)) fun p=>if p.2 + n ≤ p.1.length then mvK (.agg ((p.1.drop p.2).take n)) fun v=>outW rs (v :: acc) st k else False:=by
 simp only [outW,Res.get]
 cases e : rowAt st.objs (st.env t) with
 | none=>rfl
 |
  some p =>
  by_cases h : p.2 + n ≤ p.1.length
  ·simp only [optK,if_true,mvK,wr_eq,if_pos h]
  ·simp only [optK,if_true,mvK,wr_eq,if_neg h]
theorem run_end {T : Nat → Option Fn} {f : Nat} {F : Fn} {args : List V} {σ : Store} {k : V → Store → Prop} (rf : Nat → Nat → Bool) (hT : T f = some F) (hl : args.length = F.nargs) (hk : F.body.okC = true)
  (h : wp T rf F.body (fun e st=>endW F.res e k st) (St.enter args σ)) : ∃ r σ',Run T (.fn f args σ) (.fn r σ') ∧ k r σ':=by
 obtain ⟨e,st',h1,h2⟩:=wp_sound hk h
 have h3 : (e = .normal ∨ e = .ret) ∧ outW F.res [] st' k:=by
  cases e with
  | normal=>exact ⟨.inl rfl,h2⟩
  | ret=>exact ⟨.inr rfl,h2⟩
  | exit id=>exact h2.elim
 obtain ⟨he,h3⟩:=h3
 obtain ⟨rs,e1,h4⟩:=optK_spec (outW_spec _ _ h3)
 exact ⟨_,_,.fn hT hl h1 he e1,h4⟩
end
end Go.Ml
end
section
namespace Go.Ml
section
variable {σ : Store}
theorem OwL.len : ∀ {ts vs : List V} {os : List Nat},OwL σ vs ts os → vs.length = ts.length
 | [],vs,os,h=>by simp only [OwL] at h;simp [h.1]
 |
  t :: ts,vs,os,h=>by
  simp only [OwL] at h
  obtain ⟨v,vs',o1,o2,rfl,_,_,h2⟩:=h
  simp [OwL.len h2]
theorem OwL.focus : ∀ {ts vs : List V} {os : List Nat} (c : Nat) (t : V),OwL σ vs ts os → os.Nodup → ts[c]? = some t →
  ∃
   vc oc,vs[c]? = some vc ∧ OwV σ vc t oc ∧ oc.Nodup ∧ (∀ q ∈ oc,q ∈ os) ∧
   ∀ σ' vc' tc',OwV σ' vc' tc' oc → (∀ q ∈ os,q ∉ oc → objAt σ' q = objAt σ q) → OwL σ' (vs.set c vc') (ts.set c tc') os
 | [],vs,os,c,t,_,_,hc=>by simp at hc
 |
  x :: ts,vs,os,0,t,h,hn,hc=>by
  simp only [OwL] at h
  obtain ⟨v,vs',o1,o2,rfl,rfl,h1,h2⟩:=h
  simp at hc;subst hc
  rw [List.nodup_append] at hn
  refine ⟨v,o1,rfl,h1,hn.1,fun q hq=>by simp [hq],fun σ' vc' tc' hv hf=>?_⟩
  simp only [List.set_cons_zero,OwL]
  exact ⟨vc',vs',o1,o2,rfl,rfl,hv,h2.frame fun q hq=>hf q (by simp [hq]) fun h=>hn.2.2 q h q hq rfl⟩
 |
  x :: ts,vs,os,c + 1,t,h,hn,hc=>by
  simp only [OwL] at h
  obtain ⟨v,vs',o1,o2,rfl,rfl,h1,h2⟩:=h
  rw [List.nodup_append] at hn
  obtain ⟨vc,oc,k1,k2,k3,k4,k5⟩:=OwL.focus c t h2 hn.2.1 (by simpa using hc)
  refine ⟨vc,oc,by simpa using k1,k2,k3,fun q hq=>by simp [k4 q hq],fun σ' vc' tc' hv hf=>?_⟩
  simp only [List.set_cons_succ,OwL]
  exact ⟨v,_,o1,o2,rfl,rfl,h1.frame fun q hq=>hf q (by simp [hq]) fun h=>hn.2.2 q hq q (k4 q h) rfl,k5 σ' vc' tc' hv fun q hq hnq=>hf q (by simp [hq]) hnq⟩
theorem OwR.focus : ∀ {ts vs : List (List V)} {os : List Nat} (c : Nat) (t : List V),OwR σ vs ts os → os.Nodup → ts[c]? = some t →
  ∃
   vc oc,vs[c]? = some vc ∧ OwL σ vc t oc ∧ oc.Nodup ∧ (∀ q ∈ oc,q ∈ os) ∧
   ∀ σ' vc' tc',OwL σ' vc' tc' oc → (∀ q ∈ os,q ∉ oc → objAt σ' q = objAt σ q) → OwR σ' (vs.set c vc') (ts.set c tc') os
 | [],vs,os,c,t,_,_,hc=>by simp at hc
 |
  x :: ts,vs,os,0,t,h,hn,hc=>by
  simp only [OwR] at h
  obtain ⟨v,vs',o1,o2,rfl,rfl,h1,h2⟩:=h
  simp at hc;subst hc
  rw [List.nodup_append] at hn
  refine ⟨v,o1,rfl,h1,hn.1,fun q hq=>by simp [hq],fun σ' vc' tc' hv hf=>?_⟩
  simp only [List.set_cons_zero,OwR]
  exact ⟨vc',vs',o1,o2,rfl,rfl,hv,h2.frame fun q hq=>hf q (by simp [hq]) fun h=>hn.2.2 q h q hq rfl⟩
 |
  x :: ts,vs,os,c + 1,t,h,hn,hc=>by
  simp only [OwR] at h
  obtain ⟨v,vs',o1,o2,rfl,rfl,h1,h2⟩:=h
  rw [List.nodup_append] at hn
  obtain ⟨vc,oc,k1,k2,k3,k4,k5⟩:=OwR.focus c t h2 hn.2.1 (by simpa using hc)
  refine ⟨vc,oc,by simpa using k1,k2,k3,fun q hq=>by simp [k4 q hq],fun σ' vc' tc' hv hf=>?_⟩
  simp only [List.set_cons_succ,OwR]
  exact ⟨v,_,o1,o2,rfl,rfl,h1.frame fun q hq=>hf q (by simp [hq]) fun h=>hn.2.2 q hq q (k4 q h) rfl,k5 σ' vc' tc' hv fun q hq hnq=>hf q (by simp [hq]) hnq⟩
theorem OwV.focus {v : V} {sz : Nat} {rows : List (List V)} {os : List Nat} {i c : Nat} {row : List V} {t : V} (h : OwV σ v (.sl sz rows) os) (hn : os.Nodup) (hi : rows[i]? = some row) (hc : row[c]? = some t) :
  ∃
   o rows' row' vc oc,v = .msl o 0 rows.length ∧ objAt σ o = some ⟨sz,rows'⟩ ∧ rows'.length = rows.length ∧ rows'[i]? = some row' ∧ row'.length = row.length ∧ row'[c]? = some vc ∧ OwV σ vc t oc ∧ oc.Nodup ∧ (∀ q ∈ oc,q ∈ os) ∧ o ∈ os ∧ o ∉ oc ∧
   (∀ σ' tc',OwV σ' vc tc' oc → (∀ q ∈ os,q ∉ oc → objAt σ' q = objAt σ q) → OwV σ' v (.sl sz (rows.set i (row.set c tc'))) os) ∧
   (∀ x,oc = [] → (x.leaf = true) → (∃ k n,x = .int k n) ∨ (∃ b,x = .bool b) → OwV (σ.set o (some ⟨sz,rows'.set i (row'.set c x)⟩)) v (.sl sz (rows.set i (row.set c x))) os):=by
 simp only [OwV] at h
 rcases h with ⟨rfl,_,_⟩ | ⟨o,rows',os',rfl,h2,rfl,h3⟩
 ·simp at hi
 rw [List.nodup_cons] at hn
 obtain ⟨row',oi,k1,k2,k3,k4,k5⟩:=h3.focus i row hn.2 hi
 obtain ⟨vc,oc,j1,j2,j3,j4,j5⟩:=k2.focus c t k3 hc
 have hno : o ∉ oc:=fun h=>hn.1 (k4 o (j4 o h))
 have hset : rows'.set i (row'.set c vc) = rows':=by
  have : row'.set c vc = row':=by
   apply List.ext_getElem?
   intro n
   rw [List.getElem?_set]
   split
   ·subst_vars
    split
    ·exact j1.symm
    ·rename_i hlt
     rw [List.getElem?_eq_none (by omega)]
   ·rfl
  rw [this]
  apply List.ext_getElem?
  intro n
  rw [List.getElem?_set]
  split
  ·subst_vars
   split
   ·exact k1.symm
   ·rename_i hlt
    rw [List.getElem?_eq_none (by omega)]
  ·rfl
 refine ⟨o,rows',row',vc,oc,rfl,h2,h3.len,k1,k2.len,j1,j2,j3,fun q hq=>by simp [k4 q (j4 q hq)],by simp,hno,?_,?_⟩
 ·intro σ' tc' hv hf
  simp only [OwV]
  refine .inr ⟨o,rows',os',by simp,by rw [hf o (by simp) hno];exact h2,rfl,?_⟩
  have h6:=j5 σ' vc tc' hv fun q hq hnq=>hf q (by simp [k4 q hq]) hnq
  have h7:=k5 σ' _ _ h6 fun q hq hnq=>hf q (by simp [hq]) fun h=>hnq (j4 q h)
  rwa [hset] at h7
 ·intro x hoc hl hx
  have hlt:=objAt_lt h2
  have hf : ∀ q,q ≠ o → objAt (σ.set o (some ⟨sz,rows'.set i (row'.set c x)⟩)) q = objAt σ q:=fun q hq=>by
   rw [objAt_set hlt,if_neg (fun e=>hq e.symm)]
  simp only [OwV]
  refine .inr ⟨o,rows'.set i (row'.set c x),os',by simp,by rw [objAt_set hlt,if_pos rfl],rfl,?_⟩
  have hno' : ∀ q ∈ os',q ≠ o:=fun q hq e=>hn.1 (e ▸ hq)
  have hx' : OwV (σ.set o (some ⟨sz,rows'.set i (row'.set c x)⟩)) x x oc:=by
   rw [hoc]
   rcases hx with ⟨k,n,rfl⟩ | ⟨b,rfl⟩ <;> simp [OwV]
  have h6:=j5 (σ.set o (some ⟨sz,rows'.set i (row'.set c x)⟩)) x x hx' fun q hq _=>hf q (hno' q (k4 q hq))
  exact k5 _ _ _ h6 fun q hq _=>hf q (hno' q hq)
def Owns (σ : Store) (vs ts : List V) : Prop:=∃ os,OwL σ vs ts os ∧ os.Nodup
theorem owL_append : ∀ {ts vs ts' vs' : List V} {os os' : List Nat},OwL σ vs ts os → OwL σ vs' ts' os' → OwL σ (vs ++ vs') (ts ++ ts') (os ++ os')
 | [],vs,ts',vs',os,os',h,h'=>by simp only [OwL] at h;obtain ⟨rfl,rfl⟩:=h;simpa using h'
 |
  t :: ts,vs,ts',vs',os,os',h,h'=>by
  simp only [OwL] at h
  obtain ⟨v,vs1,o1,o2,rfl,rfl,h1,h2⟩:=h
  simp only [List.cons_append,OwL]
  exact ⟨v,vs1 ++ vs',o1,o2 ++ os',rfl,by simp,h1,owL_append h2 h'⟩
theorem Owns.push {σ2 : Store} {vs ts : List V} {r t : V} {os : List Nat} (h : Owns σ vs ts) (h1 : OwV σ2 r t os) (h2 : os.Nodup) (h3 : ∀ o ∈ os,σ.length ≤ o) (h4 : ∀ o,o < σ.length → objAt σ2 o = objAt σ o) :
  Owns σ2 (vs ++ [r]) (ts ++ [t]):=by
 obtain ⟨os0,k1,k2⟩:=h
 refine ⟨os0 ++ os,owL_append (k1.frame fun o ho=>h4 o (OwL.lt k1 o ho)) ?_,?_⟩
 ·simp only [OwL];exact ⟨r,[],os,[],rfl,by simp,h1,rfl,rfl⟩
 ·rw [List.nodup_append]
  refine ⟨k2,h2,fun a ha b hb e=>?_⟩
  have:=OwL.lt k1 a ha
  have:=h3 b hb
  omega
theorem Owns.frame {σ2 : Store} {vs ts : List V} (h : Owns σ vs ts) (h4 : ∀ o,o < σ.length → objAt σ2 o = objAt σ o) : Owns σ2 vs ts:=by
 obtain ⟨os0,k1,k2⟩:=h
 exact ⟨os0,k1.frame fun o ho=>h4 o (OwL.lt k1 o ho),k2⟩
theorem Owns.res {vs ts : List V} (h : Owns σ vs ts) {i : Nat} {v t : V} (hv : vs[i]? = some v) (ht : ts[i]? = some t) (hd : DepLe FD t) : resolve σ FD v = some t:=by
 obtain ⟨os,k1,k2⟩:=h
 obtain ⟨vc,oc,j1,j2,_⟩:=k1.focus i t k2 ht
 rw [hv] at j1
 cases j1
 exact ow_res FD j2 hd
def Mk (T : Nat → Option Fn) (f : Nat) (t : V) (k : Int) (t' : V) (k' : Int) : Prop :=
 ∀ σ v os,OwV σ v t os → os.Nodup → ∃ σ',Run T (.fn f [v,.int .i64 k] σ) (.fn (.int .i64 k') σ') ∧ OwV σ' v t' os ∧ (∀ o,o < σ.length → o ∉ os → objAt σ' o = objAt σ o) ∧ σ.length ≤ σ'.length
end
end Go.Ml
end
section
namespace Go.Ml
theorem EVw : (∀ (rs : List Res) (k : V → Store → Prop) (st : St),endW rs .normal k st = outW rs [] st k) ∧ (∀ (rs : List Res) (k : V → Store → Prop) (st : St),endW rs .ret k st = outW rs [] st k) ∧
  (∀ (acc : List V) (st : St) (k : V → Store → Prop),outW [] acc st k = mvK (packRes acc.reverse) fun v=>k v st.objs) ∧
  (∀ (t : Nat) (rs : List Res) (acc : List V) (st : St) (k : V → Store → Prop),outW (.tmp t :: rs) acc st k = mvK (st.env t) fun v=>outW rs (v :: acc) st k) ∧
  (∀ (t n : Nat) (rs : List Res) (acc : List V) (st : St) (k : V → Store → Prop),outW (.cell t n false :: rs) acc st k = optK (rowAt st.objs (st.env t)) fun p=>optK p.1[p.2]? fun v=>mvK v fun v=>outW rs (v :: acc) st k) ∧
  (∀ (t n : Nat) (rs : List Res) (acc : List V) (st : St) (k : V → Store → Prop),outW (.cell t n true :: rs) acc st k = optK (rowAt st.objs (st.env t)) fun p=>if p.2 + n ≤ p.1.length then mvK (.agg ((p.1.drop p.2).take n)) fun v=>outW rs (v :: acc) st k else False) :=
 ⟨endW_n,endW_r,outW_n,outW_t,outW_c1,outW_cn⟩
theorem objAt_snoc (σ : Store) (a : Option Obj) : objAt (σ ++ [a]) σ.length = a:=by simp [objAt]
theorem objAt_snoc_n (σ : Store) (o : Nat) : objAt (σ ++ [none]) o = objAt σ o:=by
 unfold objAt
 rcases Nat.lt_trichotomy o σ.length with h | h | h
 ·rw [List.getElem?_append_left h]
 ·subst h;simp
 ·rw [List.getElem?_eq_none (by simp;omega),List.getElem?_eq_none (by omega)]
theorem objAt_snoc_lt {σ : Store} {a : Option Obj} {o : Nat} (h : o < σ.length) : objAt (σ ++ [a]) o = objAt σ o:=by
 unfold objAt;rw [List.getElem?_append_left h]
theorem set_snoc (σ : Store) (a b : Option Obj) : (σ ++ [a]).set σ.length b = σ ++ [b]:=by
 rw [List.set_append_right _ _ (Nat.le_refl _)];simp
theorem set_snoc_lt {σ : Store} {a b : Option Obj} {o : Nat} (h : o < σ.length) : (σ ++ [a]).set o b = σ.set o b ++ [a]:=List.set_append_left _ _ h
theorem objAt_seteq {σ : Store} {o : Nat} {x : Option Obj} (h : o < σ.length) : objAt (σ.set o x) o = x:=by
 rw [objAt_set h,if_pos rfl]
theorem objAt_setne {σ : Store} {o p : Nat} {x : Option Obj} (h : o ≠ p) : objAt (σ.set p x) o = objAt σ o:=by
 unfold objAt
 rw [List.getElem?_set,if_neg (fun e=>h e.symm)]
theorem stoK_any (σ : Store) (k : Store → Prop) : stoK σ k = k σ:=nr rfl
theorem EVs : (∀ (σ : Store) (k : Store → Prop),stoK σ k = k σ) ∧ (∀ (σ : Store) (a : Option Obj),objAt (σ ++ [a]) σ.length = a) ∧ (∀ (σ : Store) (o : Nat),objAt (σ ++ [none]) o = objAt σ o) ∧
  (∀ {σ : Store} {a : Option Obj} {o : Nat},o < σ.length → objAt (σ ++ [a]) o = objAt σ o) ∧ (∀ (σ : Store) (a b : Option Obj),(σ ++ [a]).set σ.length b = σ ++ [b]) ∧
  (∀ {σ : Store} {a b : Option Obj} {o : Nat},o < σ.length → (σ ++ [a]).set o b = σ.set o b ++ [a]) ∧ (∀ {σ : Store} {o : Nat} {x : Option Obj},o < σ.length → objAt (σ.set o x) o = x) ∧
  (∀ {σ : Store} {o p : Nat} {x : Option Obj},o ≠ p → objAt (σ.set p x) o = objAt σ o) ∧ (∀ (σ : Store) (a : Option Obj),(σ ++ [a]).length = σ.length + 1) ∧ (∀ (σ : Store) (o : Nat) (x : Option Obj),(σ.set o x).length = σ.length) :=
 ⟨stoK_any,objAt_snoc,objAt_snoc_n,fun h=>objAt_snoc_lt h,set_snoc,fun h=>set_snoc_lt h,fun h=>objAt_seteq h,fun h=>objAt_setne h,fun σ a=>by simp,fun σ o x=>by simp⟩
structure Got (σ σ2 : Store) (r t : V) (os : List Nat) : Prop where
 ow : OwV σ2 r t os
 nd : os.Nodup
 fresh : ∀ o ∈ os,σ.length ≤ o
 old : ∀ o,o < σ.length → objAt σ2 o = objAt σ o
 len : σ.length ≤ σ2.length
theorem RefK_got {T : Nat → Option Fn} {f : Nat} {as : List Src} {dst : Option Nat} {env : Nat → V} {σ : Store} {kp bs : Nat} {rs ms : List Nat} {k : St → Prop} {as' : List V} {t : V} (h : PO T f as' t)
  (ha : resK env σ as (· = as')) (hk : ∀ r σ2 os,Got σ σ2 r t os → k ⟨updO env dst r,σ2,kp,bs,rs,ms⟩) : RefK T f as dst ⟨env,σ,kp,bs,rs,ms⟩ k :=
 RefK_own h ha fun r σ2 os h1 h2 h3 h4 h5=>hk r σ2 os ⟨h1,h2,h3,h4,h5⟩
theorem OwnK_got {T : Nat → Option Fn} {f : Nat} {as : List Src} {dst : Option Nat} {env : Nat → V} {σ : Store} {kp bs : Nat} {rs ms : List Nat} {k : List Nat → List Nat → Bool → St → Prop} {as' : List V} {t : V} (h : PO T f as' t)
  (ha : resK env σ as (· = as')) (hk : ∀ r σ2 os,Got σ σ2 r t os → k (reachAll env σ as) [] true ⟨updO env dst r,σ2,kp,bs,rs,ms⟩) : OwnK T f as dst ⟨env,σ,kp,bs,rs,ms⟩ k:=by
 obtain ⟨r,σ',os,h1,h2,h3,h4⟩:=h
 obtain ⟨vs,e,rfl⟩:=resK_spec ha
 refine .inl ⟨_,r,σ',e,h1,by simp [h2.noFrz,h4],?_⟩
 have key : ∀ o,objAt (addS σ σ') (σ.length + o) = (objAt σ' o).map (mapO (shiftN σ.length)):=by
  intro o
  rw [objAt_addS,if_neg (by omega)]
  congr 2;omega
 refine hk _ _ (os.map (σ.length + ·)) ⟨h2.shift key,?_,?_,?_,?_⟩
 ·exact List.pairwise_map.2 (h3.imp fun hne e=>hne (by omega))
 ·intro o ho
  obtain ⟨q,_,rfl⟩:=List.mem_map.1 ho
  omega
 ·intro o ho
  rw [objAt_addS,if_pos ho]
 ·simp [addS]
theorem Owns.got {σ σ2 : Store} {vs ts : List V} {r t : V} {os : List Nat} (h : Owns σ vs ts) (g : Got σ σ2 r t os) : Owns σ2 (vs ++ [r]) (ts ++ [t]):=h.push g.ow g.nd g.fresh g.old
theorem owL_int {σ : Store} {q : IntKind} {n : Int} {vs ts : List V} {os : List Nat} (h : OwL σ vs ts os) : OwL σ (.int q n :: vs) (.int q n :: ts) os:=by
 simp only [OwL];exact ⟨_,vs,[],os,rfl,rfl,by simp [OwV],h⟩
theorem owL_bool {σ : Store} {b : Bool} {vs ts : List V} {os : List Nat} (h : OwL σ vs ts os) : OwL σ (.bool b :: vs) (.bool b :: ts) os:=by
 simp only [OwL];exact ⟨_,vs,[],os,rfl,rfl,by simp [OwV],h⟩
theorem owL_v {σ : Store} {v t : V} {vs ts : List V} {o1 o2 : List Nat} (h1 : OwV σ v t o1) (h : OwL σ vs ts o2) : OwL σ (v :: vs) (t :: ts) (o1 ++ o2):=by
 simp only [OwL];exact ⟨v,vs,o1,o2,rfl,rfl,h1,h⟩
theorem owL_nil {σ : Store} : OwL σ [] [] []:=by simp [OwL]
theorem owV_agg {σ : Store} {cs ts : List V} {os : List Nat} (h : OwL σ cs ts os) : OwV σ (.agg cs) (.agg ts) os:=by simp only [OwV];exact ⟨cs,rfl,h⟩
theorem owV_tup {σ : Store} {cs ts : List V} {os : List Nat} (h : OwL σ cs ts os) : OwV σ (.tup cs) (.tup ts) os:=by simp only [OwV];exact ⟨cs,rfl,h⟩
theorem owV_ints {σ : Store} {o : Nat} {l : List Int} (h : objAt σ o = some ⟨1,irows l⟩) : OwV σ (.msl o 0 l.length) (ints l) [o]:=by
 simp only [OwV]
 refine .inr ⟨o,irows l,[],by rw [ir_len],h,rfl,?_⟩
 have : ∀ (l : List Int),OwR σ (irows l) (irows l) []:=by
  intro l
  induction l with
  | nil=>simp [irows,OwR]
  | cons x l ih=>simp only [irows_cons,OwR];exact ⟨_,_,[],[],rfl,rfl,owL_int owL_nil,ih⟩
 exact this _
theorem owV_ints0 {σ : Store} : OwV σ (.sl 1 []) (ints []) []:=by simp [OwV,irows]
theorem OwV.ints_inv {σ : Store} {v : V} {l : List Int} {os : List Nat} (h : OwV σ v (ints l) os) : (l = [] ∧ v = .sl 1 [] ∧ os = []) ∨ ∃ o,v = .msl o 0 l.length ∧ objAt σ o = some ⟨1,irows l⟩ ∧ os = [o]:=by
 simp only [OwV] at h
 rcases h with ⟨h1,h2,h3⟩ | ⟨o,rows',os',h1,h2,h3,h4⟩
 ·left;exact ⟨by simpa [irows] using h1,h2,h3⟩
 ·right
  have key : ∀ (l : List Int) (rows' : List (List V)) (os' : List Nat),OwR σ rows' (irows l) os' → rows' = irows l ∧ os' = []:=by
   intro l
   induction l with
   | nil=>intro rows' os' h;simp only [irows_nil,OwR] at h;exact h
   |
    cons x l ih =>
    intro rows' os' h
    simp only [irows_cons,OwR] at h
    obtain ⟨v,vs',o1,o2,rfl,rfl,h1,h2⟩:=h
    obtain ⟨rfl,rfl⟩:=ih _ _ h2
    simp only [OwL,OwV] at h1
    obtain ⟨v1,vs1,a1,a2,rfl,rfl,⟨rfl,rfl⟩,rfl,rfl⟩:=h1
    exact ⟨rfl,rfl⟩
  obtain ⟨rfl,rfl⟩:=key l rows' os' h4
  exact ⟨o,by rw [h1,ir_len],h2,h3⟩
structure Fr (os : List Nat) (σ σ' : Store) : Prop where
 old : ∀ o,o < σ.length → o ∉ os → objAt σ' o = objAt σ o
 len : σ.length ≤ σ'.length
theorem Fr.refl (os : List Nat) (σ : Store) : Fr os σ σ:=⟨fun _ _ _=>rfl,Nat.le_refl _⟩
theorem Fr.trans {os : List Nat} {a b c : Store} (h : Fr os a b) (k : Fr os b c) : Fr os a c:=⟨fun o hl ho=>(k.old o (Nat.lt_of_lt_of_le hl h.len) ho).trans (h.old o hl ho),Nat.le_trans h.len k.len⟩
theorem Fr.mono {os os' : List Nat} {a b : Store} (h : Fr os a b) (hs : ∀ o ∈ os,o ∈ os') : Fr os' a b:=⟨fun o hl ho=>h.old o hl fun k=>ho (hs o k),h.len⟩
theorem fr_set {os : List Nat} {σ : Store} {o : Nat} {x : Option Obj} (h : o ∈ os) : Fr os σ (σ.set o x):=⟨fun p _ hp=>objAt_setne fun e=>hp (e ▸ h),by simp⟩
theorem mk_iff {T : Nat → Option Fn} {f : Nat} {t t' : V} {k k' : Int} (h : ∀ σ v os,OwV σ v t os → os.Nodup → ∃ σ',Run T (.fn f [v,.int .i64 k] σ) (.fn (.int .i64 k') σ') ∧ OwV σ' v t' os ∧ Fr os σ σ') : Mk T f t k t' k':=by
 intro σ v os h1 h2
 obtain ⟨σ',a,b,c⟩:=h σ v os h1 h2
 exact ⟨σ',a,b,c.old,c.len⟩
def Fin (σ : Store) (r t : V) : Prop:=∃ r' os,LaxV r' r ∧ OwV σ r' t os ∧ os.Nodup
theorem fin_of {σ : Store} {r t : V} {os : List Nat} (h : OwV σ r t os) (hn : os.Nodup) : Fin σ r t:=⟨r,os,laxV_refl _,h,hn⟩
theorem fin_nil {σ : Store} {sz : Nat} : Fin σ .nils (.sl sz []):=⟨.sl sz [],[],by simp [LaxV],by simp [OwV],.nil⟩
theorem fin_ints {σ : Store} {o : Nat} {l : List Int} (h : objAt σ o = some ⟨1,irows l⟩) : Fin σ (.msl o 0 l.length) (ints l):=fin_of (owV_ints h) (by simp)
theorem fin_ints0 {σ : Store} {l : List Int} (h : irows l = []) : Fin σ .nils (ints l):=by
 have : l = []:=irows_nil'.1 h
 subst this;exact fin_nil
theorem po_end2 {T : Nat → Option Fn} {f : Nat} {F : Fn} {args : List V} {t : V} (rf : Nat → Nat → Bool) (hT : T f = some F) (hl : args.length = F.nargs) (hk : F.body.okC = true)
  (h : wp T rf F.body (fun e st=>endW F.res e (fun r σ=>Fin σ r t) st) (St.enter args [])) : PO T f args t:=by
 obtain ⟨r,σ',h1,r',os,h2,h3,h4⟩:=run_end rf hT hl hk h
 exact .of (.laxF (laxL_refl _) h1 h2) h3 h4
theorem cells_lf {v : V} (h : v.leaf = true) (k : List V → Prop) : cellsK v k = k [v]:=by
 cases v <;> first | rfl | (simp [V.leaf] at h)
theorem Got.lf {σ σ2 : Store} {r t : V} {os : List Nat} (g : Got σ σ2 r t os) (h : t.leaf = true) (k : List V → Prop) : cellsK r k = k [r]:=cells_lf (g.ow.leaf h) k
theorem Got.at {σ σ2 : Store} {r t : V} {os : List Nat} (g : Got σ σ2 r t os) (o : Nat) {x : Option Obj} (h : o < σ.length) (hx : objAt σ o = x) : objAt σ2 o = x:=(g.old o h).trans hx
theorem EVl : V.leaf .one = true ∧ (∀ k n,V.leaf (.int k n) = true) ∧ (∀ b,V.leaf (.bool b) = true) ∧ (∀ b,V.leaf (.str b) = true) ∧ V.leaf .nils = true ∧ (∀ a b,V.leaf (.sl a b) = true) ∧ (∀ a b c,V.leaf (.msl a b c) = true) ∧
  (∀ a b c,V.leaf (.ptr a b c) = true) ∧ (∀ a b,V.leaf (.fptr a b) = true) ∧ (∀ a,V.leaf (.agg a) = false) ∧ (∀ a,V.leaf (.tup a) = false) ∧ V.leaf .any = false :=
 ⟨rfl,fun _ _=>rfl,fun _=>rfl,fun _=>rfl,rfl,fun _ _=>rfl,fun _ _ _=>rfl,fun _ _ _=>rfl,fun _ _=>rfl,fun _=>rfl,fun _=>rfl,rfl⟩
theorem Got.lfb {σ σ2 : Store} {r t : V} {os : List Nat} (g : Got σ σ2 r t os) (h : t.leaf = true) : r.leaf = true:=g.ow.leaf h
theorem OwV.agg_inv {σ : Store} {r : V} {ts : List V} {os : List Nat} (h : OwV σ r (.agg ts) os) : ∃ cs,r = .agg cs ∧ OwL σ cs ts os:=by simpa only [OwV] using h
theorem OwV.tup_inv {σ : Store} {r : V} {ts : List V} {os : List Nat} (h : OwV σ r (.tup ts) os) : ∃ cs,r = .tup cs ∧ OwL σ cs ts os:=by simpa only [OwV] using h
theorem OwL.int_inv {σ : Store} {vs ts : List V} {q : IntKind} {n : Int} {os : List Nat} (h : OwL σ vs (.int q n :: ts) os) : ∃ vs',vs = .int q n :: vs' ∧ OwL σ vs' ts os:=by
 simp only [OwL,OwV] at h
 obtain ⟨v,vs',o1,o2,rfl,rfl,⟨rfl,rfl⟩,h⟩:=h
 exact ⟨vs',rfl,h⟩
theorem OwL.bool_inv {σ : Store} {vs ts : List V} {b : Bool} {os : List Nat} (h : OwL σ vs (.bool b :: ts) os) : ∃ vs',vs = .bool b :: vs' ∧ OwL σ vs' ts os:=by
 simp only [OwL,OwV] at h
 obtain ⟨v,vs',o1,o2,rfl,rfl,⟨rfl,rfl⟩,h⟩:=h
 exact ⟨vs',rfl,h⟩
theorem OwL.inv {σ : Store} {vs ts : List V} {t : V} {os : List Nat} (h : OwL σ vs (t :: ts) os) : ∃ v vs' o1 o2,vs = v :: vs' ∧ os = o1 ++ o2 ∧ OwV σ v t o1 ∧ OwL σ vs' ts o2:=by
 simpa only [OwL] using h
theorem OwL.nil_inv {σ : Store} {vs : List V} {os : List Nat} (h : OwL σ vs [] os) : vs = [] ∧ os = []:=by simpa only [OwL] using h
theorem OwL.leaf : ∀ {σ : Store} {ts vs : List V} {os : List Nat},OwL σ vs ts os → ts.all V.leaf = true → vs.all V.leaf = true
 | _,[],vs,os,h,_=>by obtain ⟨rfl,_⟩:=h.nil_inv;rfl
 |
  σ,t :: ts,vs,os,h,hl=>by
  obtain ⟨v,vs',o1,o2,rfl,rfl,h1,h2⟩:=h.inv
  simp only [List.all_cons,Bool.and_eq_true] at hl ⊢
  exact ⟨h1.leaf hl.1,h2.leaf hl.2⟩
theorem cells_agg {cs : List V} (h : cs.all V.leaf = true) (k : List V → Prop) : cellsK (.agg cs) k = k cs:=by
 unfold cellsK
 simp only [V.cells?]
 rw [if_pos h];rfl
theorem OwV.bi_inv {σ : Store} {v : V} {n : Bool} {l : List Int} {os : List Nat} (h : OwV σ v (.agg [.bool n,ints l]) os) : ∃ v1,v = .agg [.bool n,v1] ∧ OwV σ v1 (ints l) os:=by
 obtain ⟨cs,rfl,a⟩:=h.agg_inv
 obtain ⟨cs,rfl,b⟩:=a.bool_inv
 obtain ⟨v1,cs,o1,o2,rfl,rfl,c,d⟩:=b.inv
 obtain ⟨rfl,rfl⟩:=d.nil_inv
 exact ⟨v1,rfl,by simpa using c⟩
theorem OwV.rat_inv {σ : Store} {v : V} {n : Bool} {l m : List Int} {os : List Nat} (h : OwV σ v (.agg [.bool n,ints l,ints m]) os) :
  ∃ v1 v2 o1 o2,v = .agg [.bool n,v1,v2] ∧ os = o1 ++ o2 ∧ OwV σ v1 (ints l) o1 ∧ OwV σ v2 (ints m) o2:=by
 obtain ⟨cs,rfl,a⟩:=h.agg_inv
 obtain ⟨cs,rfl,b⟩:=a.bool_inv
 obtain ⟨v1,cs,o1,o2,rfl,rfl,c,d⟩:=b.inv
 obtain ⟨v2,cs,o3,o4,rfl,rfl,e,f⟩:=d.inv
 obtain ⟨rfl,rfl⟩:=f.nil_inv
 exact ⟨v1,v2,o1,o3,rfl,by simp,c,e⟩
structure Ow (n : Nat) (σ : Store) (vs ts : List V) : Prop where
 ex : ∃ os,OwL σ vs ts os ∧ os.Nodup ∧ ∀ o ∈ os,n ≤ o
theorem ow_nil {n : Nat} {σ : Store} : Ow n σ [] []:=⟨[],owL_nil,.nil,by simp⟩
theorem Ow.set {n : Nat} {σ : Store} {vs ts : List V} (h : Ow n σ vs ts) {o : Nat} {x : Option Obj} (ho : o < n) : Ow n (σ.set o x) vs ts:=by
 obtain ⟨os,a,b,c⟩:=h.ex
 exact ⟨os,a.frame fun q hq=>objAt_setne (by have:=c q hq;omega),b,c⟩
theorem Ow.snoc {n : Nat} {σ : Store} {vs ts : List V} (h : Ow n σ vs ts) {x : Option Obj} : Ow n (σ ++ [x]) vs ts:=by
 obtain ⟨os,a,b,c⟩:=h.ex
 exact ⟨os,a.frame fun q hq=>objAt_snoc_lt (a.lt q hq),b,c⟩
theorem Ow.got {n : Nat} {σ σ2 : Store} {vs ts : List V} {r t : V} {os : List Nat} (h : Ow n σ vs ts) (g : Got σ σ2 r t os) (hn : n ≤ σ.length) : Ow n σ2 (vs ++ [r]) (ts ++ [t]):=by
 obtain ⟨os0,a,b,c⟩:=h.ex
 refine ⟨os0 ++ os,owL_append (a.frame fun o ho=>g.old o (a.lt o ho)) ?_,?_,fun o ho=>?_⟩
 ·simpa using owL_v g.ow owL_nil
 ·rw [List.nodup_append]
  refine ⟨b,g.nd,fun x hx y hy e=>?_⟩
  have:=a.lt x hx
  have:=g.fresh y hy
  omega
 ·rcases List.mem_append.1 ho with ho | ho
  ·exact c o ho
  ·have:=g.fresh o ho;omega
theorem Ow.int {n : Nat} {σ : Store} {vs ts : List V} (h : Ow n σ vs ts) (q : IntKind) (k : Int) : Ow n σ (vs ++ [.int q k]) (ts ++ [.int q k]):=by
 obtain ⟨os0,a,b,c⟩:=h.ex
 exact ⟨os0,by simpa using owL_append a (owL_int (q:=q) (n:=k) owL_nil),b,c⟩
theorem Ow.bool {n : Nat} {σ : Store} {vs ts : List V} (h : Ow n σ vs ts) (k : Bool) : Ow n σ (vs ++ [.bool k]) (ts ++ [.bool k]):=by
 obtain ⟨os0,a,b,c⟩:=h.ex
 exact ⟨os0,by simpa using owL_append a (owL_bool (b:=k) owL_nil),b,c⟩
theorem owL_split : ∀ {σ : Store} {ts ts' vs : List V} {os : List Nat},OwL σ vs (ts ++ ts') os → ∃ v1 v2 o1 o2,vs = v1 ++ v2 ∧ os = o1 ++ o2 ∧ OwL σ v1 ts o1 ∧ OwL σ v2 ts' o2
 | σ,[],ts',vs,os,h=>⟨[],vs,[],os,rfl,rfl,owL_nil,h⟩
 |
  σ,t :: ts,ts',vs,os,h=>by
  obtain ⟨v,vs',o1,o2,rfl,rfl,h1,h2⟩:=OwL.inv h
  obtain ⟨a,b,c,d,rfl,rfl,h3,h4⟩:=owL_split h2
  exact ⟨v :: a,b,o1 ++ c,d,rfl,by simp,owL_v h1 h3,h4⟩
theorem Ow.flat {n : Nat} {σ : Store} {vs ts cs tcs : List V} (h : Ow n σ (vs ++ [.agg cs]) (ts ++ [.agg tcs])) (hl : vs.length = ts.length) : Ow n σ (vs ++ cs) (ts ++ tcs):=by
 obtain ⟨os0,a,b,c⟩:=h.ex
 obtain ⟨v1,v2,o1,o2,e,rfl,h1,h2⟩:=owL_split a
 have hl1:=h1.len
 obtain ⟨rfl,rfl⟩:=List.append_inj e (by omega)
 obtain ⟨v,vs',o3,o4,e2,rfl,h3,h4⟩:=h2.inv
 simp only [List.cons.injEq] at e2
 obtain ⟨rfl,rfl⟩:=e2
 obtain ⟨_,rfl⟩:=h4.nil_inv
 obtain ⟨cs',e3,h5⟩:=h3.agg_inv
 cases e3
 exact ⟨o1 ++ o3,owL_append h1 h5,by simpa using b,fun o ho=>c o (by simpa using ho)⟩
theorem Ow.fin {n : Nat} {σ : Store} {vs ts : List V} (h : Ow n σ vs ts) : Fin σ (.agg vs) (.agg ts):=by
 obtain ⟨os0,a,b,c⟩:=h.ex
 exact fin_of (owV_agg a) b
theorem owR_append : ∀ {σ : Store} {ts vs ts' vs' : List (List V)} {os os' : List Nat},OwR σ vs ts os → OwR σ vs' ts' os' → OwR σ (vs ++ vs') (ts ++ ts') (os ++ os')
 | σ,[],vs,ts',vs',os,os',h,h'=>by simp only [OwR] at h;obtain ⟨rfl,rfl⟩:=h;simpa using h'
 |
  σ,t :: ts,vs,ts',vs',os,os',h,h'=>by
  simp only [OwR] at h
  obtain ⟨v,vs1,o1,o2,rfl,rfl,h1,h2⟩:=h
  simp only [List.cons_append,OwR]
  exact ⟨v,vs1 ++ vs',o1,o2 ++ os',rfl,by simp,h1,owR_append h2 h'⟩
theorem owR_1 {σ : Store} {v t : List V} {os : List Nat} (h : OwL σ v t os) : OwR σ [v] [t] os:=by
 simp only [OwR];exact ⟨v,[],os,[],rfl,by simp,h,rfl,rfl⟩
structure OwRs (n : Nat) (σ : Store) (vs ts : List (List V)) : Prop where
 ex : ∃ os,OwR σ vs ts os ∧ os.Nodup ∧ ∀ o ∈ os,n ≤ o
theorem owRs_nil {n : Nat} {σ : Store} : OwRs n σ [] []:=⟨[],by simp [OwR],.nil,by simp⟩
theorem OwRs.set {n : Nat} {σ : Store} {vs ts : List (List V)} (h : OwRs n σ vs ts) {o : Nat} {x : Option Obj} (ho : o < n) : OwRs n (σ.set o x) vs ts:=by
 obtain ⟨os,a,b,c⟩:=h.ex
 exact ⟨os,a.frame fun q hq=>objAt_setne (by have:=c q hq;omega),b,c⟩
theorem OwRs.got {n : Nat} {σ σ2 : Store} {vs ts : List (List V)} {cs tcs : List V} {os : List Nat} (h : OwRs n σ vs ts) (g : Got σ σ2 (.agg cs) (.agg tcs) os) (hn : n ≤ σ.length) : OwRs n σ2 (vs ++ [cs]) (ts ++ [tcs]):=by
 obtain ⟨os0,a,b,c⟩:=h.ex
 obtain ⟨cs',e,h5⟩:=g.ow.agg_inv
 cases e
 refine ⟨os0 ++ os,owR_append (a.frame fun o ho=>g.old o (a.lt o ho)) (owR_1 h5),?_,fun o ho=>?_⟩
 ·rw [List.nodup_append]
  refine ⟨b,g.nd,fun x hx y hy e=>?_⟩
  have:=a.lt x hx
  have:=g.fresh y hy
  omega
 ·rcases List.mem_append.1 ho with ho | ho
  ·exact c o ho
  ·have:=g.fresh o ho;omega
theorem OwRs.fin {n o sz : Nat} {σ : Store} {vs ts : List (List V)} (h : OwRs n σ vs ts) (ho : objAt σ o = some ⟨sz,vs⟩) (hn : o < n) : Fin σ (.msl o 0 ts.length) (.sl sz ts):=by
 obtain ⟨os0,a,b,c⟩:=h.ex
 refine fin_of (os:=o :: os0) ?_ (List.nodup_cons.2 ⟨fun k=>by have:=c o k;omega,b⟩)
 simp only [OwV]
 exact .inr ⟨o,vs,os0,rfl,ho,rfl,a⟩
theorem ew {P Q : Prop} (h : Q) (e : P = Q:=by conv=>lhs;simp (maxSteps:=1000000) (disch:=first | omega | assumption | (simp;done) | (simp;omega)) only [↓EVp,↓EVw,EVs,EVl,EVq,splice,Nat.reduceAdd,Nat.reduceEqDiff,Nat.reduceMul,Nat.reduceLT,Nat.reduceLeDiff,Nat.reduceBEq,reduceIte,noWr,noRf,dN_s,Bool.true_and,Bool.false_and,Bool.or_false,Bool.false_or,Bool.true_or,reduceCtorEq]) : P:=Eq.mpr (e) h
theorem ew1 {P Q A1 : Prop} (x1 : A1) (h : Q) (e : A1 → P = Q:=by intro x1;conv=>lhs;simp (maxSteps:=1000000) (disch:=first | omega | assumption | (simp;done) | (simp;omega)) only [↓EVp,↓EVw,EVs,EVl,EVq,splice,Nat.reduceAdd,Nat.reduceEqDiff,Nat.reduceMul,Nat.reduceLT,Nat.reduceLeDiff,Nat.reduceBEq,reduceIte,noWr,noRf,dN_s,Bool.true_and,Bool.false_and,Bool.or_false,Bool.false_or,Bool.true_or,reduceCtorEq,x1]) : P:=Eq.mpr (e x1) h
theorem ew2 {P Q A1 A2 : Prop} (x1 : A1) (x2 : A2) (h : Q) (e : A1 → A2 → P = Q:=by intro x1 x2;conv=>lhs;simp (maxSteps:=1000000) (disch:=first | omega | assumption | (simp;done) | (simp;omega)) only [↓EVp,↓EVw,EVs,EVl,EVq,splice,Nat.reduceAdd,Nat.reduceEqDiff,Nat.reduceMul,Nat.reduceLT,Nat.reduceLeDiff,Nat.reduceBEq,reduceIte,noWr,noRf,dN_s,Bool.true_and,Bool.false_and,Bool.or_false,Bool.false_or,Bool.true_or,reduceCtorEq,x1,x2]) : P:=Eq.mpr (e x1 x2) h
theorem ew3 {P Q A1 A2 A3 : Prop} (x1 : A1) (x2 : A2) (x3 : A3) (h : Q) (e : A1 → A2 → A3 → P = Q:=by intro x1 x2 x3;conv=>lhs;simp (maxSteps:=1000000) (disch:=first | omega | assumption | (simp;done) | (simp;omega)) only [↓EVp,↓EVw,EVs,EVl,EVq,splice,Nat.reduceAdd,Nat.reduceEqDiff,Nat.reduceMul,Nat.reduceLT,Nat.reduceLeDiff,Nat.reduceBEq,reduceIte,noWr,noRf,dN_s,Bool.true_and,Bool.false_and,Bool.or_false,Bool.false_or,Bool.true_or,reduceCtorEq,x1,x2,x3]) : P:=Eq.mpr (e x1 x2 x3) h
theorem ew4 {P Q A1 A2 A3 A4 : Prop} (x1 : A1) (x2 : A2) (x3 : A3) (x4 : A4) (h : Q) (e : A1 → A2 → A3 → A4 → P = Q:=by intro x1 x2 x3 x4;conv=>lhs;simp (maxSteps:=1000000) (disch:=first | omega | assumption | (simp;done) | (simp;omega)) only [↓EVp,↓EVw,EVs,EVl,EVq,splice,Nat.reduceAdd,Nat.reduceEqDiff,Nat.reduceMul,Nat.reduceLT,Nat.reduceLeDiff,Nat.reduceBEq,reduceIte,noWr,noRf,dN_s,Bool.true_and,Bool.false_and,Bool.or_false,Bool.false_or,Bool.true_or,reduceCtorEq,x1,x2,x3,x4]) : P:=Eq.mpr (e x1 x2 x3 x4) h
theorem ew5 {P Q A1 A2 A3 A4 A5 : Prop} (x1 : A1) (x2 : A2) (x3 : A3) (x4 : A4) (x5 : A5) (h : Q) (e : A1 → A2 → A3 → A4 → A5 → P = Q:=by intro x1 x2 x3 x4 x5;conv=>lhs;simp (maxSteps:=1000000) (disch:=first | omega | assumption | (simp;done) | (simp;omega)) only [↓EVp,↓EVw,EVs,EVl,EVq,splice,Nat.reduceAdd,Nat.reduceEqDiff,Nat.reduceMul,Nat.reduceLT,Nat.reduceLeDiff,Nat.reduceBEq,reduceIte,noWr,noRf,dN_s,Bool.true_and,Bool.false_and,Bool.or_false,Bool.false_or,Bool.true_or,reduceCtorEq,x1,x2,x3,x4,x5]) : P:=Eq.mpr (e x1 x2 x3 x4 x5) h
theorem ew6 {P Q A1 A2 A3 A4 A5 A6 : Prop} (x1 : A1) (x2 : A2) (x3 : A3) (x4 : A4) (x5 : A5) (x6 : A6) (h : Q) (e : A1 → A2 → A3 → A4 → A5 → A6 → P = Q:=by intro x1 x2 x3 x4 x5 x6;conv=>lhs;simp (maxSteps:=1000000) (disch:=first | omega | assumption | (simp;done) | (simp;omega)) only [↓EVp,↓EVw,EVs,EVl,EVq,splice,Nat.reduceAdd,Nat.reduceEqDiff,Nat.reduceMul,Nat.reduceLT,Nat.reduceLeDiff,Nat.reduceBEq,reduceIte,noWr,noRf,dN_s,Bool.true_and,Bool.false_and,Bool.or_false,Bool.false_or,Bool.true_or,reduceCtorEq,x1,x2,x3,x4,x5,x6]) : P:=Eq.mpr (e x1 x2 x3 x4 x5 x6) h
theorem ew7 {P Q A1 A2 A3 A4 A5 A6 A7 : Prop} (x1 : A1) (x2 : A2) (x3 : A3) (x4 : A4) (x5 : A5) (x6 : A6) (x7 : A7) (h : Q) (e : A1 → A2 → A3 → A4 → A5 → A6 → A7 → P = Q:=by intro x1 x2 x3 x4 x5 x6 x7;conv=>lhs;simp (maxSteps:=1000000) (disch:=first | omega | assumption | (simp;done) | (simp;omega)) only [↓EVp,↓EVw,EVs,EVl,EVq,splice,Nat.reduceAdd,Nat.reduceEqDiff,Nat.reduceMul,Nat.reduceLT,Nat.reduceLeDiff,Nat.reduceBEq,reduceIte,noWr,noRf,dN_s,Bool.true_and,Bool.false_and,Bool.or_false,Bool.false_or,Bool.true_or,reduceCtorEq,x1,x2,x3,x4,x5,x6,x7]) : P:=Eq.mpr (e x1 x2 x3 x4 x5 x6 x7) h
theorem ew8 {P Q A1 A2 A3 A4 A5 A6 A7 A8 : Prop} (x1 : A1) (x2 : A2) (x3 : A3) (x4 : A4) (x5 : A5) (x6 : A6) (x7 : A7) (x8 : A8) (h : Q) (e : A1 → A2 → A3 → A4 → A5 → A6 → A7 → A8 → P = Q:=by intro x1 x2 x3 x4 x5 x6 x7 x8;conv=>lhs;simp (maxSteps:=1000000) (disch:=first | omega | assumption | (simp;done) | (simp;omega)) only [↓EVp,↓EVw,EVs,EVl,EVq,splice,Nat.reduceAdd,Nat.reduceEqDiff,Nat.reduceMul,Nat.reduceLT,Nat.reduceLeDiff,Nat.reduceBEq,reduceIte,noWr,noRf,dN_s,Bool.true_and,Bool.false_and,Bool.or_false,Bool.false_or,Bool.true_or,reduceCtorEq,x1,x2,x3,x4,x5,x6,x7,x8]) : P:=Eq.mpr (e x1 x2 x3 x4 x5 x6 x7 x8) h
end Go.Ml
end
namespace Go.Ml
theorem fgW {l : List V} {env : Nat → V} (h : EnvLe l 0 env:=by (try (refine ew ?_;try with_reducible exact True.intro)) <;> (repeat' (first | refine ⟨?_,?_⟩ | exact EvV_int (by omega) | exact EvV_of (by simp) | exact EvV_nil _))) : EnvLe l 0 env:=h
end Go.Ml
namespace Go.Ml
theorem obE {a b : Option Obj} (h : a = b:=by simp (disch:=first | omega | (simp only [List.length_append,List.length_set,List.length_cons,List.length_nil];omega)) only [EVs]) : a = b:=h
end Go.Ml
section
namespace Go.Ml
theorem Mk.go {T : Nat → Option Fn} {f : Nat} {t t' : V} {k k' : Int} (h : Mk T f t k t' k') {σ : Store} {v : V} {os : List Nat} (ho : OwV σ v t os) (hn : os.Nodup) :
  ∃ σ',Run T (.fn f [v,.int .i64 k] σ) (.fn (.int .i64 k') σ') ∧ OwV σ' v t' os ∧ Fr os σ σ':=by
 obtain ⟨σ',a,b,c,d⟩:=h σ v os ho hn
 exact ⟨σ',a,b,⟨c,d⟩⟩
def V.sca : V → Bool
 | .int _ _=>true
 | .bool _=>true
 | _=>false
theorem owV_sca {σ : Store} {x : V} (h : x.sca = true) : OwV σ x x []:=by cases x <;> simp_all [V.sca,OwV]
theorem OwV.sca_inv {σ : Store} {v x : V} {os : List Nat} (h : OwV σ v x os) (hx : x.sca = true) : v = x ∧ os = []:=by
 cases x <;> simp_all [V.sca,OwV]
structure Cs (σ : Store) (cs ts : List V) (os : List Nat) : Prop where
 ow : OwL σ cs ts os
 nd : os.Nodup
theorem set_at {α : Type} {l : List α} {i : Nat} {x : α} (h : l[i]? = some x) : l.set i x = l:=by
 apply List.ext_getElem?
 intro n
 rw [List.getElem?_set]
 split
 ·subst_vars
  split
  ·exact h.symm
  ·rename_i hlt;rw [List.getElem?_eq_none (by omega)]
 ·rfl
section
variable {σ σ' : Store} {cs ts : List V} {os : List Nat}
theorem Cs.lt (h : Cs σ cs ts os) : ∀ q ∈ os,q < σ.length:=h.ow.lt
theorem Cs.frame (h : Cs σ cs ts os) (f : ∀ q ∈ os,objAt σ' q = objAt σ q) : Cs σ' cs ts os:=⟨h.ow.frame f,h.nd⟩
theorem Cs.fr {os' : List Nat} (h : Cs σ cs ts os) (f : Fr os' σ σ') (hd : ∀ q ∈ os,q ∉ os') : Cs σ' cs ts os:=h.frame fun q hq=>f.old q (h.lt q hq) (hd q hq)
theorem Cs.snoc (h : Cs σ cs ts os) {x : Option Obj} : Cs (σ ++ [x]) cs ts os:=h.frame fun q hq=>objAt_snoc_lt (h.lt q hq)
theorem Cs.set (h : Cs σ cs ts os) {o : Nat} {x : Option Obj} (ho : o ∉ os) : Cs (σ.set o x) cs ts os:=h.frame fun q hq=>objAt_setne fun e=>ho (e ▸ hq)
theorem Cs.sca (h : Cs σ cs ts os) (c : Nat) (x : V) {t : V} (ht : ts[c]? = some t) (hs : t.sca = true:=by rfl) (hx : x.sca = true:=by rfl) : Cs σ (cs.set c x) (ts.set c x) os:=by
 obtain ⟨vc,oc,j1,j2,j3,j4,j5⟩:=h.ow.focus c t h.nd ht
 obtain ⟨rfl,rfl⟩:=j2.sca_inv hs
 exact ⟨j5 σ x x (owV_sca hx) fun _ _ _=>rfl,h.nd⟩
theorem Cs.call {T : Nat → Option Fn} {f : Nat} {t t' v : V} {k k' : Int} (h : Cs σ cs ts os) (c : Nat) (hm : Mk T f t k t' k') (hv : cs[c]? = some v) (ht : ts[c]? = some t) :
  ∃ σ',Run T (.fn f [v,.int .i64 k] σ) (.fn (.int .i64 k') σ') ∧ Cs σ' cs (ts.set c t') os ∧ Fr os σ σ':=by
 obtain ⟨vc,oc,j1,j2,j3,j4,j5⟩:=h.ow.focus c t h.nd ht
 rw [hv] at j1
 cases j1
 obtain ⟨σ',m1,m2,m3⟩:=hm.go j2 j3
 refine ⟨σ',m1,⟨?_,h.nd⟩,m3.mono j4⟩
 have:=j5 σ' v t' m2 fun q hq' hq=>m3.old q (h.lt q hq') hq
 rwa [set_at hv] at this
theorem Cs.part {T : Nat → Option Fn} {f : Nat} {t2 t2' : List V} {k k' : Int} (h : Cs σ cs ts os) (n m : Nat) (hm : Mk T f (.agg t2) k (.agg t2') k') (ht : (ts.drop n).take m = t2) (hn : n + m ≤ ts.length) :
  ∃ σ',Run T (.fn f [.agg ((cs.drop n).take m),.int .i64 k] σ) (.fn (.int .i64 k') σ') ∧ Cs σ' cs (ts.take n ++ t2' ++ ts.drop (n + m)) os ∧ Fr os σ σ':=by
 have e : ts = ts.take n ++ (t2 ++ ts.drop (n + m)):=by
  rw [← ht]
  conv=>lhs;rw [← List.take_append_drop n ts,← List.take_append_drop m (ts.drop n),List.drop_drop]
 have lt2 : t2.length = m:=by rw [← ht];simp;omega
 have h1:=h.ow
 rw [e] at h1
 obtain ⟨c1,c2,o1,o2,rfl,rfl,a1,a2⟩:=owL_split h1
 have l1:=a1.len
 obtain ⟨c3,c4,o3,o4,rfl,rfl,a3,a4⟩:=owL_split a2
 have l2:=a3.len
 have nd:=h.nd
 have l1' : c1.length = n:=by rw [l1];simp;omega
 have e2 : ((c1 ++ (c3 ++ c4)).drop n).take m = c3:=by
  rw [← l1',List.drop_left,← lt2,← l2,List.take_left]
 rw [e2]
 simp only [List.nodup_append,List.mem_append] at nd
 obtain ⟨nd1,⟨nd3,nd4,d34⟩,d1⟩:=nd
 obtain ⟨σ',m1,m2,m3⟩:=hm.go (owV_agg a3) nd3
 obtain ⟨cs',e3,m4⟩:=m2.agg_inv
 cases e3
 have lt:=h.lt
 refine ⟨σ',m1,⟨?_,h.nd⟩,m3.mono (by simp +contextual)⟩
 rw [List.append_assoc]
 refine owL_append (a1.frame fun q hq=>m3.old q (lt q (by simp [hq])) fun hk=>d1 q hq q (.inl hk) rfl) (owL_append m4 (a4.frame fun q hq=>m3.old q (lt q (by simp [hq])) fun hk=>d34 q hk q hq rfl))
theorem Cs.got {σ2 : Store} {r t : V} {os2 : List Nat} (h : Cs σ cs ts os) (g : Got σ σ2 r t os2) : Cs σ2 (cs ++ [r]) (ts ++ [t]) (os ++ os2):=by
 refine ⟨owL_append (h.ow.frame fun q hq=>g.old q (h.lt q hq)) (by simpa using owL_v g.ow owL_nil),?_⟩
 rw [List.nodup_append]
 refine ⟨h.nd,g.nd,fun x hx y hy e=>?_⟩
 have:=h.lt x hx
 have:=g.fresh y hy
 omega
theorem cs_nil : Cs σ [] [] []:=⟨owL_nil,.nil⟩
theorem Cs.res (h : Cs σ cs ts os) (c : Nat) {v t : V} (hv : cs[c]? = some v) (ht : ts[c]? = some t) (hd : DepLe FD t) : resolve σ FD v = some t:=by
 obtain ⟨vc,oc,j1,j2,_⟩:=h.ow.focus c t h.nd ht
 rw [hv] at j1
 cases j1
 exact ow_res FD j2 hd
end
theorem OwV.row_inv {σ : Store} {v : V} {sz : Nat} {rows : List (List V)} {os : List Nat} {i : Nat} {row : List V} (h : OwV σ v (.sl sz rows) os) (hn : os.Nodup) (hi : rows[i]? = some row) :
  ∃
   o R cs oc,v = .msl o 0 rows.length ∧ objAt σ o = some ⟨sz,R⟩ ∧ R.length = rows.length ∧ R[i]? = some cs ∧ Cs σ cs row oc ∧ (∀ q ∈ oc,q ∈ os) ∧ o ∈ os ∧ o ∉ oc ∧
   (∀ σ' cs' row',Cs σ' cs' row' oc → objAt σ' o = some ⟨sz,R.set i cs'⟩ → Fr (o :: oc) σ σ' → OwV σ' v (.sl sz (rows.set i row')) os):=by
 simp only [OwV] at h
 rcases h with ⟨rfl,_,_⟩ | ⟨o,R,os',rfl,h2,rfl,h3⟩
 ·simp at hi
 rw [List.nodup_cons] at hn
 have hlt:=h3.lt
 obtain ⟨cs,oc,k1,k2,k3,k4,k5⟩:=h3.focus i row hn.2 hi
 refine ⟨o,R,cs,oc,rfl,h2,h3.len,k1,⟨k2,k3⟩,fun q hq=>by simp [k4 q hq],by simp,fun k=>hn.1 (k4 o k),?_⟩
 intro σ' cs' row' hc ho hf
 simp only [OwV]
 refine .inr ⟨o,_,os',by simp,ho,rfl,k5 σ' cs' row' hc.ow fun q hq hnq=>hf.old q (hlt q hq) fun hk=>?_⟩
 rcases List.mem_cons.1 hk with rfl | hk
 ·exact hn.1 hq
 ·exact hnq hk
theorem OwV.sl_inv {σ : Store} {v : V} {sz : Nat} {rows : List (List V)} {os : List Nat} (h : OwV σ v (.sl sz rows) os) :
  (rows = [] ∧ v = .sl sz [] ∧ os = []) ∨ ∃ o R os',v = .msl o 0 rows.length ∧ objAt σ o = some ⟨sz,R⟩ ∧ R.length = rows.length ∧ os = o :: os' ∧ OwR σ R rows os':=by
 simp only [OwV] at h
 rcases h with ⟨rfl,h1,h2⟩ | ⟨o,R,os',rfl,h2,rfl,h3⟩
 ·exact .inl ⟨rfl,h1,h2⟩
 ·exact .inr ⟨o,R,os',rfl,h2,h3.len,rfl,h3⟩
theorem OwV.obj {σ : Store} {o n : Nat} {sz : Nat} {rows : List (List V)} {os : List Nat} (h : OwV σ (.msl o 0 n) (.sl sz rows) os) : ∃ R,objAt σ o = some ⟨sz,R⟩ ∧ R.length = n:=by
 rcases h.sl_inv with ⟨_,e,_⟩ | ⟨o,R,os',e,h2,h3,_,_⟩
 ·cases e
 ·cases e;exact ⟨R,h2,h3⟩
theorem szL_at {α : Type} [Inhabited α] (f : α → Nat) {l : List α} {i : Nat} (h : i < l.length) : l.length + f (l.getD i default) ≤ szL f l:=by
 have h1:=sumTo_succ f h
 have h2:=sumTo_le f l (i + 1)
 unfold szL
 omega
theorem RefK_mk {T : Nat → Option Fn} {f : Nat} {as : List Src} {dst : Option Nat} {env : Nat → V} {σ σ' : Store} {kp bs : Nat} {rs ms : List Nat} {k : St → Prop} {as' : List V} {r : V}
  (h : Run T (.fn f as' σ) (.fn r σ')) (ha : (as.map fun s=>s.ev env) = as') (hl : σ.length ≤ σ'.length) (hb : σ.length ≤ bs) (hk : k ⟨updO env dst r,σ',kp,bs,rs,ms⟩) : RefK T f as dst ⟨env,σ,kp,bs,rs,ms⟩ k:=by
 subst ha
 exact RefK_idn h hl hb hk
def mkL {α : Type} (f : Int → α → α) (c : α → Nat) : Int → List α → List α
 | _,[]=>[]
 | k,x :: l=>f k x :: mkL f c (k + c x) l
def cnL {α : Type} (c : α → Nat) (l : List α) (i : Nat) : Nat:=((l.take i).map c).sum
theorem cnL_0 {α : Type} (c : α → Nat) (l : List α) : cnL c l 0 = 0:=by simp [cnL]
theorem cnL_s {α : Type} [Inhabited α] (c : α → Nat) (l : List α) {i : Nat} (h : i < l.length) : cnL c l (i + 1) = cnL c l i + c (l.getD i default):=by
 unfold cnL
 have e : l.take (i + 1) = l.take i ++ [l.getD i default]:=by
  rw [List.take_add_one,List.getElem?_eq_getElem h,List.getD_eq_getElem?_getD,List.getElem?_eq_getElem h];rfl
 rw [e,List.map_append,List.sum_append]
 simp
theorem cnL_cons {α : Type} (c : α → Nat) (x : α) (l : List α) (i : Nat) : cnL c (x :: l) (i + 1) = c x + cnL c l i:=by simp [cnL]
theorem cnL_le {α : Type} (c : α → Nat) : ∀ (l : List α) {i : Nat},i ≤ l.length → cnL c l i ≤ cnL c l l.length
 | [],i,h=>by simp at h;subst h;exact Nat.le_refl _
 | x :: l,0,h=>by simp [cnL_0]
 |
  x :: l,i + 1,h=>by
  rw [cnL_cons,List.length_cons,cnL_cons]
  have:=cnL_le c l (i:=i) (by simpa using h)
  omega
theorem mkL_len {α : Type} (f : Int → α → α) (c : α → Nat) : ∀ (k : Int) (l : List α),(mkL f c k l).length = l.length
 | _,[]=>rfl
 | k,x :: l=>by simp [mkL,mkL_len f c _ l]
theorem mkL_at {α : Type} [Inhabited α] (f : Int → α → α) (c : α → Nat) : ∀ (k : Int) (l : List α) (i : Nat),i < l.length → (mkL f c k l).getD i default = f (k + cnL c l i) (l.getD i default)
 | _,[],i,h=>by simp at h
 | k,x :: l,0,h=>by simp [mkL,cnL_0]
 |
  k,x :: l,i + 1,h=>by
  rw [cnL_cons,mkL,List.getD_cons_succ,List.getD_cons_succ,mkL_at f c _ l i (by simpa using h)]
  congr 1
  omega
def mkTo {α : Type} (f : Int → α → α) (c : α → Nat) (k : Int) (l : List α) (i : Nat) : List α:=(mkL f c k l).take i ++ l.drop i
theorem mkTo_0 {α : Type} (f : Int → α → α) (c : α → Nat) (k : Int) (l : List α) : mkTo f c k l 0 = l:=by simp [mkTo]
theorem mkTo_all {α : Type} (f : Int → α → α) (c : α → Nat) (k : Int) (l : List α) : mkTo f c k l l.length = mkL f c k l:=by
 unfold mkTo
 rw [List.drop_length,List.append_nil,List.take_of_length_le (by rw [mkL_len];exact Nat.le_refl _)]
theorem mkTo_len {α : Type} (f : Int → α → α) (c : α → Nat) (k : Int) (l : List α) {i : Nat} (h : i ≤ l.length) : (mkTo f c k l i).length = l.length:=by
 simp [mkTo,mkL_len];omega
theorem mkTo_at {α : Type} [Inhabited α] (f : Int → α → α) (c : α → Nat) (k : Int) (l : List α) {i : Nat} (h : i < l.length) : (mkTo f c k l i).getD i default = l.getD i default:=by
 have e : ((mkL f c k l).take i).length = i:=by simp [mkL_len];omega
 unfold mkTo
 rw [List.getD_eq_getElem?_getD,List.getElem?_append_right (by omega),e,Nat.sub_self,List.getElem?_drop,Nat.add_zero,← List.getD_eq_getElem?_getD]
theorem mkTo_set {α : Type} [Inhabited α] (f : Int → α → α) (c : α → Nat) (k : Int) (l : List α) {i : Nat} (h : i < l.length) : (mkTo f c k l i).set i (f (k + cnL c l i) (l.getD i default)) = mkTo f c k l (i + 1):=by
 have e : ((mkL f c k l).take i).length = i:=by simp [mkL_len];omega
 have h2:=mkL_at f c k l i h
 have h3 : i < (mkL f c k l).length:=by rw [mkL_len];exact h
 rw [List.getD_eq_getElem?_getD,List.getElem?_eq_getElem h3] at h2
 unfold mkTo
 rw [List.set_append_right _ _ (by omega),e,Nat.sub_self,List.drop_eq_getElem_cons h,List.set_cons_zero,← h2]
 have e2 : (mkL f c k l).take (i + 1) = (mkL f c k l).take i ++ [(mkL f c k l)[i]]:=by
  rw [List.take_add_one,List.getElem?_eq_getElem h3];rfl
 rw [e2,List.append_assoc]
 rfl
end Go.Ml
end
section
namespace Go.Ml
theorem mapL_eq (g : Nat → Option Nat) : ∀ l : List V,mapV.mapL g l = l.map (mapV g)
 | []=>rfl
 | x :: l=>by simp only [mapV.mapL,List.map_cons,mapL_eq g l]
section
variable {σ σ2 : Store} {m : Nat}
theorem mapM_shift {n : Nat} (ih : ∀ v t : V,resolve σ n v = some t → resolve σ2 n (mapV (shiftN m) v) = some t) : ∀ (l l' : List V),l.mapM (resolve σ n) = some l' → (l.map (mapV (shiftN m))).mapM (resolve σ2 n) = some l'
 | [],l',h=>by simpa using h
 |
  x :: l,l',h=>by
  simp only [List.mapM_cons,Option.pure_def,Option.bind_eq_bind,Option.bind_eq_some_iff,List.map_cons] at h ⊢
  obtain ⟨a,ha,b,hb,e⟩:=h
  exact ⟨a,ih x a ha,b,mapM_shift ih l b hb,e⟩
theorem mapM_shiftR {n : Nat} (ih : ∀ v t : V,resolve σ n v = some t → resolve σ2 n (mapV (shiftN m) v) = some t) : ∀ (l : List (List V)) (l' : List (List V)),(l.mapM fun (r : List V)=>r.mapM (resolve σ n)) = some l' →
  ((l.map fun r=>r.map (mapV (shiftN m))).mapM fun (r : List V)=>r.mapM (resolve σ2 n)) = some l'
 | [],l',h=>by simpa using h
 |
  x :: l,l',h=>by
  simp only [List.mapM_cons,Option.pure_def,Option.bind_eq_bind,Option.bind_eq_some_iff,List.map_cons] at h ⊢
  obtain ⟨a,ha,b,hb,e⟩:=h
  exact ⟨a,mapM_shift ih x a ha,b,mapM_shiftR ih l b hb,e⟩
theorem res_shift (hs : ∀ o,objAt σ2 (m + o) = (objAt σ o).map (mapO (shiftN m))) : ∀ (n : Nat) (v t : V),resolve σ n v = some t → resolve σ2 n (mapV (shiftN m) v) = some t
 | 0,_,_,h=>by simp [resolve] at h
 |
  n + 1,v,t,h=>by
  have ih:=res_shift hs n
  cases v with
  |
   msl o s l =>
   simp only [mapV,shiftN,resolve,hs] at h ⊢
   cases ho : objAt σ o with
   | none=>rw [ho] at h;cases h
   |
    some ob =>
    rw [ho] at h
    simp only [Option.map_some,mapO,List.length_map] at h ⊢
    split at h
    ·rename_i hl
     rw [if_pos hl]
     obtain ⟨rows,h1,rfl⟩:=Option.map_eq_some_iff.1 h
     rw [Option.map_eq_some_iff]
     refine ⟨rows,?_,rfl⟩
     rw [← List.map_drop,← List.map_take]
     exact mapM_shiftR ih _ _ h1
    ·cases h
  |
   ptr o r off =>
   simp only [mapV,shiftN,resolve,hs] at h ⊢
   cases ho : objAt σ o with
   | none=>rw [ho] at h;cases h
   |
    some ob =>
    rw [ho] at h
    simp only [Option.map_some,mapO,List.getElem?_map] at h ⊢
    cases hr : ob.rows[r]? with
    | none=>rw [hr] at h;cases h
    |
     some row =>
     rw [hr] at h
     simp only [Option.map_some] at h ⊢
     obtain ⟨row',h1,rfl⟩:=Option.map_eq_some_iff.1 h
     rw [Option.map_eq_some_iff]
     exact ⟨row',mapM_shift ih _ _ h1,rfl⟩
  |
   agg cs =>
   simp only [mapV,resolve] at h ⊢
   obtain ⟨cs',h1,rfl⟩:=Option.map_eq_some_iff.1 h
   rw [Option.map_eq_some_iff,mapL_eq]
   exact ⟨cs',mapM_shift ih _ _ h1,rfl⟩
  |
   tup cs =>
   simp only [mapV,resolve] at h ⊢
   obtain ⟨cs',h1,rfl⟩:=Option.map_eq_some_iff.1 h
   rw [Option.map_eq_some_iff,mapL_eq]
   exact ⟨cs',mapM_shift ih _ _ h1,rfl⟩
  | any=>simp [resolve] at h
  | one=>simpa only [mapV,resolve] using h
  | int k n=>simpa only [mapV,resolve] using h
  | bool b=>simpa only [mapV,resolve] using h
  | str b=>simpa only [mapV,resolve] using h
  | nils=>simpa only [mapV,resolve] using h
  | sl a b=>simpa only [mapV,resolve] using h
  | fptr a b=>simpa only [mapV,resolve] using h
end
def OwX (σ : Store) : List V → List (Bool × V) → List Nat → Prop
 | vs,[],os=>vs = [] ∧ os = []
 | vs,(b,t) :: ts,os=>∃ v vs' o1 o2,vs = v :: vs' ∧ os = o1 ++ o2 ∧ (if b = true then OwV σ v t o1 else resolve σ FD v = some t ∧ o1 = []) ∧ OwX σ vs' ts o2
theorem OwX.shift {σ σ2 : Store} {n : Nat} (hs : ∀ o,objAt σ2 (n + o) = (objAt σ o).map (mapO (shiftN n))) : ∀ {ts : List (Bool × V)} {vs : List V} {os : List Nat},OwX σ vs ts os → OwX σ2 (vs.map (mapV (shiftN n))) ts (os.map (n + ·))
 | [],vs,os,h=>by simp only [OwX] at h ⊢;obtain ⟨rfl,rfl⟩:=h;exact ⟨rfl,rfl⟩
 |
  (b,t) :: ts,vs,os,h=>by
  simp only [OwX] at h ⊢
  obtain ⟨v,vs',o1,o2,rfl,rfl,h1,h2⟩:=h
  refine ⟨_,_,o1.map (n + ·),o2.map (n + ·),rfl,by rw [List.map_append],?_,OwX.shift hs h2⟩
  cases b with
  | true=>simp only [if_true] at h1 ⊢;exact OwV.shift hs h1
  |
   false =>
   simp only [Bool.false_eq_true,if_false] at h1 ⊢
   exact ⟨res_shift hs _ _ _ h1.1,by rw [h1.2];rfl⟩
def PX (T : Nat → Option Fn) (f : Nat) (args : List V) (ts : List (Bool × V)) : Prop:=∃ vs σ' os,Run T (.fn f args []) (.fn (.tup vs) σ') ∧ OwX σ' vs ts os ∧ os.Nodup
structure GotX (σ σ2 : Store) (vs : List V) (ts : List (Bool × V)) (os : List Nat) : Prop where
 ow : OwX σ2 vs ts os
 nd : os.Nodup
 fresh : ∀ o ∈ os,σ.length ≤ o
 old : ∀ o,o < σ.length → objAt σ2 o = objAt σ o
 len : σ.length ≤ σ2.length
theorem RefK_gotX {T : Nat → Option Fn} {f : Nat} {as : List Src} {dst : Option Nat} {env : Nat → V} {σ : Store} {kp bs : Nat} {rs ms : List Nat} {k : St → Prop} {as' : List V} {ts : List (Bool × V)} (h : PX T f as' ts)
  (ha : resK env σ as (· = as')) (hr : reachAll env σ as = []) (hk : ∀ vs σ2 os,GotX σ σ2 vs ts os → k ⟨updO env dst (.tup vs),σ2,kp,bs,rs,ms⟩) : RefK T f as dst ⟨env,σ,kp,bs,rs,ms⟩ k:=by
 obtain ⟨vs,σ',os,h1,h2,h3⟩:=h
 obtain ⟨as2,e,rfl⟩:=resK_spec ha
 refine ⟨_,.own e h1 (R:=[]) (by split;rfl;exact hr.symm),?_⟩
 have key : ∀ o,objAt (addS (killAll σ []) σ') (σ.length + o) = (objAt σ' o).map (mapO (shiftN σ.length)):=by
  intro o
  show objAt (addS σ σ') _ = _
  rw [objAt_addS,if_neg (by omega)]
  congr 2;omega
 have:=hk (vs.map (mapV (shiftN σ.length))) (addS (killAll σ []) σ') (os.map (σ.length + ·)) ⟨h2.shift key,?_,?_,?_,?_⟩
 ·simpa only [mapV,mapL_eq] using this
 ·exact List.pairwise_map.2 (h3.imp fun hne e=>hne (by omega))
 ·intro o ho
  obtain ⟨q,_,rfl⟩:=List.mem_map.1 ho
  omega
 ·intro o ho
  show objAt (addS σ σ') _ = _
  rw [objAt_addS,if_pos ho]
 ·simp [addS,killAll]
theorem GotX.of1 {σ σ2 : Store} {vs : List V} {t u : V} {os : List Nat} (g : GotX σ σ2 vs [(true,t),(false,u)] os) : ∃ v w,vs = [v,w] ∧ resolve σ2 FD w = some u ∧ Got σ σ2 v t os:=by
 obtain ⟨v,vs',o1,o2,rfl,rfl,h1,h2⟩:=(by simpa only [OwX] using g.ow : ∃ v vs' o1 o2,_)
 obtain ⟨w,vs2,o3,o4,rfl,rfl,h3,h4⟩:=h2
 obtain ⟨rfl,rfl⟩:=h4
 simp only [if_true,Bool.false_eq_true,if_false] at h1 h3
 obtain ⟨h3,rfl⟩:=h3
 refine ⟨v,w,rfl,h3,⟨by simpa using h1,g.nd,g.fresh,g.old,g.len⟩⟩
def FinX (σ : Store) (r : V) (ts : List (Bool × V)) : Prop:=∃ vs os,LaxV (.tup vs) r ∧ OwX σ vs ts os ∧ os.Nodup
theorem OwnK_got0 {T : Nat → Option Fn} {f : Nat} {as : List Src} {dst : Option Nat} {env : Nat → V} {σ : Store} {kp bs : Nat} {rs ms : List Nat} {k : List Nat → List Nat → Bool → St → Prop} {as' : List V} {t : V} (h : PO T f as' t)
  (ha : resK env σ as (· = as')) (hr : reachAll env σ as = []) (hk : ∀ r σ2 os,Got σ σ2 r t os → k [] [] true ⟨updO env dst r,σ2,kp,bs,rs,ms⟩) : OwnK T f as dst ⟨env,σ,kp,bs,rs,ms⟩ k :=
 OwnK_got h ha fun r σ2 os g=>by rw [hr];exact hk r σ2 os g
theorem Got.tup1 {σ σ2 : Store} {r t : V} {b : Bool} {os : List Nat} (g : Got σ σ2 r (.tup [t,.bool b]) os) : ∃ v,r = .tup [v,.bool b] ∧ Got σ σ2 v t os:=by
 obtain ⟨cs,rfl,h⟩:=g.ow.tup_inv
 obtain ⟨v,vs,o1,o2,rfl,rfl,h1,h2⟩:=h.inv
 obtain ⟨vs,rfl,h3⟩:=h2.bool_inv
 obtain ⟨rfl,rfl⟩:=h3.nil_inv
 exact ⟨v,rfl,by simpa using h1,g.nd,g.fresh,g.old,g.len⟩
theorem fin_bool {σ : Store} {b : Bool} : Fin σ (.bool b) (.bool b):=fin_of (os:=[]) (by simp [OwV]) .nil
theorem Fin.tup1 {σ : Store} {v t : V} {b : Bool} (h : Fin σ v t) : Fin σ (.tup [v,.bool b]) (.tup [t,.bool b]):=by
 obtain ⟨r',os,h1,h2,h3⟩:=h
 refine ⟨.tup [r',.bool b],os,?_,owV_tup (by simpa using owL_v h2 (owL_bool owL_nil)),h3⟩
 simp only [LaxV,LaxL]
 exact ⟨_,rfl,_,_,rfl,h1,_,_,rfl,rfl,rfl⟩
end Go.Ml
end
