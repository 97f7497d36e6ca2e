/- A small language for the functions of this claim, its soundness, contracts. -/
import Derived.Test.YtbccjdlcbhknoaaGreatPart0
set_option linter.unusedSimpArgs false
set_option linter.unusedVariables false
set_option maxRecDepth 100000
set_option maxHeartbeats 16000000
section
namespace Go.Ml
def nP (n : Nat) (v : V) (k : Nat → Prop) : Prop:=match v with
 | .int _ i=>(0 ≤ i ∧ i < n) ∧ k i.toNat
 | _=>False
def ji (n : Nat) (v : V) (k : Nat → Prop) : Prop:=match v with
 | .int _ i=>(0 ≤ i ∧ i ≤ n) ∧ k i.toNat
 | _=>False
theorem tH {n : Nat} {v : V} {k : Nat → Prop} (h : nP n v k) : ∃ j,I8 n v = some j ∧ k j:=by
 cases v <;> simp only [nP] at h <;> first | exact h.elim | skip
 exact ⟨_,by simp only [I8];rw [if_pos h.1],h.2⟩
theorem G9 {n : Nat} {v : V} {k : Nat → Prop} (h : ji n v k) : ∃ j,Bh n v = some j ∧ k j:=by
 cases v <;> simp only [ji] at h <;> first | exact h.elim | skip
 exact ⟨_,by simp only [Bh];rw [if_pos h.1],h.2⟩
def dI {α : Type} (o : Option α) (k : α → Prop) : Prop:=match o with
 | some a=>k a
 | none=>False
theorem bf {α : Type} {o : Option α} {k : α → Prop} (h : dI o k) : ∃ a,o = some a ∧ k a:=by
 cases o with
 | none=>exact h.elim
 | some a=>exact ⟨a,rfl,h⟩
def oq (op : BinOp) (x y : V) (k : V → Prop) : Prop:=match op,x,y with
 | .add,.int q a,.int q' b=>q = q' ∧ k (.int q (q.wrap (a + b)))
 | .sub,.int q a,.int q' b=>q = q' ∧ k (.int q (q.wrap (a - b)))
 | .mul,.int q a,.int q' b=>q = q' ∧ k (.int q (q.wrap (a * b)))
 | .quo,.int q a,.int q' b=>(q = q' ∧ b ≠ 0) ∧ k (.int q (q.wrap (a.tdiv b)))
 | .rem,.int q a,.int q' b=>(q = q' ∧ b ≠ 0) ∧ k (.int q (a.tmod b))
 | .eql,.int q a,.int q' b=>q = q' ∧ k (.bool (a == b))
 | .neq,.int q a,.int q' b=>q = q' ∧ k (.bool (a != b))
 | .lss,.int q a,.int q' b=>q = q' ∧ k (.bool (decide (a < b)))
 | .leq,.int q a,.int q' b=>q = q' ∧ k (.bool (decide (a ≤ b)))
 | .gtr,.int q a,.int q' b=>q = q' ∧ k (.bool (decide (b < a)))
 | .geq,.int q a,.int q' b=>q = q' ∧ k (.bool (decide (b ≤ a)))
 | .eql,.str a,.str b=>k (.bool (a == b))
 | .neq,.str a,.str b=>k (.bool (!(a == b)))
 | .add,.str a,.str b=>a.length + b.length < 2 ^ 62 ∧ k (.str (a ++ b))
 | .shr,.int q a,.int _ b=>0 ≤ b ∧ k (.int q (a.fdiv (2 ^ (min b.toNat q.bits))))
 | .and,.int q a,.int q' b=>q = q' ∧ k (.int q (Bg q a b))
 | .xor,.int q a,.int q' b=>q = q' ∧ k (.int q (ML q a b))
 | _,_,_=>False
theorem aam {op : BinOp} {x y : V} {k : V → Prop} (h : oq op x y k) : ∃ v,Qn op x y = some v ∧ k v:=by
 unfold oq at h
 split at h <;> first | exact h.elim | skip
 all_goals first
  | exact ⟨_,by simp only [Qn];rw [if_pos h.1],h.2⟩
  | exact ⟨_,by simp only [Qn],h⟩
def I.dO (env : Nat → V) (σ : Store) (i : I) (k : Eff → Prop) : Prop:=match i with
 | .iw x=>k (.val (x.ev env))
 |
  .pick c a b=>match c.ev env with
  | .bool t=>k (.val (if t then a.ev env else b.ev env))
  | _=>False
 | .alloc zero=>k (.newP ⟨zero.length,[zero]⟩)
 |
  .box x=>match (x.ev env).cells? with
  | some (c :: cs)=>k (.newP ⟨(c :: cs).length,[c :: cs]⟩)
  | _=>False
 | .build zero parts=>dI (qU env zero parts) fun cs=>k (.val (.agg cs))
 | .fE sz zero ln parts=>dI (jE env sz (List.replicate ln zero) parts) fun rows=>if ln = 0 then k (.val .ak) else k (.newS ⟨sz,rows⟩ ln)
 |
  .make zero bytes x=>match x.ev env with
  | .int .i64 n=>(0 ≤ n ∧ n ≤ 2 ^ 47 ∧ n * bytes ≤ 2 ^ 47) ∧ k (.newS ⟨zero.length,List.replicate n.toNat zero⟩ n.toNat)
  | _=>False
 | .load n isAgg a=>dI (rowAt σ (a.ev env)) fun p =>
   if isAgg then (p.2 + n ≤ p.1.length ∧ k (.val (.agg ((p.1.drop p.2).take n)))) else dI p.1[p.2]? fun v=>k (.val v)
 |
  .store n a x=>match a.ev env with
  | .ptr o r off=>dI (x.ev env).cells? fun cs=>dI (aj σ o) fun ob=>dI ob.rows[r]? fun row =>
    (cs.length = n ∧ off + n ≤ row.length) ∧ k (.upd o ⟨ob.sz,ob.rows.set r (splice row off cs)⟩)
  | _=>False
 |
  .fld d a=>match a.ev env with
  | .ptr o r off=>dI (aj σ o) fun _=>k (.val (.ptr o r (off + d)))
  | .eU row off=>k (.val (.eU row (off + d)))
  | _=>False
 |
  .idx sz x i=>match x.ev env with
  | .bF o s l=>dI (aj σ o) fun ob=>nP l (i.ev env) fun j=>ob.sz = sz ∧ k (.val (.ptr o (s + j) 0))
  | .sl sz' rows=>nP rows.length (i.ev env) fun j=>sz' = sz ∧ k (.val (.eU (rows.getD j []) 0))
  | _=>False
 |
  .Ry cnt sz x i=>match x.ev env with
  | .ptr o r off=>nP cnt (i.ev env) fun j=>dI (aj σ o) fun _=>k (.val (.ptr o r (off + j * sz)))
  | .eU row off=>nP cnt (i.ev env) fun j=>k (.val (.eU row (off + j * sz)))
  | _=>False
 |
  .Uf x i=>match x.ev env with
  | .str s=>nP s.length (i.ev env) fun j=>k (.val (.int .u8 (s.getD j 0).toNat))
  | _=>False
 | .len x=>dI (lenOf σ (x.ev env)) fun n=>k (.val (.int .i64 n))
 |
  .Ug x=>match x.ev env with
  | .str s=>k (.val (.int .i64 s.length))
  | _=>False
 | .bin op x y=>oq op (x.ev env) (y.ev env) fun v=>k (.val v)
 |
  .beq ne x y=>match x.ev env,y.ev env with
  | .bool a,.bool b=>k (.val (.bool (if ne then !(a == b) else a == b)))
  | _,_=>False
 |
  .un op x=>match op,x.ev env with
  | .neg,.int q n=>k (.val (.int q (q.wrap (0 - n))))
  | .not,.bool b=>k (.val (.bool (!b)))
  | _,_=>False
 |
  .conv q x=>match x.ev env with
  | .int _ n=>k (.val (.int q (q.wrap n)))
  | _=>False
 | .app sz bytes x y=>dI (rowsOf σ (x.ev env)) fun old=>dI (rowsOf σ (y.ev env)) fun new =>
   (new.2 = [] → k (.val (x.ev env))) ∧ (new.2 ≠ [] → (new.1 = sz ∧ (old.2.length + new.2.length) * bytes ≤ 2 ^ 40 ∧ old.2.length + new.2.length ≤ 2 ^ 40) ∧
    match x.ev env with
    | .ak=>k (.newS ⟨sz,new.2⟩ new.2.length)
    | .bF o _ _=>dI (aj σ o) fun ob=>ob.sz = sz ∧ k (.iw o ⟨sz,old.2 ++ new.2⟩ (old.2.length + new.2.length))
    | _=>False)
 |
  .max x y=>match x.ev env,y.ev env with
  | .int q a,.int q' b=>q = q' ∧ k (.val (.int q (if b > a then b else a)))
  | _,_=>False
 |
  .PL i x=>match x.ev env with
  | .gq vs=>dI vs[i]? fun v=>k (.val v)
  | _=>False
 |
  .chk x=>match x.ev env with
  | .ptr o r off=>dI (aj σ o) fun _=>k (.val (.ptr o r off))
  | .eU row off=>k (.val (.eU row off))
  | _=>False
 |
  .Hy x lo hi=>match x.ev env with
  | .str s=>(match hi with | some h=>ji s.length (h.ev env) | none=>fun k=>k s.length) fun h =>
    (match lo with | some l=>ji h (l.ev env) | none=>fun k=>k 0) fun l=>k (.val (.str ((s.take h).drop l)))
  | _=>False
 | .slice sz x lo hi=>dI (lenOf σ (x.ev env)) fun n=>(match hi with | some h=>ji n (h.ev env) | none=>fun k=>k n) fun h =>
   (match lo with | some l=>ji h (l.ev env) | none=>fun k=>k 0) fun l=>match x.ev env with
    | .ak=>k (.val .ak)
    | .sl sz' rows=>sz' = sz ∧ k (.val (.sl sz' ((rows.take h).drop l)))
    | .bF o s _=>dI (aj σ o) fun ob=>ob.sz = sz ∧ k (.val (.bF o (s + l) (h - l)))
    | _=>False
 |
  .Uh cnt x i=>match x.ev env with
  | .agg cs=>nP cnt (i.ev env) fun j=>dI cs[j]? fun v=>k (.val v)
  | _=>False
 | i=>dI (i.eff env σ) k
theorem UC {env : Nat → V} {n : Nat} {hi : Option Src} {k : Nat → Prop} (h : (match hi with | some h=>ji n (h.ev env) | none=>fun k=>k n) k) : ∃ j,hiB env n hi = some j ∧ k j:=by
 cases hi with
 | none=>exact ⟨n,rfl,h⟩
 | some x=>exact G9 h
theorem UD {env : Nat → V} {n : Nat} {lo : Option Src} {k : Nat → Prop} (h : (match lo with | some h=>ji n (h.ev env) | none=>fun k=>k 0) k) : ∃ j,loB env n lo = some j ∧ k j:=by
 cases lo with
 | none=>exact ⟨0,rfl,h⟩
 | some x=>exact G9 h
theorem Kw {env : Nat → V} {σ : Store} {i : I} {k : Eff → Prop} (h : i.dO env σ k) : ∃ ef,i.eff env σ = some ef ∧ k ef:=by
 cases i with
 | iw x=>exact ⟨_,rfl,h⟩
 |
  pick c a b =>
  simp only [I.dO] at h
  split at h <;> first | exact h.elim | skip
  rename_i t e
  exact ⟨_,by simp only [I.eff,e],h⟩
 | alloc z=>exact ⟨_,rfl,h⟩
 |
  box x =>
  simp only [I.dO] at h
  split at h <;> first | exact h.elim | skip
  rename_i c cs e
  exact ⟨_,by simp only [I.eff,e],h⟩
 |
  build z ps =>
  obtain ⟨cs,e,h⟩:=bf h
  exact ⟨_,by simp only [I.eff,e],h⟩
 |
  fE sz z ln ps =>
  obtain ⟨rows,e,h⟩:=bf h
  split at h
  ·rename_i h0;exact ⟨_,by simp only [I.eff,e];rw [if_pos h0],h⟩
  ·rename_i h0;exact ⟨_,by simp only [I.eff,e];rw [if_neg h0],h⟩
 |
  make z b x =>
  simp only [I.dO] at h
  split at h <;> first | exact h.elim | skip
  rename_i n e
  exact ⟨_,by simp only [I.eff,e];rw [if_pos h.1],h.2⟩
 |
  load n g a =>
  obtain ⟨p,e,h⟩:=bf h
  obtain ⟨row,off⟩:=p
  simp only [] at h
  cases g with
  |
   true =>
   simp only [if_true] at h
   exact ⟨_,by simp only [I.eff,e,if_true];rw [if_pos h.1],h.2⟩
  |
   false =>
   simp only [Bool.false_eq_true,if_false] at h
   obtain ⟨v,e2,h⟩:=bf h
   exact ⟨_,by simp only [I.eff,e,Bool.false_eq_true,if_false,e2],h⟩
 |
  store n a x =>
  simp only [I.dO] at h
  split at h <;> first | exact h.elim | skip
  rename_i o r off e
  obtain ⟨cs,e1,h⟩:=bf h
  obtain ⟨ob,e2,h⟩:=bf h
  obtain ⟨row,e3,h⟩:=bf h
  exact ⟨_,by simp only [I.eff,e,e1,e2,e3];rw [if_pos h.1],h.2⟩
 |
  fld d a =>
  simp only [I.dO] at h
  split at h <;> first | exact h.elim | skip
  ·rename_i o r off e
   obtain ⟨ob,e2,h⟩:=bf h
   exact ⟨_,by simp only [I.eff,e,e2],h⟩
  ·rename_i row off e
   exact ⟨_,by simp only [I.eff,e],h⟩
 |
  idx sz x i =>
  simp only [I.dO] at h
  split at h <;> first | exact h.elim | skip
  ·rename_i o s l e
   obtain ⟨ob,e2,h⟩:=bf h
   obtain ⟨j,e3,h⟩:=tH h
   exact ⟨_,by simp only [I.eff,e,e2,e3];rw [if_pos h.1],h.2⟩
  ·rename_i sz' rows e
   obtain ⟨j,e3,h⟩:=tH h
   exact ⟨_,by simp only [I.eff,e,e3];rw [if_pos h.1],h.2⟩
 |
  Ry c sz x i =>
  simp only [I.dO] at h
  split at h <;> first | exact h.elim | skip
  ·rename_i o r off e
   obtain ⟨j,e3,h⟩:=tH h
   obtain ⟨ob,e2,h⟩:=bf h
   exact ⟨_,by simp only [I.eff,e,e2,e3],h⟩
  ·rename_i row off e
   obtain ⟨j,e3,h⟩:=tH h
   exact ⟨_,by simp only [I.eff,e,e3],h⟩
 |
  Uf x i =>
  simp only [I.dO] at h
  split at h <;> first | exact h.elim | skip
  rename_i s e
  obtain ⟨j,e3,h⟩:=tH h
  exact ⟨_,by simp only [I.eff,e,e3],h⟩
 |
  len x =>
  obtain ⟨n,e,h⟩:=bf h
  exact ⟨_,by simp only [I.eff,e],h⟩
 |
  Ug x =>
  simp only [I.dO] at h
  split at h <;> first | exact h.elim | skip
  rename_i s e
  exact ⟨_,by simp only [I.eff,e],h⟩
 |
  bin op x y =>
  simp only [I.dO] at h
  obtain ⟨v,e,h⟩:=aam h
  exact ⟨_,by simp only [I.eff,e],h⟩
 |
  beq ne x y =>
  simp only [I.dO] at h
  split at h <;> first | exact h.elim | skip
  rename_i p q e1 e2
  exact ⟨_,by simp only [I.eff,e1,e2],h⟩
 |
  un op x =>
  simp only [I.dO] at h
  split at h <;> first | exact h.elim | skip
  ·rename_i q n e
   exact ⟨_,by simp only [I.eff,e,abv],h⟩
  ·rename_i b e
   exact ⟨_,by simp only [I.eff,e,abv],h⟩
 |
  conv q x =>
  simp only [I.dO] at h
  split at h <;> first | exact h.elim | skip
  rename_i q' n e
  exact ⟨_,by simp only [I.eff,e],h⟩
 |
  app sz b x y =>
  obtain ⟨old,e1,h⟩:=bf h
  obtain ⟨new,e2,h⟩:=bf h
  obtain ⟨so,old⟩:=old
  obtain ⟨sn,new⟩:=new
  simp only [] at h
  by_cases hn : new = []
  ·exact ⟨_,by simp only [I.eff,e1,e2];rw [if_pos hn],h.1 hn⟩
  ·obtain ⟨hc,h⟩:=h.2 hn
   split at h <;> first | exact h.elim | skip
   ·rename_i e
    rw [e] at e1
    refine ⟨_,?_,h⟩
    simp only [I.eff,e,e1,e2];rw [if_neg hn,if_pos hc]
   ·rename_i o s l e
    obtain ⟨ob,e3,h⟩:=bf h
    rw [e] at e1
    refine ⟨_,?_,h.2⟩
    simp only [I.eff,e,e1,e2,e3];rw [if_neg hn,if_pos hc,if_pos h.1]
 |
  max x y =>
  simp only [I.dO] at h
  split at h <;> first | exact h.elim | skip
  rename_i q p q' r e1 e2
  exact ⟨_,by simp only [I.eff,e1,e2];rw [if_pos h.1],h.2⟩
 |
  PL i x =>
  simp only [I.dO] at h
  split at h <;> first | exact h.elim | skip
  rename_i vs e
  obtain ⟨v,e2,h⟩:=bf h
  exact ⟨_,by simp only [I.eff,e,e2],h⟩
 |
  chk x =>
  simp only [I.dO] at h
  split at h <;> first | exact h.elim | skip
  ·rename_i o r off e
   obtain ⟨ob,e2,h⟩:=bf h
   exact ⟨_,by simp only [I.eff,e,e2],h⟩
  ·rename_i row off e
   exact ⟨_,by simp only [I.eff,e],h⟩
 |
  Hy x lo hi =>
  simp only [I.dO] at h
  split at h <;> first | exact h.elim | skip
  rename_i s e
  obtain ⟨hh,e1,h⟩:=UC h
  obtain ⟨l,e2,h⟩:=UD h
  exact ⟨_,by simp only [I.eff,e,e1,e2],h⟩
 |
  slice sz x lo hi =>
  obtain ⟨n,e0,h⟩:=bf h
  obtain ⟨hh,e1,h⟩:=UC h
  obtain ⟨l,e2,h⟩:=UD h
  split at h <;> first | exact h.elim | skip
  ·rename_i e
   rw [e] at e0
   exact ⟨_,by simp only [I.eff,e,e0,e1,e2],h⟩
  ·rename_i sz' rows e
   rw [e] at e0
   exact ⟨_,by simp only [I.eff,e,e0,e1,e2];rw [if_pos h.1],h.2⟩
  ·rename_i o s q e
   obtain ⟨ob,e3,h⟩:=bf h
   rw [e] at e0
   exact ⟨_,by simp only [I.eff,e,e0,e1,e2,e3];rw [if_pos h.1],h.2⟩
 |
  Uh cnt x i =>
  simp only [I.dO] at h
  split at h <;> first | exact h.elim | skip
  rename_i cs e
  obtain ⟨j,e2,h⟩:=tH h
  obtain ⟨v,e3,h⟩:=bf h
  exact ⟨_,by simp only [I.eff,e,e2,e3],h⟩
 | _=>exact bf h
def PF (T : Tb) (f : Nat) (args : List V) (r : V) : Prop:=Run T (.fn f args []) (.fn r [])
def EX (v : V) (k : Bool → Prop) : Prop:=match v with
 | .bool b=>k b
 | _=>False
theorem Xe {v : V} {k : Bool → Prop} (h : EX v k) : ∃ b,v = .bool b ∧ k b:=by
 cases v <;> first | exact h.elim | exact ⟨_,rfl,h⟩
def gdK (want : Bool) (v : V) (k : Bool → Prop) : Prop:=match v with
 | .bool b=>k b
 | .gq []=>k (!want)
 | _=>False
theorem UE {want : Bool} {v : V} {k : Bool → Prop} (h : gdK want v k) : (v = .bool want ∧ k want) ∨ (Z8 want v ∧ k (!want)):=by
 unfold gdK at h
 split at h
 ·rename_i b
  by_cases e : b = want
  ·subst e;exact .inl ⟨rfl,h⟩
  ·have : b = !want:=by cases b <;> cases want <;> simp_all
   subst this
   exact .inr ⟨.inr ⟨_,rfl,e⟩,h⟩
 ·exact .inr ⟨.inl rfl,h⟩
 ·exact h.elim
def gK (g : Option (Nat × Bool)) (env : Nat → V) (on off : Prop) : Prop:=match g with
 | none=>on
 | some (t,true)=>gdK true (env t) fun b=>if b = true then on else off
 | some (t,false)=>gdK false (env t) fun b=>if b = true then off else on
theorem RP {g : Option (Nat × Bool)} {env : Nat → V} {on off : Prop} (h : gK g env on off) :
  ((∀ t want,g = some (t,want) → env t = .bool want) ∧ on) ∨ (∃ t want,g = some (t,want) ∧ Z8 want (env t) ∧ off):=by
 cases g with
 | none=>exact .inl ⟨fun _ _ h=>(by cases h),h⟩
 |
  some p =>
  obtain ⟨t,want⟩:=p
  cases want with
  |
   true =>
   rcases UE h with ⟨e,h⟩ | ⟨e,h⟩
   ·exact .inl ⟨fun _ _ h=>(by cases h;exact e),(by simpa using h)⟩
   ·exact .inr ⟨t,true,rfl,e,by simpa using h⟩
  |
   false =>
   rcases UE h with ⟨e,h⟩ | ⟨e,h⟩
   ·exact .inl ⟨fun _ _ h=>(by cases h;exact e),(by simpa using h)⟩
   ·exact .inr ⟨t,false,rfl,e,by simpa using h⟩
def EG (env : Nat → V) (σ : Store) : List Src → (List V → Prop) → Prop
 | [],k=>k []
 | s :: as,k=>dI (resolve σ FD (s.ev env)) fun v=>EG env σ as fun vs=>k (v :: vs)
theorem tJ {env : Nat → V} {σ : Store} : ∀ {as : List Src} {k : List V → Prop},EG env σ as k → ∃ vs,as.mapM (fun s=>resolve σ FD (s.ev env)) = some vs ∧ k vs
 | [],k,h=>⟨[],rfl,h⟩
 |
  s :: as,k,h=>by
  obtain ⟨v,e,h⟩:=bf h
  obtain ⟨vs,e2,h⟩:=tJ h
  exact ⟨v :: vs,by simp [List.mapM_cons,e,e2],h⟩
def fO (env : Nat → V) (σ : Store) (as : List Src) : List Nat:=as.flatMap fun s=>reach σ FD (s.ev env)
def PFK (T : Tb) (f : Nat) (as : List V) (k : V → Prop) : Prop:=∃ r,PF T f as r ∧ k r
inductive Je (T : Tb) (f : Nat) (as : List Src) (dst : Option Nat) (st : St) : St → Prop
 | ref (ρ : List Nat) {r : V} {σ' : Store} (hn : ρ.Nodup) (hρ : ∀ o,o ∈ ρ → (aj st.objs o).isSome = true) (h : Run T (.fn f (as.map fun s=>aP (place ρ) (s.ev st.env)) (zA ρ st.objs)) (.fn r σ')) :
   Je T f as dst st { st with env:=dS st.env dst (aP (back ρ st.objs.length) r),objs:=iF ρ st.objs σ' }
 | own {as' : List V} {r : V} {σ' : Store} {R : List Nat} (ha : as.mapM (fun s=>resolve st.objs FD (s.ev st.env)) = some as') (h : Run T (.fn f as' []) (.fn r σ'))
   (hR : R = if dH r && Ae σ' then [] else as.flatMap fun s=>reach st.objs FD (s.ev st.env)) :
   Je T f as dst st { st with env:=dS st.env dst (aP (bD st.objs.length) r),objs:=pF (cO st.objs R) σ' }
 | idn {r : V} {σ' : Store} (h : Run T (.fn f (as.map fun s=>s.ev st.env) st.objs) (.fn r σ')) (hl : st.objs.length ≤ σ'.length) (hb : st.objs.length ≤ st.base) :
   Je T f as dst st { st with env:=dS st.env dst r,objs:=σ' }
 | WU {as' : List V} {r : V} {R : List Nat} (ha : as.mapM (fun s=>resolve st.objs FD (s.ev st.env)) = some as') (h : Run T (.fn f as' []) (.fn r []))
   (hR : R = if scalar SD r then [] else as.flatMap fun s=>reach st.objs FD (s.ev st.env)) :
   Je T f as dst st { st with env:=dS st.env dst r,objs:=cO st.objs R }
def Ib (T : Tb) (f : Nat) (as : List Src) (dst : Option Nat) (st : St) (k : St → Prop) : Prop:=∃ st',Je T f as dst st st' ∧ k st'
def dN : Option Nat → Nat
 | some n=>n
 | none=>0
theorem EY (n : Nat) : dN (some n) = n:=by have h : dN (some n) = n:=rfl;exact h
def opK (T : Tb) (rf : Nat → Nat → Bool) (o : fM) (st : St) (k : St → Prop) : Prop :=
 gK o.g st.env (match o.i with
  | .call f as=>if rf f (dN o.dst) = true then Ib T f as o.dst st k else EG st.env st.objs as fun as'=>PFK T f as' fun r =>
    k { st with env:=dS st.env o.dst r,objs:=cO st.objs (if scalar SD r then [] else fO st.env st.objs as) }
  | i=>i.dO st.env st.objs fun ef=>k (ef.go st o.dst (st.base + o.k)))
  (k { st with env:=dS st.env o.dst (.gq []) })
theorem ab6 {T : Tb} {rf : Nat → Nat → Bool} {o : fM} {st : St} {k : St → Prop} (h : opK T rf o st k) : ∃ st',Run T (.op o st) (.code .normal st') ∧ k st':=by
 rcases RP h with ⟨hg,h⟩ | ⟨t,want,hg,he,h⟩
 ·split at h
  ·rename_i f as hi
   split at h
   ·obtain ⟨st',h1,h4⟩:=h
    refine ⟨st',?_,h4⟩
    cases h1 with
    | ref ρ h1 h2 h3=>exact .abz ρ h1 h2 hg hi h3
    | own h1 h2 h3=>exact .abA hg hi h1 h2 h3
    | idn h1 h2 h3=>exact .abB hg hi h1 h2 h3
    | WU h1 h2 h3=>exact .Uk hg hi h1 h2 h3
   ·obtain ⟨vs,e,h⟩:=tJ h
    obtain ⟨r,h1,h⟩:=h
    exact ⟨_,.Uk hg hi e h1 rfl,h⟩
  ·obtain ⟨ef,e,h⟩:=Kw h
   exact ⟨_,.op hg e,h⟩
 ·exact ⟨_,.off hg he,h⟩
def Xf (T : Tb) (rf : Nat → Nat → Bool) : List fM → St → (St → Prop) → Prop
 | [],st,k=>k st
 | o :: l,st,k=>opK T rf o st fun st=>Xf T rf l st k
theorem Qy {T : Tb} {rf : Nat → Nat → Bool} : ∀ {l : List fM} {st : St} {k : St → Prop},Xf T rf l st k → ∃ st',Run T (.ops l st) (.code .normal st') ∧ k st'
 | [],st,k,h=>⟨st,.nil st,h⟩
 |
  o :: l,st,k,h=>by
  obtain ⟨st1,h1,h⟩:=ab6 h
  obtain ⟨st2,h2,h⟩:=Qy h
  exact ⟨st2,.cons h1 h2,h⟩
def uni (a b : List Nat) : List Nat:=b.foldl (fun s x=>if s.contains x then s else x :: s) a
def am4 : List fM → List (List Nat) → List (List Nat)
 | [],acc=>acc
 | o :: l,acc=>am4 l (acc ++ [o.Z7.foldl (fun s e=>uni s (acc.getD e [])) o.Z7])
def okB (B : Nat → List Nat) (l : List fM) : Nat → Bool
 |
  i=>match l with
  | []=>true
  | o :: l=>(B i).all (fun j=>o.Z7.contains j || o.Z7.any fun e=>(B e).contains j) && o.Z7.all (fun e=>decide (e < i)) && okB B l (i + 1)
theorem NK {B : Nat → List Nat} : ∀ {l : List fM} {n : Nat},okB B l n = true → ∀ i o,l[i]? = some o → (∀ j,j ∈ B (n + i) → j ∈ o.Z7 ∨ ∃ e ∈ o.Z7,j ∈ B e) ∧ ∀ e ∈ o.Z7,e < n + i
 | [],n,_,i,o,h=>by simp at h
 |
  x :: l,n,hk,i,o,h=>by
  unfold okB at hk
  simp only [Bool.and_eq_true,List.all_eq_true] at hk
  obtain ⟨⟨h1,h2⟩,h3⟩:=hk
  cases i with
  |
   zero =>
   simp only [List.getElem?_cons_zero,Option.some.injEq] at h
   subst h
   refine ⟨fun j hj=>?_,fun e he=>by simpa using h2 e he⟩
   have:=h1 j hj
   simpa using this
  |
   succ i =>
   simp only [List.getElem?_cons_succ] at h
   have:=NK h3 i o h
   rw [show n + (i + 1) = n + 1 + i by omega]
   exact this
def P5 (l : List fM) : Nat → List Nat:=let b:=am4 l [];fun i=>b.getD i []
structure Acc where
 i : Nat
 R : List Nat
 W : List Nat
 n : Bool:=false
def wC (L : Nat) (a b : Acc) : Bool:=!a.n || (!b.n && b.R.all (fun o=>decide (o < L)) && b.W.all fun p=>decide (p < L))
def nS (L : Nat) (d e : fM) (a b : Acc) : Bool :=
 !Ej d.dst e.looks && !Ej e.dst d.looks && !(d.dst.isSome && d.dst == e.dst) &&
  a.W.all (fun p=>!b.R.contains p && b.W.all fun q=>q != p) && b.W.all (fun q=>!a.R.contains q) && wC L a b && wC L b a
def EZ (l : List fM) (i : Nat) : fM:=l.getD i ⟨none,none,0,.alloc [],[]⟩
def okA (L : Nat) (B : Nat → List Nat) (ops : List fM) : List Acc → Bool
 | []=>true
 | a :: l=>l.all (fun b=>(B b.i).contains a.i || nS L (EZ ops a.i) (EZ ops b.i) a b) && okA L B ops l
def lU (L : Nat) (ops : List fM) (l : List Acc) : Prop:=okA L (P5 ops) ops l.reverse = true
def Xg (T : Tb) (f : Nat) (as : List Src) (dst : Option Nat) (st : St) (k : List Nat → List Nat → Bool → St → Prop) : Prop :=
 (∃ as' r σ',as.mapM (fun s=>resolve st.objs FD (s.ev st.env)) = some as' ∧ Run T (.fn f as' []) (.fn r σ') ∧ (dH r && Ae σ') = true ∧
  k (fO st.env st.objs as) [] true { st with env:=dS st.env dst (aP (bD st.objs.length) r),objs:=pF st.objs σ' }) ∨
 (∃ as' r,as.mapM (fun s=>resolve st.objs FD (s.ev st.env)) = some as' ∧ Run T (.fn f as' []) (.fn r []) ∧ scalar SD r = false ∧
  k (fO st.env st.objs as) (fO st.env st.objs as) false { st with env:=dS st.env dst r,objs:=cO st.objs (fO st.env st.objs as) }) ∨
 (∃ r σ',Run T (.fn f (as.map fun s=>s.ev st.env) st.objs) (.fn r σ') ∧ st.objs.length ≤ σ'.length ∧ st.objs.length ≤ st.base ∧
  k (List.range st.objs.length) (List.range st.objs.length) true { st with env:=dS st.env dst r,objs:=σ' }) ∨
 ∃
  ρ r v,ρ.Nodup ∧ (∀ o,o ∈ ρ → ∃ ob,aj st.objs o = some ob ∧ ∀ g,gu g ob = ob) ∧ Run T (.fn f (as.map fun s=>aP (place ρ) (s.ev st.env)) (zA ρ st.objs)) (.fn r (zA ρ st.objs)) ∧ (∀ n,aP (back ρ n) r = v) ∧
  k ρ [] false { st with env:=dS st.env dst v }
def Jf (l : List Nat) (k : List Nat → Prop) : Prop:=k l
def Eff.wr (id : Nat) : Eff → List Nat
 | .val _=>[]
 | .newP _=>[id]
 | .newS _ _=>[id]
 | .upd o _=>[o]
 | .iw o _ _=>[o,id]
def Ic (T : Tb) (rf : Nat → Nat → Bool) (L : Nat) (ops : List fM) : List fM → Nat → List Acc → St → (St → Prop) → Prop
 | [],_,acc,st,k=>lU L ops acc ∧ k st
 |
  o :: l,i,acc,st,k=>gK o.g st.env (match o.i with
  | .call f as=>if rf f (dN o.dst) = true then Xg T f as o.dst st fun R W n st=>Ic T rf L ops l (i + 1) (⟨i,R,W,n⟩ :: acc) st k
    else EG st.env st.objs as fun as'=>PFK T f as' fun r=>Jf (fO st.env st.objs as) fun R =>
    (R = [] ∨ scalar SD r = true) ∧ Ic T rf L ops l (i + 1) (⟨i,R,[],false⟩ :: acc) { st with env:=dS st.env o.dst r } k
  | x
    => Jf (x.reads st.env) fun R=>x.dO st.env st.objs fun ef=>Jf (ef.wr (st.base + o.k)) fun W =>
    Ic T rf L ops l (i + 1) (⟨i,R,W,false⟩ :: acc) (ef.go st o.dst (st.base + o.k)) k)
  (Ic T rf L ops l (i + 1) (⟨i,[],[],false⟩ :: acc) { st with env:=dS st.env o.dst (.gq []) } k)
def Qz (ops : List fM) (p : Nat × Dat) (a : Acc) : Prop:=a.i = p.1 ∧ EZ ops a.i = p.2.x ∧ a.R = p.2.R ∧ a.W = p.2.W.map (·.1) ∧ a.n = p.2.N.isSome
theorem QA {L : Nat} {ops : List fM} {p q : Nat × Dat} {a b : Acc} (h : Qz ops p a) (k : Qz ops q b) : wC L a b = below L p.2 q.2:=by
 obtain ⟨h1,h2,h3,h4,h5⟩:=h
 obtain ⟨k1,k2,k3,k4,k5⟩:=k
 unfold wC below
 rw [h5,k5,k3,k4,List.all_map]
 simp only [Option.not_isSome]
 rfl
theorem aan {L : Nat} {ops : List fM} {p q : Nat × Dat} {a b : Acc} (h : Qz ops p a) (k : Qz ops q b) : nS L (EZ ops a.i) (EZ ops b.i) a b = apart L p.2 q.2:=by
 have e1:=QA (L:=L) h k
 have e2:=QA (L:=L) k h
 obtain ⟨h1,h2,h3,h4,h5⟩:=h
 obtain ⟨k1,k2,k3,k4,k5⟩:=k
 unfold nS apart
 rw [e1,e2,h2,k2,h3,k3,h4,k4]
 simp only [List.all_map]
 rfl
inductive nT (ops : List fM) : List (Nat × Dat) → List Acc → Prop
 | nil : nT ops [] []
 | cons {p a l m} (h : Qz ops p a) (t : nT ops l m) : nT ops (p :: l) (a :: m)
theorem nT.all {ops : List fM} {f : Nat × Dat → Bool} {g : Acc → Bool} : ∀ {l m},nT ops l m → (∀ p a,Qz ops p a → f p = g a) → l.all f = m.all g
 | _,_,.nil,_=>rfl
 | _,_,.cons h t,hfg=>by simp only [List.all_cons];rw [hfg _ _ h,t.all hfg]
theorem Xh {L : Nat} {B : Nat → List Nat} {ops : List fM} : ∀ {l m},nT ops l m → okA L B ops m = true → okD L B l = true
 | _,_,.nil,_=>rfl
 |
  _,_,.cons (p:=p) (a:=a) h t,hk=>by
  simp only [okA,Bool.and_eq_true] at hk
  obtain ⟨i,d⟩:=p
  simp only [okD,Bool.and_eq_true]
  refine ⟨?_,Xh t hk.2⟩
  rw [t.all fun q b hq=>?_]
  ·exact hk.1
  ·rw [aan h hq,hq.1,h.1]
theorem nT.append {ops : List fM} : ∀ {l m l' m'},nT ops l m → nT ops l' m' → nT ops (l ++ l') (m ++ m')
 | _,_,_,_,.nil,h=>h
 | _,_,_,_,.cons h t,k=>.cons h (t.append k)
theorem am5 (ef : Eff) (id : Nat) : ef.wr id = (ef.writes id).map (·.1):=by cases ef <;> rfl
theorem Ie {T : Tb} {d : Dat} : ∀ (l : List Dat) (st : St),Chain T l st → Fp T d (vS l st) → Chain T (l ++ [d]) st
 | [],_,_,h=>⟨h,trivial⟩
 | _ :: l,_,h,k=>⟨h.1,Ie l _ h.2 k⟩
theorem Ig {d : Dat} : ∀ (l : List Dat) (st : St),vS (l ++ [d]) st = d.go (vS l st)
 | [],_=>rfl
 | _ :: l,_=>Ig l _
theorem QB {T : Tb} {rf : Nat → Nat → Bool} {L : Nat} {ops : List fM} {st0 : St} : ∀ {l : List fM} {i : Nat} {acc : List Acc} {st : St} {k : St → Prop} (ds : List (Nat × Dat)),Ic T rf L ops l i acc st k →
  i ≤ ops.length → ops.drop i = l → ds.length = i → ds.map (·.1) = List.range i → nT ops ds acc.reverse → Chain T (ds.map (·.2)) st0 → vS (ds.map (·.2)) st0 = st →
  ∃ ds',ds'.map (·.1) = List.range ops.length ∧ (∃ acc',nT ops ds' acc' ∧ okA L (P5 ops) ops acc' = true) ∧ Chain T (ds'.map (·.2)) st0 ∧ k (vS (ds'.map (·.2)) st0)
 |
  [],i,acc,st,k,ds,h,hil,hd,hi,hr,hf,hc,hg=>by
  have hl : ops.length = i:=by
   have:=congrArg List.length hd
   simp at this;omega
  exact ⟨ds,by rw [hr,hl],⟨_,hf,h.1⟩,hc,by rw [hg];exact h.2⟩
 |
  o :: l,i,acc,st,k,ds,h,_,hd,hi,hr,hf,hc,hg=>by
  have hio : ops[i]? = some o:=by
   have:=congrArg (·[0]?) hd
   simpa using this
  have hd' : ops.drop (i + 1) = l:=by
   rw [← List.drop_drop,hd];rfl
  have hgo : EZ ops i = o:=by simp [EZ,List.getD_eq_getElem?_getD,hio]
  have step : ∀ (d : Dat),d.x = o → ∀ (a : Acc),a.i = i → a.R = d.R → a.W = d.W.map (·.1) → a.n = d.N.isSome → Fp T d st → Ic T rf L ops l (i + 1) (a :: acc) (d.go st) k → _:=fun d hdx a ha hR hW hN hfp hk =>
   QB (ds ++ [(i,d)]) hk (List.getElem?_eq_some_iff.1 hio).1 hd' (by simp [hi]) (by simp [hr,List.range_succ]) (by
    rw [List.reverse_cons]
    exact hf.append (.cons ⟨ha,by rw [ha,hgo,hdx],hR,hW,hN⟩ .nil)) (by
    rw [List.map_append];exact Ie _ _ hc (by rw [hg];exact hfp)) (by rw [List.map_append,List.map_cons,List.map_nil,Ig,hg])
  rcases RP h with ⟨hgd,h⟩ | ⟨t,want,hgd,he,h⟩
  ·split at h
   ·rename_i f as hi2
    split at h
    ·rcases h with ⟨vs,r,σ',e,h1,h2,h⟩ | ⟨vs,r,e,h1,h2,h⟩ | ⟨r,σ',h1,h2,h3,h⟩ | ⟨ρ,r,v,h1,h2,h3,h4,h⟩
     rotate_right
     ·refine step ⟨o,ρ,v,[],none⟩ rfl ⟨i,ρ,[],false⟩ rfl rfl rfl rfl (ab4 hgd hi2 h1 h2 h3 h4) ?_
      have e2 : (⟨o,ρ,v,[],none⟩ : Dat).go st = { st with env:=dS st.env o.dst v }:=by
       simp only [Dat.go,kW,List.foldl_nil,Option.getD_none,List.append_nil]
      rw [e2];exact h
     rotate_right
     ·refine step ⟨o,_,r,(List.range st.objs.length).map fun o=>(o,aj σ' o),some (σ'.drop st.objs.length)⟩ rfl ⟨i,_,List.range st.objs.length,true⟩ rfl rfl (by rw [List.map_map];exact (List.map_id _).symm) rfl (ab5 hgd hi2 h1 h2 h3) ?_
      have e2 : (⟨o,List.range st.objs.length,r,(List.range st.objs.length).map fun o=>(o,aj σ' o),some (σ'.drop st.objs.length)⟩ : Dat).go st = { st with env:=dS st.env o.dst r,objs:=σ' }:=by
       simp only [Dat.go,Option.getD_some]
       congr 1
       exact UA h2
      rw [e2];exact h
     rotate_left
     ·refine step ⟨o,_,r,(as.flatMap fun s=>reach st.objs FD (s.ev st.env)).map fun o=>(o,none),none⟩ rfl ⟨i,_,as.flatMap fun s=>reach st.objs FD (s.ev st.env),false⟩ rfl rfl (by rw [List.map_map];exact (List.map_id _).symm) rfl (abZ hgd hi2 e h1 h2) ?_
      have e2 : (⟨o,as.flatMap fun s=>reach st.objs FD (s.ev st.env),r,(as.flatMap fun s=>reach st.objs FD (s.ev st.env)).map fun o=>(o,none),none⟩ : Dat).go st =
        { st with env:=dS st.env o.dst r,objs:=cO st.objs (as.flatMap fun s=>reach st.objs FD (s.ev st.env)) }:=by
       simp only [Dat.go,Kv,Option.getD_none,List.append_nil]
      rw [e2];exact h
     refine step ⟨o,_,_,[],some _⟩ rfl ⟨i,_,[],true⟩ rfl rfl rfl rfl (ab3 hgd hi2 e h1 h2) ?_
     have e2 : (⟨o,as.flatMap fun s=>reach st.objs FD (s.ev st.env),aP (bD st.objs.length) r,[],some (σ'.map (Option.map (gu (bD st.objs.length))))⟩ : Dat).go st =
       { st with env:=dS st.env o.dst (aP (bD st.objs.length) r),objs:=pF st.objs σ' }:=by
      simp only [Dat.go,kW,List.foldl_nil,pF,Option.getD_some]
     rw [e2];exact h
    ·obtain ⟨vs,e,h⟩:=tJ h
     obtain ⟨r,h1,h⟩:=h
     obtain ⟨hR,h⟩:=h
     refine step ⟨o,_,r,[],none⟩ rfl ⟨i,_,[],false⟩ rfl rfl rfl rfl (Uz hgd hi2 e h1 hR.symm) ?_
     have e2 : (⟨o,as.flatMap fun s=>reach st.objs FD (s.ev st.env),r,[],none⟩ : Dat).go st = { st with env:=dS st.env o.dst r }:=by
      simp only [Dat.go,kW,List.foldl_nil,Option.getD_none,List.append_nil]
     rw [e2];exact h
   ·unfold Jf at h
    obtain ⟨ef,e,h⟩:=Kw h
    refine step ⟨o,o.i.reads st.env,ef.dv (st.base + o.k),ef.writes (st.base + o.k),none⟩ rfl ⟨i,_,_,false⟩ rfl rfl (am5 _ _) rfl (abQ hgd e) ?_
    have e2 : (⟨o,o.i.reads st.env,ef.dv (st.base + o.k),ef.writes (st.base + o.k),none⟩ : Dat).go st = ef.go st o.dst (st.base + o.k):=by
     simp only [Dat.go,Eff.go,Uw,Option.getD_none,List.append_nil]
    rw [e2];exact h
  ·refine step ⟨o,[],.gq [],[],none⟩ rfl ⟨i,[],[],false⟩ rfl rfl rfl rfl (abR hgd he) ?_
   have e2 : (⟨o,[],.gq [],[],none⟩ : Dat).go st = { st with env:=dS st.env o.dst (.gq []) }:=by
    simp only [Dat.go,kW,List.foldl_nil,Option.getD_none,List.append_nil]
   rw [e2];exact h
theorem ab7 {T : Tb} {rf : Nat → Nat → Bool} {ops : List fM} {st : St} {k : St → Prop} (hb : okB (P5 ops) ops 0 = true) (h : Ic T rf st.objs.length ops ops 0 [] st k) : ∃ st',Run T (.any ops [] st) (.code .normal st') ∧ k st':=by
 obtain ⟨ds,h1,⟨acc,h2,h3⟩,h4,h5⟩:=QB (ops:=ops) (st0:=st) [] h (Nat.zero_le _) rfl rfl rfl .nil trivial rfl
 have hB:=NK hb
 simp only [Nat.zero_add] at hB
 have hfit : ∀ {l m},nT ops l m → ∀ p ∈ l,EZ ops p.1 = p.2.x:=by
  intro l m hf
  induction hf with
  | nil=>intro p hp;cases hp
  |
   cons h t ih =>
   intro p hp
   rcases List.mem_cons.1 hp with rfl | hp
   ·rw [← h.1];exact h.2.1
   ·exact ih p hp
 have hlt : ∀ p ∈ ds,p.1 < ops.length:=by
  intro p hp
  have : p.1 ∈ ds.map (·.1):=List.mem_map_of_mem hp
  rw [h1] at this;exact List.mem_range.1 this
 refine ⟨_,run_any (B:=P5 ops) (fun i o j ho hj=>(hB i o ho).1 j hj) ds.length ds [] st (Nat.le_refl _) rfl (Xh h2 h3) (fun e he=>by cases he) h4 ?_ ?_ ?_,h5⟩
 ·rw [h1];exact List.pairwise_lt_range
 ·intro p hp
  have hp2 : ops[p.1]? = some p.2.x:=by
   have:=hfit h2 p hp
   unfold EZ at this
   rw [List.getD_eq_getElem?_getD] at this
   rw [List.getElem?_eq_getElem (hlt p hp)] at this ⊢
   exact congrArg some this
  exact ⟨hp2,by simp,(hB p.1 p.2.x hp2).2⟩
 ·intro i hi _
  have : i ∈ ds.map (·.1):=by rw [h1];exact List.mem_range.2 hi
  obtain ⟨p,hp,e⟩:=List.mem_map.1 this
  exact ⟨p.2,by rw [← e];exact hp⟩
def afB (ef : Eff) (k : V → Prop) : Prop:=match ef with
 | .val v=>k v
 | _=>False
theorem aao {ef : Eff} {k : V → Prop} (h : afB ef k) : ∃ v,ef = .val v ∧ k v:=by
 cases ef <;> first | exact h.elim | exact ⟨_,rfl,h⟩
def CX (T : Tb) : List fM → St → (St → Prop) → Prop
 | [],st,k=>k st
 |
  o :: l,st,k=>gK o.g st.env (match o.i with
  | .call f as=>EG st.env st.objs as fun as'=>PFK T f as' fun r=>Jf (fO st.env st.objs as) fun R =>
    (R = [] ∨ scalar SD r = true) ∧ CX T l { st with env:=dS st.env o.dst r } k
  | x=>x.dO st.env st.objs fun ef=>afB ef fun v=>CX T l { st with env:=dS st.env o.dst v } k)
  (CX T l { st with env:=dS st.env o.dst (.gq []) } k)
def DC (rf : Nat → Nat → Bool) (l : List fM) : Bool:=l.all fun o=>match o.i with
 | .call f _=>!rf f (dN o.dst)
 | _=>true
theorem NM {T : Tb} {ops : List fM} {st0 : St} : ∀ {l : List fM} {i : Nat} {acc : List Acc} {st : St} {k : St → Prop} (ds : List (Nat × Dat)),CX T l st k →
  i ≤ ops.length → ops.drop i = l → ds.length = i → ds.map (·.1) = List.range i → nT ops ds acc.reverse → (∀ a ∈ acc,a.W = [] ∧ a.n = false) → Chain T (ds.map (·.2)) st0 → vS (ds.map (·.2)) st0 = st →
  ∃ ds',ds'.map (·.1) = List.range ops.length ∧ (∃ acc',nT ops ds' acc' ∧ ∀ a ∈ acc',a.W = [] ∧ a.n = false) ∧ Chain T (ds'.map (·.2)) st0 ∧ k (vS (ds'.map (·.2)) st0)
 |
  [],i,acc,st,k,ds,h,hil,hd,hi,hr,hf,hw,hc,hg=>by
  have hl : ops.length = i:=by
   have:=congrArg List.length hd
   simp at this;omega
  exact ⟨ds,by rw [hr,hl],⟨_,hf,by simpa using hw⟩,hc,by rw [hg];exact h⟩
 |
  o :: l,i,acc,st,k,ds,h,_,hd,hi,hr,hf,hw,hc,hg=>by
  have hio : ops[i]? = some o:=by
   have:=congrArg (·[0]?) hd
   simpa using this
  have hd' : ops.drop (i + 1) = l:=by
   rw [← List.drop_drop,hd];rfl
  have hgo : EZ ops i = o:=by simp [EZ,List.getD_eq_getElem?_getD,hio]
  have step : ∀ (R : List Nat) (v : V),Fp T ⟨o,R,v,[],none⟩ st → CX T l { st with env:=dS st.env o.dst v } k → _:=fun R v hfp hk =>
   NM (acc:=⟨i,R,[],false⟩ :: acc) (ds ++ [(i,⟨o,R,v,[],none⟩)]) hk (List.getElem?_eq_some_iff.1 hio).1 hd' (by simp [hi]) (by simp [hr,List.range_succ]) (by
    rw [List.reverse_cons]
    exact hf.append (.cons ⟨rfl,hgo,rfl,rfl,rfl⟩ .nil)) (by
    intro a ha
    rcases List.mem_cons.1 ha with rfl | ha
    ·exact ⟨rfl,rfl⟩
    ·exact hw a ha) (by
    rw [List.map_append];exact Ie _ _ hc (by rw [hg];exact hfp)) (by rw [List.map_append,List.map_cons,List.map_nil,Ig,hg,go_val])
  rcases RP h with ⟨hgd,h⟩ | ⟨t,want,hgd,he,h⟩
  ·split at h
   ·rename_i f as hi2
    obtain ⟨vs,e,h⟩:=tJ h
    obtain ⟨r,h1,h⟩:=h
    obtain ⟨hR,h⟩:=h
    exact step _ r (Uz hgd hi2 e h1 hR.symm) h
   ·obtain ⟨ef,e,h⟩:=Kw h
    obtain ⟨v,rfl,h⟩:=aao h
    exact step _ v (abQ hgd e) h
  ·exact step [] (.gq []) (abR hgd he) h
def am6 (ops : List fM) : Bool:=okA 0 (P5 ops) ops ((List.range ops.length).map fun i=>⟨i,[],[],false⟩)
theorem QC {L : Nat} {B : Nat → List Nat} {ops : List fM} : ∀ {l : List Acc},(∀ a ∈ l,a.W = [] ∧ a.n = false) → okA 0 B ops (l.map fun a=>⟨a.i,[],[],false⟩) = okA L B ops l
 | [],_=>rfl
 |
  a :: l,h=>by
  simp only [List.map_cons,okA]
  rw [QC fun b hb=>h b (by simp [hb])]
  congr 1
  rw [List.all_map]
  have hall : ∀ (m : List Acc),(∀ b ∈ m,b.W = [] ∧ b.n = false) → (m.all ((fun b : Acc=>(B b.i).contains a.i || nS 0 (EZ ops a.i) (EZ ops b.i) ⟨a.i,[],[],false⟩ b) ∘ fun b=>⟨b.i,[],[],false⟩)) =
    m.all fun b=>(B b.i).contains a.i || nS L (EZ ops a.i) (EZ ops b.i) a b:=by
   intro m
   induction m with
   | nil=>intro _;rfl
   |
    cons b m ih =>
    intro hm
    simp only [List.all_cons]
    rw [ih fun c hc=>hm c (by simp [hc])]
    congr 1
    simp only [Function.comp,nS,wC,(h a (by simp)).1,(hm b (by simp)).1,(h a (by simp)).2,(hm b (by simp)).2,List.all_nil,Bool.not_false,Bool.true_or]
  exact hall l fun b hb=>h b (by simp [hb])
theorem aap {T : Tb} {ops : List fM} {st : St} {k : St → Prop} (L : Nat) (h0 : am6 ops = true) (h : CX T ops st k) :
  ∃ ds : List (Nat × Dat),ds.map (·.1) = List.range ops.length ∧ (∃ acc',nT ops ds acc' ∧ okA L (P5 ops) ops acc' = true) ∧ Chain T (ds.map (·.2)) st ∧ k (vS (ds.map (·.2)) st):=by
 obtain ⟨ds,h1,⟨acc,h2,h3⟩,h4,h5⟩:=NM (ops:=ops) (acc:=[]) (st0:=st) [] h (Nat.zero_le _) rfl rfl rfl .nil (by simp) trivial rfl
 refine ⟨ds,h1,⟨acc,h2,?_⟩,h4,h5⟩
 rw [← QC h3]
 have : (acc.map fun a=>(⟨a.i,[],[],false⟩ : Acc)) = (List.range ops.length).map fun i=>⟨i,[],[],false⟩:=by
  rw [← h1,List.map_map]
  clear h1 h3 h4 h5 h h0
  induction h2 with
  | nil=>rfl
  | cons h t ih=>simp only [List.map_cons,Function.comp,h.1,ih]
 rw [this];exact h0
theorem aiL {T : Tb} {ops : List fM} {st : St} (hb : okB (P5 ops) ops 0 = true) {ds : List (Nat × Dat)} (h1 : ds.map (·.1) = List.range ops.length)
  {acc : List Acc} (h2 : nT ops ds acc) (h3 : okA st.objs.length (P5 ops) ops acc = true) (h4 : Chain T (ds.map (·.2)) st) : Run T (.any ops [] st) (.code .normal (vS (ds.map (·.2)) st)):=by
 have hB:=NK hb
 simp only [Nat.zero_add] at hB
 have hfit : ∀ {l m},nT ops l m → ∀ p ∈ l,EZ ops p.1 = p.2.x:=by
  intro l m hf
  induction hf with
  | nil=>intro p hp;cases hp
  |
   cons h t ih =>
   intro p hp
   rcases List.mem_cons.1 hp with rfl | hp
   ·rw [← h.1];exact h.2.1
   ·exact ih p hp
 have hlt : ∀ p ∈ ds,p.1 < ops.length:=by
  intro p hp
  have : p.1 ∈ ds.map (·.1):=List.mem_map_of_mem hp
  rw [h1] at this;exact List.mem_range.1 this
 refine run_any (B:=P5 ops) (fun i o j ho hj=>(hB i o ho).1 j hj) ds.length ds [] st (Nat.le_refl _) rfl (Xh h2 h3) (fun e he=>by cases he) h4 ?_ ?_ ?_
 ·rw [h1];exact List.pairwise_lt_range
 ·intro p hp
  have hp2 : ops[p.1]? = some p.2.x:=by
   have:=hfit h2 p hp
   unfold EZ at this
   rw [List.getD_eq_getElem?_getD] at this
   rw [List.getElem?_eq_getElem (hlt p hp)] at this ⊢
   exact congrArg some this
  exact ⟨hp2,by simp,(hB p.1 p.2.x hp2).2⟩
 ·intro i hi _
  have : i ∈ ds.map (·.1):=by rw [h1];exact List.mem_range.2 hi
  obtain ⟨p,hp,e⟩:=List.mem_map.1 this
  exact ⟨p.2,by rw [← e];exact hp⟩
def CY (l : List fM) : Bool:=l.all fun o=>match o.i with
 | .store .. | .alloc _ | .box _ | .fE .. | .make .. | .app ..=>false
 | _=>true
def C.Ud : C → Bool
 | .reg d m l=>Uc m l && (!d || (okB (P5 l) l 0 && (!CY l || am6 l)))
 | .seq a b=>a.Ud && b.Ud
 | .cond _ a b=>a.Ud && b.Ud
 | .block _ c=>c.Ud
 | .loop c=>c.Ud
 | _=>true
def UF (σ : Store) (m : Nat) : Store:=σ ++ List.replicate m none
def St.in (st : St) (m : Nat) : St:={ st with objs:=UF st.objs m,base:=st.objs.length,rds:=[],muts:=[] }
def RQ (e : Ex) (k q : Prop) : Prop:=match e with
 | .normal=>k
 | _=>q
def LD (T : Tb) (c : C) (Q : Ex → St → Prop) (st : St) : Prop:=∃ e st',Run T (.code (.loop c) st) (.code e st') ∧ Q e st'
def wp (T : Tb) (rf : Nat → Nat → Bool) : C → (Ex → St → Prop) → St → Prop
 | .skip,Q,st=>Q .normal st
 | .reg d m l,Q,st=>if d then (if CY l && DC rf l then CX T l (st.in m) (Q .normal) else Ic T rf (st.in m).objs.length l l 0 [] (st.in m) (Q .normal)) else Xf T rf l (st.in m) (Q .normal)
 | .seq a b,Q,st=>wp T rf a (fun e st=>RQ e (wp T rf b Q st) (Q e st)) st
 | .cond x a b,Q,st=>EX (x.ev st.env) fun t=>if t = true then wp T rf a Q st else wp T rf b Q st
 | .block id c,Q,st=>wp T rf c (fun e st=>Q (Ui id e) st) st
 | .loop c,Q,st=>LD T c Q st
 | .exit id,Q,st=>Q (.exit id) st
 | .ret,Q,st=>Q .ret st
 | .lib _,_,_=>False
theorem qx {T : Tb} {rf : Nat → Nat → Bool} : ∀ {c : C} {Q : Ex → St → Prop} {st : St},c.Ud = true → wp T rf c Q st → ∃ e st',Run T (.code c st) (.code e st') ∧ Q e st'
 | .skip,Q,st,_,h=>⟨_,_,.skip st,h⟩
 |
  .reg d m l,Q,st,hk,h=>by
  simp only [C.Ud,Bool.and_eq_true,Bool.or_eq_true,Bool.not_eq_true'] at hk
  obtain ⟨hk,hk2⟩:=hk
  unfold wp at h
  cases d with
  |
   false =>
   obtain ⟨st',h1,h2⟩:=Qy (by simpa using h)
   exact ⟨_,_,.reg hk h1,h2⟩
  |
   true =>
   simp only [Bool.true_eq_false,false_or] at hk2
   simp only [if_true] at h
   split at h
   ·rename_i hw
    simp only [Bool.and_eq_true] at hw
    rcases hk2.2 with h' | h'
    ·rw [h'] at hw;cases hw.1
    obtain ⟨ds,h1,⟨acc,h2,h3⟩,h4,h5⟩:=aap (st.in m).objs.length h' h
    exact ⟨_,_,.aiD hk (aiL hk2.1 h1 h2 h3 h4),h5⟩
   ·obtain ⟨st',h1,h2⟩:=ab7 hk2.1 h
    exact ⟨_,_,.aiD hk h1,h2⟩
 |
  .seq a b,Q,st,hk,h=>by
  simp only [C.Ud,Bool.and_eq_true] at hk
  obtain ⟨e,st1,h1,h2⟩:=qx hk.1 (Q:=fun e st=>RQ e (wp T rf b Q st) (Q e st)) h
  cases e with
  |
   normal =>
   obtain ⟨e,st2,h3,h4⟩:=qx hk.2 (Q:=Q) h2
   exact ⟨e,st2,.amO h1 h3,h4⟩
  | exit id=>exact ⟨_,_,.aiE (by simp) h1,h2⟩
  | ret=>exact ⟨_,_,.aiE (by simp) h1,h2⟩
 |
  .cond x a b,Q,st,hk,h=>by
  simp only [C.Ud,Bool.and_eq_true] at hk
  obtain ⟨t,e,h⟩:=Xe h
  cases t with
  |
   true =>
   obtain ⟨e2,st2,h1,h2⟩:=qx hk.1 (Q:=Q) (by simpa using h)
   exact ⟨e2,st2,.cond e h1,h2⟩
  |
   false =>
   obtain ⟨e2,st2,h1,h2⟩:=qx hk.2 (Q:=Q) (by simpa using h)
   exact ⟨e2,st2,.cond e h1,h2⟩
 |
  .block id c,Q,st,hk,h=>by
  obtain ⟨e,st1,h1,h2⟩:=qx (c:=c) (Q:=fun e st=>Q (Ui id e) st) hk h
  exact ⟨_,_,.block h1,h2⟩
 | .loop c,Q,st,_,h=>h
 | .exit id,Q,st,_,h=>⟨_,_,.exit id st,h⟩
 | .ret,Q,st,_,h=>⟨_,_,.ret st,h⟩
 | .lib _,_,_,_,h=>by simp [wp] at h
def wr {α : Sort _} (a : α) : α:=a
theorem nr {α : Sort _} {a b : α} (h : a = b) : a = b:=h
theorem gG {α : Sort _} (a : α) : wr a = a:=nr rfl
def Ky (σ : Store) (k : Store → Prop) : Prop:=k σ
theorem aiM (k : Store → Prop) : Ky [] k = k []:=nr rfl
theorem aiN (a : Option Obj) (σ : Store) (k : Store → Prop) : Ky (a :: σ) k = k (a :: σ):=nr rfl
@[congr] theorem ap0 {v v' : Store} {k : Store → Prop} (h : wr v = v') : Ky v k = Ky v' k:=by rw [← h,gG]
def Ih (n : Nat) (k : Nat → Prop) : Prop:=k n
theorem afC (n : Nat) (k : Nat → Prop) : Ih n k = k n:=nr rfl
@[congr] theorem ap1 {v v' : Nat} {k : Nat → Prop} (h : wr v = v') : Ih v k = Ih v' k:=by rw [← h,gG]
def Xi (t : Bool) (a b : Prop) : Prop:=if t = true then a else b
@[congr] theorem arD {t t' : Bool} {a b : Prop} (h : wr t = t') : Xi t a b = Xi t' a b:=by rw [← h,gG]
theorem aif (a b : Prop) : Xi true a b = a:=by simp [Xi]
theorem aii (a b : Prop) : Xi false a b = b:=by simp [Xi]
theorem afD (t : Bool) (a b : Prop) : Xi (!t) a b = Xi t b a:=by cases t <;> simp [Xi]
theorem aN {c : Prop} [Decidable c] {a b : Prop} (h1 : c → a) (h2 : ¬ c → b) : Xi (decide c) a b:=by
 unfold Xi
 by_cases h : c
 ·rw [if_pos (decide_eq_true h)];exact h1 h
 ·rw [if_neg (by simpa using h)];exact h2 h
def vT (v : V) (k : V → Prop) : Prop:=k v
theorem aiO (v : V) (k : V → Prop) : vT v k = k v:=nr rfl
@[congr] theorem arE {v v' : V} {k : V → Prop} (h : wr v = v') : vT v k = vT v' k:=by rw [← h,gG]
@[congr] theorem ap2 {α : Type} {v v' : Option α} {k : α → Prop} (h : wr v = v') : dI v k = dI v' k:=by rw [← h,gG]
@[congr] theorem am7 {v v' : V} {k : Bool → Prop} (h : wr v = v') : EX v k = EX v' k:=by rw [← h,gG]
@[congr] theorem arF {w : Bool} {v v' : V} {k : Bool → Prop} (h : wr v = v') : gdK w v k = gdK w v' k:=by rw [← h,gG]
@[congr] theorem ap3 {v v' : List Nat} {k : List Nat → Prop} (h : wr v = v') : Jf v k = Jf v' k:=by rw [← h,gG]
@[congr] theorem amv {n n' : Nat} {v v' : V} {k : Nat → Prop} (h0 : wr n = n') (h : wr v = v') : nP n v k = nP n' v' k:=by rw [← h0,← h,gG,gG]
@[congr] theorem aij {n n' : Nat} {v v' : V} {k : Nat → Prop} (h0 : wr n = n') (h : wr v = v') : ji n v k = ji n' v' k:=by rw [← h0,← h,gG,gG]
@[congr] theorem ap4 {op : BinOp} {x x' y y' : V} {k : V → Prop} (h0 : wr x = x') (h : wr y = y') : oq op x y k = oq op x' y' k:=by rw [← h0,← h,gG,gG]
@[congr] theorem arG {T : Tb} {f : Nat} {as as' : List V} {k : V → Prop} (h : wr as = as') : PFK T f as k = PFK T f as' k:=by rw [← h,gG]
@[congr] theorem ap5 {T : Tb} {f f' : Nat} {as : List Src} {d : Option Nat} {st : St} {k : St → Prop} (h : wr f = f') : Ib T f as d st k = Ib T f' as d st k:=by rw [← h,gG]
@[congr] theorem am8 {T T' : Tb} {c : C} {Q : Ex → St → Prop} {st : St} (h : wr T = T') : LD T c Q st = LD T' c Q st:=by rw [← h,gG]
@[congr] theorem arH {L : Nat} {ops : List fM} {l l' : List Acc} (h : wr l = l') : lU L ops l = lU L ops l':=by rw [← h,gG]
@[congr] theorem ap6 {T : Tb} {f f' : Nat} {as : List Src} {d : Option Nat} {st : St} {k : List Nat → List Nat → Bool → St → Prop} (h : wr f = f') : Xg T f as d st k = Xg T f' as d st k:=by rw [← h,gG]
theorem aaq {α : Type} (a : α) (k : α → Prop) : dI (some a) k = k a:=nr rfl
theorem am9 (want b : Bool) (k : Bool → Prop) : gdK want (.bool b) k = k b:=nr rfl
theorem ana (want : Bool) (k : Bool → Prop) : gdK want (.gq []) k = k (!want):=nr rfl
theorem afE (b : Bool) (k : Bool → Prop) : EX (.bool b) k = k b:=nr rfl
theorem ab8 (k : List Nat → Prop) : Jf [] k = k []:=nr rfl
theorem aar (a : Nat) (l : List Nat) (k : List Nat → Prop) : Jf (a :: l) k = k (a :: l):=nr rfl
theorem aas {n : Nat} {q : IntKind} {i : Int} {k : Nat → Prop} (h : 0 ≤ i ∧ i < n) : nP n (.int q i) k = k i.toNat:=by
 simp [nP,h]
theorem UG {n : Nat} {q : IntKind} {i : Int} {k : Nat → Prop} (h : 0 ≤ i ∧ i ≤ n) : ji n (.int q i) k = k i.toNat:=by
 simp [ji,h]
theorem w64 {n : Int} (h : -9223372036854775808 ≤ n ∧ n ≤ 9223372036854775807) : IntKind.i64.wrap n = n:=IntWalk.i64_in n h
theorem arI {n : Int} (h : 0 ≤ n ∧ n ≤ 4294967295) : IntKind.u32.wrap n = n:=IntWalk.u32_in n h
theorem arJ {n : Int} (h : 0 ≤ n ∧ n ≤ 18446744073709551615) : IntKind.u64.wrap n = n:=IntWalk.u64_in n h
theorem w8u {n : Int} (h : 0 ≤ n ∧ n ≤ 255) : IntKind.u8.wrap n = n:=IntWalk.u8_in n h
theorem arK (n : Nat) (env : Nat → V) : Src.ev env (.t n) = env n:=nr rfl
theorem arL (v : V) (env : Nat → V) : Src.ev env (.c v) = v:=nr rfl
theorem aat (env : Nat → V) (v : V) : dS env none v = env:=nr rfl
theorem afF (env : Nat → V) (t : Nat) (v : V) (s : Nat) : dS env (some t) v s = if s = t then v else env s:=nr rfl
theorem aiP (env : Nat → V) (t : Nat) (v : V) (s : Nat) : upd env t v s = if s = t then v else env s:=nr rfl
theorem aiQ (a : V) (l : List V) : dX (a :: l) 0 = a:=nr rfl
theorem aiR (a : V) (l : List V) (n : Nat) : dX (a :: l) (n + 1) = dX l n:=nr rfl
theorem aiS (n : Nat) : dX [] n = .any:=nr rfl
theorem afG (a : Option Obj) (l : Store) : aj (a :: l) 0 = a:=nr rfl
theorem afH (a : Option Obj) (l : Store) (n : Nat) : aj (a :: l) (n + 1) = aj l n:=nr rfl
theorem afI (n : Nat) : aj [] n = none:=nr rfl
theorem anb (a : Option Obj) (l : Store) (x : Option Obj) : List.set (a :: l) 0 x = x :: l:=nr rfl
theorem anc (a : Option Obj) (l : Store) (n : Nat) (x : Option Obj) : List.set (a :: l) (n + 1) x = a :: List.set l n x:=nr rfl
theorem aiT (σ : Store) : UF σ 0 = σ:=by simp [UF]
theorem aiU (σ : Store) (n : Nat) : UF σ (n + 1) = UF (σ ++ [none]) n:=by simp [UF,List.replicate_succ]
theorem ab9 (args : List V) (σ : Store) : St.enter args σ = ⟨dX args,σ,σ.length,0,[],[]⟩:=nr rfl
theorem acd (σ : Store) : cO σ [] = σ:=nr rfl
theorem aau (σ : Store) (o : Nat) (l : List Nat) : cO σ (o :: l) = cO (σ.set o none) l:=nr rfl
section
variable (T : Tb) (rf : Nat → Nat → Bool) (Q : Ex → St → Prop) (st : St) (k : St → Prop) (env : Nat → V) (σ : Store) (kp bs : Nat) (rs ms : List Nat)
def goK (st : St) (d : Option Nat) (id : Nat) (ef : Eff) (k : St → Prop) : Prop:=k (ef.go st d id)
@[congr] theorem arM {st : St} {d : Option Nat} {id id' : Nat} {ef : Eff} {k : St → Prop} (h : wr id = id') : goK st d id ef k = goK st d id' ef k:=by rw [← h,gG]
theorem ane (t id : Nat) (v : V) : goK ⟨env,σ,kp,bs,rs,ms⟩ (some t) id (.val v) k = k ⟨upd env t v,σ,kp,bs,rs,ms⟩:=nr rfl
theorem aiV (id : Nat) (v : V) : goK ⟨env,σ,kp,bs,rs,ms⟩ none id (.val v) k = k ⟨env,σ,kp,bs,rs,ms⟩:=nr rfl
theorem anf (t id : Nat) (ob : Obj) : goK ⟨env,σ,kp,bs,rs,ms⟩ (some t) id (.newP ob) k = Ky (σ.set id (some ob)) fun σ=>k ⟨upd env t (.ptr id 0 0),σ,kp,bs,rs,ms⟩:=nr rfl
theorem ang (t id : Nat) (ob : Obj) (n : Nat) : goK ⟨env,σ,kp,bs,rs,ms⟩ (some t) id (.newS ob n) k = Ky (σ.set id (some ob)) fun σ=>k ⟨upd env t (.bF id 0 n),σ,kp,bs,rs,ms⟩:=nr rfl
theorem anh (id o : Nat) (ob : Obj) : goK ⟨env,σ,kp,bs,rs,ms⟩ none id (.upd o ob) k = Ky (σ.set o (some ob)) fun σ=>k ⟨env,σ,kp,bs,rs,ms⟩:=nr rfl
theorem ani (t id o : Nat) (ob : Obj) (n : Nat) : goK ⟨env,σ,kp,bs,rs,ms⟩ (some t) id (.iw o ob n) k = Ky ((σ.set o none).set id (some ob)) fun σ=>k ⟨upd env t (.bF id 0 n),σ,kp,bs,rs,ms⟩:=nr rfl
theorem wp_skip : wp T rf .skip Q st = Q .normal st:=nr rfl
theorem afJ (m : Nat) (l : List fM) : wp T rf (.reg false m l) Q ⟨env,σ,kp,bs,rs,ms⟩ = Ih σ.length fun b=>Ky (UF σ m) fun σ=>Xf T rf l ⟨env,σ,kp,b,[],[]⟩ (Q .normal):=nr rfl
theorem afK (m : Nat) (l : List fM) : wp T rf (.reg true m l) Q ⟨env,σ,kp,bs,rs,ms⟩ = Ih σ.length fun b=>Ky (UF σ m) fun σ=>if (CY l && DC rf l) = true then CX T l ⟨env,σ,kp,b,[],[]⟩ (Q .normal) else Ih σ.length fun L=>Ic T rf L l l 0 [] ⟨env,σ,kp,b,[],[]⟩ (Q .normal):=nr rfl
theorem wp_seq (a b : C) : wp T rf (.seq a b) Q st = wp T rf a (fun e st=>RQ e (wp T rf b Q st) (Q e st)) st:=nr rfl
theorem wp_cond (x : Src) (a b : C) : wp T rf (.cond x a b) Q st = EX (x.ev st.env) fun t=>if t = true then wp T rf a Q st else wp T rf b Q st:=nr rfl
theorem ace (x : Src) (a b : C) : wp T rf (.cond x a b) Q ⟨env,σ,kp,bs,rs,ms⟩ = EX (x.ev env) fun t=>Xi t (wp T rf a Q ⟨env,σ,kp,bs,rs,ms⟩) (wp T rf b Q ⟨env,σ,kp,bs,rs,ms⟩):=nr rfl
theorem wp_block (id : Nat) (c : C) : wp T rf (.block id c) Q st = wp T rf c (fun e st=>Q (Ui id e) st) st:=nr rfl
theorem wp_loop (c : C) : wp T rf (.loop c) Q st = LD T c Q st:=nr rfl
theorem wp_exit (id : Nat) : wp T rf (.exit id) Q st = Q (.exit id) st:=nr rfl
theorem wp_ret : wp T rf .ret Q st = Q .ret st:=nr rfl
theorem aiW (a b : Prop) : RQ .normal a b = a:=nr rfl
theorem aiX (id : Nat) (a b : Prop) : RQ (.exit id) a b = b:=nr rfl
theorem aiY (a b : Prop) : RQ .ret a b = b:=nr rfl
theorem aiZ (id : Nat) : Ui id .normal = .normal:=nr rfl
theorem ai0 (id : Nat) : Ui id .ret = .ret:=nr rfl
theorem ai1 (id j : Nat) : Ui id (.exit j) = if j = id then .normal else .exit j:=nr rfl
theorem ai2 : Xf T rf [] st k = k st:=nr rfl
theorem ai3 (o : fM) (l : List fM) : Xf T rf (o :: l) st k = opK T rf o st fun st=>Xf T rf l st k:=nr rfl
theorem ai4 (g : Option (Nat × Bool)) (d : Option Nat) (n : Nat) (i : I) (a : List Nat) : opK T rf ⟨g,d,n,i,a⟩ ⟨env,σ,kp,bs,rs,ms⟩ k = gK g env (match i with
  | .call f as=>if rf f (dN d) = true then Ib T f as d ⟨env,σ,kp,bs,rs,ms⟩ k else EG env σ as fun as'=>PFK T f as' fun r =>
    Ky (cO σ (if scalar SD r then [] else fO env σ as)) fun σ=>k ⟨dS env d r,σ,kp,bs,rs,ms⟩
  | i=>Ih (bs + n) fun id=>i.dO env σ fun ef=>goK ⟨env,σ,kp,bs,rs,ms⟩ d id ef k)
  (k ⟨dS env d (.gq []),σ,kp,bs,rs,ms⟩):=by cases i <;> rfl
theorem afL : CX T [] st k = k st:=nr rfl
theorem afM (g : Option (Nat × Bool)) (d : Option Nat) (n : Nat) (i : I) (a : List Nat) (l : List fM) : CX T (⟨g,d,n,i,a⟩ :: l) ⟨env,σ,kp,bs,rs,ms⟩ k = gK g env (match i with
  | .call f as=>EG env σ as fun as'=>PFK T f as' fun r=>Jf (fO env σ as) fun R =>
    (R = [] ∨ scalar SD r = true) ∧ CX T l ⟨dS env d r,σ,kp,bs,rs,ms⟩ k
  | x=>x.dO env σ fun ef=>afB ef fun v=>CX T l ⟨dS env d v,σ,kp,bs,rs,ms⟩ k)
  (CX T l ⟨dS env d (.gq []),σ,kp,bs,rs,ms⟩ k):=by cases i <;> rfl
theorem ai5 (L : Nat) (ops : List fM) (i : Nat) (acc : List Acc) : Ic T rf L ops [] i acc st k = (lU L ops acc ∧ k st):=nr rfl
theorem ai6 (L : Nat) (ops : List fM) (g : Option (Nat × Bool)) (d : Option Nat) (n : Nat) (x : I) (a : List Nat) (l : List fM) (i : Nat) (acc : List Acc) : Ic T rf L ops (⟨g,d,n,x,a⟩ :: l) i acc ⟨env,σ,kp,bs,rs,ms⟩ k = gK g env (match x with
  | .call f as=>if rf f (dN d) = true then Xg T f as d ⟨env,σ,kp,bs,rs,ms⟩ fun R W n st=>Ih (i + 1) fun j=>Ic T rf L ops l j (⟨i,R,W,n⟩ :: acc) st k
    else EG env σ as fun as'=>PFK T f as' fun r=>Jf (fO env σ as) fun R =>
    (R = [] ∨ scalar SD r = true) ∧ Ih (i + 1) fun j=>Ic T rf L ops l j (⟨i,R,[],false⟩ :: acc) ⟨dS env d r,σ,kp,bs,rs,ms⟩ k
  | x
    => Jf (x.reads env) fun R=>Ih (bs + n) fun id=>x.dO env σ fun ef=>Jf (ef.wr id) fun W=>Ih (i + 1) fun j =>
    goK ⟨env,σ,kp,bs,rs,ms⟩ d id ef fun st=>Ic T rf L ops l j (⟨i,R,W,false⟩ :: acc) st k)
  (Ih (i + 1) fun j=>Ic T rf L ops l j (⟨i,[],[],false⟩ :: acc) ⟨dS env d (.gq []),σ,kp,bs,rs,ms⟩ k):=by cases x <;> rfl
end
theorem arN (env : Nat → V) (a b : Prop) : gK none env a b = a:=nr rfl
theorem arO (t : Nat) (env : Nat → V) (on off : Prop) : gK (some (t,true)) env on off = gdK true (env t) fun b=>Xi b on off:=nr rfl
theorem arP (t : Nat) (env : Nat → V) (on off : Prop) : gK (some (t,false)) env on off = gdK false (env t) fun b=>Xi b off on:=nr rfl
theorem ai7 (v : V) (k : V → Prop) : afB (.val v) k = k v:=nr rfl
theorem arQ (v : V) (id : Nat) : Eff.wr id (.val v) = []:=nr rfl
theorem arR (ob : Obj) (id : Nat) : Eff.wr id (.newP ob) = [id]:=nr rfl
theorem arS (ob : Obj) (n : Nat) (id : Nat) : Eff.wr id (.newS ob n) = [id]:=nr rfl
theorem arT (ob : Obj) (o : Nat) (id : Nat) : Eff.wr id (.upd o ob) = [o]:=nr rfl
theorem arU (ob : Obj) (o n : Nat) (id : Nat) : Eff.wr id (.iw o ob n) = [o,id]:=nr rfl
def iQ (v : V) (k : List V → Prop) : Prop:=dI v.cells? k
@[congr] theorem amw {v v' : V} {k : List V → Prop} (h : wr v = v') : iQ v k = iQ v' k:=by rw [← h,gG]
theorem Xj (q : IntKind) (n : Int) (k : List V → Prop) : iQ (.int q n) k = k [.int q n]:=nr rfl
theorem UH (b : Bool) (k : List V → Prop) : iQ (.bool b) k = k [.bool b]:=nr rfl
theorem Xk (s : List UInt8) (k : List V → Prop) : iQ (.str s) k = k [.str s]:=nr rfl
theorem UJ (k : List V → Prop) : iQ .ak k = k [.ak]:=nr rfl
theorem Xl (k : List V → Prop) : iQ .one k = k [.one]:=nr rfl
theorem aav (sz : Nat) (r : List (List V)) (k : List V → Prop) : iQ (.sl sz r) k = k [.sl sz r]:=nr rfl
theorem Xm (o s l : Nat) (k : List V → Prop) : iQ (.bF o s l) k = k [.bF o s l]:=nr rfl
theorem Xn (o s l : Nat) (k : List V → Prop) : iQ (.ptr o s l) k = k [.ptr o s l]:=nr rfl
theorem UK (r : List V) (o : Nat) (k : List V → Prop) : iQ (.eU r o) k = k [.eU r o]:=nr rfl
theorem Xo (cs : List V) (k : List V → Prop) : iQ (.agg cs) k = if cs.all V.leaf = true then k cs else False:=by
 simp only [iQ,V.cells?];split <;> rfl
def UL (σ : Store) (v : V) (k : Nat → Nat → Nat → Prop) (kf : List V → Nat → Prop) : Prop:=match v with
 | .ptr o r off=>k o r off
 | .eU row off=>kf row off
 | _=>False
@[congr] theorem ap7 {σ : Store} {v v' : V} {k : Nat → Nat → Nat → Prop} {kf : List V → Nat → Prop} (h : wr v = v') : UL σ v k kf = UL σ v' k kf:=by rw [← h,gG]
theorem ai8 (σ : Store) (o r off : Nat) (k : Nat → Nat → Nat → Prop) (kf : List V → Nat → Prop) : UL σ (.ptr o r off) k kf = k o r off:=nr rfl
theorem ai9 (σ : Store) (r : List V) (off : Nat) (k : Nat → Nat → Nat → Prop) (kf : List V → Nat → Prop) : UL σ (.eU r off) k kf = kf r off:=nr rfl
def slK (v : V) (kn : Prop) (kf : Nat → List (List V) → Prop) (km : Nat → Nat → Nat → Prop) : Prop:=match v with
 | .ak=>kn
 | .sl sz rows=>kf sz rows
 | .bF o s l=>km o s l
 | _=>False
@[congr] theorem arV {v v' : V} {kn : Prop} {kf : Nat → List (List V) → Prop} {km : Nat → Nat → Nat → Prop} (h : wr v = v') : slK v kn kf km = slK v' kn kf km:=by rw [← h,gG]
theorem anj (kn : Prop) (kf : Nat → List (List V) → Prop) (km : Nat → Nat → Nat → Prop) : slK .ak kn kf km = kn:=nr rfl
theorem ank (sz : Nat) (r : List (List V)) (kn : Prop) (kf : Nat → List (List V) → Prop) (km : Nat → Nat → Nat → Prop) : slK (.sl sz r) kn kf km = kf sz r:=nr rfl
theorem anl (o s l : Nat) (kn : Prop) (kf : Nat → List (List V) → Prop) (km : Nat → Nat → Nat → Prop) : slK (.bF o s l) kn kf km = km o s l:=nr rfl
def UM (v : V) (k : IntKind → Int → Prop) : Prop:=match v with
 | .int q n=>k q n
 | _=>False
@[congr] theorem ap8 {v v' : V} {k : IntKind → Int → Prop} (h : wr v = v') : UM v k = UM v' k:=by rw [← h,gG]
theorem aja (q : IntKind) (n : Int) (k : IntKind → Int → Prop) : UM (.int q n) k = k q n:=nr rfl
def aaw (v : V) (k : List UInt8 → Prop) : Prop:=match v with
 | .str s=>k s
 | _=>False
@[congr] theorem ap9 {v v' : V} {k : List UInt8 → Prop} (h : wr v = v') : aaw v k = aaw v' k:=by rw [← h,gG]
theorem ajb (s : List UInt8) (k : List UInt8 → Prop) : aaw (.str s) k = k s:=nr rfl
def afN (v : V) (k : List V → Prop) : Prop:=match v with
 | .gq s=>k s
 | _=>False
@[congr] theorem aqa {v v' : V} {k : List V → Prop} (h : wr v = v') : afN v k = afN v' k:=by rw [← h,gG]
def afO (v : V) (k : List V → Prop) : Prop:=match v with
 | .agg s=>k s
 | _=>False
@[congr] theorem aqb {v v' : V} {k : List V → Prop} (h : wr v = v') : afO v k = afO v' k:=by rw [← h,gG]
theorem ajc (s : List V) (k : List V → Prop) : afO (.agg s) k = k s:=nr rfl
theorem ajd (s : List V) (k : List V → Prop) : afN (.gq s) k = k s:=nr rfl
section
variable (env : Nat → V) (σ : Store) (k : Eff → Prop)
theorem anm (x : Src) : I.dO env σ (.iw x) k = vT (x.ev env) fun v=>k (.val v):=nr rfl
theorem aje (c a b : Src) : I.dO env σ (.pick c a b) k = EX (c.ev env) fun t=>Xi t (vT (a.ev env) fun v=>k (.val v)) (vT (b.ev env) fun v=>k (.val v)):=by
 simp only [I.dO];cases c.ev env with | bool t=>cases t <;> rfl | _=>rfl
theorem afP (z : List V) : I.dO env σ (.alloc z) k = k (.newP ⟨z.length,[z]⟩):=nr rfl
theorem ano (x : Src) : I.dO env σ (.box x) k = iQ (x.ev env) fun cs=>match cs with | c :: cs=>k (.newP ⟨(c :: cs).length,[c :: cs]⟩) | []=>False:=by
 simp only [I.dO,iQ];cases (x.ev env).cells? with | none=>rfl | some cs=>cases cs <;> rfl
theorem afQ (z : List V) (ps : List (Nat × Nat × Src)) : I.dO env σ (.build z ps) k = dI (qU env z ps) fun cs=>k (.val (.agg cs)):=nr rfl
theorem ajf (sz : Nat) (z : List V) (ln : Nat) (ps : List (Nat × Src)) : I.dO env σ (.fE sz z ln ps) k =
  dI (jE env sz (List.replicate ln z) ps) fun rows=>if ln = 0 then k (.val .ak) else k (.newS ⟨sz,rows⟩ ln):=nr rfl
theorem ajg (z : List V) (b : Nat) (x : Src) : I.dO env σ (.make z b x) k = UM (x.ev env) fun q n=>match q with
  | .i64=>(0 ≤ n ∧ n ≤ 2 ^ 47 ∧ n * b ≤ 2 ^ 47) ∧ k (.newS ⟨z.length,List.replicate n.toNat z⟩ n.toNat) | _=>False:=by
 simp only [I.dO];cases x.ev env with | int q n=>cases q <;> rfl | _=>rfl
theorem afR (n : Nat) (a : Src) : I.dO env σ (.load n false a) k = dI (rowAt σ (a.ev env)) fun p=>dI p.1[p.2]? fun v=>vT v fun v=>k (.val v):=nr rfl
theorem afS (n : Nat) (a : Src) : I.dO env σ (.load n true a) k = dI (rowAt σ (a.ev env)) fun p=>p.2 + n ≤ p.1.length ∧ vT (.agg ((p.1.drop p.2).take n)) fun v=>k (.val v):=nr rfl
theorem
    afT (n : Nat) (a x : Src) : I.dO env σ (.store n a x) k = UL σ (a.ev env) (fun o r off=>iQ (x.ev env) fun cs=>dI (aj σ o) fun ob=>dI ob.rows[r]? fun row =>
    (cs.length = n ∧ off + n ≤ row.length) ∧ k (.upd o ⟨ob.sz,ob.rows.set r (splice row off cs)⟩)) fun _ _=>False:=by
 simp only [I.dO];cases a.ev env <;> rfl
theorem anp (d : Nat) (a : Src) : I.dO env σ (.fld d a) k = UL σ (a.ev env) (fun o r off=>dI (aj σ o) fun _=>vT (.ptr o r (off + d)) fun v=>k (.val v)) fun row off=>vT (.eU row (off + d)) fun v=>k (.val v):=by
 simp only [I.dO];cases a.ev env <;> rfl
theorem anq (sz : Nat) (x i : Src) : I.dO env σ (.idx sz x i) k = slK (x.ev env) False (fun sz' rows=>nP rows.length (i.ev env) fun j=>sz' = sz ∧ vT (.eU (rows.getD j []) 0) fun v=>k (.val v))
  (fun o s l=>dI (aj σ o) fun ob=>nP l (i.ev env) fun j=>ob.sz = sz ∧ vT (.ptr o (s + j) 0) fun v=>k (.val v)):=by
 simp only [I.dO];cases x.ev env <;> rfl
theorem ajh (c sz : Nat) (x i : Src) : I.dO env σ (.Ry c sz x i) k = UL σ (x.ev env) (fun o r off=>nP c (i.ev env) fun j=>dI (aj σ o) fun _=>vT (.ptr o r (off + j * sz)) fun v=>k (.val v))
  fun row off=>nP c (i.ev env) fun j=>vT (.eU row (off + j * sz)) fun v=>k (.val v):=by
 simp only [I.dO];cases x.ev env <;> rfl
theorem aji (x i : Src) : I.dO env σ (.Uf x i) k = aaw (x.ev env) fun s=>nP s.length (i.ev env) fun j=>vT (.int .u8 (s.getD j 0).toNat) fun v=>k (.val v):=by
 simp only [I.dO];cases x.ev env <;> rfl
theorem ajj (c : Nat) (x i : Src) : I.dO env σ (.Uh c x i) k = afO (x.ev env) fun cs=>nP c (i.ev env) fun j=>dI cs[j]? fun v=>vT v fun v=>k (.val v):=by
 simp only [I.dO];cases x.ev env <;> rfl
theorem anr (x : Src) : I.dO env σ (.len x) k = dI (lenOf σ (x.ev env)) fun n=>vT (.int .i64 n) fun v=>k (.val v):=nr rfl
theorem ajk (x : Src) : I.dO env σ (.Ug x) k = aaw (x.ev env) fun s=>vT (.int .i64 s.length) fun v=>k (.val v):=by
 simp only [I.dO];cases x.ev env <;> rfl
theorem ant (op : BinOp) (x y : Src) : I.dO env σ (.bin op x y) k = oq op (x.ev env) (y.ev env) fun v=>vT v fun v=>k (.val v):=nr rfl
theorem anu (ne : Bool) (x y : Src) : I.dO env σ (.beq ne x y) k = EX (x.ev env) fun a=>EX (y.ev env) fun b=>vT (.bool (if ne = true then !(a == b) else a == b)) fun v=>k (.val v):=by
 simp only [I.dO];cases x.ev env <;> first | rfl | (cases y.ev env <;> rfl)
theorem anv (x : Src) : I.dO env σ (.un .not x) k = EX (x.ev env) fun a=>vT (.bool (!a)) fun v=>k (.val v):=by
 simp only [I.dO];cases x.ev env <;> rfl
theorem anw (x : Src) : I.dO env σ (.un .neg x) k = UM (x.ev env) fun q n=>vT (.int q (q.wrap (0 - n))) fun v=>k (.val v):=by
 simp only [I.dO];cases x.ev env <;> rfl
theorem ajl (q : IntKind) (x : Src) : I.dO env σ (.conv q x) k = UM (x.ev env) fun _ n=>vT (.int q (q.wrap n)) fun v=>k (.val v):=by
 simp only [I.dO];cases x.ev env <;> rfl
theorem anx (x y : Src) : I.dO env σ (.max x y) k = UM (x.ev env) fun q a=>UM (y.ev env) fun q' b=>q = q' ∧ vT (.int q (if b > a then b else a)) fun v=>k (.val v):=by
 simp only [I.dO];cases x.ev env <;> first | rfl | (cases y.ev env <;> rfl)
theorem ajm (i : Nat) (x : Src) : I.dO env σ (.PL i x) k = afN (x.ev env) fun vs=>dI vs[i]? fun v=>vT v fun v=>k (.val v):=by
 simp only [I.dO];cases x.ev env <;> rfl
theorem anz (x : Src) : I.dO env σ (.chk x) k = UL σ (x.ev env) (fun o r off=>dI (aj σ o) fun _=>k (.val (.ptr o r off))) fun row off=>k (.val (.eU row off)):=by
 simp only [I.dO];cases x.ev env <;> rfl
theorem anA (sz b : Nat) (x y : Src) : I.dO env σ (.app sz b x y) k = vT (x.ev env) fun xv=>dI (rowsOf σ xv) fun old=>dI (rowsOf σ (y.ev env)) fun new =>
  (new.2 = [] → k (.val xv)) ∧ (new.2 ≠ [] → (new.1 = sz ∧ (old.2.length + new.2.length) * b ≤ 2 ^ 40 ∧ old.2.length + new.2.length ≤ 2 ^ 40) ∧
   slK xv (k (.newS ⟨sz,new.2⟩ new.2.length)) (fun _ _=>False) fun o _ _=>dI (aj σ o) fun ob=>ob.sz = sz ∧ k (.iw o ⟨sz,old.2 ++ new.2⟩ (old.2.length + new.2.length))):=by
 simp only [I.dO,vT];cases x.ev env <;> rfl
end
section
variable (k : V → Prop) (q : IntKind) (a b : Int)
theorem anB : oq .add (.int q a) (.int q b) k = k (.int q (q.wrap (a + b))):=by simp [oq]
theorem anC : oq .sub (.int q a) (.int q b) k = k (.int q (q.wrap (a - b))):=by simp [oq]
theorem anD : oq .mul (.int q a) (.int q b) k = k (.int q (q.wrap (a * b))):=by simp [oq]
theorem anE {b : Int} (h : b ≠ 0) : oq .quo (.int q a) (.int q b) k = k (.int q (q.wrap (a.tdiv b))):=by simp [oq,h]
theorem anF {b : Int} (h : b ≠ 0) : oq .rem (.int q a) (.int q b) k = k (.int q (a.tmod b)):=by simp [oq,h]
theorem anG : oq .eql (.int q a) (.int q b) k = k (.bool (decide (a = b))):=by simp [oq];rfl
theorem anH : oq .neq (.int q a) (.int q b) k = k (.bool (!decide (a = b))):=by simp [oq,bne];rfl
theorem anI : oq .lss (.int q a) (.int q b) k = k (.bool (decide (a < b))):=by simp [oq]
theorem anJ : oq .leq (.int q a) (.int q b) k = k (.bool (decide (a ≤ b))):=by simp [oq]
theorem anK : oq .gtr (.int q a) (.int q b) k = k (.bool (decide (b < a))):=by simp [oq]
theorem anL : oq .geq (.int q a) (.int q b) k = k (.bool (decide (b ≤ a))):=by simp [oq]
theorem anM (q' : IntKind) (h : 0 ≤ b) : oq .shr (.int q a) (.int q' b) k = k (.int q (a.fdiv (2 ^ (min b.toNat q.bits)))):=by simp [oq,h]
theorem anN : oq .and (.int q a) (.int q b) k = k (.int q (Bg q a b)):=by simp [oq]
theorem anO : oq .xor (.int q a) (.int q b) k = k (.int q (ML q a b)):=by simp [oq]
theorem ajn (s t : List UInt8) : oq .eql (.str s) (.str t) k = k (.bool (s == t)):=nr rfl
theorem ajo (s t : List UInt8) : oq .neq (.str s) (.str t) k = k (.bool (!(s == t))):=nr rfl
end
theorem afU (σ : Store) (row : List V) (off : Nat) : rowAt σ (.eU row off) = some (row,off):=nr rfl
theorem afV (σ : Store) (o r off : Nat) : rowAt σ (.ptr o r off) = match aj σ o with | some ob=>(ob.rows[r]?).map (·,off) | none=>none:=nr rfl
theorem afW (σ : Store) : lenOf σ .ak = some 0:=nr rfl
theorem afX (σ : Store) (sz : Nat) (rows : List (List V)) : lenOf σ (.sl sz rows) = some rows.length:=nr rfl
theorem afY (σ : Store) (o s l : Nat) : lenOf σ (.bF o s l) = (aj σ o).map fun _=>l:=nr rfl
theorem acf (σ : Store) : rowsOf σ .ak = some (0,[]):=nr rfl
theorem acg (σ : Store) (sz : Nat) (rows : List (List V)) : rowsOf σ (.sl sz rows) = some (sz,rows):=nr rfl
theorem ach (σ : Store) (o s l : Nat) : rowsOf σ (.bF o s l) = match aj σ o with
  | some ob=>if s + l ≤ ob.rows.length then some (ob.sz,(ob.rows.drop s).take l) else none
  | none=>none:=nr rfl
theorem ajp (env : Nat → V) (σ : Store) (k : List V → Prop) : EG env σ [] k = k []:=nr rfl
theorem ajq (env : Nat → V) (σ : Store) (s : Src) (as : List Src) (k : List V → Prop) : EG env σ (s :: as) k = vT (s.ev env) fun v=>dI (resolve σ FD v) fun v=>EG env σ as fun vs=>k (v :: vs):=nr rfl
def RS (σ : Store) : List V → Option (List V)
 | []=>some []
 |
  c :: cs=>match resolve σ 11 c with
  |
   some d=>match RS σ cs with
   | some ds=>some (d :: ds)
   | none=>none
  | none=>none
theorem RU (σ : Store) : ∀ cs,cs.mapM (resolve σ 11) = RS σ cs
 | []=>rfl
 |
  c :: cs=>by
  simp only [List.mapM_cons,RS,RU σ cs]
  cases resolve σ 11 c with
  | none=>rfl
  | some d=>cases RS σ cs <;> rfl
theorem anP (σ : Store) (q : IntKind) (n : Int) : resolve σ FD (.int q n) = some (.int q n):=nr rfl
theorem ajr (σ : Store) (b : Bool) : resolve σ FD (.bool b) = some (.bool b):=nr rfl
theorem anQ (σ : Store) (s : List UInt8) : resolve σ FD (.str s) = some (.str s):=nr rfl
theorem ajs (σ : Store) : resolve σ FD .ak = some .ak:=nr rfl
theorem anR (σ : Store) : resolve σ FD .one = some .one:=nr rfl
theorem arW (σ : Store) (sz : Nat) (r : List (List V)) : resolve σ FD (.sl sz r) = some (.sl sz r):=nr rfl
theorem ajt (σ : Store) (r : List V) (o : Nat) : resolve σ FD (.eU r o) = some (.eU r o):=nr rfl
theorem anS (σ : Store) (cs : List V) : resolve σ FD (.agg cs) = (RS σ cs).map .agg:=by rw [← RU];rfl
theorem anT (σ : Store) (cs : List V) : resolve σ FD (.gq cs) = (RS σ cs).map .gq:=by rw [← RU];rfl
theorem aju (σ : Store) : RS σ [] = some []:=nr rfl
theorem ajv (σ : Store) (c : V) (cs : List V) : RS σ (c :: cs) = match resolve σ 11 c with
  |
   some d=>match RS σ cs with
   | some ds=>some (d :: ds)
   | none=>none
  | none=>none:=nr rfl
theorem ajw (σ : Store) (q : IntKind) (n : Int) : resolve σ 11 (.int q n) = some (.int q n):=nr rfl
theorem afZ (σ : Store) (b : Bool) : resolve σ 11 (.bool b) = some (.bool b):=nr rfl
theorem ajx (σ : Store) (s : List UInt8) : resolve σ 11 (.str s) = some (.str s):=nr rfl
theorem af0 (σ : Store) : resolve σ 11 .ak = some .ak:=nr rfl
theorem ajy (σ : Store) : resolve σ 11 .one = some .one:=nr rfl
theorem anU (σ : Store) (sz : Nat) (r : List (List V)) : resolve σ 11 (.sl sz r) = some (.sl sz r):=nr rfl
theorem af2 (σ : Store) (r : List V) (o : Nat) : resolve σ 11 (.eU r o) = some (.eU r o):=nr rfl
def V.still : V → Bool
 | .one | .int .. | .bool _ | .str _ | .ak | .sl .. | .eU ..=>true
 | _=>false
def dJ (rows : List (List V)) : Prop:=∀ r ∈ rows,∀ v ∈ r,v.still = true
theorem QD {σ : Store} {n : Nat} {v : V} (h : v.still = true) : resolve σ (n + 1) v = some v:=by
 cases v <;> first | rfl | cases h
theorem sN {σ : Store} {n : Nat} : ∀ {r : List V},(∀ v ∈ r,v.still = true) → r.mapM (resolve σ (n + 1)) = some r
 | [],_=>rfl
 |
  v :: r,h=>by
  rw [List.mapM_cons,QD (h v (by simp)),sN fun x hx=>h x (by simp [hx])];rfl
theorem tK {σ : Store} {n : Nat} : ∀ {rows : List (List V)},dJ rows → (rows.mapM fun (r : List V)=>r.mapM (resolve σ (n + 1))) = some rows
 | [],_=>rfl
 |
  r :: rows,h=>by
  rw [List.mapM_cons,sN (h r (by simp)),tK fun x hx=>h x (by simp [hx])];rfl
theorem dJ.part {rows : List (List V)} (h : dJ rows) (s l : Nat) : dJ ((rows.drop s).take l):=fun r hr=>h r (List.mem_of_mem_drop (List.mem_of_mem_take hr))
theorem ajz {σ : Store} {n o s l : Nat} {ob : Obj} (ho : aj σ o = some ob) (hs : dJ ob.rows) (hl : s + l ≤ ob.rows.length) : resolve σ (n + 2) (.bF o s l) = some (.sl ob.sz ((ob.rows.drop s).take l)):=by
 rw [resolve]
 simp only [ho]
 rw [if_pos hl,tK (hs.part s l)];rfl
theorem anV {σ : Store} {o s l : Nat} {ob : Obj} (ho : aj σ o = some ob) (hs : dJ ob.rows) (hl : s + l ≤ ob.rows.length) : resolve σ FD (.bF o s l) = some (.sl ob.sz ((ob.rows.drop s).take l)):=ajz (n:=10) ho hs hl
theorem arX (env : Nat → V) (σ : Store) : fO env σ [] = []:=nr rfl
theorem arY (env : Nat → V) (σ : Store) (s : Src) (as : List Src) : fO env σ (s :: as) = reach σ FD (s.ev env) ++ fO env σ as:=nr rfl
theorem Bo {σ : Store} {n : Nat} {v : V} (h : v.still = true) : reach σ (n + 1) v = []:=by
 cases v <;> first | rfl | cases h
theorem anW (σ : Store) (q : IntKind) (n : Int) : reach σ FD (.int q n) = []:=nr rfl
theorem ajA (σ : Store) (b : Bool) : reach σ FD (.bool b) = []:=nr rfl
theorem anX (σ : Store) (s : List UInt8) : reach σ FD (.str s) = []:=nr rfl
theorem ajB (σ : Store) : reach σ FD .ak = []:=nr rfl
theorem arZ (σ : Store) (sz : Nat) (r : List (List V)) : reach σ FD (.sl sz r) = []:=nr rfl
theorem ajC (σ : Store) (r : List V) (o : Nat) : reach σ FD (.eU r o) = []:=nr rfl
def RV (σ : Store) (cs : List V) : List Nat:=cs.flatMap (reach σ 11)
theorem anY (σ : Store) (cs : List V) : reach σ FD (.agg cs) = RV σ cs:=nr rfl
theorem ar0 (σ : Store) : RV σ [] = []:=nr rfl
theorem ar1 (σ : Store) (c : V) (cs : List V) : RV σ (c :: cs) = reach σ 11 c ++ RV σ cs:=nr rfl
theorem ajD (σ : Store) (q : IntKind) (n : Int) : reach σ 11 (.int q n) = []:=nr rfl
theorem af4 (σ : Store) (b : Bool) : reach σ 11 (.bool b) = []:=nr rfl
theorem ajE (σ : Store) (s : List UInt8) : reach σ 11 (.str s) = []:=nr rfl
theorem af5 (σ : Store) : reach σ 11 .ak = []:=nr rfl
theorem anZ (σ : Store) (sz : Nat) (r : List (List V)) : reach σ 11 (.sl sz r) = []:=nr rfl
theorem af6 (σ : Store) (r : List V) (o : Nat) : reach σ 11 (.eU r o) = []:=nr rfl
theorem an0 (q : IntKind) (n : Int) : scalar SD (.int q n) = true:=nr rfl
theorem ajF (b : Bool) : scalar SD (.bool b) = true:=nr rfl
theorem an1 (s : List UInt8) : scalar SD (.str s) = true:=nr rfl
def EH : List EF → List V → St → (V → Prop) → Prop
 | [],acc,st,k=>vT (jR acc.reverse) fun v=>dI (resolve st.objs FD v) k
 | r :: rs,acc,st,k=>dI (r.get st) fun v=>vT v fun v=>EH rs (v :: acc) st k
theorem Kz {st : St} {k : V → Prop} : ∀ (rs : List EF) (acc : List V),EH rs acc st k → dI (rs.mapM (EF.get st)) fun vs=>dI (resolve st.objs FD (jR (acc.reverse ++ vs))) k
 | [],acc,h=>by simpa [dI,EH,vT] using h
 |
  r :: rs,acc,h=>by
  obtain ⟨v,e,h⟩:=bf h
  have:=Kz rs (v :: acc) h
  obtain ⟨vs,e2,h⟩:=bf this
  simp only [List.mapM_cons,e,e2]
  simpa [dI,wr] using h
def af7 (rs : List EF) (e : Ex) (k : V → Prop) (st : St) : Prop:=match e with
 | .normal=>EH rs [] st k
 | .ret=>EH rs [] st k
 | .exit _=>False
theorem ajG (rs : List EF) (k : V → Prop) (st : St) : af7 rs .normal k st = EH rs [] st k:=nr rfl
theorem ajH (rs : List EF) (k : V → Prop) (st : St) : af7 rs .ret k st = EH rs [] st k:=nr rfl
theorem ajI (acc : List V) (st : St) (k : V → Prop) : EH [] acc st k = vT (jR acc.reverse) fun v=>dI (resolve st.objs FD v) k:=nr rfl
theorem ajJ (t : Nat) (rs : List EF) (acc : List V) (st : St) (k : V → Prop) : EH (.tmp t :: rs) acc st k = vT (st.env t) fun v=>EH rs (v :: acc) st k:=nr rfl
theorem af8 (t n : Nat) (rs : List EF) (acc : List V) (st : St) (k : V → Prop) : EH (.cell t n false :: rs) acc st k = dI (rowAt st.objs (st.env t)) fun p=>dI p.1[p.2]? fun v=>vT v fun v=>EH rs (v :: acc) st k:=by
 simp only [EH,EF.get]
 cases rowAt st.objs (st.env t) <;> rfl
theorem an2 (v : V) : jR [v] = v:=nr rfl
theorem an3 (v w : V) : jR [v,w] = .gq [v,w]:=nr rfl
theorem an4 (v w x : V) : jR [v,w,x] = .gq [v,w,x]:=nr rfl
theorem aV {T : Tb} {f : Nat} {F : Fn} {args : List V} {r : V} (rf : Nat → Nat → Bool) (hT : T f = some F)
  (h : wp T rf F.body (fun e st=>af7 F.res e (· = r) st) (St.enter args [])) (hl : args.length = F.nargs:=by rfl) (hk : F.body.Ud = true:=by rfl) : PF T f args r:=by
 obtain ⟨e,st',h1,h2⟩:=qx hk h
 have h3 : (e = .normal ∨ e = .ret) ∧ EH F.res [] st' (· = r):=by
  cases e with
  | normal=>exact ⟨.inl rfl,h2⟩
  | ret=>exact ⟨.inr rfl,h2⟩
  | exit id=>exact h2.elim
 obtain ⟨he,h3⟩:=h3
 have:=Kz _ _ h3
 obtain ⟨rs,e1,h4⟩:=bf this
 obtain ⟨r',e2,h5⟩:=bf h4
 subst h5
 exact .WU (.fn hT hl h1 he e1) e2
theorem ah {T : Tb} {f : Nat} {as : List V} {k : V → Prop} {r : V} (h : PF T f as r) (hk : k r) : PFK T f as k:=⟨r,h,hk⟩
def aH (l : List Int) : List (List V):=l.map fun x=>[.int .i64 x]
abbrev ints (l : List Int) : V:=.sl 1 (aH l)
theorem yV (l : List Int) : (aH l).length = l.length:=by simp [aH]
theorem af9 {l : List Int} {j : Nat} (h : j < l.length) : (aH l).getD j [] = [.int .i64 (l.getD j 0)]:=by
 simp [aH,List.getD_eq_getElem?_getD,List.getElem?_eq_getElem h]
theorem ajK {l : List Int} {j : Nat} (h : j < l.length) : (aH l)[j]? = some [.int .i64 (l.getD j 0)]:=by
 simp [aH,List.getD_eq_getElem?_getD,List.getElem?_eq_getElem h]
theorem ajL (l : List Int) (j : Nat) (x : Int) : (aH l).set j [.int .i64 x] = aH (l.set j x):=by
 simp only [aH,List.map_set]
theorem Ii (n : Nat) (x : Int) : List.replicate n [V.int .i64 x] = aH (List.replicate n x):=by simp [aH]
theorem RX (l : List Int) (n : Nat) : (aH l).drop n = aH (l.drop n):=by simp [aH]
theorem RY (l : List Int) (n : Nat) : (aH l).take n = aH (l.take n):=by simp [aH]
theorem l9 (l : List Int) : dJ (aH l):=by
 intro r hr v hv
 obtain ⟨x,_,rfl⟩:=List.mem_map.1 hr
 simp at hv;subst hv;rfl
theorem aga (a b : V) : splice [a] 0 [b] = [b]:=nr rfl
end Go.Ml
end
section
namespace Go.Ml
theorem NP : ∀ {x y : V},bM x y → y.leaf = true → x.leaf = true:=by
 intro x y h hl
 cases x <;> first | rfl | skip
 ·simp only [bM] at h;subst h;exact hl
 ·simp only [bM] at h;obtain ⟨_,rfl,_⟩:=h;exact hl
 ·simp only [bM] at h;obtain ⟨_,rfl,_⟩:=h;exact hl
theorem UN : ∀ {xs ys : List V},nN xs ys → xs.length = ys.length
 | [],ys,h=>by simp only [nN] at h;subst h;rfl
 |
  x :: xs,ys,h=>by
  simp only [nN] at h
  obtain ⟨y,ys',rfl,_,h2⟩:=h
  simp [UN h2]
theorem UO : ∀ {xs ys : List (List V)},PN xs ys → xs.length = ys.length
 | [],ys,h=>by simp only [PN] at h;subst h;rfl
 |
  x :: xs,ys,h=>by
  simp only [PN] at h
  obtain ⟨y,ys',rfl,_,h2⟩:=h
  simp [UO h2]
mutual
theorem KA {w : World} : ∀ (D : DM) (X : Nat → Prop) (x y : V) (v : Value),bM x y → rd w D X y v → rd w D X x v
 |
  D,X,.sl sz rows,y,v,h,hr=>by
  simp only [bM] at h
  rcases h with ⟨rfl,rfl | ⟨sz',rfl⟩⟩ | ⟨rows',rfl,h⟩
  ·simp only [rd] at hr ⊢
   obtain ⟨a,rfl⟩:=hr
   exact ⟨a,0,rfl,Nat.le_refl _,.inl (by trivial)⟩
  ·simp only [rd] at hr ⊢
   obtain ⟨a,cap,rfl,h2,_⟩:=hr
   exact ⟨a,cap,rfl,h2,.inl (by trivial)⟩
  ·simp only [rd] at hr ⊢
   obtain ⟨a,cap,rfl,h2,h3⟩:=hr
   have hl:=UO h
   refine ⟨a,cap,by rw [hl],by rw [hl];exact h2,?_⟩
   rcases h3 with h3 | ⟨b,off,h3,h4,h5,h6⟩
   ·left;subst h3;exact List.eq_nil_of_length_eq_zero hl
   ·exact .inr ⟨b,off,h3,h4,h5,NQ DM.none X b sz off rows rows' h h6⟩
 |
  D,X,.agg cs,y,v,h,hr=>by
  simp only [bM] at h
  obtain ⟨cs',rfl,h⟩:=h
  simp only [rd] at hr ⊢
  obtain ⟨a,rfl,hr⟩:=hr
  exact ⟨a,rfl,Jg D X cs cs' _ h hr⟩
 |
  D,X,.gq cs,y,v,h,hr=>by
  simp only [bM] at h
  obtain ⟨cs',rfl,h⟩:=h
  simp only [rd] at hr ⊢
  obtain ⟨a,rfl,hr⟩:=hr
  exact ⟨a,rfl,Jg D X cs cs' _ h hr⟩
 |
  D,X,.eU row off,y,v,h,hr=>by
  simp only [bM] at h
  obtain ⟨row',rfl,h⟩:=h
  simp only [rd] at hr ⊢
  obtain ⟨b,o,rfl,h1,h2,h3⟩:=hr
  exact ⟨b,o,rfl,h1,h2,E8 DM.none X b o row row' h h3⟩
 | _,_,.any,y,v,h,hr=>by simp [rd]
 | _,_,.one,y,v,h,hr=>by simp only [bM] at h;subst h;exact hr
 | _,_,.int ..,y,v,h,hr=>by simp only [bM] at h;subst h;exact hr
 | _,_,.bool _,y,v,h,hr=>by simp only [bM] at h;subst h;exact hr
 | _,_,.str _,y,v,h,hr=>by simp only [bM] at h;subst h;exact hr
 | _,_,.ak,y,v,h,hr=>by simp only [bM] at h;subst h;exact hr
 | _,_,.bF ..,y,v,h,hr=>by simp only [bM] at h;subst h;exact hr
 | _,_,.ptr ..,y,v,h,hr=>by simp only [bM] at h;subst h;exact hr
termination_by structural _ _ x=>x
theorem Jg {w : World} : ∀ (D : DM) (X : Nat → Prop) (xs ys : List V) (vs : List Value),nN xs ys → fD w D X ys vs → fD w D X xs vs
 | D,X,[],ys,vs,h,hr=>by simp only [nN] at h;subst h;exact hr
 |
  D,X,x :: xs,ys,vs,h,hr=>by
  simp only [nN] at h
  obtain ⟨y,ys',rfl,h1,h2⟩:=h
  simp only [fD] at hr ⊢
  obtain ⟨v,vs',rfl,k1,k2⟩:=hr
  exact ⟨v,vs',rfl,KA D X x y v h1 k1,Jg D X xs ys' vs' h2 k2⟩
termination_by structural _ _ x=>x
theorem E8 {w : World} : ∀ (D : DM) (X : Nat → Prop) (b off : Nat) (xs ys : List V),nN xs ys → dW w D X b off ys → dW w D X b off xs
 | D,X,b,off,[],ys,h,hr=>by simp [dW]
 |
  D,X,b,off,x :: xs,ys,h,hr=>by
  simp only [nN] at h
  obtain ⟨y,ys',rfl,h1,h2⟩:=h
  simp only [dW] at hr ⊢
  obtain ⟨k0,⟨c,k1,k2⟩,k3⟩:=hr
  exact ⟨NP h1 k0,⟨c,k1,KA D X x y c h1 k2⟩,E8 D X b (off + 1) xs ys' h2 k3⟩
termination_by structural _ _ _ _ x=>x
theorem NQ {w : World} : ∀ (D : DM) (X : Nat → Prop) (b sz off : Nat) (xs ys : List (List V)),PN xs ys → gV w D X b sz off ys → gV w D X b sz off xs
 | D,X,b,sz,off,[],ys,h,hr=>by simp [gV]
 |
  D,X,b,sz,off,x :: xs,ys,h,hr=>by
  simp only [PN] at h
  obtain ⟨y,ys',rfl,h1,h2⟩:=h
  simp only [gV] at hr ⊢
  exact ⟨(UN h1).trans hr.1,E8 D X b off x y h1 hr.2.1,NQ D X b sz (off + sz) xs ys' h2 hr.2.2⟩
termination_by structural _ _ _ _ _ x=>x
end
mutual
theorem au : ∀ (x : V),bM x x
 | .sl sz rows=>by simp only [bM];exact .inr ⟨rows,rfl,QE rows⟩
 | .agg cs=>by simp only [bM];exact ⟨cs,rfl,pG cs⟩
 | .gq cs=>by simp only [bM];exact ⟨cs,rfl,pG cs⟩
 | .eU row off=>by simp only [bM];exact ⟨row,rfl,pG row⟩
 | .any=>by simp [bM]
 | .one=>by simp [bM]
 | .int ..=>by simp [bM]
 | .bool _=>by simp [bM]
 | .str _=>by simp [bM]
 | .ak=>by simp [bM]
 | .bF ..=>by simp [bM]
 | .ptr ..=>by simp [bM]
theorem pG : ∀ (xs : List V),nN xs xs
 | []=>by simp [nN]
 | x :: xs=>by simp only [nN];exact ⟨x,xs,rfl,au x,pG xs⟩
theorem QE : ∀ (xs : List (List V)),PN xs xs
 | []=>by simp [PN]
 | x :: xs=>by simp only [PN];exact ⟨x,xs,rfl,pG x,QE xs⟩
end
def DM.win (D : DM) (W : Hz) (kp : Nat) : DM:=fun k=>match W[k]? with
 |
  some (some (o,s,l))=>(match D o with
  | .live d=>.live ⟨d.blk,d.CO + s * d.sz,d.sz,l,d.cap⟩
  | x=>x)
 | some Option.none=>if k < kp then (match D k with | .live _=>.dB | x=>x) else .dB
 | Option.none=>.dB
section
variable {w : World} {D : DM} {M : Nat → Prop} {σ σ2 : Store} {W : Hz} {kp : Nat}
theorem Ak {k : Nat} {d : Z5} (h : D.win W kp k = .live d) : ∃ o s l d0,W[k]? = some (some (o,s,l)) ∧ D o = .live d0 ∧ d = ⟨d0.blk,d0.CO + s * d0.sz,d0.sz,l,d0.cap⟩:=by
 unfold DM.win at h
 split at h
 ·rename_i o s l e
  split at h
  ·rename_i d0 e2
   cases h
   exact ⟨o,s,l,d0,e,e2,rfl⟩
  ·rename_i hx;rw [h] at hx;exact absurd rfl (hx d)
 ·split at h
  ·split at h
   ·cases h
   ·rename_i hx;rw [h] at hx;exact absurd rfl (hx d)
  ·cases h
 ·cases h
theorem aci : ∀ b,XS M (D.win W kp) b → XS M D b:=by
 rintro b (h | ⟨k,d,hk,rfl⟩)
 ·exact .inl h
 ·obtain ⟨o,s,l,d0,_,h2,rfl⟩:=Ak hk
  exact .inr ⟨o,d0,h2,rfl⟩
theorem acj : ∀ {x y : V},qo W σ x y → x.leaf = true → y.leaf = true:=by
 intro x y h hl
 cases x <;> simp only [V.leaf] at hl <;> first | (cases hl;done) | skip
 all_goals simp only [qo] at h
 case one=>subst h;rfl
 case int=>subst h;rfl
 case bool=>subst h;rfl
 case str=>subst h;rfl
 case ak=>rcases h with rfl | ⟨_,rfl⟩ <;> rfl
 case sl=>exact NP h rfl
 case bF =>
  rcases h with ⟨k,s0,l0,_,_,_,rfl⟩ | ⟨_,_,sz,rfl⟩ | ⟨h,_⟩
  ·rfl
  ·rfl
  ·exact zB h rfl
 case ptr =>
  rcases h with ⟨k,s0,l0,_,_,_,rfl⟩ | ⟨h,_⟩
  ·rfl
  ·exact zB h rfl
 case eU=>exact NP h rfl
theorem UQ : ∀ {xs ys : List V},CS W σ xs ys → ys.length = xs.length
 | [],ys,h=>by simp only [CS] at h;subst h;rfl
 |
  x :: xs,ys,h=>by
  simp only [CS] at h
  obtain ⟨y,ys',rfl,_,h2⟩:=h
  simp [UQ h2]
theorem UR : ∀ {xs ys : List V},CS W σ xs ys → ∀ (i : Nat) (y : V),ys[i]? = some y → ∃ x,xs[i]? = some x ∧ qo W σ x y
 | [],ys,h,i,y,hi=>by simp only [CS] at h;subst h;simp at hi
 |
  x :: xs,ys,h,i,y,hi=>by
  simp only [CS] at h
  obtain ⟨z,zs,rfl,h1,h2⟩:=h
  cases i with
  | zero=>simp at hi;subst hi;exact ⟨x,rfl,h1⟩
  | succ i=>simpa using UR h2 i y (by simpa using hi)
theorem Xp {D D' : DM} {X X' : Nat → Prop} (hX : ∀ b,X' b → X b) {x : V} {v : Value} (hx : (∃ sz rows,x = .sl sz rows) ∨ ∃ row off,x = .eU row off) (h : rd w D X x v) : rd w D' X' x v:=by
 have E : Ext w DM.none X w DM.none X':=⟨Nat.le_refl _,fun _ _ _=>rfl,fun b _=>hX b,fun _=>jF.refl _⟩
 rcases hx with ⟨sz,rows,rfl⟩ | ⟨row,off,rfl⟩
 ·have h' : rd w DM.none X (.sl sz rows) v:=by simpa only [rd] using h
  have:=dD _ _ E h'
  simpa only [rd] using this
 ·have h' : rd w DM.none X (.eU row off) v:=by simpa only [rd] using h
  have:=dD _ _ E h'
  simpa only [rd] using this
theorem agb {o s l n : Nat} {y : V} (h : resolve σ (n + 1) (.bF o s l) = some y) : ∃ sz rows,y = .sl sz rows:=by
 simp only [resolve] at h
 split at h <;> first | (cases h;done) | skip
 split at h <;> first | (cases h;done) | skip
 simp only [Option.map_eq_some_iff] at h
 obtain ⟨_,_,rfl⟩:=h
 exact ⟨_,_,rfl⟩
theorem agc {o r f n : Nat} {y : V} (h : resolve σ (n + 1) (.ptr o r f) = some y) : ∃ row off,y = .eU row off:=by
 simp only [resolve] at h
 split at h <;> first | (cases h;done) | skip
 split at h <;> first | (cases h;done) | skip
 simp only [Option.map_eq_some_iff] at h
 obtain ⟨_,_,rfl⟩:=h
 exact ⟨_,_,rfl⟩
theorem QF (hS : jk w D M σ) {x y : V} {v : Value} (h : resolve σ FD x = some y) (hq : ∀ q,q ∈ reach σ FD x → ∀ (k s0 l0 : Nat),W[k]? ≠ some (some (q,s0,l0)))
  (hy : (∃ sz rows,y = .sl sz rows) ∨ ∃ row off,y = .eU row off) (hr : rd w D (XS M D) x v) : rd w (D.win W kp) (XS M (D.win W kp)) y v:=by
 have h1:=wu hS (R:=reach σ FD x) FD x y v h (fun _ ho=>ho) hr
 refine Xp (fun b hb=>?_) hy h1
 rcases hb with hb | ⟨k,d,hk,rfl⟩
 ·exact .inl hb
 ·obtain ⟨o,s,l,d0,e1,e2,rfl⟩:=Ak hk
  exact .inr ⟨o,d0,e2,rfl,fun ho=>hq o ho k s l e1⟩
mutual
theorem RZ (hS : jk w D M σ) (hW : ∀ (k o s l : Nat),W[k]? = some (some (o,s,l)) → (aj σ o).isSome = true) : ∀ (x y : V) (v : Value),qo W σ x y → rd w D (XS M D) x v →
  rd w (D.win W kp) (XS M (D.win W kp)) y v
 |
  .bF o s l,y,v,h,hr=>by
  simp only [qo] at h
  rcases h with ⟨k,s0,l0,h1,h2,h3,rfl⟩ | ⟨rfl,ho,sz,rfl⟩ | ⟨h1,h2⟩
  ·obtain ⟨ob,hob⟩:=Option.isSome_iff_exists.1 (hW k o s0 l0 h1)
   obtain ⟨d,hd⟩:=hS.alive o ob hob
   simp only [rd,hd] at hr
   obtain ⟨e1,a,cap,rfl,e2,e3⟩:=hr
   simp only [rd,DM.win,h1,hd]
   refine ⟨by omega,a,cap,rfl,e2,e3.imp ?_ id⟩
   rintro ⟨rfl,e4⟩
   have hm : s * d.sz = s0 * d.sz + (s - s0) * d.sz:=by rw [← Nat.add_mul];congr 1;omega
   refine ⟨by congr 2;omega,?_⟩
   have : (s + cap) * d.sz = s0 * d.sz + (s - s0 + cap) * d.sz:=by rw [← Nat.add_mul];congr 1;omega
   omega
  ·obtain ⟨ob,hob⟩:=Option.isSome_iff_exists.1 ho
   obtain ⟨d,hd⟩:=hS.alive o ob hob
   simp only [rd,hd] at hr ⊢
   obtain ⟨e1,a,cap,rfl,e2,e3⟩:=hr
   exact ⟨a,cap,rfl,Nat.zero_le _,.inl (by trivial)⟩
  ·exact QF hS h1 h2 (.inl (agb (n:=11) h1)) hr
 |
  .ptr o r off,y,v,h,hr=>by
  simp only [qo] at h
  rcases h with ⟨k,s0,l0,h1,h2,h3,rfl⟩ | ⟨h1,h2⟩
  rotate_left
  ·exact QF hS h1 h2 (.inr (agc (n:=11) h1)) hr
  obtain ⟨ob,hob⟩:=Option.isSome_iff_exists.1 (hW k o s0 l0 h1)
  obtain ⟨d,hd⟩:=hS.alive o ob hob
  simp only [rd,hd] at hr
  subst hr
  simp only [rd,DM.win,h1,hd]
  have hm : r * d.sz = s0 * d.sz + (r - s0) * d.sz:=by rw [← Nat.add_mul];congr 1;omega
  congr 3;omega
 |
  .agg cs,y,v,h,hr=>by
  simp only [qo] at h
  obtain ⟨ds,rfl,h⟩:=h
  simp only [rd] at hr ⊢
  obtain ⟨a,rfl,hr⟩:=hr
  exact ⟨a,rfl,Si hS hW cs ds _ h hr⟩
 |
  .gq cs,y,v,h,hr=>by
  simp only [qo] at h
  obtain ⟨ds,rfl,h⟩:=h
  simp only [rd] at hr ⊢
  obtain ⟨a,rfl,hr⟩:=hr
  exact ⟨a,rfl,Si hS hW cs ds _ h hr⟩
 |
  .ak,y,v,h,hr=>by
  simp only [qo] at h
  simp only [rd] at hr
  obtain ⟨a,rfl⟩:=hr
  rcases h with rfl | ⟨sz,rfl⟩
  ·simp only [rd];exact ⟨a,rfl⟩
  ·simp only [rd];exact ⟨a,0,rfl,Nat.le_refl _,.inl (by trivial)⟩
 |
  .sl sz rows,y,v,h,hr=>by
  simp only [qo] at h
  exact KA _ _ _ _ _ h (Xp aci (.inl ⟨sz,rows,rfl⟩) hr)
 |
  .eU row off,y,v,h,hr=>by
  simp only [qo] at h
  exact KA _ _ _ _ _ h (Xp aci (.inr ⟨row,off,rfl⟩) hr)
 | .any,y,v,h,hr=>by simp only [qo] at h;subst h;simp [rd]
 | .one,y,v,h,hr=>by simp only [qo] at h;subst h;simpa only [rd] using hr
 | .int ..,y,v,h,hr=>by simp only [qo] at h;subst h;simpa only [rd] using hr
 | .bool _,y,v,h,hr=>by simp only [qo] at h;subst h;simpa only [rd] using hr
 | .str _,y,v,h,hr=>by simp only [qo] at h;subst h;simpa only [rd] using hr
theorem Si (hS : jk w D M σ) (hW : ∀ (k o s l : Nat),W[k]? = some (some (o,s,l)) → (aj σ o).isSome = true) : ∀ (xs ys : List V) (vs : List Value),CS W σ xs ys → fD w D (XS M D) xs vs →
  fD w (D.win W kp) (XS M (D.win W kp)) ys vs
 | [],ys,vs,h,hr=>by simp only [CS] at h;subst h;simpa only [fD] using hr
 |
  x :: xs,ys,vs,h,hr=>by
  simp only [CS] at h
  obtain ⟨y,ys',rfl,h1,h2⟩:=h
  simp only [fD] at hr ⊢
  obtain ⟨v,vs',rfl,k1,k2⟩:=hr
  exact ⟨v,vs',rfl,RZ hS hW x y v h1 k1,Si hS hW xs ys' vs' h2 k2⟩
end
theorem jk.re (hS : jk w D M σ) (h : ReS W σ σ2) (hkp : kp ≤ W.length) : jk w (D.win W kp) M σ2:=by
 have hW : ∀ (k o s l : Nat),W[k]? = some (some (o,s,l)) → (aj σ o).isSome = true:=fun k o s l hk=>by
  obtain ⟨ob,_,h1,_⟩:=h.win k o s l hk
  rw [h1];rfl
 refine ⟨?_,?_,?_,?_,hS.mlt⟩
 ·intro k d hk
  obtain ⟨o,s,l,d0,e1,e2,rfl⟩:=Ak hk
  obtain ⟨ob,WT,w1,w2,w3,w4,w5,w6⟩:=h.win k o s l e1
  obtain ⟨ob',c,e,h1,h2,h3,h4,h5,h6,h7,h8,h9,h10,h11⟩:=hS.live o d0 e2
  rw [w1] at h1;cases h1
  have hrow : ∀ i r2,WT.rows[i]? = some r2 → ∃ r,ob.rows[s + i]? = some r ∧ CS W σ r r2:=by
   intro i r2 hi
   have hlt : s + i < ob.rows.length:=by have:=(List.getElem?_eq_some_iff.1 hi).1;omega
   exact ⟨ob.rows[s + i],List.getElem?_eq_getElem hlt,w6 i _ r2 (List.getElem?_eq_getElem hlt) hi⟩
  have hlen2 : ∀ r ∈ WT.rows,r.length = WT.sz:=by
   intro r2 hr2
   obtain ⟨i,hi⟩:=List.mem_iff_getElem?.1 hr2
   obtain ⟨r,hr,hc⟩:=hrow i r2 hi
   rw [UQ hc,w4];exact h10 r (List.mem_of_getElem? hr)
  refine ⟨WT,c,e,w3,by simp only [];rw [w4];exact h2,by simp only [];exact w5.symm,h4,h5,h6,h7,h8,?_,hlen2,?_⟩
  ·simp only []
   have : d0.CO + s * d0.sz + l * d0.sz = d0.CO + (s + l) * d0.sz:=by rw [Nat.add_mul];omega
   rw [this]
   refine Nat.le_trans (Nat.add_le_add_left (Nat.mul_le_mul_right _ ?_) _) h9
   omega
  ·intro i z hz
   have hpos : 0 < ob.sz:=by rw [← h2];exact h4
   have hilt:=(List.getElem?_eq_some_iff.1 hz).1
   have hfl:=oC hlen2
   have hq : i / ob.sz < WT.rows.length:=Nat.div_lt_of_lt_mul (by rw [Nat.mul_comm,← w4];omega)
   have hmod : i % ob.sz < WT.rows[i / ob.sz].length:=by rw [hlen2 _ (by simp),w4];exact Nat.mod_lt _ hpos
   have hz':=tC hlen2 (i:=i / ob.sz) (j:=i % ob.sz) (r:=WT.rows[i / ob.sz]) (x:=WT.rows[i / ob.sz][i % ob.sz]) (by simp [hq]) (by simp [hmod])
   have hi : i / ob.sz * WT.sz + i % ob.sz = i:=by rw [w4,Nat.mul_comm];exact Nat.div_add_mod i ob.sz
   rw [hi,hz] at hz'
   obtain ⟨r,hr,hc⟩:=hrow (i / ob.sz) WT.rows[i / ob.sz] (by simp [hq])
   obtain ⟨x,hx,hcx⟩:=UR hc (i % ob.sz) z (by rw [Option.some.inj hz'];simp [hmod])
   obtain ⟨hlf,cv,k1,k2⟩:=h11 _ x (tC h10 hr hx)
   refine ⟨acj hcx hlf,cv,?_,RZ hS hW x z cv hcx k2⟩
   rw [← k1]
   simp only []
   congr 1
   have hi2 : i = i / ob.sz * ob.sz + i % ob.sz:=by rw [← w4];rw [w4];rw [w4] at hi;exact hi.symm
   rw [h2,Nat.add_mul]
   omega
 ·intro k ob hk
  have hlt : k < W.length:=by
   rw [← h.len]
   rcases Nat.lt_or_ge k σ2.length with h' | h'
   ·exact h'
   ·rw [aj,List.getElem?_eq_none h'] at hk;cases hk
  cases hw : W[k] with
  |
   none =>
   have:=h.hole k (by rw [List.getElem?_eq_getElem hlt,hw])
   rw [this] at hk;cases hk
  |
   some p =>
   obtain ⟨o,s,l⟩:=p
   have hk' : W[k]? = some (some (o,s,l)):=by rw [List.getElem?_eq_getElem hlt,hw]
   obtain ⟨ob0,_,w1,_⟩:=h.win k o s l hk'
   obtain ⟨d,hd⟩:=hS.alive o ob0 w1
   exact ⟨⟨d.blk,d.CO + s * d.sz,d.sz,l,d.cap⟩,by simp only [DM.win,hk',hd]⟩
 ·intro k k' d d' hk hk' hb
  obtain ⟨o,s,l,d0,e1,e2,rfl⟩:=Ak hk
  obtain ⟨o',s',l',d0',e1',e2',rfl⟩:=Ak hk'
  have:=hS.inj o o' d0 d0' e2 e2' hb
  subst this
  exact h.nd k k' o s l s' l' e1 e1'
 ·intro k hk
  rw [h.len] at hk
  simp only [DM.win,List.getElem?_eq_none hk]
end
section
variable {P : Program} {ν : Nat → Option Nat} {nt : Nat} {M : Nat → Prop} {w0 : World} {D0 : DM} {st st2 : St} {D : DM} {a : Act} {w : World} {W : Hz}
theorem ReS.some {σ σ2 : Store} (h : ReS W σ σ2) : ∀ (k o s l : Nat),W[k]? = some (some (o,s,l)) → (aj σ o).isSome = true:=fun k o s l hk=>by
 obtain ⟨ob,_,h1,_⟩:=h.win k o s l hk
 rw [h1];rfl
theorem SR.re (h : SR nt M w0 D0 st D a w) (hr : aiC W st st2) : SR nt M w0 D0 st2 (D.win W st.keep) a w:=by
 have hkp : st.keep ≤ W.length:=by
  rcases Nat.lt_or_ge W.length st.keep with h' | h'
  ·have : W[W.length]? = Option.none:=by simp
   rcases hr.kp W.length h' with ⟨ob,_,h2⟩ | ⟨_,h2⟩ <;> rw [this] at h2 <;> cases h2
  ·exact h'
 refine ⟨fun t=>?_,h.tm,h.df,h.store.re hr.objs hkp,h.gr,?_,?_⟩
 ·rcases hr.env t with e | e
  ·rw [e];simp [rd]
  ·exact RZ h.store hr.objs.some _ _ _ e (h.env t)
 ·intro k d hk
  obtain ⟨o,s,l,d0,_,e2,rfl⟩:=Ak hk
  exact h.fr o d0 e2
 ·intro k hk
  rw [hr.keep] at hk
  have hle:=h.kp k hk
  rcases hr.kp k hk with ⟨ob,h1,h2⟩ | ⟨h1,h2⟩
  ·obtain ⟨d,hd⟩:=h.store.alive k ob h1
   obtain ⟨ob',c,e,g1,g2,g3,_⟩:=h.store.live k d hd
   rw [h1] at g1;cases g1
   have : D.win W st.keep k = D k:=by
    simp only [DM.win,h2,hd,Nat.zero_mul,Nat.add_zero,← g3]
   rw [this];exact hle
  ·have : D.win W st.keep k = D k:=by
    simp only [DM.win,h2,if_pos hk]
    cases hd : D k with
    |
     live d =>
     obtain ⟨ob',c,e,g1,_⟩:=h.store.live k d hd
     rw [h1] at g1;cases g1
    | _=>rfl
   rw [this];exact hle
theorem SR.forget (h : SR nt M w0 D0 st D a w) (he : ∀ t,st2.env t = .any ∨ bM (st2.env t) (st.env t)) (ho : st2.objs = st.objs) (hk : st2.keep = st.keep) : SR nt M w0 D0 st2 D a w:=by
 refine ⟨fun t=>?_,h.tm,h.df,by rw [ho];exact h.store,h.gr,h.fr,by rw [hk];exact h.kp⟩
 rcases he t with e | e
 ·rw [e];simp [rd]
 ·exact KA _ _ _ _ _ e (h.env t)
end
end Go.Ml
end
section
namespace Go.Ml
inductive Fg : St → St → Prop
 | env {st2 st : St} (he : ∀ t,st2.env t = .any ∨ bM (st2.env t) (st.env t)) (ho : st2.objs = st.objs) (hk : st2.keep = st.keep) : Fg st2 st
 | re {st2 st : St} (W : Hz) (h : aiC W st st2) : Fg st2 st
theorem Fg.run {T : Tb} {c : C} {st2 st : St} {o : Out} (h : Fg st2 st) (k : Run T (.code c st2) o) : Run T (.code c st) o:=by
 cases h with
 | env he ho hk=>exact .forget he ho hk k
 | re W h=>exact .re W h k
theorem NR {T : Tb} {rf : Nat → Nat → Bool} {c : C} {Q : Ex → St → Prop} {α : Type} (I : α → St) (P : α → Prop) (m : α → Nat) (hk : c.Ud = true)
  (step : ∀ a,P a → wp T rf c (fun e st'=>RQ e (∃ a',m a' < m a ∧ P a' ∧ Fg (I a') st') (Q e st')) (I a)) :
  ∀ (n : Nat) (a : α) (st : St),m a < n → P a → Fg (I a) st → LD T c Q st
 | 0,_,_,hn,_,_=>absurd hn (Nat.not_lt_zero _)
 |
  n + 1,a,st,hn,h,hf=>by
  obtain ⟨e,st1,h1,h2⟩:=qx hk (step a h)
  cases e with
  |
   normal =>
   obtain ⟨a',hlt,h3,h3'⟩:=h2
   obtain ⟨e,st2,h4,h5⟩:=NR I P m hk step n a' _ (by omega) h3 h3'
   exact ⟨e,st2,hf.run (.aby h1 h4),h5⟩
  | exit id=>exact ⟨_,_,hf.run (.Uj (by simp) h1),h2⟩
  | ret=>exact ⟨_,_,hf.run (.Uj (by simp) h1),h2⟩
theorem aS {T : Tb} (rf : Nat → Nat → Bool) {c : C} {Q : Ex → St → Prop} {α : Type} (I : α → St) (P : α → Prop) (m : α → Nat) (hk : c.Ud = true) (a : α) {st : St} (h0 : P a) (hf : Fg (I a) st)
  (step : ∀ a,P a → wp T rf c (fun e st'=>RQ e (∃ a',m a' < m a ∧ P a' ∧ Fg (I a') st') (Q e st')) (I a)) :
  LD T c Q st:=NR I P m hk step (m a + 1) a st (by omega) h0 hf
def EvV (v y : V) : Prop:=v = .any ∨ bM v y
theorem agd (y : V) : EvV .any y = True:=eq_true (.inl rfl)
theorem acn (y : V) : EvV y y = True:=eq_true (.inr (au y))
theorem Ij {v y : V} (h : v = y) : EvV v y:=h ▸ .inr (au v)
theorem Gh {q : IntKind} {a b : Int} (h : a = b) : EvV (.int q a) (.int q b):=Ij (by rw [h])
theorem Gi (sz : Nat) : EvV (.sl sz []) .ak:=.inr (by simp [bM])
def En : List V → Nat → (Nat → V) → Prop
 | [],_,_=>True
 | v :: vs,i,env=>EvV v (env i) ∧ En vs (i + 1) env
theorem agf (i : Nat) (env : Nat → V) : En [] i env = True:=nr rfl
theorem agh (v : V) (vs : List V) (i : Nat) (env : Nat → V) : En (v :: vs) i env = (EvV v (env i) ∧ En vs (i + 1) env):=nr rfl
theorem En.at_ : ∀ {l : List V} {i : Nat} {env : Nat → V},En l i env → ∀ t,dX l t = .any ∨ bM (dX l t) (env (i + t))
 | [],_,_,_,t=>.inl rfl
 | v :: vs,i,env,h,0=>h.1
 |
  v :: vs,i,env,h,t + 1=>by
  have:=En.at_ h.2 t
  rw [show i + 1 + t = i + (t + 1) by omega] at this
  exact this
theorem aJ {l : List V} {env : Nat → V} {objs : Store} {kp b1 b2 : Nat} {r1 r2 m1 m2 : List Nat} (h : En l 0 env) : Fg ⟨dX l,objs,kp,b1,r1,m1⟩ ⟨env,objs,kp,b2,r2,m2⟩ :=
 .env (fun t=>by have:=h.at_ t;rwa [Nat.zero_add] at this) rfl rfl
theorem Ik {W : Hz} {σ : Store} {v : V} (h : v.still = true) : qo W σ v v:=by
 cases v <;> simp only [V.still] at h <;> first | (cases h;done) | skip
 all_goals simp only [qo]
 ·exact .inl (by trivial)
 ·exact au _
 ·exact au _
theorem DF {W : Hz} {σ : Store} : ∀ {r : List V},(∀ v ∈ r,v.still = true) → CS W σ r r
 | [],_=>by simp [CS]
 |
  v :: r,h=>by
  simp only [CS]
  exact ⟨v,r,rfl,Ik (h v (by simp)),DF fun x hx=>h x (by simp [hx])⟩
theorem aco {σ : Store} (l : List (Nat × Obj)) (hn : (l.map (·.1)).Nodup) (h : ∀ p ∈ l,aj σ p.1 = some p.2 ∧ dJ p.2.rows) :
  ReS (l.map fun p=>some (p.1,0,p.2.rows.length)) σ (l.map fun p=>some p.2):=by
 have hget : ∀ (k o s n : Nat),(l.map fun p=>some (p.1,0,p.2.rows.length))[k]? = some (some (o,s,n)) → ∃ p,l[k]? = some p ∧ o = p.1 ∧ s = 0 ∧ n = p.2.rows.length:=by
  intro k o s n hk
  rw [List.getElem?_map,Option.map_eq_some_iff] at hk
  obtain ⟨p,h1,h2⟩:=hk
  simp only [Option.some.injEq,Prod.mk.injEq] at h2
  exact ⟨p,h1,h2.1.symm,h2.2.1.symm,h2.2.2.symm⟩
 refine ⟨by simp,?_,?_,?_⟩
 ·intro i j o s n s' n' hi hj
  obtain ⟨p,p1,p2,_⟩:=hget i o s n hi
  obtain ⟨q,q1,q2,_⟩:=hget j o s' n' hj
  have hi':=(List.getElem?_eq_some_iff.1 p1).1
  have hj':=(List.getElem?_eq_some_iff.1 q1).1
  have e1:=(List.getElem?_eq_some_iff.1 p1).2
  have e2:=(List.getElem?_eq_some_iff.1 q1).2
  refine (List.getElem_inj (h₀:=by simpa using hi') (h₁:=by simpa using hj') hn).1 ?_
  simp [e1,e2,← p2,← q2]
 ·intro k o s n hk
  obtain ⟨p,p1,rfl,rfl,rfl⟩:=hget k o s n hk
  obtain ⟨h1,h2⟩:=h p (List.mem_of_getElem? p1)
  refine ⟨p.2,p.2,h1,by omega,by unfold aj;rw [List.getElem?_map,p1];rfl,rfl,rfl,fun i r r2 hr hr2=>?_⟩
  rw [Nat.zero_add,hr2] at hr
  cases hr
  exact DF (h2 _ (List.mem_of_getElem? hr2))
 ·intro k hk
  rw [List.getElem?_map,Option.map_eq_some_iff] at hk
  obtain ⟨p,_,h⟩:=hk
  cases h
def Fa (W : Hz) (σ : Store) (v y : V) : Prop:=v = .any ∨ qo W σ y v
theorem acp (W : Hz) (σ : Store) (y : V) : Fa W σ .any y = True:=eq_true (.inl rfl)
theorem acr (W : Hz) (σ : Store) (q : IntKind) (a b : Int) : Fa W σ (.int q a) (.int q b) = (a = b):=by simp [Fa,qo]
theorem aax (W : Hz) (σ : Store) (a b : Bool) : Fa W σ (.bool a) (.bool b) = (a = b):=by simp [Fa,qo]
theorem DI (W : Hz) (σ : Store) {y : V} (h : y.still = true) : Fa W σ y y:=.inr (Ik h)
theorem agi (W : Hz) (σ : Store) (sz : Nat) (rows : List (List V)) : Fa W σ (.sl sz rows) (.sl sz rows) = True:=eq_true (DI W σ rfl)
theorem acs (W : Hz) (σ : Store) (a : List UInt8) : Fa W σ (.str a) (.str a) = True:=eq_true (DI W σ rfl)
theorem Am (W : Hz) (σ : Store) (sz : Nat) : Fa W σ (.sl sz []) .ak = True:=eq_true (.inr (by simp only [qo];exact .inr ⟨sz,rfl⟩))
theorem aay (W : Hz) (σ : Store) : Fa W σ .ak .ak = True:=eq_true (DI W σ rfl)
theorem jZ {W : Hz} {σ : Store} {k o l l' n : Nat} (h : W[k]? = some (some (o,0,n))) (hl : l ≤ n) (e : l' = l) : Fa W σ (.bF k 0 l') (.bF o 0 l) :=
 .inr (by simp only [qo];exact .inl ⟨k,0,n,h,Nat.le_refl _,by omega,by rw [e]⟩)
theorem yL {W : Hz} {σ : Store} {k o r off n : Nat} (h : W[k]? = some (some (o,0,n))) (hl : r < n) : Fa W σ (.ptr k r off) (.ptr o r off) :=
 .inr (by simp only [qo];exact .inl ⟨k,0,n,h,Nat.zero_le _,by omega,by simp⟩)
theorem CZ {W : Hz} {σ : Store} {o s l : Nat} {y : V} (h : resolve σ FD (.bF o s l) = some y) (hq : ∀ q,q ∈ reach σ FD (.bF o s l) → ∀ (k s0 l0 : Nat),W[k]? ≠ some (some (q,s0,l0))) : Fa W σ y (.bF o s l) :=
 .inr (by simp only [qo];exact .inr (.inr ⟨h,hq⟩))
theorem jo {W : Hz} {σ : Store} {x y : V} (h : y.still = true) (e : x = y) : Fa W σ x y:=e ▸ DI W σ (e ▸ h)
def BH (W : Hz) (σ : Store) : List V → Nat → (Nat → V) → Prop
 | [],_,_=>True
 | v :: vs,i,env=>Fa W σ v (env i) ∧ BH W σ vs (i + 1) env
theorem acu (W : Hz) (σ : Store) (i : Nat) (env : Nat → V) : BH W σ [] i env = True:=nr rfl
theorem acv (W : Hz) (σ : Store) (v : V) (vs : List V) (i : Nat) (env : Nat → V) : BH W σ (v :: vs) i env = (Fa W σ v (env i) ∧ BH W σ vs (i + 1) env):=nr rfl
theorem BH.at_ {W : Hz} {σ : Store} : ∀ {l : List V} {i : Nat} {env : Nat → V},BH W σ l i env → ∀ t,dX l t = .any ∨ qo W σ (env (i + t)) (dX l t)
 | [],_,_,_,t=>.inl rfl
 | v :: vs,i,env,h,0=>h.1
 |
  v :: vs,i,env,h,t + 1=>by
  have:=BH.at_ h.2 t
  rw [show i + 1 + t = i + (t + 1) by omega] at this
  exact this
theorem NS (l : List (Nat × Obj)) {vs : List V} {env : Nat → V} {σ σ2 : Store} {b1 b2 : Nat} {r1 r2 m1 m2 : List Nat} (hn : (l.map (·.1)).Nodup)
  (h : ∀ p ∈ l,aj σ p.1 = some p.2 ∧ dJ p.2.rows) (ho : σ2 = l.map fun p=>some p.2)
  (he : BH (l.map fun p=>some (p.1,0,p.2.rows.length)) σ vs 0 env) : Fg ⟨dX vs,σ2,0,b1,r1,m1⟩ ⟨env,σ,0,b2,r2,m2⟩:=by
 subst ho
 exact .re _ ⟨aco l hn h,rfl,fun i hi=>absurd hi (Nat.not_lt_zero _),fun t=>by have:=he.at_ t;rwa [Nat.zero_add] at this⟩
theorem agj (t n : Nat) (rs : List EF) (acc : List V) (st : St) (k : V → Prop) : EH (.cell t n true :: rs) acc st k = dI (rowAt st.objs (st.env t)) fun p=>if p.2 + n ≤ p.1.length then vT (.agg ((p.1.drop p.2).take n)) fun v=>EH rs (v :: acc) st k else False:=by
 simp only [EH,EF.get]
 cases e : rowAt st.objs (st.env t) with
 | none=>rfl
 |
  some p =>
  by_cases h : p.2 + n ≤ p.1.length
  ·simp only [dI,if_true,vT,gG,if_pos h]
  ·simp only [dI,if_true,vT,gG,if_neg h]
theorem agk {c : Prop} [Decidable c] {α : Type} {a b : Option α} (h : c) : (if c then a else b) = a:=by rw [if_pos h]
def DJ (env : Nat → V) (sz : Nat) : List (List V) → List (Nat × Src) → (List (List V) → Prop) → Prop
 | rows,[],k=>k rows
 | rows,(i,s) :: rest,k=>iQ (s.ev env) fun cs=>(cs.length = sz ∧ i < rows.length) ∧ DJ env sz (rows.set i cs) rest k
@[congr] theorem amx {env : Nat → V} {sz : Nat} {r r' : List (List V)} {ps : List (Nat × Src)} {k : List (List V) → Prop} (h : wr r = r') : DJ env sz r ps k = DJ env sz r' ps k:=by rw [← h,gG]
theorem acw (env : Nat → V) (sz : Nat) (rows : List (List V)) (k : List (List V) → Prop) : DJ env sz rows [] k = k rows:=nr rfl
theorem acy (env : Nat → V) (sz : Nat) (r : List V) (rows : List (List V)) (i : Nat) (s : Src) (rest : List (Nat × Src)) (k : List (List V) → Prop) :
  DJ env sz (r :: rows) ((i,s) :: rest) k = iQ (s.ev env) fun cs=>(cs.length = sz ∧ i < (r :: rows).length) ∧ DJ env sz ((r :: rows).set i cs) rest k:=nr rfl
theorem QG {env : Nat → V} {sz : Nat} : ∀ {ps : List (Nat × Src)} {rows : List (List V)} {k : List (List V) → Prop},dI (jE env sz rows ps) k = DJ env sz rows ps k
 | [],rows,k=>rfl
 |
  (i,s) :: rest,rows,k=>by
  simp only [jE,DJ,iQ]
  cases h : (s.ev env).cells? with
  | none=>rfl
  |
   some cs =>
   simp only [dI]
   by_cases hc : cs.length = sz ∧ i < rows.length
   ·rw [if_pos hc]
    simp only [hc,and_self,true_and]
    exact QG
   ·rw [if_neg hc]
    simp only [hc,false_and]
theorem agl (env : Nat → V) (σ : Store) (k : Eff → Prop) (sz : Nat) (z : List V) (n : Nat) (ps : List (Nat × Src)) : I.dO env σ (.fE sz z (n + 1) ps) k = DJ env sz (List.replicate (n + 1) z) ps fun rows=>k (.newS ⟨sz,rows⟩ (n + 1)):=by
 rw [ajf,QG]
 congr 1
theorem agm (env : Nat → V) (σ : Store) (k : Eff → Prop) (sz : Nat) (z : List V) : I.dO env σ (.fE sz z 0 []) k = k (.val .ak):=nr rfl
def Jh (env : Nat → V) : List V → List (Nat × Nat × Src) → (List V → Prop) → Prop
 | row,[],k=>k row
 | row,(off,n,s) :: rest,k=>iQ (s.ev env) fun cs=>(cs.length = n ∧ off + n ≤ row.length) ∧ Jh env (splice row off cs) rest k
@[congr] theorem an5 {env : Nat → V} {r r' : List V} {ps : List (Nat × Nat × Src)} {k : List V → Prop} (h : wr r = r') : Jh env r ps k = Jh env r' ps k:=by rw [← h,gG]
theorem agn (env : Nat → V) (row : List V) (k : List V → Prop) : Jh env row [] k = k row:=nr rfl
theorem agp (env : Nat → V) (c : V) (row : List V) (off n : Nat) (s : Src) (rest : List (Nat × Nat × Src)) (k : List V → Prop) :
  Jh env (c :: row) ((off,n,s) :: rest) k = iQ (s.ev env) fun cs=>(cs.length = n ∧ off + n ≤ (c :: row).length) ∧ Jh env (splice (c :: row) off cs) rest k:=nr rfl
theorem UU {env : Nat → V} : ∀ {ps : List (Nat × Nat × Src)} {row : List V} {k : List V → Prop},dI (qU env row ps) k = Jh env row ps k
 | [],row,k=>rfl
 |
  (off,n,s) :: rest,row,k=>by
  simp only [qU,Jh,iQ]
  cases h : (s.ev env).cells? with
  | none=>rfl
  |
   some cs =>
   simp only [dI]
   by_cases hc : cs.length = n ∧ off + n ≤ row.length
   ·rw [if_pos hc]
    simp only [hc,and_self,true_and]
    exact UU
   ·rw [if_neg hc]
    simp only [hc,false_and]
theorem acz (env : Nat → V) (σ : Store) (k : Eff → Prop) (z : List V) (ps : List (Nat × Nat × Src)) : I.dO env σ (.build z ps) k = Jh env z ps fun cs=>vT (.agg cs) fun v=>k (.val v):=by
 rw [afQ,UU];rfl
def Xq : Option Src → (Nat → V) → Nat → (Nat → Prop) → Prop
 | none,_,n,k=>Ih n k
 | some h,env,n,k=>ji n (h.ev env) k
def Xr : Option Src → (Nat → V) → Nat → (Nat → Prop) → Prop
 | none,_,_,k=>k 0
 | some h,env,n,k=>ji n (h.ev env) k
theorem ajN (env : Nat → V) (n : Nat) (k : Nat → Prop) : Xq none env n k = Ih n k:=nr rfl
theorem ajO (h : Src) (env : Nat → V) (n : Nat) (k : Nat → Prop) : Xq (some h) env n k = ji n (h.ev env) k:=nr rfl
theorem ajP (env : Nat → V) (n : Nat) (k : Nat → Prop) : Xr none env n k = k 0:=nr rfl
theorem ajQ (h : Src) (env : Nat → V) (n : Nat) (k : Nat → Prop) : Xr (some h) env n k = ji n (h.ev env) k:=nr rfl
@[congr] theorem aqc {o : Option Src} {env : Nat → V} {n n' : Nat} {k : Nat → Prop} (h : wr n = n') : Xq o env n k = Xq o env n' k:=by rw [← h,gG]
@[congr] theorem aqd {o : Option Src} {env : Nat → V} {n n' : Nat} {k : Nat → Prop} (h : wr n = n') : Xr o env n k = Xr o env n' k:=by rw [← h,gG]
theorem agq (env : Nat → V) (σ : Store) (k : Eff → Prop) (sz : Nat) (x : Src) (lo hi : Option Src) : I.dO env σ (.slice sz x lo hi) k =
  dI (lenOf σ (x.ev env)) fun n=>Xq hi env n fun h=>Xr lo env h fun l=>slK (x.ev env) (vT .ak fun v=>k (.val v)) (fun sz' rows=>sz' = sz ∧ vT (.sl sz' ((rows.take h).drop l)) fun v=>k (.val v))
   (fun o s _=>dI (aj σ o) fun ob=>ob.sz = sz ∧ vT (.bF o (s + l) (h - l)) fun v=>k (.val v)):=by
 simp only [I.dO]
 congr 1
 funext n
 cases hi <;> cases lo <;> simp only [Xq,Xr,Ih,vT] <;> (cases x.ev env <;> rfl)
theorem acA (env : Nat → V) (σ : Store) (k : Eff → Prop) (x : Src) (lo hi : Option Src) : I.dO env σ (.Hy x lo hi) k =
  aaw (x.ev env) fun s=>Xq hi env s.length fun h=>Xr lo env h fun l=>vT (.str ((s.take h).drop l)) fun v=>k (.val v):=by
 simp only [I.dO]
 cases x.ev env <;> first | rfl | (cases hi <;> cases lo <;> rfl)
theorem PF.lax {T : Tb} {f : Nat} {as as' : List V} {r r' : V} (h : PF T f as r) (ha : nN as as') (hr : bM r' r) : PF T f as' r':=Run.Z9 ha h hr
def val : List Int → Nat
 | []=>0
 | d :: l=>d.toNat + 1000000000 * val l
def mk (n : Nat) : List Int:=if h : n = 0 then [] else ((n % 1000000000 : Nat) : Int) :: mk (n / 1000000000)
termination_by n
decreasing_by omega
def Lb (l : List Int) : Prop:=∀ d ∈ l,0 ≤ d ∧ d < 1000000000
theorem mk_zero : mk 0 = []:=by rw [mk];rfl
theorem mk_pos {n : Nat} (h : n ≠ 0) : mk n = ((n % 1000000000 : Nat) : Int) :: mk (n / 1000000000):=by rw [mk];rw [dif_neg h]
theorem val_mk (n : Nat) : val (mk n) = n:=by
 induction n using Nat.strongRecOn with
 |
  ind n ih =>
  by_cases h : n = 0
  ·subst h;rw [mk_zero];rfl
  ·rw [mk_pos h]
   simp only [val]
   rw [ih _ (by omega),Int.toNat_natCast]
   omega
theorem jT (n : Nat) : Lb (mk n):=by
 induction n using Nat.strongRecOn with
 |
  ind n ih =>
  by_cases h : n = 0
  ·subst h;rw [mk_zero];intro d hd;cases hd
  ·rw [mk_pos h]
   intro d hd
   rcases List.mem_cons.1 hd with rfl | hd
   ·omega
   ·exact ih _ (by omega) d hd
theorem val_append (a b : List Int) : val (a ++ b) = val a + 1000000000 ^ a.length * val b:=by
 induction a with
 | nil=>simp [val]
 |
  cons d a ih =>
  simp only [List.cons_append,val,ih,List.length_cons,Nat.pow_succ,Nat.mul_add]
  rw [Nat.mul_comm (1000000000 ^ a.length) 1000000000,Nat.mul_assoc]
  omega
theorem nU {l : List Int} (h : Lb l) : val l < 1000000000 ^ l.length:=by
 induction l with
 | nil=>simp [val]
 |
  cons d l ih =>
  have h1:=h d (by simp)
  have h2:=ih fun x hx=>h x (by simp [hx])
  simp only [val,List.length_cons,Nat.pow_succ]
  have : d.toNat < 1000000000:=by omega
  generalize 1000000000 ^ l.length = p at *
  omega
theorem NT (n : Nat) : ∀ (l : List Int),Lb l → val l = n → n ≠ 0 → l.getLast? ≠ some 0 → mk n = l:=by
 induction n using Nat.strongRecOn with
 |
  ind n ih =>
  intro l hl hv hn ht
  cases l with
  | nil=>simp [val] at hv;omega
  |
   cons d l =>
   have hd:=hl d (by simp)
   have hl' : Lb l:=fun x hx=>hl x (by simp [hx])
   simp only [val] at hv
   rw [mk_pos hn]
   have e1 : ((n % 1000000000 : Nat) : Int) = d:=by omega
   have e2 : n / 1000000000 = val l:=by omega
   rw [e1,e2]
   congr 1
   by_cases h0 : val l = 0
   ·rw [h0,mk_zero]
    have hz : ∀ (l : List Int),Lb l → val l = 0 → ∀ x ∈ l,x = 0:=by
     intro l
     induction l with
     | nil=>intro _ _ x hx;cases hx
     |
      cons y l ih2 =>
      intro hl hv x hx
      simp only [val] at hv
      have hy:=hl y (by simp)
      rcases List.mem_cons.1 hx with rfl | hx
      ·omega
      ·exact ih2 (fun z hz=>hl z (by simp [hz])) (by omega) x hx
    cases l with
    | nil=>rfl
    |
     cons y l =>
     exfalso
     apply ht
     have hlast : (d :: y :: l).getLast? = some ((y :: l).getLast (by simp)):=by
      rw [List.getLast?_cons_cons,List.getLast?_eq_some_getLast (by simp)]
     rw [hlast]
     congr 1
     exact hz _ hl' h0 _ (List.getLast_mem _)
   ·refine ih (val l) (by omega) l hl' rfl h0 ?_
    cases l with
    | nil=>simp [val] at h0
    | cons y l=>rwa [List.getLast?_cons_cons] at ht
def Can (l : List Int) : Prop:=Lb l ∧ l.getLast? ≠ some 0
theorem mk_val {l : List Int} (h : Can l) : mk (val l) = l:=by
 by_cases h0 : val l = 0
 ·rw [h0,mk_zero]
  cases l with
  | nil=>rfl
  |
   cons d l =>
   exfalso
   apply h.2
   have hz : ∀ (l : List Int),Lb l → val l = 0 → ∀ x ∈ l,x = 0:=by
    intro l
    induction l with
    | nil=>intro _ _ x hx;cases hx
    |
     cons y l ih2 =>
     intro hl hv x hx
     simp only [val] at hv
     have hy:=hl y (by simp)
     rcases List.mem_cons.1 hx with rfl | hx
     ·omega
     ·exact ih2 (fun z hz=>hl z (by simp [hz])) (by omega) x hx
   rw [List.getLast?_eq_some_getLast (by simp)]
   congr 1
   exact hz _ h.1 h0 _ (List.getLast_mem _)
 ·exact NT _ l h.1 rfl h0 h.2
theorem kJ (n : Nat) : Can (mk n):=by
 refine ⟨jT n,?_⟩
 induction n using Nat.strongRecOn with
 |
  ind n ih =>
  by_cases h : n = 0
  ·subst h;rw [mk_zero];simp
  ·rw [mk_pos h]
   by_cases h1 : n / 1000000000 = 0
   ·rw [h1,mk_zero]
    simp
    omega
   ·rw [mk_pos h1,List.getLast?_cons_cons,← mk_pos h1]
    exact ih _ (by omega)
theorem aX {n k : Nat} : (mk n).length ≤ k ↔ n < 1000000000 ^ k:=by
 constructor
 ·intro h
  have h1:=nU (jT n)
  rw [val_mk] at h1
  exact Nat.lt_of_lt_of_le h1 (Nat.pow_le_pow_right (by omega) h)
 ·induction k generalizing n with
  | zero =>
       intro h;have : n = 0:=by simpa using h
       subst this;rw [mk_zero];simp
  |
   succ k ih =>
   intro h
   by_cases h0 : n = 0
   ·subst h0;rw [mk_zero];simp
   ·rw [mk_pos h0,List.length_cons]
    have : n / 1000000000 < 1000000000 ^ k:=by
     rw [Nat.pow_succ,Nat.mul_comm] at h
     exact Nat.div_lt_of_lt_mul h
    have:=ih this
    omega
theorem QH {n k : Nat} : k < (mk n).length ↔ 1000000000 ^ k ≤ n:=by
 have:=@aX n k
 omega
theorem acB {n : Nat} : mk n = [] ↔ n = 0:=by
 constructor
 ·intro h;have:=val_mk n;rw [h] at this;simpa [val] using this.symm
 ·rintro rfl;exact mk_zero
theorem acC {n : Nat} (h : n ≠ 0) : 0 < (mk n).length:=by
 rw [mk_pos h];simp
theorem aaz {l : List Int} (h : Lb l) (hv : l ≠ [] → 1000000000 ^ (l.length - 1) ≤ val l) : Can l:=by
 refine ⟨h,fun ht=>?_⟩
 cases hl : l with
 | nil=>rw [hl] at ht;simp at ht
 |
  cons d r =>
  have hne : l ≠ []:=by rw [hl];simp
  have h1:=hv hne
  have h2 : l = l.dropLast ++ [0]:=by
   have:=List.dropLast_concat_getLast hne
   rw [List.getLast?_eq_some_getLast hne] at ht
   rw [Option.some.inj ht] at this
   exact this.symm
  have h3 : Lb l.dropLast:=fun x hx=>h x (List.dropLast_subset _ hx)
  have h4:=nU h3
  rw [h2,val_append] at h1
  simp only [val,List.length_append,List.length_cons,List.length_nil,List.length_dropLast] at h1 h4
  simp at h1
  omega
def lN (l : List Int) : Nat → Nat
 | 0=>0
 | n + 1=>if l.getD n 0 = 0 then lN l n else n + 1
def trim (l : List Int) : List Int:=l.take (lN l l.length)
theorem UW (l : List Int) : ∀ n,lN l n ≤ n
 | 0=>Nat.le_refl _
 | n + 1=>by simp only [lN];split;exact Nat.le_succ_of_le (UW l n);exact Nat.le_refl _
theorem dK {l : List Int} {n : Nat} (h : n < l.length) : l.take (n + 1) = l.take n ++ [l.getD n 0]:=by
 rw [List.take_add_one]
 simp [List.getD_eq_getElem?_getD,h]
theorem QI (l : List Int) : ∀ n,n ≤ l.length → val (l.take (lN l n)) = val (l.take n) ∧ (l.take (lN l n)).getLast? ≠ some 0
 | 0,_=>by simp [lN]
 |
  n + 1,h=>by
  simp only [lN]
  obtain ⟨h1,h2⟩:=QI l n (by omega)
  split
  ·rename_i h0
   refine ⟨?_,h2⟩
   rw [h1,dK (by omega),h0,val_append]
   simp [val]
  ·rename_i h0
   refine ⟨rfl,?_⟩
   rw [dK (by omega)]
   simp only [List.getLast?_append,List.getLast?_singleton,Option.some_or,ne_eq,Option.some.injEq]
   exact h0
theorem Sj {l : List Int} (h : Lb l) (n : Nat) : Lb (l.take n):=fun x hx=>h x (List.mem_of_mem_take hx)
theorem qV {l : List Int} (h : Lb l) : trim l = mk (val l):=by
 obtain ⟨h1,h2⟩:=QI l l.length (Nat.le_refl _)
 rw [List.take_length] at h1
 have hc : Can (trim l):=⟨Sj h _,h2⟩
 rw [← h1]
 exact (mk_val hc).symm
theorem NU {l : List Int} (h : Can l) : trim l = l:=by rw [qV h.1,mk_val h]
theorem Xt : Lb []:=fun x hx=>by cases hx
theorem Sl {d : Int} {l : List Int} (h0 : 0 ≤ d) (h1 : d < 1000000000) (h : Lb l) : Lb (l ++ [d]):=by
 intro x hx
 rcases List.mem_append.1 hx with hx | hx
 ·exact h x hx
 ·simp at hx;subst hx;exact ⟨h0,h1⟩
theorem DK {l : List Int} {d : Int} {i : Nat} (h0 : 0 ≤ d) (h1 : d < 1000000000) (h : Lb l) : Lb (l.set i d):=by
 intro x hx
 rcases List.mem_or_eq_of_mem_set hx with hx | rfl
 ·exact h x hx
 ·exact ⟨h0,h1⟩
theorem jU {l : List Int} (h : Lb l) (i : Nat) : 0 ≤ l.getD i 0 ∧ l.getD i 0 < 1000000000:=by
 by_cases hi : i < l.length
 ·rw [List.getD_eq_getElem?_getD,List.getElem?_eq_getElem hi]
  exact h _ (List.getElem_mem _)
 ·rw [List.getD_eq_getElem?_getD,List.getElem?_eq_none (by omega)];simp
theorem Il (n : Nat) : Lb (List.replicate n 0):=by
 intro x hx
 have:=List.eq_of_mem_replicate hx
 subst this;omega
theorem mD (l : List Int) (d : Int) : val (l ++ [d]) = val l + 1000000000 ^ l.length * d.toNat:=by
 rw [val_append];simp [val]
theorem acD {l : List Int} {i : Nat} (h : i < l.length) : val (l.drop i) = (l.getD i 0).toNat + 1000000000 * val (l.drop (i + 1)):=by
 rw [List.drop_eq_getElem_cons h]
 simp [val,List.getD_eq_getElem?_getD,h]
theorem bK {l : List Int} {i : Nat} (h : l.length ≤ i) : val (l.drop i) = 0:=by
 rw [List.drop_eq_nil_of_le h];rfl
theorem qy (l : List Int) (i : Nat) : val l = val (l.take i) + 1000000000 ^ (l.take i).length * val (l.drop i):=by
 rw [← val_append,List.take_append_drop]
theorem YT (n : Nat) : val (List.replicate n 0) = 0:=by
 induction n with
 | zero=>rfl
 | succ n ih=>simp [List.replicate_succ,val,ih]
theorem MO {l : List Int} {i : Nat} {d : Int} (h : i < l.length) : val (l.set i d) + 1000000000 ^ i * (l.getD i 0).toNat = val l + 1000000000 ^ i * d.toNat:=by
 induction l generalizing i with
 | nil=>simp at h
 |
  cons x l ih =>
  cases i with
  | zero=>simp [val];omega
  |
   succ i =>
   have:=ih (i:=i) (by simpa using h)
   simp only [List.set_cons_succ,val,Nat.pow_succ]
   have e : (x :: l).getD (i + 1) 0 = l.getD i 0:=by simp
   rw [e]
   have e1 : ∀ z,1000000000 ^ i * 1000000000 * z = 1000000000 * (1000000000 ^ i * z):=fun z=>by rw [Nat.mul_comm (1000000000 ^ i) 1000000000,Nat.mul_assoc]
   rw [e1,e1]
   generalize 1000000000 ^ i * (l.getD i 0).toNat = p at *
   generalize 1000000000 ^ i * d.toNat = q at *
   omega
def C9 (a b : Nat) : Int:=if a < b then -1 else if b < a then 1 else 0
theorem val_last {l : List Int} {n : Nat} (h : n < l.length) : val (l.take (n + 1)) = val (l.take n) + 1000000000 ^ n * (l.getD n 0).toNat:=by
 have e : (l.take n).length = n:=by simp;omega
 rw [dK h,mD,e]
theorem Xu {l : List Int} (h : Can l) (hne : l ≠ []) : 1000000000 ^ (l.length - 1) ≤ val l:=by
 have h1:=@QH (val l) (l.length - 1)
 rw [mk_val h] at h1
 apply h1.1
 have : l.length ≠ 0:=fun e=>hne (List.eq_nil_of_length_eq_zero e)
 omega
theorem mP {a b : List Int} (ha : Lb a) (hb : Can b) (h : a.length < b.length) : val a < val b:=by
 have h1:=nU ha
 have hne : b ≠ []:=by intro e;subst e;simp at h
 have h2:=Xu hb hne
 exact Nat.lt_of_lt_of_le h1 (Nat.le_trans (Nat.pow_le_pow_right (by omega) (by omega)) h2)
theorem Gj {a b : List Int} (ha : Lb a) (hb : Lb b) {i : Nat} (hia : i < a.length) (hib : i < b.length) (hd : a.drop (i + 1) = b.drop (i + 1)) (hlt : a.getD i 0 < b.getD i 0) : val a < val b:=by
 rw [qy a (i + 1),qy b (i + 1),hd,val_last hia,val_last hib]
 have h1:=nU (Sj ha i)
 have e1 : (a.take (i + 1)).length = i + 1:=by simp;omega
 have e2 : (b.take (i + 1)).length = i + 1:=by simp;omega
 have e3 : (a.take i).length = i:=by simp;omega
 rw [e1,e2]
 rw [e3] at h1
 have h2:=jU ha i
 have h3:=jU hb i
 have : 1000000000 ^ i * (a.getD i 0).toNat + 1000000000 ^ i ≤ 1000000000 ^ i * (b.getD i 0).toNat:=by
  rw [← Nat.mul_succ]
  exact Nat.mul_le_mul_left _ (by omega)
 omega
structure R where
 neg : Bool
 mag : List Int
 den : List Int
 deriving DecidableEq
instance : Inhabited R:=⟨⟨false,[],[]⟩⟩
def fits (q : Rat) : Bool:=decide (q.num.natAbs < 1000000000 ^ 24) && decide (q.den < 1000000000 ^ 24)
abbrev Q:=Option Rat
def norm (q : Rat) : Q:=if fits q = true then some q else none
def Q.raw : Q → R
 | none=>⟨false,[],[]⟩
 | some q=>⟨decide (q.num < 0),mk q.num.natAbs,mk q.den⟩
def Q.ok : Q → Prop
 | none=>True
 | some q=>fits q = true
theorem Sm (q : Rat) : (norm q).ok:=by
 unfold norm
 split
 ·assumption
 ·trivial
theorem jX {q : Rat} (h : fits q = true) : norm q = some q:=by unfold norm;rw [if_pos h]
theorem QJ {q : Rat} (h : fits q = false) : norm q = none:=by unfold norm;rw [if_neg (by simp [h])]
def negQ : Q → Q
 | some a=>some (-a)
 | none=>none
def EI : Q → Q → Q
 | some a,some b=>norm (a + b)
 | _,_=>none
def Xv (a b : Q) : Q:=EI a (negQ b)
def KC : Q → Q → Q
 | some a,some b=>norm (a * b)
 | _,_=>none
def P6 : Q → Q → Q
 | some a,some b=>if b = 0 then none else norm (a / b)
 | _,_=>none
def Io (n d : Int) : Q:=if d = 0 then none else norm (Rat.divInt n d)
def WH (n : Int) : Int:=if n < 0 then -1 else if n = 0 then 0 else 1
def nY : Q → Int
 | some a=>WH a.num
 | none=>0
def ajR (n : Int) : Q:=some (n : Rat)
theorem MQ {a : Q} (h : a.ok) : (negQ a).ok:=by
 cases a with
 | none=>trivial
 |
  some a =>
  simp only [negQ,Q.ok,fits,Rat.neg_num,Rat.neg_den,Int.natAbs_neg] at h ⊢
  exact h
theorem Sr (a b : Q) : (EI a b).ok:=by
 unfold EI;split <;> first | exact Sm _ | trivial
theorem YU (a b : Q) : (Xv a b).ok:=Sr _ _
theorem YV (a b : Q) : (KC a b).ok:=by
 unfold KC;split <;> first | exact Sm _ | trivial
theorem YW (a b : Q) : (P6 a b).ok:=by
 unfold P6;split <;> first | (split <;> first | exact Sm _ | trivial) | trivial
theorem YX {n : Int} (h : n.natAbs < 1000000000 ^ 24) : (ajR n).ok:=by
 have h1 : decide (n.natAbs < 1000000000 ^ 24) = true:=decide_eq_true h
 show (decide ((n : Rat).num.natAbs < 1000000000 ^ 24) && decide ((n : Rat).den < 1000000000 ^ 24)) = true
 rw [Rat.num_intCast,Rat.den_intCast,h1]
 rfl
theorem Sv (a b : Rat) : Io (a.num * b.den + b.num * a.den) (a.den * b.den) = norm (a + b):=by
 have ha:=a.den_nz
 have hb:=b.den_nz
 have h0 : (a.den : Int) * b.den ≠ 0:=by
  intro h
  rcases Int.mul_eq_zero.1 h with h | h <;> omega
 unfold Io
 rw [if_neg h0,Rat.add_def',← Rat.divInt_ofNat]
 simp
theorem Sz (a b : Rat) : Io (a.num * b.num) (a.den * b.den) = norm (a * b):=by
 have ha:=a.den_nz
 have hb:=b.den_nz
 have h0 : (a.den : Int) * b.den ≠ 0:=by
  intro h
  rcases Int.mul_eq_zero.1 h with h | h <;> omega
 unfold Io
 rw [if_neg h0,Rat.mul_def',← Rat.divInt_ofNat]
 simp
theorem YZ (a b : Rat) : Io (a.num * b.den) (b.num * a.den) = if b = 0 then none else norm (a / b):=by
 have ha:=a.den_nz
 have hb:=b.den_nz
 unfold Io
 by_cases h : b = 0
 ·subst h;simp
 ·have hn : b.num ≠ 0:=fun k=>h (Rat.num_eq_zero.1 k)
  have h0 : b.num * (a.den : Int) ≠ 0:=by
   intro h
   rcases Int.mul_eq_zero.1 h with h | h <;> omega
  rw [if_neg h0,if_neg h,Rat.div_def,Rat.inv_def]
  congr 1
  conv=>rhs;lhs;rw [← Rat.num_divInt_den a]
  rw [Rat.divInt_mul_divInt,Int.mul_comm b.num]
theorem Xw {n d : Int} (h : d ≠ 0) : (Rat.divInt n d).num.natAbs = n.natAbs / Nat.gcd n.natAbs d.natAbs ∧ (Rat.divInt n d).den = d.natAbs / Nat.gcd n.natAbs d.natAbs ∧
  (decide ((Rat.divInt n d).num < 0) = (decide (n ≠ 0) && (decide (n < 0) != decide (d < 0)))):=by
 have hg : d.gcd n = Nat.gcd n.natAbs d.natAbs:=by rw [Int.gcd_comm];rfl
 have an6 : 0 < Nat.gcd n.natAbs d.natAbs:=Nat.gcd_pos_of_pos_right _ (by omega)
 have hdvd : ((Nat.gcd n.natAbs d.natAbs : Nat) : Int) ∣ d.sign * n:=by
  have : ((Nat.gcd n.natAbs d.natAbs : Nat) : Int) ∣ n:=Int.ofNat_dvd_left.2 (Nat.gcd_dvd_left _ _)
  exact Int.dvd_trans this (Int.dvd_mul_left _ _)
 rw [Rat.num_divInt,Rat.den_divInt,if_neg h,hg]
 obtain ⟨c,hc⟩:=hdvd
 have hsg : d.sign = 1 ∨ d.sign = -1:=by
  rcases Int.lt_trichotomy d 0 with h1 | h1 | h1
  ·right;exact Int.sign_eq_neg_one_of_neg h1
  ·exact absurd h1 h
  ·left;exact Int.sign_eq_one_of_pos h1
 refine ⟨?_,rfl,?_⟩
 ·rw [hc,Int.mul_ediv_cancel_left _ (by omega)]
  have h1 : (d.sign * n).natAbs = n.natAbs:=by
   rcases hsg with e | e <;> rw [e] <;> simp
  have h2 : n.natAbs = Nat.gcd n.natAbs d.natAbs * c.natAbs:=by
   have h3:=congrArg Int.natAbs hc
   rw [h1,Int.natAbs_mul,Int.natAbs_natCast] at h3
   exact h3
  generalize hG : Nat.gcd n.natAbs d.natAbs = G at *
  rw [h2,Nat.mul_div_cancel_left _ an6]
 ·rw [hc,Int.mul_ediv_cancel_left _ (by omega)]
  have hcn : (c < 0) ↔ (d.sign * n < 0):=by
   rw [hc]
   constructor
   ·intro hlt;exact Int.mul_neg_of_pos_of_neg (by omega) hlt
   ·intro hlt
    by_cases k : c < 0
    ·exact k
    ·have k : 0 ≤ c:=by omega
     have:=Int.mul_nonneg (by omega : (0 : Int) ≤ ((Nat.gcd n.natAbs d.natAbs : Nat) : Int)) k
     omega
  rcases Int.lt_trichotomy d 0 with h1 | h1 | h1
  ·rw [Int.sign_eq_neg_one_of_neg h1] at hcn
   have e1 : decide (d < 0) = true:=by simpa using h1
   rw [e1]
   by_cases hn : n < 0
   ·have : ¬ c < 0:=by rw [hcn];omega
    simp [hn,this]
   ·by_cases hn0 : n = 0
    ·have : ¬ c < 0:=by rw [hcn];omega
     simp [hn0,this]
    ·have : c < 0:=by rw [hcn];omega
     simp [hn,hn0,this]
  ·exact absurd h1 h
  ·rw [Int.sign_eq_one_of_pos h1] at hcn
   have e1 : decide (d < 0) = false:=by simp;omega
   rw [e1]
   by_cases hn : n < 0
   ·have : c < 0:=by rw [hcn];omega
    have h2 : n ≠ 0:=by omega
    simp [hn,this,h2]
   ·have : ¬ c < 0:=by rw [hcn];omega
    simp [hn,this]
def kT (a : List Int) : Bool:=decide (a.length ≤ 60) && a.all (fun d=>decide (0 ≤ d) && decide (d < 1000000000)) && (a.isEmpty || decide (a.getD (a.length - 1) 0 ≠ 0))
theorem Gl {a : List Int} : kT a = true ↔ a.length ≤ 60 ∧ Can a:=by
 unfold kT Can Lb
 simp only [Bool.and_eq_true,decide_eq_true_eq,List.all_eq_true,Bool.or_eq_true,List.isEmpty_iff]
 have h : (a = [] ∨ a.getD (a.length - 1) 0 ≠ 0) ↔ a.getLast? ≠ some 0:=by
  cases a with
  | nil=>simp
  |
   cons d l =>
   rw [List.getLast?_eq_getElem?,List.getD_eq_getElem?_getD]
   simp
 rw [h,and_assoc]
theorem Df {a : List Int} (h : kT a = true) : a = mk (val a):=(mk_val (Gl.1 h).2).symm
theorem Ji {n : Nat} (h : n < 1000000000 ^ 60) : kT (mk n) = true:=Gl.2 ⟨aX.2 h,kJ n⟩
def R.ok (r : R) : Bool:=kT r.mag && (!(r.neg && r.mag.isEmpty)) && kT r.den && !r.den.isEmpty && decide (r.mag.length ≤ 24) && decide (r.den.length ≤ 24) &&
 decide (Nat.gcd (val r.mag) (val r.den) = 1)
theorem ajS {q : Rat} (h : fits q = true) : (Q.raw (some q)).ok = true:=by
 simp only [fits,Bool.and_eq_true,decide_eq_true_eq] at h
 obtain ⟨h1,h2⟩:=h
 have p : (1000000000 : Nat) ^ 24 ≤ 1000000000 ^ 60:=Nat.pow_le_pow_right (by omega) (by omega)
 unfold R.ok Q.raw
 simp only [Bool.and_eq_true,decide_eq_true_eq,Bool.not_eq_true',Bool.and_eq_false_iff,List.isEmpty_eq_false_iff,val_mk]
 refine ⟨⟨⟨⟨⟨⟨Ji (by omega),?_⟩,Ji (by omega)⟩,?_⟩,aX.2 h1⟩,aX.2 h2⟩,q.reduced⟩
 ·by_cases h0 : q.num < 0
  ·right;intro e;rw [acB] at e;omega
  ·left;exact decide_eq_false h0
 ·intro e;rw [acB] at e;exact q.den_nz e
theorem yX {r : R} (h : r.ok = true) : ∃ q : Rat,fits q = true ∧ r = Q.raw (some q):=by
 obtain ⟨neg,mag,den⟩:=r
 unfold R.ok at h
 simp only [Bool.and_eq_true,decide_eq_true_eq,Bool.not_eq_true',Bool.and_eq_false_iff,List.isEmpty_eq_false_iff] at h
 obtain ⟨⟨⟨⟨⟨⟨h1,h2⟩,h3⟩,h4⟩,h5⟩,h6⟩,h7⟩:=h
 have em:=Df h1
 have ed:=Df h3
 have hdn : val den ≠ 0:=by intro e;rw [e,mk_zero] at ed;exact h4 ed
 refine ⟨⟨if neg then -(val mag : Int) else val mag,val den,hdn,?_⟩,?_,?_⟩
 ·unfold Nat.Coprime
  cases neg <;> simpa using h7
 ·simp only [fits,Bool.and_eq_true,decide_eq_true_eq]
  rw [em] at h5
  rw [ed] at h6
  rw [aX] at h5 h6
  refine ⟨?_,h6⟩
  cases neg <;> simpa using h5
 ·simp only [Q.raw,R.mk.injEq]
  refine ⟨?_,?_,ed⟩
  ·cases neg with
   | false=>simp
   |
    true =>
    simp only [if_true]
    rcases h2 with h2 | h2
    ·cases h2
    ·have : val mag ≠ 0:=by intro e;rw [e,mk_zero] at em;exact h2 em
     simp;omega
  ·have : (if neg = true then -(val mag : Int) else (val mag : Int)).natAbs = val mag:=by cases neg <;> simp
   rw [this];exact em
theorem UY : (Q.raw none).ok = false:=by decide
def R.q (r : R) : Q:=if r.ok = true then some (mkRat (if r.neg then -(val r.mag : Int) else val r.mag) (val r.den)) else none
theorem qA {q : Q} (h : q.ok) : (Q.raw q).q = q:=by
 cases q with
 | none=>unfold R.q;rw [UY];rfl
 |
  some q =>
  have h' : fits q = true:=h
  unfold R.q
  rw [if_pos (ajS h')]
  congr 1
  simp only [Q.raw,val_mk]
  have : (if decide (q.num < 0) = true then -(q.num.natAbs : Int) else (q.num.natAbs : Int)) = q.num:=by
   split
   ·rename_i h;have h:=of_decide_eq_true h;omega
   ·rename_i h;have h : ¬ q.num < 0:=fun k=>h (decide_eq_true k);omega
  rw [this,Rat.mkRat_self]
theorem Fb (r : R) : r.q.ok:=by
 by_cases h : r.ok = true
 ·obtain ⟨q,h1,rfl⟩:=yX h
  rw [qA (q:=some q) h1];exact h1
 ·unfold R.q;rw [if_neg h];trivial
theorem an7 {r : R} (h : r.ok = true) : Q.raw r.q = r:=by
 obtain ⟨q,h1,rfl⟩:=yX h
 rw [qA (q:=some q) h1]
theorem Xx {r : R} : r.q.isSome = r.ok:=by
 unfold R.q;split <;> simp_all
abbrev iv (n : Int) : V:=.int .i64 n
structure Lk where
 a : Int
 b : Int
 w : R
 dx : R
 dy : R
 deriving Inhabited,DecidableEq
structure Pt where
 x : R
 y : R
 deriving Inhabited,DecidableEq
structure Pa where
 node : Int
 share : R
 dx : R
 dy : R
 deriving Inhabited,DecidableEq
structure Cd where
 node : Int
 total : R
 ps : List Pa
 deriving Inhabited,DecidableEq
structure Tn where
 node : Int
 up : Int
 own : List Lk
 cond : Cd
 msgs : List Lk
 DL : R
 deriving Inhabited,DecidableEq
structure Po where
 turn : Int
 x : Int
 y : Int
 deriving Inhabited,DecidableEq
structure Bi where
 neg : Bool
 mag : List Int
 deriving Inhabited,DecidableEq
abbrev R.num (r : R) : Bi:=⟨r.neg,r.mag⟩
abbrev Bi.cells (z : Bi) : List V:=[.bool z.neg,ints z.mag]
abbrev R.cells (r : R) : List V:=[.bool r.neg,ints r.mag,ints r.den]
abbrev Lk.cells (l : Lk) : List V:=[iv l.a,iv l.b,.bool l.w.neg,ints l.w.mag,ints l.w.den,.bool l.dx.neg,ints l.dx.mag,ints l.dx.den,.bool l.dy.neg,ints l.dy.mag,ints l.dy.den]
abbrev Pt.cells (p : Pt) : List V:=[.bool p.x.neg,ints p.x.mag,ints p.x.den,.bool p.y.neg,ints p.y.mag,ints p.y.den]
abbrev Pa.cells (p : Pa) : List V:=[iv p.node,.bool p.share.neg,ints p.share.mag,ints p.share.den,.bool p.dx.neg,ints p.dx.mag,ints p.dx.den,.bool p.dy.neg,ints p.dy.mag,ints p.dy.den]
abbrev Ip (l : List Pa) : V:=.sl 10 (l.map Pa.cells)
abbrev iq (l : List Lk) : V:=.sl 11 (l.map Lk.cells)
abbrev Xy (l : List Pt) : V:=.sl 6 (l.map Pt.cells)
abbrev Ap (l : List R) : V:=.sl 3 (l.map R.cells)
abbrev Cd.cells (c : Cd) : List V:=[iv c.node,.bool c.total.neg,ints c.total.mag,ints c.total.den,Ip c.ps]
abbrev Tn.cells (t : Tn) : List V:=[iv t.node,iv t.up,iq t.own,iv t.cond.node,.bool t.cond.total.neg,ints t.cond.total.mag,ints t.cond.total.den,Ip t.cond.ps,iq t.msgs,
 .bool t.DL.neg,ints t.DL.mag,ints t.DL.den]
abbrev ar2 (l : List Tn) : V:=.sl 12 (l.map Tn.cells)
abbrev Ir (l : List (List R)) : V:=.sl 1 (l.map fun r=>[Ap r])
abbrev Po.cells (p : Po) : List V:=[iv p.turn,iv p.x,iv p.y]
abbrev aQ (r : R) : V:=.agg r.cells
abbrev LG (z : Bi) : V:=.agg z.cells
abbrev NV (l : Lk) : V:=.agg l.cells
abbrev ptV (p : Pt) : V:=.agg p.cells
abbrev SA (c : Cd) : V:=.agg c.cells
theorem mg {α : Type} [Inhabited α] {l : List α} {f : α → List V} {j : Nat} (h : j < l.length) : (l.map f).getD j [] = f (l.getD j default):=by
 simp [List.getD_eq_getElem?_getD,List.getElem?_eq_getElem h]
theorem mg? {α : Type} [Inhabited α] {l : List α} {f : α → List V} {j : Nat} (h : j < l.length) : (l.map f)[j]? = some (f (l.getD j default)):=by
 simp [List.getD_eq_getElem?_getD,List.getElem?_eq_getElem h]
theorem R.ext' {p q : R} (h1 : p.neg = q.neg) (h2 : p.mag = q.mag) (h3 : p.den = q.den) : p = q:=by cases p;cases q;simp_all
theorem Pt.ext' {p q : Pt} (h1 : p.x = q.x) (h2 : p.y = q.y) : p = q:=by cases p;cases q;simp_all
theorem Lk.ext' {p q : Lk} (h1 : p.a = q.a) (h2 : p.b = q.b) (h3 : p.w = q.w) (h4 : p.dx = q.dx) (h5 : p.dy = q.dy) : p = q:=by cases p;cases q;simp_all
theorem Pa.ext' {p q : Pa} (h1 : p.node = q.node) (h2 : p.share = q.share) (h3 : p.dx = q.dx) (h4 : p.dy = q.dy) : p = q:=by cases p;cases q;simp_all
theorem Cd.ext' {p q : Cd} (h1 : p.node = q.node) (h2 : p.total = q.total) (h3 : p.ps = q.ps) : p = q:=by cases p;cases q;simp_all
theorem Tn.ext' {p q : Tn} (h1 : p.node = q.node) (h2 : p.up = q.up) (h3 : p.own = q.own) (h4 : p.cond = q.cond) (h5 : p.msgs = q.msgs) (h6 : p.DL = q.DL) : p = q:=by cases p;cases q;simp_all
def szr (left : Int) (n : Nat) : Int:=if left < n then -1 else left - n
def UZ {α : Type} (f : α → Nat) (l : List α) : Nat:=l.length + (l.map f).sum
theorem Xz {α : Type} (f : α → Nat) (l : List α) : UZ f l = l.length + (l.map f).sum:=rfl
def R.sz (r : R) : Nat:=r.mag.length + r.den.length
def Lk.sz (l : Lk) : Nat:=l.w.sz + l.dx.sz + l.dy.sz
def Pt.sz (p : Pt) : Nat:=p.x.sz + p.y.sz
def Pa.sz (p : Pa) : Nat:=p.share.sz + p.dx.sz + p.dy.sz
def Cd.sz (c : Cd) : Nat:=c.total.sz + UZ Pa.sz c.ps
def Tn.sz (t : Tn) : Nat:=UZ Lk.sz t.own + t.cond.sz + UZ Lk.sz t.msgs + t.DL.sz
def R.wf (r : R) : Prop:=r.mag.length ≤ 9223372036854775807 ∧ r.den.length ≤ 9223372036854775807
def Lk.wf (l : Lk) : Prop:=l.w.wf ∧ l.dx.wf ∧ l.dy.wf
def Pt.wf (p : Pt) : Prop:=p.x.wf ∧ p.y.wf
def Pa.wf (p : Pa) : Prop:=p.share.wf ∧ p.dx.wf ∧ p.dy.wf
def MR {α : Type} (f : α → Prop) (l : List α) : Prop:=l.length ≤ 9223372036854775807 ∧ ∀ x ∈ l,f x
def Cd.wf (c : Cd) : Prop:=c.total.wf ∧ MR Pa.wf c.ps
def Tn.wf (t : Tn) : Prop:=MR Lk.wf t.own ∧ t.cond.wf ∧ MR Lk.wf t.msgs ∧ t.DL.wf
theorem MR.at_ {α : Type} [Inhabited α] {f : α → Prop} {l : List α} (h : MR f l) {i : Nat} (hi : i < l.length) : f (l.getD i default):=by
 refine h.2 _ ?_
 simp [List.getD_eq_getElem?_getD,List.getElem?_eq_getElem hi]
theorem getD_mem {α : Type} [Inhabited α] {l : List α} {i : Nat} (hi : i < l.length) : l.getD i default ∈ l:=by
 simp [List.getD_eq_getElem?_getD,List.getElem?_eq_getElem hi]
theorem aaA {α : Type} [Inhabited α] {a b : List α} (hl : a.length = b.length) (h : ∀ j,j < a.length → a.getD j default = b.getD j default) : a = b:=by
 refine List.ext_getElem hl fun i h1 h2=>?_
 have:=h i h1
 simpa [List.getD_eq_getElem?_getD,h1,h2] using this
theorem map_set {α : Type} (f : α → List V) (l : List α) (i : Nat) (z : α) : (l.map f).set i (f z) = (l.set i z).map f:=by simp [List.map_set]
theorem wE {α : Type} {f : α → List V} {l : List α} (h : ∀ x ∈ l,∀ v ∈ f x,v.still = true) : dJ (l.map f):=by
 intro r hr v hv
 obtain ⟨x,hx,rfl⟩:=List.mem_map.1 hr
 exact h x hx v hv
end Go.Ml
namespace Go.Ml
theorem ajT {α : Type} {f : α → List V} {l : List α} {σ : Store} {o n : Nat} (hs : ∀ x ∈ l,∀ v ∈ f x,v.still = true) (ho : aj σ o = some ⟨n,l.map f⟩) : resolve σ FD (.bF o 0 l.length) = some (.sl n (l.map f)):=by
 rw [anV ho (wE hs) (by simp),List.drop_zero,List.take_of_length_le (by simp)]
def Fe (σ : Store) (s l : Nat) (o : Option Obj) : Option V:=match o with
 | some ob=>if s + l ≤ ob.rows.length then (((ob.rows.drop s).take l).mapM fun (r : List V)=>r.mapM (resolve σ 11)).map (.sl ob.sz) else none
 | none=>none
def Jj (σ : Store) (s l : Nat) (o : Option Obj) : Option V:=match o with
 | some ob=>if s + l ≤ ob.rows.length then (((ob.rows.drop s).take l).mapM fun (r : List V)=>r.mapM (resolve σ 10)).map (.sl ob.sz) else none
 | none=>none
theorem ajU (σ : Store) (o s l : Nat) : resolve σ FD (.bF o s l) = Fe σ s l (aj σ o):=nr rfl
theorem ags (σ : Store) (o s l : Nat) : resolve σ 11 (.bF o s l) = Jj σ s l (aj σ o):=nr rfl
@[congr] theorem aqe {σ : Store} {s l : Nat} {o o' : Option Obj} (h : wr o = o') : Fe σ s l o = Fe σ s l o':=by rw [← h,gG]
@[congr] theorem an8 {σ : Store} {s l : Nat} {o o' : Option Obj} (h : wr o = o') : Jj σ s l o = Jj σ s l o':=by rw [← h,gG]
theorem Bq {σ : Store} {s l n : Nat} {rows : List (List V)} (hs : dJ rows) (h : s + l ≤ rows.length) : Fe σ s l (some ⟨n,rows⟩) = some (.sl n ((rows.drop s).take l)):=by
 unfold Fe
 simp only []
 rw [if_pos h,tK (n:=10) (hs.part s l)];rfl
theorem NW {σ : Store} {s l n : Nat} {rows : List (List V)} (hs : dJ rows) (h : s + l ≤ rows.length) : Jj σ s l (some ⟨n,rows⟩) = some (.sl n ((rows.drop s).take l)):=by
 unfold Jj
 simp only []
 rw [if_pos h,tK (n:=9) (hs.part s l)];rfl
theorem ajV {σ : Store} {s l n : Nat} {xs : List Int} (h : s + l ≤ xs.length) : Fe σ s l (some ⟨n,aH xs⟩) = some (.sl n (aH ((xs.drop s).take l))):=by
 rw [Bq (l9 xs) (by rw [yV];exact h),RX,RY]
theorem agt {σ : Store} {s l n : Nat} {xs : List Int} (h : s + l ≤ xs.length) : Jj σ s l (some ⟨n,aH xs⟩) = some (.sl n (aH ((xs.drop s).take l))):=by
 rw [NW (l9 xs) (by rw [yV];exact h),RX,RY]
theorem kK {α : Type} (f : α → List V) (L : List α) (s l : Nat) : ((L.map f).drop s).take l = ((L.drop s).take l).map f:=by simp [List.map_drop,List.map_take]
theorem aaB (L : List R) : dJ (L.map R.cells):=wE (by intro x _ v hv;simp at hv;rcases hv with rfl | rfl | rfl <;> rfl)
theorem Y0 (L : List Pt) : dJ (L.map Pt.cells):=wE (by intro x _ v hv;simp at hv;rcases hv with rfl | rfl | rfl | rfl | rfl | rfl <;> rfl)
theorem Fh (L : List Lk) : dJ (L.map Lk.cells):=wE (by intro x _ v hv;simp at hv;rcases hv with rfl | rfl | rfl | rfl | rfl | rfl | rfl | rfl | rfl | rfl | rfl <;> rfl)
theorem U0 (L : List Pa) : dJ (L.map Pa.cells):=wE (by intro x _ v hv;simp at hv;rcases hv with rfl | rfl | rfl | rfl | rfl | rfl | rfl | rfl | rfl | rfl <;> rfl)
theorem QK (L : List Cd) : dJ (L.map Cd.cells):=wE (by intro x _ v hv;simp at hv;rcases hv with rfl | rfl | rfl | rfl | rfl <;> rfl)
theorem ail (L : List (List R)) : dJ (L.map fun r=>[Ap r]):=wE (by intro x _ v hv;simp at hv;subst hv;rfl)
theorem ajW {σ : Store} {s l n : Nat} {L : List R} (h : s + l ≤ L.length) : Fe σ s l (some ⟨n,L.map R.cells⟩) = some (.sl n (((L.drop s).take l).map R.cells)):=by rw [Bq (aaB L) (by simpa using h),kK]
theorem agu {σ : Store} {s l n : Nat} {L : List Pt} (h : s + l ≤ L.length) : Fe σ s l (some ⟨n,L.map Pt.cells⟩) = some (.sl n (((L.drop s).take l).map Pt.cells)):=by rw [Bq (Y0 L) (by simpa using h),kK]
theorem agv {σ : Store} {s l n : Nat} {L : List Lk} (h : s + l ≤ L.length) : Fe σ s l (some ⟨n,L.map Lk.cells⟩) = some (.sl n (((L.drop s).take l).map Lk.cells)):=by rw [Bq (Fh L) (by simpa using h),kK]
theorem agw {σ : Store} {s l n : Nat} {L : List Pa} (h : s + l ≤ L.length) : Fe σ s l (some ⟨n,L.map Pa.cells⟩) = some (.sl n (((L.drop s).take l).map Pa.cells)):=by rw [Bq (U0 L) (by simpa using h),kK]
theorem acE {σ : Store} {s l n : Nat} {L : List Pa} (h : s + l ≤ L.length) : Jj σ s l (some ⟨n,L.map Pa.cells⟩) = some (.sl n (((L.drop s).take l).map Pa.cells)):=by rw [NW (U0 L) (by simpa using h),kK]
theorem agx {σ : Store} {s l n : Nat} {L : List Cd} (h : s + l ≤ L.length) : Fe σ s l (some ⟨n,L.map Cd.cells⟩) = some (.sl n (((L.drop s).take l).map Cd.cells)):=by rw [Bq (QK L) (by simpa using h),kK]
theorem agy {σ : Store} {s l n : Nat} {L : List (List R)} (h : s + l ≤ L.length) : Fe σ s l (some ⟨n,L.map fun r=>[Ap r]⟩) = some (.sl n (((L.drop s).take l).map fun r=>[Ap r])):=by rw [Bq (ail L) (by simpa using h),kK]
def uh (σ : Store) (rows : List (List V)) : List Nat:=rows.flatMap fun (r : List V)=>r.flatMap (reach σ 11)
def NY (σ : Store) (o : Option Obj) : List Nat:=match o with
 | some ob=>uh σ ob.rows
 | none=>[]
theorem ajX (σ : Store) (o s l : Nat) : reach σ FD (.bF o s l) = o :: NY σ (aj σ o):=nr rfl
@[congr] theorem amz {σ : Store} {o o' : Option Obj} (h : wr o = o') : NY σ o = NY σ o':=by rw [← h,gG]
theorem acF (σ : Store) (n : Nat) (rows : List (List V)) : NY σ (some ⟨n,rows⟩) = uh σ rows:=nr rfl
theorem acH (σ : Store) : NY σ none = []:=nr rfl
theorem sO {σ : Store} {rows : List (List V)} (h : dJ rows) : uh σ rows = []:=by
 unfold uh
 rw [List.flatMap_eq_nil_iff]
 intro r hr
 rw [List.flatMap_eq_nil_iff]
 intro v hv
 exact Bo (n:=10) (h r hr v hv)
theorem aaC (σ : Store) (xs : List Int) : uh σ (aH xs) = []:=sO (l9 xs)
theorem aaD (σ : Store) (L : List R) : uh σ (L.map R.cells) = []:=sO (aaB L)
theorem XA (σ : Store) (L : List Pt) : uh σ (L.map Pt.cells) = []:=sO (Y0 L)
theorem XB (σ : Store) (L : List Lk) : uh σ (L.map Lk.cells) = []:=sO (Fh L)
theorem XC (σ : Store) (L : List Pa) : uh σ (L.map Pa.cells) = []:=sO (U0 L)
theorem XD (σ : Store) (L : List Cd) : uh σ (L.map Cd.cells) = []:=sO (QK L)
theorem XE (σ : Store) (L : List (List R)) : uh σ (L.map fun r=>[Ap r]) = []:=sO (ail L)
theorem ar4 (sz : Nat) (r : List (List V)) : scalar SD (.sl sz r) = false:=nr rfl
theorem ajY : scalar SD .ak = true:=nr rfl
def QL (n : Nat) (cs : List V) : Bool:=cs.all (scalar n)
theorem an9 (cs : List V) : scalar SD (.agg cs) = QL 3 cs:=nr rfl
theorem aoa (cs : List V) : scalar SD (.gq cs) = QL 3 cs:=nr rfl
theorem agz (n : Nat) : QL n [] = true:=nr rfl
theorem agA (n : Nat) (c : V) (cs : List V) : QL n (c :: cs) = (scalar n c && QL n cs):=nr rfl
theorem ajZ (q : IntKind) (n : Int) : scalar 3 (.int q n) = true:=nr rfl
theorem agB (b : Bool) : scalar 3 (.bool b) = true:=nr rfl
theorem aj0 (s : List UInt8) : scalar 3 (.str s) = true:=nr rfl
theorem agC : scalar 3 .ak = true:=nr rfl
theorem aob (sz : Nat) (r : List (List V)) : scalar 3 (.sl sz r) = false:=nr rfl
theorem aj1 (cs : List V) : scalar 3 (.agg cs) = QL 2 cs:=nr rfl
theorem aj2 (q : IntKind) (n : Int) : scalar 2 (.int q n) = true:=nr rfl
theorem agD (b : Bool) : scalar 2 (.bool b) = true:=nr rfl
theorem aj3 (s : List UInt8) : scalar 2 (.str s) = true:=nr rfl
theorem agE : scalar 2 .ak = true:=nr rfl
theorem aoc (sz : Nat) (r : List (List V)) : scalar 2 (.sl sz r) = false:=nr rfl
theorem ar5 {t b : Int} (h : 0 ≤ t ∧ t ≤ 9223372036854775807 ∧ 0 < b) : IntKind.i64.wrap (t.tdiv b) = t.tdiv b:=by
 rw [Int.tdiv_eq_ediv_of_nonneg h.1]
 have h1 : 0 ≤ t / b:=Int.ediv_nonneg h.1 (by omega)
 have h2 : t / b ≤ t:=Int.ediv_le_self _ h.1
 exact w64 (by omega)
theorem acI {α : Type} {l : List α} {n : Nat} (h : l.length ≤ n) : l.take n = l:=List.take_of_length_le h
theorem agF (env : Nat → V) (x : Src) : I.reads env (.iw x) = []:=by simp [I.reads,I.lS]
theorem agG (env : Nat → V) (x : Src) : I.reads env (.box x) = []:=by simp [I.reads,I.lS]
theorem acJ (env : Nat → V) (x : Src) : I.reads env (.Ug x) = []:=by simp [I.reads,I.lS]
theorem agH (env : Nat → V) (x : Src) : I.reads env (.len x) = iE (x.ev env):=by simp [I.reads,I.lS]
theorem agI (env : Nat → V) (x : Src) : I.reads env (.chk x) = iE (x.ev env):=by simp [I.reads,I.lS]
theorem agJ (env : Nat → V) (d : Nat) (x : Src) : I.reads env (.fld d x) = iE (x.ev env):=by simp [I.reads,I.lS]
theorem aj6 (env : Nat → V) (d : UnOp) (x : Src) : I.reads env (.un d x) = []:=by simp [I.reads,I.lS]
theorem acK (env : Nat → V) (d : IntKind) (x : Src) : I.reads env (.conv d x) = []:=by simp [I.reads,I.lS]
theorem acL (env : Nat → V) (d : Nat) (x : Src) : I.reads env (.PL d x) = []:=by simp [I.reads,I.lS]
theorem acM (env : Nat → V) (n : Nat) (b : Bool) (x : Src) : I.reads env (.load n b x) = iE (x.ev env):=by simp [I.reads,I.lS]
theorem acN (env : Nat → V) (z : List V) (n : Nat) (x : Src) : I.reads env (.make z n x) = []:=by simp [I.reads,I.lS]
theorem aaE (env : Nat → V) (z : List V) : I.reads env (.alloc z) = []:=by simp [I.reads,I.lS]
theorem acO (env : Nat → V) (x y z : Src) : I.reads env (.pick x y z) = []:=by simp [I.reads,I.lS]
theorem aaF (env : Nat → V) (n : Nat) (x y : Src) : I.reads env (.store n x y) = iE (x.ev env):=by simp [I.reads,I.lS]
theorem agK (env : Nat → V) (n : Nat) (x y : Src) : I.reads env (.idx n x y) = iE (x.ev env):=by simp [I.reads,I.lS]
theorem acP (env : Nat → V) (m n : Nat) (x y : Src) : I.reads env (.Ry m n x y) = iE (x.ev env):=by simp [I.reads,I.lS]
theorem acQ (env : Nat → V) (x y : Src) : I.reads env (.Uf x y) = []:=by simp [I.reads,I.lS]
theorem acR (env : Nat → V) (m : Nat) (x y : Src) : I.reads env (.Uh m x y) = []:=by simp [I.reads,I.lS]
theorem agL (env : Nat → V) (n : BinOp) (x y : Src) : I.reads env (.bin n x y) = []:=by simp [I.reads,I.lS]
theorem agM (env : Nat → V) (n : Bool) (x y : Src) : I.reads env (.beq n x y) = []:=by simp [I.reads,I.lS]
theorem agN (env : Nat → V) (m n : Nat) (x y : Src) : I.reads env (.app m n x y) = iE (x.ev env) ++ iE (y.ev env):=by simp [I.reads,I.lS]
theorem agO (env : Nat → V) (x y : Src) : I.reads env (.max x y) = []:=by simp [I.reads,I.lS]
theorem aj7 (env : Nat → V) (z : List V) : I.reads env (.build z []) = []:=by simp [I.reads,I.lS]
theorem aj8 (env : Nat → V) (z : List V) (a b : Nat) (x : Src) (l : List (Nat × Nat × Src)) : I.reads env (.build z ((a,b,x) :: l)) = []:=by simp [I.reads,I.lS]
theorem aj9 (env : Nat → V) (sz : Nat) (z : List V) (n : Nat) : I.reads env (.fE sz z n []) = []:=by simp [I.reads,I.lS]
theorem akb (env : Nat → V) (sz : Nat) (z : List V) (n a : Nat) (x : Src) (l : List (Nat × Src)) : I.reads env (.fE sz z n ((a,x) :: l)) = []:=by simp [I.reads,I.lS]
theorem agP (q : IntKind) (n : Int) : iE (.int q n) = []:=nr rfl
theorem acS (b : Bool) : iE (.bool b) = []:=nr rfl
theorem agQ (b : List UInt8) : iE (.str b) = []:=nr rfl
theorem acU  : iE .ak = []:=nr rfl
theorem agR  : iE .one = []:=nr rfl
theorem agS  : iE .any = []:=nr rfl
theorem akc (n : Nat) (r : List (List V)) : iE (.sl n r) = []:=nr rfl
theorem acW (r : List V) (n : Nat) : iE (.eU r n) = []:=nr rfl
theorem agT (r : List V) : iE (.agg r) = []:=nr rfl
theorem agU (r : List V) : iE (.gq r) = []:=nr rfl
theorem agV (o r k : Nat) : iE (.ptr o r k) = [o]:=nr rfl
theorem agW (o r k : Nat) : iE (.bF o r k) = [o]:=nr rfl
end Go.Ml
end
section
set_option linter.defProp false
namespace Go.Ml
def U1:=(And.intro (And.intro (And.intro (And.intro (And.intro (And.intro @Go.Ml.gG.{1} @Go.Ml.aif) (And.intro @Go.Ml.aii (And.intro @Go.Ml.wp_skip 
 @Go.Ml.afJ))) (And.intro (And.intro @Go.Ml.afK @Go.Ml.wp_seq) (And.intro @Go.Ml.ace (And.intro @Go.Ml.wp_block @Go.Ml.wp_loop)))) (And.intro 
 (And.intro (And.intro @Go.Ml.wp_exit @Go.Ml.wp_ret) (And.intro @Go.Ml.aiW (And.intro @Go.Ml.aiX @Go.Ml.aiY))) (And.intro (And.intro @Go.Ml.ai2 
 (And.intro @Go.Ml.ai3 @Go.Ml.ai4)) (And.intro @Go.Ml.afL (And.intro @Go.Ml.afM @Go.Ml.ai5))))) (And.intro (And.intro (And.intro (And.intro 
 @Go.Ml.ai6 @Go.Ml.arN) (And.intro @Go.Ml.arO (And.intro @Go.Ml.arP @Go.Ml.ai7))) (And.intro (And.intro @Go.Ml.ane (And.intro @Go.Ml.aiV 
 @Go.Ml.anf)) (And.intro @Go.Ml.ang (And.intro @Go.Ml.anh @Go.Ml.ani)))) (And.intro (And.intro (And.intro @Go.Ml.ab9 @Go.Ml.anm) (And.intro 
 @Go.Ml.aje (And.intro @Go.Ml.afP @Go.Ml.ano))) (And.intro (And.intro @Go.Ml.acz (And.intro @Go.Ml.agl @Go.Ml.agm)) (And.intro 
 @Go.Ml.acw (And.intro @Go.Ml.acy @Go.Ml.agn)))))) (And.intro (And.intro (And.intro (And.intro (And.intro @Go.Ml.agp @Go.Ml.ajg) (And.intro 
 @Go.Ml.afR (And.intro @Go.Ml.afS @Go.Ml.afT))) (And.intro (And.intro @Go.Ml.anp @Go.Ml.anq) (And.intro @Go.Ml.ajh (And.intro @Go.Ml.aji 
 @Go.Ml.ajj)))) (And.intro (And.intro (And.intro @Go.Ml.anr @Go.Ml.ajk) (And.intro @Go.Ml.ant (And.intro @Go.Ml.anu @Go.Ml.anv))) (And.intro 
 (And.intro @Go.Ml.anw (And.intro @Go.Ml.ajl @Go.Ml.anx)) (And.intro @Go.Ml.ajm (And.intro @Go.Ml.anz @Go.Ml.agq))))) (And.intro (And.intro 
 (And.intro (And.intro @Go.Ml.acA @Go.Ml.ajN) (And.intro @Go.Ml.ajO (And.intro @Go.Ml.ajP @Go.Ml.ajQ))) (And.intro (And.intro @Go.Ml.anA 
 (And.intro @Go.Ml.ajp @Go.Ml.ajq)) (And.intro @Go.Ml.ajG (And.intro @Go.Ml.ajH @Go.Ml.ajI)))) (And.intro (And.intro (And.intro @Go.Ml.ajJ 
 @Go.Ml.af8) (And.intro @Go.Ml.agj (And.intro @Go.Ml.arK @Go.Ml.arL))) (And.intro (And.intro @Go.Ml.afF (And.intro @Go.Ml.aat @Go.Ml.aiP)) 
 (And.intro @Go.Ml.aiQ (And.intro @Go.Ml.aiR @Go.Ml.aiS)))))))
def U2:=(And.intro (And.intro (And.intro (And.intro (And.intro (And.intro (And.intro (And.intro @Go.Ml.afD @Go.Ml.aif) (And.intro @Go.Ml.aii @Go.Ml.aiM)) 
 (And.intro (And.intro @Go.Ml.aiN @Go.Ml.afC) (And.intro @Go.Ml.aiO @Go.Ml.aaq))) (And.intro (And.intro (And.intro @Go.Ml.afE @Go.Ml.am9) 
 (And.intro @Go.Ml.ana @Go.Ml.ab8)) (And.intro (And.intro @Go.Ml.aar @Go.Ml.aas) (And.intro @Go.Ml.UG (And.intro @Go.Ml.Xj 
 @Go.Ml.UH))))) (And.intro (And.intro (And.intro (And.intro @Go.Ml.Xk @Go.Ml.UJ) (And.intro @Go.Ml.Xl @Go.Ml.aav)) 
 (And.intro (And.intro @Go.Ml.Xm @Go.Ml.Xn) (And.intro @Go.Ml.UK (And.intro @Go.Ml.Xo @Go.Ml.ai8)))) (And.intro (And.intro 
 (And.intro @Go.Ml.ai9 @Go.Ml.anj) (And.intro @Go.Ml.ank @Go.Ml.anl)) (And.intro (And.intro @Go.Ml.aja @Go.Ml.ajb) (And.intro @Go.Ml.ajd 
 (And.intro @Go.Ml.ajc @Go.Ml.anM)))))) (And.intro (And.intro (And.intro (And.intro (And.intro @Go.Ml.anN @Go.Ml.anO) (And.intro @Go.Ml.anB 
 @Go.Ml.anC)) (And.intro (And.intro @Go.Ml.anD @Go.Ml.anE) (And.intro @Go.Ml.anF (And.intro @Go.Ml.anG @Go.Ml.anH)))) (And.intro (And.intro 
 (And.intro @Go.Ml.anI @Go.Ml.anJ) (And.intro @Go.Ml.anK @Go.Ml.anL)) (And.intro (And.intro @Go.Ml.ajn @Go.Ml.ajo) (And.intro @Go.Ml.w64 (And.intro 
 @Go.Ml.afU @Go.Ml.afV))))) (And.intro (And.intro (And.intro (And.intro @Go.Ml.afW @Go.Ml.afX) (And.intro @Go.Ml.afY @Go.Ml.acf)) 
 (And.intro (And.intro @Go.Ml.acg @Go.Ml.ach) (And.intro @Go.Ml.anP (And.intro @Go.Ml.ajr @Go.Ml.anQ)))) (And.intro (And.intro (And.intro 
 @Go.Ml.ajs @Go.Ml.anR) (And.intro @Go.Ml.arW @Go.Ml.ajt)) (And.intro (And.intro @Go.Ml.anS @Go.Ml.anT) (And.intro @Go.Ml.aju (And.intro 
 @Go.Ml.ajv @Go.Ml.ajw))))))) (And.intro (And.intro (And.intro (And.intro (And.intro (And.intro @Go.Ml.afZ @Go.Ml.ajx) (And.intro @Go.Ml.af0 
 @Go.Ml.ajy)) (And.intro (And.intro @Go.Ml.anU @Go.Ml.af2) (And.intro @Go.Ml.arX (And.intro @Go.Ml.arY @Go.Ml.anW)))) (And.intro (And.intro 
 (And.intro @Go.Ml.ajA @Go.Ml.anX) (And.intro @Go.Ml.ajB @Go.Ml.arZ)) (And.intro (And.intro @Go.Ml.ajC @Go.Ml.anY) (And.intro @Go.Ml.ar0 
 (And.intro @Go.Ml.ar1 @Go.Ml.ajD))))) (And.intro (And.intro (And.intro (And.intro @Go.Ml.af4 @Go.Ml.ajE) (And.intro @Go.Ml.af5 @Go.Ml.anZ)) 
 (And.intro (And.intro @Go.Ml.af6 @Go.Ml.an0) (And.intro @Go.Ml.ajF (And.intro @Go.Ml.an1 @Go.Ml.an2)))) (And.intro (And.intro (And.intro 
 @Go.Ml.an3 @Go.Ml.an4) (And.intro @Go.Ml.afG @Go.Ml.afH)) (And.intro (And.intro @Go.Ml.afI @Go.Ml.anb) (And.intro @Go.Ml.anc (And.intro 
 @Go.Ml.aiT @Go.Ml.aiU)))))) (And.intro (And.intro (And.intro (And.intro (And.intro @Go.Ml.acd @Go.Ml.aau) (And.intro @Go.Ml.aiZ 
 @Go.Ml.ai0)) (And.intro (And.intro @Go.Ml.ai1 @Go.Ml.arQ) (And.intro @Go.Ml.arR (And.intro @Go.Ml.arS @Go.Ml.arT)))) (And.intro (And.intro (And.intro 
 @Go.Ml.arU @Go.Ml.yV) (And.intro @Go.Ml.af9 @Go.Ml.ajK)) (And.intro (And.intro @Go.Ml.ajL @Go.Ml.aga) (And.intro @Go.Ml.agF (And.intro 
 @Go.Ml.agG @Go.Ml.acJ))))) (And.intro (And.intro (And.intro (And.intro @Go.Ml.agH @Go.Ml.agI) (And.intro @Go.Ml.agJ @Go.Ml.aj6)) 
 (And.intro (And.intro @Go.Ml.acK @Go.Ml.acL) (And.intro @Go.Ml.acM (And.intro @Go.Ml.acN @Go.Ml.aaE)))) (And.intro (And.intro 
 (And.intro @Go.Ml.acO @Go.Ml.aaF) (And.intro @Go.Ml.agK @Go.Ml.acP)) (And.intro (And.intro @Go.Ml.acQ @Go.Ml.acR) (And.intro 
 @Go.Ml.agL (And.intro @Go.Ml.agM @Go.Ml.agN)))))))) (And.intro (And.intro (And.intro (And.intro (And.intro (And.intro (And.intro @Go.Ml.agO 
 @Go.Ml.aj7) (And.intro @Go.Ml.aj8 @Go.Ml.aj9)) (And.intro (And.intro @Go.Ml.akb @Go.Ml.agP) (And.intro @Go.Ml.acS @Go.Ml.agQ))) 
 (And.intro (And.intro (And.intro @Go.Ml.acU @Go.Ml.agR) (And.intro @Go.Ml.agS @Go.Ml.akc)) (And.intro (And.intro @Go.Ml.acW @Go.Ml.agT) 
 (And.intro @Go.Ml.agU (And.intro @Go.Ml.agV @Go.Ml.agW))))) (And.intro (And.intro (And.intro (And.intro @Int.toNat_zero @Int.toNat_one) (And.intro 
 @Go.Ml.ar5 @Bool.false_and)) (And.intro (And.intro @Bool.true_and @Bool.and_false) (And.intro @Go.Ml.ajU (And.intro @Go.Ml.ags @Go.Ml.ajV)))) 
 (And.intro (And.intro (And.intro @Go.Ml.agt @Go.Ml.ajW) (And.intro @Go.Ml.agu @Go.Ml.agv)) (And.intro (And.intro @Go.Ml.agw @Go.Ml.acE) 
 (And.intro @Go.Ml.agx (And.intro @Go.Ml.agy @Go.Ml.ajX)))))) (And.intro (And.intro (And.intro (And.intro (And.intro @Go.Ml.acF @Go.Ml.acH) 
 (And.intro @Go.Ml.aaC @Go.Ml.aaD)) (And.intro (And.intro @Go.Ml.XA @Go.Ml.XB) (And.intro @Go.Ml.XC (And.intro 
 @Go.Ml.XD @Go.Ml.XE)))) (And.intro (And.intro (And.intro @Go.Ml.ar4 @Go.Ml.ajY) (And.intro @Go.Ml.an9 @Go.Ml.aoa)) (And.intro (And.intro 
 @Go.Ml.agz @Go.Ml.agA) (And.intro @Go.Ml.ajZ (And.intro @Go.Ml.agB @Go.Ml.aj0))))) (And.intro (And.intro (And.intro (And.intro @Go.Ml.agC 
 @Go.Ml.aob) (And.intro @Go.Ml.aj1 @Go.Ml.aj2)) (And.intro (And.intro @Go.Ml.agD @Go.Ml.aj3) (And.intro @Go.Ml.agE (And.intro @Go.Ml.aoc 
 @Go.Ml.acI)))) (And.intro (And.intro (And.intro @Go.Ml.agk @Nat.le_refl) (And.intro @List.replicate_succ.{0} @List.replicate_zero.{0})) (And.intro 
 (And.intro @List.take_length.{0} @Go.Ml.arJ) (And.intro @Go.Ml.w8u (And.intro @Go.Ml.arI @Go.Ml.RY))))))) (And.intro (And.intro (And.intro (And.intro 
 (And.intro (And.intro @Go.Ml.RX @Nat.sub_zero) (And.intro @implies_true.{0} @false_implies)) (And.intro (And.intro @true_implies @List.length_map.{0,0}) 
 (And.intro @true_or (And.intro @or_true @Bool.beq_eq_decide_eq.{0})))) (And.intro (And.intro (And.intro @List.set_cons_zero.{0} @List.set_cons_succ.{0}) 
 (And.intro @Go.Ml.agf @Go.Ml.agh)) (And.intro (And.intro @Go.Ml.agd @Go.Ml.acn) (And.intro @Go.Ml.acu (And.intro @Go.Ml.acv 
 @Go.Ml.acp))))) (And.intro (And.intro (And.intro (And.intro @Go.Ml.agi @Go.Ml.acr) (And.intro @Go.Ml.aax @Go.Ml.acs)) (And.intro 
 (And.intro @Go.Ml.Am @Go.Ml.aay) (And.intro @List.reverse_cons.{0} (And.intro @List.reverse_nil.{0} @List.nil_append.{0})))) (And.intro (And.intro 
 (And.intro @List.cons_append.{0} @List.append_nil.{0}) (And.intro @List.length_cons.{0} @List.length_nil.{0})) (And.intro (And.intro 
 @List.getElem?_cons_zero.{0} @List.getElem?_cons_succ.{0}) (And.intro @Nat.zero_add (And.intro @Nat.add_zero @ite_self.{1})))))) (And.intro (And.intro 
 (And.intro (And.intro (And.intro @ite_true.{1} @ite_false.{1}) (And.intro @if_true.{1} @if_false.{1})) (And.intro (And.intro @eq_self.{1} @and_true) (And.intro 
 @true_and (And.intro @and_self @Bool.not_true)))) (And.intro (And.intro (And.intro @Bool.not_false @Bool.true_eq_false) (And.intro @Bool.false_eq_true 
 @Bool.not_eq_true')) (And.intro (And.intro @decide_eq_true_eq @decide_eq_false_iff_not) (And.intro @Bool.not_eq_eq_eq_not (And.intro @Option.map_some.{0,0} 
 @Option.map_none.{0,0}))))) (And.intro (And.intro (And.intro (And.intro @Int.toNat_natCast @List.drop_zero.{0}) (And.intro @List.drop_succ_cons.{0} 
 @List.take_succ_cons.{0})) (And.intro (And.intro @List.take_zero.{0} @List.all_cons.{0}) (And.intro @List.all_nil.{0} (And.intro @Bool.and_true 
 @Bool.and_self)))) (And.intro (And.intro (And.intro @Go.Ml.Ex.exit.injEq @not_false_eq_true) (And.intro @not_true_eq_false @decide_true)) (And.intro (And.intro 
 @decide_false @ite_not.{1}) (And.intro @decide_not (And.intro @Bool.not_not @ne_eq.{1})))))))))
theorem ev {P Q : Prop} (h : Q) (e : P = Q:=by conv=>lhs;simp (maxSteps:=1000000) (disch:=first | omega | assumption | (simp;done) | (simp;omega)) only [↓U1,U2,splice,Nat.reduceAdd,Nat.reduceEqDiff,Nat.reduceMul,Nat.reduceLT,Nat.reduceLeDiff,reduceIte,V.leaf,CY,DC,EY,Bool.true_and,Bool.false_and,Bool.or_false,Bool.false_or,Bool.true_or,reduceCtorEq]) : P:=Eq.mpr (e) h
theorem ev1 {P Q A1 : Prop} (x1 : A1) (h : Q) (e : A1 → P = Q:=by intro x1;conv=>lhs;simp (maxSteps:=1000000) (disch:=first | omega | assumption | (simp;done) | (simp;omega)) only [↓U1,U2,splice,Nat.reduceAdd,Nat.reduceEqDiff,Nat.reduceMul,Nat.reduceLT,Nat.reduceLeDiff,reduceIte,V.leaf,CY,DC,EY,Bool.true_and,Bool.false_and,Bool.or_false,Bool.false_or,Bool.true_or,reduceCtorEq,x1]) : P:=Eq.mpr (e x1) h
theorem qm {P Q A1 A2 : Prop} (x1 : A1) (x2 : A2) (h : Q) (e : A1 → A2 → P = Q:=by intro x1 x2;conv=>lhs;simp (maxSteps:=1000000) (disch:=first | omega | assumption | (simp;done) | (simp;omega)) only [↓U1,U2,splice,Nat.reduceAdd,Nat.reduceEqDiff,Nat.reduceMul,Nat.reduceLT,Nat.reduceLeDiff,reduceIte,V.leaf,CY,DC,EY,Bool.true_and,Bool.false_and,Bool.or_false,Bool.false_or,Bool.true_or,reduceCtorEq,x1,x2]) : P:=Eq.mpr (e x1 x2) h
theorem vU {P Q A1 A2 A3 : Prop} (x1 : A1) (x2 : A2) (x3 : A3) (h : Q) (e : A1 → A2 → A3 → P = Q:=by intro x1 x2 x3;conv=>lhs;simp (maxSteps:=1000000) (disch:=first | omega | assumption | (simp;done) | (simp;omega)) only [↓U1,U2,splice,Nat.reduceAdd,Nat.reduceEqDiff,Nat.reduceMul,Nat.reduceLT,Nat.reduceLeDiff,reduceIte,V.leaf,CY,DC,EY,Bool.true_and,Bool.false_and,Bool.or_false,Bool.false_or,Bool.true_or,reduceCtorEq,x1,x2,x3]) : P:=Eq.mpr (e x1 x2 x3) h
theorem ev4 {P Q A1 A2 A3 A4 : Prop} (x1 : A1) (x2 : A2) (x3 : A3) (x4 : A4) (h : Q) (e : A1 → A2 → A3 → A4 → P = Q:=by intro x1 x2 x3 x4;conv=>lhs;simp (maxSteps:=1000000) (disch:=first | omega | assumption | (simp;done) | (simp;omega)) only [↓U1,U2,splice,Nat.reduceAdd,Nat.reduceEqDiff,Nat.reduceMul,Nat.reduceLT,Nat.reduceLeDiff,reduceIte,V.leaf,CY,DC,EY,Bool.true_and,Bool.false_and,Bool.or_false,Bool.false_or,Bool.true_or,reduceCtorEq,x1,x2,x3,x4]) : P:=Eq.mpr (e x1 x2 x3 x4) h
theorem ev5 {P Q A1 A2 A3 A4 A5 : Prop} (x1 : A1) (x2 : A2) (x3 : A3) (x4 : A4) (x5 : A5) (h : Q) (e : A1 → A2 → A3 → A4 → A5 → P = Q:=by intro x1 x2 x3 x4 x5;conv=>lhs;simp (maxSteps:=1000000) (disch:=first | omega | assumption | (simp;done) | (simp;omega)) only [↓U1,U2,splice,Nat.reduceAdd,Nat.reduceEqDiff,Nat.reduceMul,Nat.reduceLT,Nat.reduceLeDiff,reduceIte,V.leaf,CY,DC,EY,Bool.true_and,Bool.false_and,Bool.or_false,Bool.false_or,Bool.true_or,reduceCtorEq,x1,x2,x3,x4,x5]) : P:=Eq.mpr (e x1 x2 x3 x4 x5) h
theorem ev6 {P Q A1 A2 A3 A4 A5 A6 : Prop} (x1 : A1) (x2 : A2) (x3 : A3) (x4 : A4) (x5 : A5) (x6 : A6) (h : Q) (e : A1 → A2 → A3 → A4 → A5 → A6 → P = Q:=by intro x1 x2 x3 x4 x5 x6;conv=>lhs;simp (maxSteps:=1000000) (disch:=first | omega | assumption | (simp;done) | (simp;omega)) only [↓U1,U2,splice,Nat.reduceAdd,Nat.reduceEqDiff,Nat.reduceMul,Nat.reduceLT,Nat.reduceLeDiff,reduceIte,V.leaf,CY,DC,EY,Bool.true_and,Bool.false_and,Bool.or_false,Bool.false_or,Bool.true_or,reduceCtorEq,x1,x2,x3,x4,x5,x6]) : P:=Eq.mpr (e x1 x2 x3 x4 x5 x6) h
abbrev oN (d : Nat) (i : I) : fM:=⟨none,some d,0,i,[]⟩
abbrev oS (i : I) : fM:=⟨none,none,0,i,[]⟩
abbrev oG (g : Nat) (b : Bool) (d : Nat) (i : I) : fM:=⟨some (g,b),some d,0,i,[]⟩
abbrev oK (d k : Nat) (i : I) : fM:=⟨none,some d,k,i,[]⟩
abbrev oA (d k : Nat) (i : I) (a : List Nat) : fM:=⟨none,some d,k,i,a⟩
abbrev oH (g : Nat) (b : Bool) (d k : Nat) (i : I) (a : List Nat) : fM:=⟨some (g,b),some d,k,i,a⟩
abbrev oV (n : Nat) : I:=.iw (.t n)
abbrev cI (n : Int) : Src:=.c (.int .i64 n)
end Go.Ml
end
namespace Go.Ml
abbrev nR : Nat → Nat → Bool:=fun _ _=>false
def oW (d n : Nat) : fM:=⟨none,some d,0,.iw (.t n),[]⟩
def mF : I:=.iw (.c (.bool false))
def mT : I:=.iw (.c (.bool true))
def mN : I:=.iw (.c .ak)
def lT (n a : Nat) : I:=.load n true (.t a)
def lF (n a : Nat) : I:=.load n false (.t a)
def ix (n a b : Nat) : I:=.idx n (.t a) (.t b)
def ln (a : Nat) : I:=.len (.t a)
def fd (n a : Nat) : I:=.fld n (.t a)
def ex (n a : Nat) : I:=.PL n (.t a)
def nt (a : Nat) : I:=.un .not (.t a)
def bt (o : BinOp) (a b : Nat) : I:=.bin o (.t a) (.t b)
def bc (o : BinOp) (a : Nat) (n : Int) : I:=.bin o (.t a) (.c (.int .i64 n))
def cd (a : Nat) (c e : C) : C:=.cond (.t a) c e
def rf (n : Nat) (l : List fM) : C:=.reg false n l
def rt (n : Nat) (l : List fM) : C:=.reg true n l
def rg (l : List fM) : C:=.reg false 0 l
def sr (l : List fM) (c : C) : C:=.seq (.reg false 0 l) c
def mV : List V:=[.bool false,.ak,.ak]
def CP : List V:=[.int .i64 0,.int .i64 0,.bool false,.ak,.ak,.bool false,.ak,.ak,.bool false,.ak,.ak]
def Eo : List V:=[.int .i64 0]
def QM : List V:=[.bool false,.ak]
def XF : List V:=[.int .i64 0,.bool false,.ak,.ak,.ak]
def zz5 : List V:=[.int .i64 0,.bool false,.ak,.ak,.bool false,.ak,.ak,.bool false,.ak,.ak]
def zz6 : List V:=[.bool false,.ak,.ak,.bool false,.ak,.ak]
def cl (f : Nat) (l : List Nat) : I:=.call f (l.map .t)
theorem Lz : (∀ (d : Nat),∀ (i : I),oN d i = (⟨none,some d,0,i,[]⟩ : fM)) ∧ (∀ (i : I),oS i = (⟨none,none,0,i,[]⟩ : fM)) ∧ (∀ (g : Nat),∀ (b : Bool),∀ (d : Nat),∀ (i : I),oG g b d i = (⟨some (g,b),some d,0,i,[]⟩ : fM)) ∧ (∀ (d k : Nat),∀ (i : I),oK d k i = (⟨none,some d,k,i,[]⟩ : fM)) ∧ (∀ (d k : Nat),∀ (i : I),∀ (a : List Nat),oA d k i a = (⟨none,some d,k,i,a⟩ : fM)) ∧ (∀ (g : Nat),∀ (b : Bool),∀ (d k : Nat),∀ (i : I),∀ (a : List Nat),oH g b d k i a = (⟨some (g,b),some d,k,i,a⟩ : fM)) ∧ (∀ (n : Nat),oV n = (.iw (.t n) : I)) ∧ (∀ (n : Int),cI n = (.c (.int .i64 n) : Src)) ∧ (∀ (d n : Nat),oW d n = (⟨none,some d,0,.iw (.t n),[]⟩ : fM)) ∧ (mF = (.iw (.c (.bool false)) : I)) ∧ (mT = (.iw (.c (.bool true)) : I)) ∧ (mN = (.iw (.c .ak) : I)) ∧ (∀ (n a : Nat),lT n a = (.load n true (.t a) : I)) ∧ (∀ (n a : Nat),lF n a = (.load n false (.t a) : I)) ∧ (∀ (n a b : Nat),ix n a b = (.idx n (.t a) (.t b) : I)) ∧ (∀ (a : Nat),ln a = (.len (.t a) : I)) ∧ (∀ (n a : Nat),fd n a = (.fld n (.t a) : I)) ∧ (∀ (n a : Nat),ex n a = (.PL n (.t a) : I)) ∧ (∀ (a : Nat),nt a = (.un .not (.t a) : I)) ∧ (∀ (o : BinOp),∀ (a b : Nat),bt o a b = (.bin o (.t a) (.t b) : I)) ∧ (∀ (o : BinOp),∀ (a : Nat),∀ (n : Int),bc o a n = (.bin o (.t a) (.c (.int .i64 n)) : I)) ∧ (∀ (a : Nat),∀ (c e : C),cd a c e = (.cond (.t a) c e : C)) ∧ (∀ (n : Nat),∀ (l : List fM),rf n l = (.reg false n l : C)) ∧ (∀ (n : Nat),∀ (l : List fM),rt n l = (.reg true n l : C)) ∧ (∀ (l : List fM),rg l = (.reg false 0 l : C)) ∧ (∀ (l : List fM),∀ (c : C),sr l c = (.seq (.reg false 0 l) c : C)) ∧ (mV = ([.bool false,.ak,.ak] : List V)) ∧ (CP = ([.int .i64 0,.int .i64 0,.bool false,.ak,.ak,.bool false,.ak,.ak,.bool false,.ak,.ak] : List V)) ∧ (Eo = ([.int .i64 0] : List V)) ∧ (QM = ([.bool false,.ak] : List V)) ∧ (XF = ([.int .i64 0,.bool false,.ak,.ak,.ak] : List V)) ∧ (zz5 = ([.int .i64 0,.bool false,.ak,.ak,.bool false,.ak,.ak,.bool false,.ak,.ak] : List V)) ∧ (zz6 = ([.bool false,.ak,.ak,.bool false,.ak,.ak] : List V)) ∧ (nR = fun _ _=>false) ∧ (∀ f : Nat,cl f [] = .call f []) ∧ (∀ f a : Nat,cl f [a] = .call f [.t a]) ∧ (∀ f a b : Nat,cl f [a,b] = .call f [.t a,.t b]) ∧ (∀ f a b c : Nat,cl f [a,b,c] = .call f [.t a,.t b,.t c]) ∧ (∀ f a b c d : Nat,cl f [a,b,c,d] = .call f [.t a,.t b,.t c,.t d]) ∧ (∀ f a b c d e : Nat,cl f [a,b,c,d,e] = .call f [.t a,.t b,.t c,.t d,.t e]) ∧ (∀ f a b c d e f : Nat,cl f [a,b,c,d,e,f] = .call f [.t a,.t b,.t c,.t d,.t e,.t f]) ∧ (∀ f a b c d e f g : Nat,cl f [a,b,c,d,e,f,g] = .call f [.t a,.t b,.t c,.t d,.t e,.t f,.t g]) ∧ (∀ f a b c d e f g h : Nat,cl f [a,b,c,d,e,f,g,h] = .call f [.t a,.t b,.t c,.t d,.t e,.t f,.t g,.t h]) :=
 ⟨fun _ _=>rfl,fun _=>rfl,fun _ _ _ _=>rfl,fun _ _ _=>rfl,fun _ _ _ _=>rfl,fun _ _ _ _ _ _=>rfl,fun _=>rfl,fun _=>rfl,fun _ _=>rfl,rfl,rfl,rfl,fun _ _=>rfl,fun _ _=>rfl,fun _ _ _=>rfl,fun _=>rfl,fun _ _=>rfl,fun _ _=>rfl,fun _=>rfl,fun _ _ _=>rfl,fun _ _ _=>rfl,fun _ _ _=>rfl,fun _ _=>rfl,fun _ _=>rfl,fun _=>rfl,fun _ _=>rfl,rfl,rfl,rfl,rfl,rfl,rfl,rfl,rfl,fun _=>rfl,fun _ _=>rfl,fun _ _ _=>rfl,fun _ _ _ _=>rfl,fun _ _ _ _ _=>rfl,fun _ _ _ _ _ _=>rfl,fun _ _ _ _ _ _ _=>rfl,fun _ _ _ _ _ _ _ _=>rfl,fun _ _ _ _ _ _ _ _ _=>rfl⟩
end Go.Ml
namespace Go.Ml
theorem Et {l : List V} {env : Nat → V} (h : En l 0 env:=by (try (refine ev ?_;try with_reducible exact True.intro)) <;> (repeat' (first | refine ⟨?_,?_⟩ | exact Gh (by omega) | exact Ij (by simp) | exact Gi _))) : En l 0 env:=h
end Go.Ml
section
namespace Go.Ml
def slV : Nat → V
 | 0=>.ak
 | n + 1=>.bF 0 0 (n + 1)
def WI (n : Nat) : List (List V) → Store
 | []=>[]
 | r :: rs=>[some ⟨n,r :: rs⟩]
theorem kX : slV 0 = .ak:=nr rfl
theorem ku (n : Nat) : slV (n + 1) = .bF 0 0 (n + 1):=nr rfl
theorem ain (n : Nat) : WI n [] = []:=nr rfl
theorem acZ (n : Nat) (r : List V) (rs : List (List V)) : WI n (r :: rs) = [some ⟨n,r :: rs⟩]:=nr rfl
theorem ac0 (n : Nat) (rows : List (List V)) (r : List V) : WI n (rows ++ [r]) = [some ⟨n,rows ++ [r]⟩]:=by cases rows <;> rfl
theorem DN {vs : List V} {env : Nat → V} {σ : Store} {b1 b2 n k : Nat} {r1 r2 m1 m2 : List Nat} {rows : List (List V)} {r : List V} (hs : dJ (rows ++ [r]))
  (h : aj σ k = some ⟨n,rows ++ [r]⟩) (he : BH [some (k,0,rows.length + 1)] σ vs 0 env) : Fg ⟨dX vs,WI n (rows ++ [r]),0,b1,r1,m1⟩ ⟨env,σ,0,b2,r2,m2⟩:=by
 rw [ac0]
 refine NS [(k,⟨n,rows ++ [r]⟩)] (by simp) ?_ rfl (by simpa using he)
 intro p hp
 simp only [List.mem_cons,List.not_mem_nil,or_false] at hp
 subst hp
 exact ⟨h,hs⟩
theorem wF {σ : Store} {k l n m : Nat} (hl : l ≤ m) (e : n = l) (h0 : 0 < n) : Fa [some (k,0,m)] σ (slV n) (.bF k 0 l):=by
 subst e
 obtain ⟨j,rfl⟩ : ∃ j,n = j + 1:=⟨n - 1,by omega⟩
 rw [ku]
 exact jZ rfl hl rfl
theorem aC {T : Tb} {f : Nat} {F : Fn} {args : List V} {r : V} (rf : Nat → Nat → Bool) (hT : T f = some F)
  (h : wp T rf F.body (fun e st=>af7 F.res e (bM r) st) (St.enter args [])) (hl : args.length = F.nargs:=by rfl) (hk : F.body.Ud = true:=by rfl) : PF T f args r:=by
 obtain ⟨e,st',h1,h2⟩:=qx hk h
 have h3 : (e = .normal ∨ e = .ret) ∧ EH F.res [] st' (bM r):=by
  cases e with
  | normal=>exact ⟨.inl rfl,h2⟩
  | ret=>exact ⟨.inr rfl,h2⟩
  | exit id=>exact h2.elim
 obtain ⟨he,h3⟩:=h3
 have:=Kz _ _ h3
 obtain ⟨rs,e1,h4⟩:=bf this
 obtain ⟨r',e2,h5⟩:=bf h4
 exact .Z9 (pG _) (.WU (.fn hT hl h1 he e1) e2) h5
theorem ac1 (q : IntKind) (a b : Int) : bM (.int q a) (.int q b) = (b = a):=by simp [bM]
theorem Dh (a b : Bool) : bM (.bool a) (.bool b) = (b = a):=by simp [bM]
theorem fP (sz : Nat) : bM (.sl sz []) .ak = True:=by simp [bM]
theorem Fj (xs ys : List V) : bM (.agg xs) (.agg ys) = nN xs ys:=by simp [bM]
theorem KD : nN [] [] = True:=by simp [nN]
theorem KE (x y : V) (xs ys : List V) : nN (x :: xs) (y :: ys) = (bM x y ∧ nN xs ys):=by
 simp only [nN,List.cons.injEq]
 exact propext ⟨fun ⟨_,_,⟨e1,e2⟩,h1,h2⟩=>by subst e1;subst e2;exact ⟨h1,h2⟩,fun ⟨h1,h2⟩=>⟨y,ys,⟨rfl,rfl⟩,h1,h2⟩⟩
theorem agX {T : Tb} {f : Nat} {as as' : List V} {k : V → Prop} {r : V} (h : PF T f as' r) (ha : nN as' as) (hk : k r) : PFK T f as k:=⟨r,h.lax ha (au r),hk⟩
theorem wG (l : List Int) (d : Int) : aH l ++ [[V.int .i64 d]] = aH (l ++ [d]):=by simp [aH]
theorem XG {l : List Int} : aH l = [] ↔ l = []:=by simp [aH]
theorem fF : WI 1 (aH []) = []:=rfl
theorem dL (x : Int) (l : List Int) : WI 1 (aH (x :: l)) = [some ⟨1,aH (x :: l)⟩]:=rfl
theorem yM (l : List Int) (d : Int) : dJ (aH l ++ [[V.int .i64 d]]):=by rw [wG];exact l9 _
theorem aaI : aH [] = []:=rfl
theorem NZ (x : Int) (l : List Int) : aH (x :: l) = [V.int .i64 x] :: aH l:=rfl
theorem Iu {t : Int} (h : 0 ≤ t) : t.tmod 1000000000 = t % 1000000000:=Int.tmod_eq_emod_of_nonneg h
theorem Iw {t : Int} (h : 0 ≤ t) : t.tdiv 1000000000 = t / 1000000000:=Int.tdiv_eq_ediv_of_nonneg h
theorem U3 {N i va vb va' vb' : Nat} {xs : List Int} {c x y : Int} (hl : xs.length = i) (hc : 0 ≤ c) (hx : 0 ≤ x) (hy : 0 ≤ y)
  (h : val xs + 1000000000 ^ i * (c.toNat + va + vb) = N) (ha : va = x.toNat + 1000000000 * va') (hb : vb = y.toNat + 1000000000 * vb') :
  val (xs ++ [(c + x + y) % 1000000000]) + 1000000000 ^ (i + 1) * (((c + x + y) / 1000000000).toNat + va' + vb') = N:=by
 rw [mD,hl,Nat.pow_succ]
 have e : c.toNat + va + vb = ((c + x + y) % 1000000000).toNat + 1000000000 * (((c + x + y) / 1000000000).toNat + va' + vb'):=by omega
 rw [e,Nat.mul_add,← Nat.mul_assoc] at h
 omega
theorem U4 {vx va vb p x y d bo U5 : Nat} (h : vx + vb = va + bo * p) (hd : d + y + bo = x + U5 * 1000000000) :
  (vx + p * d) + (vb + p * y) = (va + p * x) + U5 * (p * 1000000000):=by
 have e:=congrArg (fun z=>p * z) hd
 simp only [Nat.mul_add] at e
 have e1 : p * bo = bo * p:=Nat.mul_comm _ _
 have e2 : p * (U5 * 1000000000) = U5 * (p * 1000000000):=by rw [← Nat.mul_assoc,Nat.mul_comm p U5,Nat.mul_assoc]
 omega
theorem P7 {l : List Int} {i : Nat} {d : Int} (h : i < l.length) : (l.set i d).take (i + 1) = l.take i ++ [d]:=by
 rw [dK (by simpa using h)]
 congr 1
 ·rw [List.take_set,List.set_eq_of_length_le (by simp;omega)]
 ·simp [List.getD_eq_getElem?_getD,h]
theorem U6 {vp vp' V0 a p q pb x y : Nat} {c t : Nat}
  (h : vp + c * (p * q) = V0 + a * (p * pb)) (hs : vp' + (p * q) * x = vp + (p * q) * (t % 1000000000)) (ht : t = c + x + a * y) :
  vp' + t / 1000000000 * (p * (q * 1000000000)) = V0 + a * (p * (pb + q * y)):=by
 have e1 : (p * q) * (t % 1000000000) + t / 1000000000 * (p * (q * 1000000000)) = (p * q) * t:=by
  have : t / 1000000000 * (p * (q * 1000000000)) = (p * q) * (1000000000 * (t / 1000000000)):=by
   rw [← Nat.mul_assoc p q,Nat.mul_comm (t / 1000000000),Nat.mul_assoc]
  rw [this,← Nat.mul_add]
  congr 1
  omega
 have e2 : (p * q) * t = (p * q) * c + (p * q) * x + (p * q) * (a * y):=by rw [ht,Nat.mul_add,Nat.mul_add]
 have e3 : a * (p * (pb + q * y)) = a * (p * pb) + (p * q) * (a * y):=by
  rw [Nat.mul_add,Nat.mul_add,← Nat.mul_assoc p q y]
  congr 1
  rw [← Nat.mul_assoc,Nat.mul_comm a (p * q),Nat.mul_assoc]
 have e4 : c * (p * q) = (p * q) * c:=Nat.mul_comm _ _
 omega
theorem DR {a b q r : Nat} (h : a = q * b + r) (hr : r < b) : q = a / b ∧ r = a % b:=by
 have hb : 0 < b:=by omega
 subst h
 constructor
 ·rw [Nat.mul_comm,Nat.mul_add_div hb,Nat.div_eq_of_lt hr,Nat.add_zero]
 ·rw [Nat.mul_comm,Nat.mul_add_mod,Nat.mod_eq_of_lt hr]
end Go.Ml
namespace Go.Ml
theorem LH {l : List Int} (i : Nat) : val (l.drop i) ≤ val l:=by
 rw [qy l i]
 have : val (l.drop i) ≤ 1000000000 ^ (l.take i).length * val (l.drop i):=Nat.le_mul_of_pos_left _ (Nat.pow_pos (by omega))
 omega
theorem Gm {l : List Int} {i : Nat} (h : i < l.length) : l.drop i = l.getD i 0 :: l.drop (i + 1):=by
 rw [List.drop_eq_getElem_cons h,List.getD_eq_getElem?_getD,List.getElem?_eq_getElem h];rfl
theorem Y1 {m n : Nat} {xs : List Int} (hv : val xs = m + n) (hb : Lb xs) (hl : xs.length ≤ max (mk m).length (mk n).length ∨ xs.getLast? ≠ some 0) : mk (m + n) = xs:=by
 rw [← hv]
 refine mk_val ⟨hb,?_⟩
 rcases hl with hl | hl
 ·refine (aaz hb fun hne=>?_).2
  have hpos : 0 < xs.length:=by
   cases xs with
   | nil=>exact absurd rfl hne
   | cons=>simp
  rw [hv]
  have p1 : ∀ k : Nat,mk k ≠ [] → 1000000000 ^ ((mk k).length - 1) ≤ k:=fun k hk=>by
   have:=Xu (kJ k) hk
   rwa [val_mk] at this
  by_cases hmn : (mk n).length ≤ (mk m).length
  ·have hm : mk m ≠ []:=by intro e;have h0 : (mk m).length = 0:=(by rw [e];rfl);omega
   have:=p1 m hm
   have h2 : (1000000000 : Nat) ^ (xs.length - 1) ≤ 1000000000 ^ ((mk m).length - 1):=Nat.pow_le_pow_right (by omega) (by omega)
   omega
  ·have hm : mk n ≠ []:=by intro e;have h0 : (mk n).length = 0:=(by rw [e];rfl);omega
   have:=p1 n hm
   have h2 : (1000000000 : Nat) ^ (xs.length - 1) ≤ 1000000000 ^ ((mk n).length - 1):=Nat.pow_le_pow_right (by omega) (by omega)
   omega
 ·exact hl
theorem DT {l : List Int} {i : Nat} (h : l.length ≤ i) : l.getD i 0 = 0:=by
 rw [List.getD_eq_getElem?_getD,List.getElem?_eq_none h];rfl
theorem fQ (l : List Int) (i : Nat) : val (l.drop i) = (l.getD i 0).toNat + 1000000000 * val (l.drop (i + 1)):=by
 by_cases h : i < l.length
 ·exact acD h
 ·rw [bK (by omega),bK (by omega),DT (by omega)];rfl
end Go.Ml
namespace Go.Ml
theorem iG (l : List Int) (i j : Nat) (v : Int) : (l.set i v).getD j 0 = if i = j ∧ i < l.length then v else l.getD j 0:=by
 simp only [List.getD_eq_getElem?_getD,List.getElem?_set]
 by_cases h : i = j
 ·subst h
  by_cases h2 : i < l.length
  ·simp [h2]
  ·simp [h2,List.getElem?_eq_none (Nat.le_of_not_lt h2)]
 ·simp [h]
end Go.Ml
namespace Go.Ml
theorem drop_set_self {l : List Int} {i : Nat} {d : Int} (h : i < l.length) : (l.set i d).drop i = d :: l.drop (i + 1):=by
 induction l generalizing i with
 | nil=>simp at h
 |
  cons x l ih =>
  cases i with
  | zero=>simp
  | succ i=>simpa using ih (by simpa using h)
theorem lQ {a b : Nat} : 0 ≤ C9 a b ↔ b ≤ a:=by
 unfold C9
 by_cases h : a < b
 ·rw [if_pos h];omega
 ·rw [if_neg h]
  split <;> omega
theorem mk_one {d : Nat} (h0 : 0 < d) (h1 : d < 1000000000) : mk d = [(d : Int)]:=by
 rw [mk_pos (by omega),Nat.mod_eq_of_lt h1,Nat.div_eq_of_lt h1,mk_zero]
theorem ac2 {r b : Nat} (hb : 0 < b) (hle : b ≤ r) (hlt : r < b * 1000000000) :
  (mk b).length ≤ (mk r).length ∧ (mk r).length ≤ (mk b).length + 1 ∧ 0 < (mk b).length ∧
  ((mk b).length = 1 → let d:=val ((mk r).drop 0) / ((mk b).getD 0 0).toNat;0 < d ∧ d < 1000000000 ∧ d * b ≤ r ∧ 0 < ((mk b).getD 0 0).toNat) ∧
  (let d:=val ((mk r).drop ((mk b).length - 1)) / (((mk b).getD ((mk b).length - 1) 0).toNat + 1);d < 1000000000 ∧ d * b ≤ r):=by
 have hbm:=acC (n:=b) (by omega)
 have h1 : (mk b).length ≤ (mk r).length:=by
  have : (mk b).length - 1 < (mk r).length:=by
   rw [QH]
   have:=Xu (kJ b) (by intro e;rw [e] at hbm;simp at hbm)
   rw [val_mk] at this
   omega
  omega
 have h2 : (mk r).length ≤ (mk b).length + 1:=by
  rw [aX,Nat.pow_succ]
  have:=nU (jT b)
  rw [val_mk] at this
  exact Nat.lt_of_lt_of_le hlt (Nat.mul_le_mul_right _ (Nat.le_of_lt this))
 refine ⟨h1,h2,hbm,?_,?_⟩
 ·intro hm
  have eb : ((mk b).getD 0 0).toNat = b:=by
   have h3:=fQ (mk b) 0
   rw [List.drop_zero,val_mk,bK (by omega)] at h3
   omega
  rw [List.drop_zero,val_mk,eb]
  refine ⟨Nat.div_pos hle hb,Nat.div_lt_of_lt_mul (by omega),Nat.div_mul_le_self r b,hb⟩
 ·have er:=qy (mk r) ((mk b).length - 1)
  have eb:=qy (mk b) ((mk b).length - 1)
  rw [val_mk] at er eb
  have l1 : ((mk r).take ((mk b).length - 1)).length = (mk b).length - 1:=by simp;omega
  have l2 : ((mk b).take ((mk b).length - 1)).length = (mk b).length - 1:=by simp
  rw [l1] at er
  rw [l2] at eb
  have ed:=fQ (mk b) ((mk b).length - 1)
  rw [show (mk b).length - 1 + 1 = (mk b).length by omega,bK (Nat.le_refl _)] at ed
  have hlo:=nU (Sj (jT b) ((mk b).length - 1))
  rw [l2] at hlo
  generalize hP : 1000000000 ^ ((mk b).length - 1) = P at *
  generalize hT : val ((mk r).drop ((mk b).length - 1)) = t at *
  generalize hB : ((mk b).getD ((mk b).length - 1) 0).toNat = bt at *
  have hd:=Nat.div_mul_le_self t (bt + 1)
  generalize hq : t / (bt + 1) = d at *
  have hbb : b ≤ P * (bt + 1):=by rw [Nat.mul_succ];rw [ed] at eb;simp only [Nat.mul_zero,Nat.add_zero] at eb;omega
  have key : d * b ≤ r:=by
   have s1 : d * b ≤ d * (P * (bt + 1)):=Nat.mul_le_mul_left _ hbb
   have s2 : d * (P * (bt + 1)) = P * (d * (bt + 1)):=by rw [Nat.mul_left_comm]
   have s3 : P * (d * (bt + 1)) ≤ P * t:=Nat.mul_le_mul_left _ hd
   omega
  refine ⟨?_,key⟩
  have : d * b < 1000000000 * b:=by rw [Nat.mul_comm 1000000000];omega
  exact Nat.lt_of_mul_lt_mul_right this
def zC : Fn:=⟨1,33,[.tmp 2],(sr [oN 2 mF] (.seq (sr [oW 5 0,oN 6 (ln 5),oN 7 (bc .gtr 6 60)] (cd 7 (sr [oN 2 mF] .ret) .skip)) (.seq (sr [oW 8 0,oN 9 (ln 8),oN 10 (.iw (cI 0))] (.block 0 (.loop (sr [oN 11 (bt .lss 10 9)] (.seq (cd 11 .skip (.exit 0)) (.seq (.block 1 (sr [oN 12 (ix 1 8 10),oN 13 (lF 1 12),oW 4 13] (sr [oW 14 4,oN 15 (bc .lss 14 0),oW 16 15,oG 16 false 17 (oV 4),oG 16 false 18 (bc .geq 17 1000000000),oN 19 (.pick (.t 16) (.c (.bool true)) (.t 18))] (cd 19 (sr [oN 2 mF] .ret) .skip)))) (rg [oN 20 (bc .add 10 1),oW 10 20]))))))) (sr [oW 21 0,oN 22 (ln 21),oN 23 (bc .eql 22 0),oW 24 23,oG 24 false 25 (oV 0),oG 24 false 26 (oV 0),oG 24 false 27 (ln 26),oG 24 false 28 (bc .sub 27 1),oG 24 false 29 (ix 1 25 28),oG 24 false 30 (lF 1 29),oG 24 false 31 (bc .neq 30 0),oN 32 (.pick (.t 24) (.c (.bool true)) (.t 31)),oW 2 32] .ret))))⟩
structure zD (T : Tb) : Prop where
 hT : T 126 = some zC
def kY : Fn:=⟨1,16,[.tmp 2],(sr [oN 2 mN] (.seq (rf 1 [oN 4 (.fE 1 Eo 0 []),oK 3 1 (oV 4)]) (.seq (.block 0 (.loop (.seq (sr [oW 5 0,oN 6 (.bin .gtr (.t 5) (.c (.int .u64 0)))] (cd 6 .skip (.exit 0))) (.block 1 (.seq (rf 2 [oK 7 2 (oV 3),oK 8 2 (oV 0),oK 9 2 (.bin .rem (.t 8) (.c (.int .u64 1000000000))),oK 10 2 (.conv .i64 (.t 9)),oN 11 (.fE 1 Eo 1 [(0,(.t 10))]),oK 12 1 (.app 1 8 (.t 7) (.t 11)),oK 3 2 (oV 12)]) (rg [oW 13 0,oN 14 (.bin .quo (.t 13) (.c (.int .u64 1000000000))),oW 0 14])))))) (sr [oW 15 3,oW 2 15] .ret))))⟩
structure jB (T : Tb) : Prop where
 hT : T 69 = some kY
def wV : Fn:=⟨2,41,[.tmp 4],(sr [oN 4 (.iw (cI 0))] (.seq (sr [oW 6 0,oN 7 (ln 6),oW 8 1,oN 9 (ln 8),oN 10 (bt .lss 7 9)] (cd 10 (sr [oN 4 (.iw (cI (-1)))] .ret) .skip)) (.seq (sr [oW 11 0,oN 12 (ln 11),oW 13 1,oN 14 (ln 13),oN 15 (bt .gtr 12 14)] (cd 15 (sr [oN 4 (.iw (cI 1))] .ret) .skip)) (.seq (sr [oW 16 0,oN 17 (ln 16),oN 18 (bc .sub 17 1),oW 5 18] (.block 0 (.loop (.seq (sr [oW 19 5,oN 20 (bc .geq 19 0)] (cd 20 .skip (.exit 0))) (.seq (.block 1 (.seq (.seq (rt 0 [oW 23 0,oW 24 5,oA 25 0 (ix 1 23 24) [0,1],oA 26 0 (lF 1 25) [2],oW 27 1,oW 28 5,oA 29 0 (ix 1 27 28) [4,5],oA 30 0 (lF 1 29) [6],oA 31 0 (bt .lss 26 30) [3,7]]) (cd 31 (sr [oN 4 (.iw (cI (-1)))] .ret) .skip)) (.seq (rt 0 [oW 32 0,oW 33 5,oA 34 0 (ix 1 32 33) [0,1],oA 35 0 (lF 1 34) [2],oW 36 1,oW 37 5,oA 38 0 (ix 1 36 37) [4,5],oA 39 0 (lF 1 38) [6],oA 40 0 (bt .gtr 35 39) [3,7]]) (cd 40 (sr [oN 4 (.iw (cI 1))] .ret) .skip)))) (rg [oW 21 5,oN 22 (bc .sub 21 1),oW 5 22])))))) (sr [oN 4 (.iw (cI 0))] .ret)))))⟩
structure wW (T : Tb) : Prop where
 hT : T 152 = some wV
def oD : Fn:=⟨1,21,[.tmp 2],(sr [oN 2 mN] (sr [oW 4 0,oN 5 (ln 4),oW 3 5] (.seq (.block 0 (.loop (.seq (sr [oW 6 3,oN 7 (bc .gtr 6 0),oW 8 7,oG 8 true 9 (oV 0),oG 8 true 10 (oV 3),oG 8 true 11 (bc .sub 10 1),oG 8 true 12 (ix 1 9 11),oG 8 true 13 (lF 1 12),oG 8 true 14 (bc .eql 13 0),oN 15 (.pick (.t 8) (.t 14) (.c (.bool false)))] (cd 15 .skip (.exit 0))) (.block 1 (rg [oW 16 3,oN 17 (bc .sub 16 1),oW 3 17]))))) (sr [oW 18 0,oW 19 3,oN 20 (.slice 1 (.t 18) none (some (.t 19))),oW 2 20] .ret))))⟩
structure kZ (T : Tb) : Prop where
 hT : T 151 = some oD
def wX : Fn:=⟨2,53,[.tmp 4],(sr [oN 4 mN] (.seq (rf 1 [oN 8 (.fE 1 Eo 0 []),oK 5 1 (oV 8)]) (sr [oN 6 (.iw (cI 0))] (.seq (sr [oN 7 (.iw (cI 0))] (.block 0 (.loop (.seq (sr [oW 9 7,oW 10 0,oN 11 (ln 10),oN 12 (bt .lss 9 11),oW 13 12,oG 13 false 14 (oV 7),oG 13 false 15 (oV 1),oG 13 false 16 (ln 15),oG 13 false 17 (bt .lss 14 16),oN 18 (.pick (.t 13) (.c (.bool true)) (.t 17)),oW 19 18,oG 19 false 20 (oV 6),oG 19 false 21 (bc .gtr 20 0),oN 22 (.pick (.t 19) (.c (.bool true)) (.t 21))] (cd 22 .skip (.exit 0))) (.seq (.block 1 (.seq (sr [oW 25 7,oW 26 0,oN 27 (ln 26),oN 28 (bt .lss 25 27)] (cd 28 (rg [oW 29 6,oW 30 0,oW 31 7,oN 32 (ix 1 30 31),oN 33 (lF 1 32),oN 34 (bt .add 29 33),oW 6 34]) .skip)) (.seq (sr [oW 35 7,oW 36 1,oN 37 (ln 36),oN 38 (bt .lss 35 37)] (cd 38 (rg [oW 39 6,oW 40 1,oW 41 7,oN 42 (ix 1 40 41),oN 43 (lF 1 42),oN 44 (bt .add 39 43),oW 6 44]) .skip)) (.seq (rf 2 [oK 45 2 (oV 5),oK 46 2 (oV 6),oK 47 2 (bc .rem 46 1000000000),oN 48 (.fE 1 Eo 1 [(0,(.t 47))]),oK 49 1 (.app 1 8 (.t 45) (.t 48)),oK 5 2 (oV 49)]) (rg [oW 50 6,oN 51 (bc .quo 50 1000000000),oW 6 51]))))) (rg [oW 23 7,oN 24 (bc .add 23 1),oW 7 24])))))) (sr [oW 52 5,oW 4 52] .ret)))))⟩
structure BI (T : Tb) : Prop where
 hT : T 160 = some wX
def wY : Fn:=⟨2,44,[.tmp 4],(sr [oN 4 mN] (.seq (rf 1 [oK 9 1 (oV 0),oK 10 1 (ln 9),oN 11 (.make Eo 8 (.t 10)),oK 5 1 (oV 11)]) (sr [oN 6 (.iw (cI 0))] (.seq (sr [oW 12 0,oN 13 (ln 12),oN 14 (.iw (cI 0))] (.block 0 (.loop (sr [oN 15 (bt .lss 14 13)] (.seq (cd 15 .skip (.exit 0)) (.seq (.block 1 (sr [oW 16 14,oW 7 16] (sr [oW 17 0,oW 18 7,oN 19 (ix 1 17 18),oN 20 (lF 1 19),oW 21 6,oN 22 (bt .sub 20 21),oW 8 22] (.seq (sr [oW 23 7,oW 24 1,oN 25 (ln 24),oN 26 (bt .lss 23 25)] (cd 26 (rg [oW 27 8,oW 28 1,oW 29 7,oN 30 (ix 1 28 29),oN 31 (lF 1 30),oN 32 (bt .sub 27 31),oW 8 32]) .skip)) (sr [oN 6 (.iw (cI 0))] (.seq (sr [oW 33 8,oN 34 (bc .lss 33 0)] (cd 34 (sr [oW 35 8,oN 36 (bc .add 35 1000000000),oW 8 36] (rg [oN 6 (.iw (cI 1))])) .skip)) (rg [oW 37 5,oW 38 7,oW 39 8,oN 40 (ix 1 37 38),oS (.store 1 (.t 40) (.t 39))]))))))) (rg [oN 41 (bc .add 14 1),oW 14 41]))))))) (sr [oW 42 5,oN 43 (cl 151 [42]),oW 4 43] .ret)))))⟩
structure wZ (T : Tb) : Prop where
 hT : T 154 = some wY
 iR : kZ T
def xg : Fn:=⟨2,71,[.tmp 4],(sr [oN 4 mN] (.seq (sr [oW 9 0,oN 10 (ln 9),oN 11 (bc .eql 10 0),oW 12 11,oG 12 false 13 (oV 1),oG 12 false 14 (ln 13),oG 12 false 15 (bc .eql 14 0),oN 16 (.pick (.t 12) (.c (.bool true)) (.t 15))] (cd 16 (sr [oN 4 mN] .ret) .skip)) (.seq (rf 1 [oK 17 1 (oV 0),oK 18 1 (ln 17),oK 19 1 (oV 1),oK 20 1 (ln 19),oK 21 1 (bt .add 18 20),oN 22 (.make Eo 8 (.t 21)),oK 5 1 (oV 22)]) (.seq (sr [oW 23 0,oN 24 (ln 23),oN 25 (.iw (cI 0))] (.block 0 (.loop (sr [oN 26 (bt .lss 25 24)] (.seq (cd 26 .skip (.exit 0)) (.seq (.block 1 (sr [oW 27 25,oW 6 27] (sr [oN 7 (.iw (cI 0))] (.seq (sr [oW 28 1,oN 29 (ln 28),oN 30 (.iw (cI 0))] (.block 2 (.loop (sr [oN 31 (bt .lss 30 29)] (.seq (cd 31 .skip (.exit 2)) (.seq (.block 3 (sr [oW 32 30,oW 8 32] (.seq (rt 0 [oW 33 7,oW 34 5,oW 35 6,oW 36 8,oA 37 0 (bt .add 35 36) [2,3],oA 38 0 (ix 1 34 37) [1,4],oA 39 0 (lF 1 38) [5],oW 40 0,oW 41 6,oA 42 0 (ix 1 40 41) [7,8],oA 43 0 (lF 1 42) [9],oW 44 1,oW 45 8,oA 46 0 (ix 1 44 45) [11,12],oA 47 0 (lF 1 46) [13],oA 48 0 (bt .mul 43 47) [10,14],oA 49 0 (bt .add 39 48) [6,15],oA 50 0 (bt .add 33 49) [0,16],oA 7 0 (oV 50) [17,0,1,2,3,4,5,6,7,8,9,10,11,12,13,14,15,16,17]]) (sr [oW 51 5,oW 52 6,oW 53 8,oN 54 (bt .add 52 53),oW 55 7,oN 56 (bc .rem 55 1000000000),oN 57 (ix 1 51 54),oS (.store 1 (.t 57) (.t 56))] (rg [oW 58 7,oN 59 (bc .quo 58 1000000000),oW 7 59]))))) (rg [oN 60 (bc .add 30 1),oW 30 60]))))))) (rg [oW 61 5,oW 62 6,oW 63 1,oN 64 (ln 63),oN 65 (bt .add 62 64),oW 66 7,oN 67 (ix 1 61 65),oS (.store 1 (.t 67) (.t 66))]))))) (rg [oN 68 (bc .add 25 1),oW 25 68]))))))) (sr [oW 69 5,oN 70 (cl 151 [69]),oW 4 70] .ret)))))⟩
structure xk (T : Tb) : Prop where
 hT : T 155 = some xg
 iR : kZ T
def qW : Fn:=⟨1,20,[.tmp 2],(sr [oN 2 (.iw (cI 0))] (sr [oN 3 (.iw (cI 0))] (.seq (sr [oW 5 0,oN 6 (ln 5),oN 7 (bc .sub 6 1),oW 4 7] (.block 0 (.loop (.seq (sr [oW 8 4,oN 9 (bc .geq 8 0)] (cd 9 .skip (.exit 0))) (.seq (.block 1 (rg [oW 12 3,oN 13 (bc .mul 12 1000000000),oW 14 0,oW 15 4,oN 16 (ix 1 14 15),oN 17 (lF 1 16),oN 18 (bt .add 13 17),oW 3 18])) (rg [oW 10 4,oN 11 (bc .sub 10 1),oW 4 11])))))) (sr [oW 19 3,oW 2 19] .ret))))⟩
structure qZ (T : Tb) : Prop where
 hT : T 137 = some qW
theorem gU {p : Prop} (h : p:=by
 first | omega | assumption | (simp;omega)) : p:=h
theorem Di {T : Tb} (h : kZ T) {l : List Int} (hl : l.length ≤ 1048576:=by exact gU) : PF T 151 [ints l] (ints (trim l)):=by
 refine aV nR h.hT ?_
 simp only [oD,Lz]
 refine ev ?_
 refine aS (fun _ _=>false) (α:=Nat) (fun n=>⟨dX [ints l,.any,.any,iv (n : Nat)],[],0,0,[],[]⟩) (fun n=>n ≤ l.length ∧ lN l l.length = lN l n) (fun n=>n) rfl l.length ?_ ?_ ?_
 ·exact ⟨by omega,rfl⟩
 ·(refine aJ ?_;exact Et)
 ·rintro n ⟨hn,ht⟩
  refine ev ?_
  refine aN (fun hb=>?_) fun hb=>?_ <;> (refine ev1 @hb ?_;try with_reducible exact True.intro)
  ·obtain ⟨m,rfl⟩ : ∃ m,n = m + 1:=⟨n - 1,by omega⟩
   have e1 : ((m + 1 : Nat) : Int) - 1 = (m : Nat):=by omega
   refine ev1 @e1 ?_
   refine aN (fun hc=>?_) fun hc=>?_ <;> (refine ev1 @hc ?_;try with_reducible exact True.intro)
   ·refine ⟨m,by omega,⟨by omega,?_⟩,by (refine aJ ?_;exact Et)⟩
    rw [ht];simp only [lN,hc,if_true]
   ·rw [trim,ht];simp only [lN,hc,if_false]
  ·have : n = 0:=by omega
   subst this
   rw [trim,ht]
   simp [lN,aH]
theorem aod {a b : St} (h : Fg a b:=by
 (refine NS [] (by simp) (by intro p hp;cases hp) rfl ?_) <;> (try (refine ev ?_;try with_reducible exact True.intro)) <;> (repeat' (first | exact True.intro | omega | exact yL rfl (by simp) | refine ⟨?_,?_⟩ | exact of_eq_true (Am _ _ _) | exact jo rfl (by simp;done) | exact jo rfl rfl | (refine jZ rfl ?_ rfl;simp [aH];done) | (refine jZ rfl ?_ rfl;simp [aH];omega) | (refine CZ ?_ ?_;(focus ((refine ev ?_;try with_reducible exact True.intro);done));(intro q hq k s0 l0;simp;done))))) : Fg a b:=h
theorem Iy {a b : St} (h : Fg a b:=by
 first | ((refine aJ ?_;exact Et);done) | (exact aod;done)) : Fg a b:=h
theorem Dj {a b : St} (h : Fg a b:=by
 (simp only [← wG];refine DN (k:=1) (yM _ _) rfl ?_;(try (refine ev ?_;try with_reducible exact True.intro));(repeat' (first | exact True.intro | omega | exact wF (by simp) (by simp) (by simp) | refine ⟨?_,?_⟩ | exact jo rfl (by simp))))) : Fg a b:=h
theorem Dk {a b : St} (h : Fg a b:=by
 (simp only [← wG];refine DN (k:=2) (yM _ _) rfl ?_;(try (refine ev ?_;try with_reducible exact True.intro));(repeat' (first | exact True.intro | omega | exact wF (by simp) (by simp) (by simp) | refine ⟨?_,?_⟩ | exact jo rfl (by simp))))) : Fg a b:=h
theorem oI {T : Tb} (h : jB T) {n : Int} (hn : 0 ≤ n ∧ n < 18446744073709551616:=by exact gU) : PF T 69 [.int .u64 n] (ints (mk n.toNat)):=by
 have hlen : (mk n.toNat).length ≤ 3:=aX.2 (by omega)
 refine aC nR h.hT ?_
 simp only [kY,Lz]
 refine ev ?_
 refine aS (fun _ _=>false) (α:=Nat × List Int) (fun q=>⟨dX [.int .u64 (q.1 : Nat),.any,.any,slV q.2.length],WI 1 (aH q.2),0,0,[],[]⟩) (fun q=>q.2 ++ mk q.1 = mk n.toNat ∧ q.1 ≤ n.toNat) (fun q=>q.1) rfl (n.toNat,[]) ?_ ?_ ?_
 ·exact ⟨rfl,Nat.le_refl _⟩
 ·exact Iy
 ·rintro ⟨m,xs⟩ ⟨hm,hle⟩
  dsimp only at hm hle
  have hx : xs.length ≤ 3:=by
   have:=congrArg List.length hm
   simp at this;omega
  have e1 : ((m : Int).tmod 1000000000) = ((m % 1000000000 : Nat) : Int):=by rw [Iu (by omega)];omega
  have e2 : ((m : Int).tdiv 1000000000) = ((m / 1000000000 : Nat) : Int):=by rw [Iw (by omega)];omega
  have key : 0 < m → (xs ++ [((m % 1000000000 : Nat) : Int)]) ++ mk (m / 1000000000) = mk n.toNat:=fun h=>by
   rw [← hm,mk_pos (n:=m) (by omega)];simp
  (rcases xs with _ | ⟨x,xs⟩ <;> simp only [List.length_nil,List.length_cons,kX,ku,fF,dL] at hx ⊢)
  ·refine ev ?_
   refine aN (fun hb=>?_) fun hb=>?_ <;> (refine vU @hb @e1 @e2 ?_;try with_reducible exact True.intro)
   ·exact ⟨by omega,(m / 1000000000,[] ++ [((m % 1000000000 : Nat) : Int)]),by dsimp only;omega,⟨key (by omega),by dsimp only;omega⟩,by exact Dj⟩
   ·have e : mk n.toNat = []:=by rw [← hm,show m = 0 by omega,mk_zero];rfl
    rw [e];exact (fP 1 ▸ trivial)
  ·refine ev ?_
   refine aN (fun hb=>?_) fun hb=>?_ <;> (refine vU @hb @e1 @e2 ?_;try with_reducible exact True.intro)
   ·refine ⟨by omega,(m / 1000000000,(x :: xs) ++ [((m % 1000000000 : Nat) : Int)]),by dsimp only;omega,⟨key (by omega),by dsimp only;omega⟩,by exact Dk⟩
   ·have e : x :: xs = mk n.toNat:=by rw [← hm,show m = 0 by omega,mk_zero];simp
    rw [← e];exact au _
theorem Y2 {T : Tb} (h : zD T) {l : List Int} (hl : l.length ≤ 9223372036854775807:=by exact gU) : PF T 126 [ints l] (.bool (kT l)):=by
 refine aV nR h.hT ?_
 simp only [zC,Lz]
 refine ev ?_
 refine aN (fun h1=>?_) fun h1=>?_ <;> (refine ev1 @h1 ?_;try with_reducible exact True.intro)
 ·simp [kT];intro h2;omega
 refine aS (fun _ _=>false) (α:=Nat) (fun i=>⟨dX [ints l,.any,.any,.any,.any,.any,.any,.any,ints l,iv (l.length : Nat),iv (i : Nat)],[],0,0,[],[]⟩) (fun i=>i ≤ l.length ∧ ∀ j,j < i → 0 ≤ l.getD j 0 ∧ l.getD j 0 < 1000000000) (fun i=>l.length - i) rfl 0 ?_ ?_ ?_
 ·exact ⟨by omega,by intro j hj;omega⟩
 ·(refine aJ ?_;exact Et)
 ·rintro i ⟨hi,hj⟩
  refine ev ?_
  refine aN (fun h2=>?_) fun h2=>?_ <;> (refine ev1 @h2 ?_;try with_reducible exact True.intro)
  ·have bad : ¬ (0 ≤ l.getD i 0 ∧ l.getD i 0 < 1000000000) → kT l = false:=fun hn=>by
    have : ¬ kT l = true:=fun e=>by
     have hc:=(Gl.1 e).2.1
     exact hn (jU hc i)
    simpa using this
   repeat' (first | ((refine aN (fun hb=>?_) fun hb=>?_) <;> (try (refine ev1 @hb ?_;try with_reducible exact True.intro))))
   all_goals first
    | (rw [bad (by omega)];done)
    | (
      refine ⟨i + 1,by omega,⟨by omega,fun j hj'=>?_⟩,by (refine aJ ?_;exact Et)⟩
      by_cases e : j = i
      ·subst e;omega
      ·exact hj j (by omega))
  ·have hi2 : i = l.length:=by omega
   subst hi2
   have hall : l.all (fun d=>decide (0 ≤ d) && decide (d < 1000000000)) = true:=by
    rw [List.all_eq_true]
    intro d hd
    obtain ⟨j,hj1,rfl⟩:=List.mem_iff_getElem.1 hd
    have:=hj j hj1
    rw [List.getD_eq_getElem?_getD,List.getElem?_eq_getElem hj1] at this
    simpa using this
   repeat' (first | ((refine aN (fun hb=>?_) fun hb=>?_) <;> (try (refine ev1 @hb ?_;try with_reducible exact True.intro))))
   ·have : l = []:=List.eq_nil_of_length_eq_zero (by omega)
    subst this;rfl
   ·have e1 : ((l.length : Nat) : Int) - 1 = ((l.length - 1 : Nat) : Int):=by omega
    have e2 : ((l.length : Int) - 1).toNat = l.length - 1:=by omega
    have e3 : l.isEmpty = false:=by cases l <;> simp_all
    have e4 : decide (l.length ≤ 60) = true:=by simp;omega
    unfold kT
    rw [hall,e3,e4,e2];simp
theorem N7 {T : Tb} (h : wW T) {a b : List Int} (ha : Can a) (hb : Can b) (la : a.length ≤ 1048576:=by exact gU) (lb : b.length ≤ 1048576:=by exact gU) : PF T 152 [ints a,ints b] (iv (C9 (val a) (val b))):=by
 refine aV nR h.hT ?_
 simp only [wV,Lz]
 refine ev ?_
 refine aN (fun h1=>?_) fun h1=>?_ <;> (refine ev1 @h1 ?_;try with_reducible exact True.intro)
 ·have:=mP ha.1 hb (by omega)
  simp [C9,this]
 refine aN (fun h2=>?_) fun h2=>?_ <;> (refine ev1 @h2 ?_;try with_reducible exact True.intro)
 ·have:=mP hb.1 ha (by omega)
  have h3 : ¬ val a < val b:=by omega
  simp [C9,this,h3]
 have hl : a.length = b.length:=by omega
 refine aS (fun _ _=>false) (α:=Nat) (fun n=>⟨dX [ints a,ints b,.any,.any,.any,iv ((n : Int) - 1)],[],0,0,[],[]⟩) (fun n=>n ≤ a.length ∧ a.drop n = b.drop n) (fun n=>n) rfl a.length ?_ ?_ ?_
 ·exact ⟨by omega,by rw [List.drop_eq_nil_of_le (by omega),List.drop_eq_nil_of_le (by omega)]⟩
 ·(refine aJ ?_;exact Et)
 ·rintro n ⟨hn,hd⟩
  refine ev ?_
  refine aN (fun h3=>?_) fun h3=>?_ <;> (refine ev1 @h3 ?_;try with_reducible exact True.intro)
  ·obtain ⟨m,rfl⟩ : ∃ m,n = m + 1:=⟨n - 1,by omega⟩
   have e1 : ((m + 1 : Nat) : Int) - 1 = (m : Nat):=by omega
   refine ev1 @e1 ?_
   refine aN (fun h4=>?_) fun h4=>?_ <;> (refine qm @h4 @e1 ?_;try with_reducible exact True.intro)
   ·have:=Gj ha.1 hb.1 (i:=m) (by omega) (by omega) hd h4
    simp [C9,this]
   refine aN (fun h5=>?_) fun h5=>?_ <;> (refine qm @h5 @e1 ?_;try with_reducible exact True.intro)
   ·have:=Gj hb.1 ha.1 (i:=m) (by omega) (by omega) hd.symm h5
    have h6 : ¬ val a < val b:=by omega
    simp [C9,this,h6]
   have e : a.getD m 0 = b.getD m 0:=by omega
   refine ⟨m,by omega,⟨by omega,?_⟩,by (refine aJ ?_;exact Et)⟩
   rw [Gm (by omega),Gm (l:=b) (by omega),e,hd]
  ·have : n = 0:=by omega
   subst this
   simp only [List.drop_zero] at hd
   subst hd
   simp [C9]
theorem wH {T : Tb} (h : qZ T) {n : Nat} (hn : n < 1000000000000000000:=by exact gU) : PF T 137 [ints (mk n)] (iv (n : Nat)):=by
 have hl : (mk n).length ≤ 2:=aX.2 (by omega)
 have hv:=val_mk n
 refine aV nR h.hT ?_
 simp only [qW,Lz]
 refine ev ?_
 refine aS (fun _ _=>false) (α:=Nat) (fun k=>⟨dX [ints (mk n),.any,.any,iv (val ((mk n).drop k) : Nat),iv ((k : Int) - 1)],[],0,0,[],[]⟩) (fun k=>k ≤ (mk n).length) (fun k=>k) rfl (mk n).length ?_ ?_ ?_
 ·omega
 ·have e : val ((mk n).drop (mk n).length) = 0:=bK (Nat.le_refl _)
  simp only [e]
  (refine aJ ?_;exact Et)
 ·intro k hk
  refine ev ?_
  refine aN (fun h3=>?_) fun h3=>?_ <;> (refine ev1 @h3 ?_;try with_reducible exact True.intro)
  ·obtain ⟨m,rfl⟩ : ∃ m,k = m + 1:=⟨k - 1,by omega⟩
   have e1 : ((m + 1 : Nat) : Int) - 1 = (m : Nat):=by omega
   have e2:=fQ (mk n) m
   have e3:=LH (l:=mk n) m
   have e4:=jU (jT n) m
   refine ev1 @e1 ?_
   exact ⟨m,by omega,by omega,by (refine aJ ?_;exact Et)⟩
  ·have : k = 0:=by omega
   subst this
   rw [List.drop_zero,hv]
theorem ac3 {T : Tb} (h : BI T) {m n : Nat} (la : (mk m).length ≤ 1000:=by exact gU) (lb : (mk n).length ≤ 1000:=by exact gU) : PF T 160 [ints (mk m),ints (mk n)] (ints (mk (m + n))):=by
 obtain ⟨a,hA⟩ : ∃ a,mk m = a:=⟨_,rfl⟩
 obtain ⟨b,hB⟩ : ∃ b,mk n = b:=⟨_,rfl⟩
 have hva : val a = m:=by rw [← hA,val_mk]
 have hvb : val b = n:=by rw [← hB,val_mk]
 have hba : Lb a:=hA ▸ jT m
 have hbb : Lb b:=hB ▸ jT n
 rw [hA] at la ⊢
 rw [hB] at lb ⊢
 refine aC nR h.hT ?_
 simp only [wX,Lz]
 refine ev ?_
 refine aS (fun _ _=>false) (α:=Nat × Int × List Int) (fun q=>⟨dX [ints a,ints b,.any,.any,.any,slV q.2.2.length,iv q.2.1,iv (q.1 : Nat)],WI 1 (aH q.2.2),0,0,[],[]⟩) (fun q=>q.2.2.length = q.1 ∧ Lb q.2.2 ∧ (0 ≤ q.2.1 ∧ q.2.1 ≤ 1) ∧ val q.2.2 + 1000000000 ^ q.1 * (q.2.1.toNat + val (a.drop q.1) + val (b.drop q.1)) = m + n ∧ (q.1 ≤ max a.length b.length ∨ (q.1 = max a.length b.length + 1 ∧ q.2.1 = 0 ∧ q.2.2.getLast? ≠ some 0))) (fun q=>max a.length b.length + 1 - q.1) rfl (0,0,[]) ?_ ?_ ?_
 ·exact ⟨rfl,Xt,⟨by dsimp only;omega,by dsimp only;omega⟩,by simp [val,hva,hvb],by dsimp only;omega⟩
 ·exact Iy
 ·rintro ⟨i,c,xs⟩ ⟨hl,hlb,hc,hv,hi⟩
  dsimp only at hl hlb hc hv hi
  have hi' : i ≤ max a.length b.length ∨ (i = max a.length b.length + 1 ∧ c = 0):=hi.imp id fun h=>⟨h.1,h.2.1⟩
  have hx : xs.length ≤ 1001:=by omega
  have ea:=fQ a i
  have eb:=fQ b i
  have ga:=jU hba i
  have gb:=jU hbb i
  have step:=U3 hl hc.1 ga.1 gb.1 hv ea eb
  have za : a.length ≤ i → a.getD i 0 = 0:=DT
  have zb : b.length ≤ i → b.getD i 0 = 0:=DT
  have key : ∀ t : Int,t = c + a.getD i 0 + b.getD i 0 → ((i : Int) < a.length ∨ (i : Int) < b.length ∨ 0 < c) → ∃ a' : Nat × Int × List Int,a' = (i + 1,t.tdiv 1000000000,xs ++ [t.tmod 1000000000]) ∧
    max a.length b.length + 1 - a'.1 < max a.length b.length + 1 - i ∧ (a'.2.2.length = a'.1 ∧ Lb a'.2.2 ∧ (0 ≤ a'.2.1 ∧ a'.2.1 ≤ 1) ∧ val a'.2.2 + 1000000000 ^ a'.1 * (a'.2.1.toNat + val (a.drop a'.1) + val (b.drop a'.1)) = m + n ∧
     (a'.1 ≤ max a.length b.length ∨ (a'.1 = max a.length b.length + 1 ∧ a'.2.1 = 0 ∧ a'.2.2.getLast? ≠ some 0))):=by
   intro t ht hor
   have ht0 : 0 ≤ t:=by omega
   refine ⟨_,rfl,?_⟩
   dsimp only
   rw [Iu ht0,Iw ht0]
   refine ⟨by omega,by simp [hl],Sl (by omega) (by omega) hlb,⟨by omega,by omega⟩,by rw [ht];exact step,?_⟩
   by_cases hlt : i < max a.length b.length
   ·left;omega
   ·right
    have h1:=za (by omega)
    have h2:=zb (by omega)
    refine ⟨by omega,by omega,?_⟩
    intro hlast
    rw [List.getLast?_concat] at hlast
    have:=Option.some.inj hlast
    omega
  have fin : ¬ ((i : Int) < a.length ∨ (i : Int) < b.length ∨ 0 < c) → xs = mk (m + n):=by
   intro hno
   have e1 : val (a.drop i) = 0:=bK (by omega)
   have e2 : val (b.drop i) = 0:=bK (by omega)
   rw [e1,e2,show c.toNat = 0 by omega] at hv
   simp only [Nat.add_zero,Nat.mul_zero] at hv
   refine (Y1 hv hlb ?_).symm
   rw [hA,hB]
   rcases hi with k | k
   ·left;omega
   ·right;exact k.2.2
  by_cases ca : (i : Int) < (a.length : Nat) <;> by_cases cb : (i : Int) < (b.length : Nat) <;> by_cases cc : 0 < c
  ·obtain ⟨_,rfl,k1,k2⟩:=key (c + a.getD i 0 + b.getD i 0) (by omega) (by omega)
   clear key step fin ea eb hi hv hlb hba hbb za zb
   (rcases xs with _ | ⟨x,xs⟩ <;> simp only [List.length_nil,List.length_cons,kX,ku,fF,dL] at hx ⊢)
   ·refine vU @ca @cb @cc ?_
    exact ⟨by omega,_,k1,k2,by exact Dj⟩
   ·refine vU @ca @cb @cc ?_
    exact ⟨by omega,_,k1,k2,by exact Dk⟩
  ·obtain ⟨_,rfl,k1,k2⟩:=key (c + a.getD i 0 + b.getD i 0) (by omega) (by omega)
   clear key step fin ea eb hi hv hlb hba hbb za zb
   (rcases xs with _ | ⟨x,xs⟩ <;> simp only [List.length_nil,List.length_cons,kX,ku,fF,dL] at hx ⊢)
   ·refine vU @ca @cb @cc ?_
    exact ⟨by omega,_,k1,k2,by exact Dj⟩
   ·refine vU @ca @cb @cc ?_
    exact ⟨by omega,_,k1,k2,by exact Dk⟩
  ·obtain ⟨_,rfl,k1,k2⟩:=key (c + a.getD i 0) (by omega) (by omega)
   clear key step fin ea eb hi hv hlb hba hbb za zb
   (rcases xs with _ | ⟨x,xs⟩ <;> simp only [List.length_nil,List.length_cons,kX,ku,fF,dL] at hx ⊢)
   ·refine vU @ca @cb @cc ?_
    exact ⟨by omega,_,k1,k2,by exact Dj⟩
   ·refine vU @ca @cb @cc ?_
    exact ⟨by omega,_,k1,k2,by exact Dk⟩
  ·obtain ⟨_,rfl,k1,k2⟩:=key (c + a.getD i 0) (by omega) (by omega)
   clear key step fin ea eb hi hv hlb hba hbb za zb
   (rcases xs with _ | ⟨x,xs⟩ <;> simp only [List.length_nil,List.length_cons,kX,ku,fF,dL] at hx ⊢)
   ·refine vU @ca @cb @cc ?_
    exact ⟨by omega,_,k1,k2,by exact Dj⟩
   ·refine vU @ca @cb @cc ?_
    exact ⟨by omega,_,k1,k2,by exact Dk⟩
  ·obtain ⟨_,rfl,k1,k2⟩:=key (c + b.getD i 0) (by omega) (by omega)
   clear key step fin ea eb hi hv hlb hba hbb za zb
   (rcases xs with _ | ⟨x,xs⟩ <;> simp only [List.length_nil,List.length_cons,kX,ku,fF,dL] at hx ⊢)
   ·refine vU @ca @cb @cc ?_
    exact ⟨by omega,_,k1,k2,by exact Dj⟩
   ·refine vU @ca @cb @cc ?_
    exact ⟨by omega,_,k1,k2,by exact Dk⟩
  ·obtain ⟨_,rfl,k1,k2⟩:=key (c + b.getD i 0) (by omega) (by omega)
   clear key step fin ea eb hi hv hlb hba hbb za zb
   (rcases xs with _ | ⟨x,xs⟩ <;> simp only [List.length_nil,List.length_cons,kX,ku,fF,dL] at hx ⊢)
   ·refine vU @ca @cb @cc ?_
    exact ⟨by omega,_,k1,k2,by exact Dj⟩
   ·refine vU @ca @cb @cc ?_
    exact ⟨by omega,_,k1,k2,by exact Dk⟩
  ·obtain ⟨_,rfl,k1,k2⟩:=key (c) (by omega) (by omega)
   clear key step fin ea eb hi hv hlb hba hbb za zb
   (rcases xs with _ | ⟨x,xs⟩ <;> simp only [List.length_nil,List.length_cons,kX,ku,fF,dL] at hx ⊢)
   ·refine vU @ca @cb @cc ?_
    exact ⟨by omega,_,k1,k2,by exact Dj⟩
   ·refine vU @ca @cb @cc ?_
    exact ⟨by omega,_,k1,k2,by exact Dk⟩
  ·have e:=fin (by omega)
   clear key step fin ea eb hi hv hlb hba hbb za zb
   (rcases xs with _ | ⟨x,xs⟩ <;> simp only [List.length_nil,List.length_cons,kX,ku,fF,dL] at hx ⊢)
   ·refine vU @ca @cb @cc ?_
    rw [← e];exact (fP 1 ▸ trivial)
   ·refine vU @ca @cb @cc ?_
    rw [← e];exact au _
theorem Jk {T : Tb} (h : wZ T) {m n : Nat} (hle : n ≤ m) (la : (mk m).length ≤ 1000:=by exact gU) (lb : (mk n).length ≤ 1000:=by exact gU) : PF T 154 [ints (mk m),ints (mk n)] (ints (mk (m - n))):=by
 obtain ⟨a,hA⟩ : ∃ a,mk m = a:=⟨_,rfl⟩
 obtain ⟨b,hB⟩ : ∃ b,mk n = b:=⟨_,rfl⟩
 have hva : val a = m:=by rw [← hA,val_mk]
 have hvb : val b = n:=by rw [← hB,val_mk]
 have hba : Lb a:=hA ▸ jT m
 have hbb : Lb b:=hB ▸ jT n
 have hlen : b.length ≤ a.length:=by
  rcases Nat.lt_or_ge a.length b.length with k | k
  ·have:=mP hba (hB ▸ kJ n) k
   omega
  ·exact k
 rw [hA] at la ⊢
 rw [hB] at lb ⊢
 refine aV nR h.hT ?_
 simp only [wY,Lz]
 refine ev ?_
 refine ⟨by omega,?_⟩
 rw [Ii]
 refine aS (fun _ _=>false) (α:=Nat × Int × List Int) (fun q=>⟨dX [ints a,ints b,.any,.any,.any,.bF 0 0 a.length,iv q.2.1,.any,.any,.any,.any,.any,ints a,iv (a.length : Nat),iv (q.1 : Nat)],[some ⟨1,aH q.2.2⟩],0,0,[],[]⟩) (fun q=>q.1 ≤ a.length ∧ q.2.2.length = a.length ∧ Lb q.2.2 ∧ (q.2.1 = 0 ∨ q.2.1 = 1) ∧ val (q.2.2.take q.1) + val (b.take q.1) = val (a.take q.1) + q.2.1.toNat * 1000000000 ^ q.1) (fun q=>a.length - q.1) rfl (0,0,List.replicate a.length 0) ?_ ?_ ?_
 ·exact ⟨by omega,by simp,Il _,.inl rfl,by simp [val]⟩
 ·(refine aJ ?_;exact Et)
 ·rintro ⟨i,bo,D⟩ ⟨hi,hD,Iz,hbo,hv⟩
  dsimp only at hi hD Iz hbo hv
  have ga:=jU hba i
  have gb:=jU hbb i
  have zb : b.length ≤ i → b.getD i 0 = 0:=DT
  by_cases c1 : (i : Int) < (a.length : Nat)
  ·have key : ∀ d U5 : Int,d + b.getD i 0 + bo = a.getD i 0 + U5 * 1000000000 → 0 ≤ d → d < 1000000000 → (U5 = 0 ∨ U5 = 1) → ∃ a' : Nat × Int × List Int,a' = (i + 1,U5,D.set i d) ∧
     a.length - a'.1 < a.length - i ∧ (a'.1 ≤ a.length ∧ a'.2.2.length = a.length ∧ Lb a'.2.2 ∧ (a'.2.1 = 0 ∨ a'.2.1 = 1) ∧ val (a'.2.2.take a'.1) + val (b.take a'.1) = val (a.take a'.1) + a'.2.1.toNat * 1000000000 ^ a'.1):=by
    intro d U5 hd d0 d1 hb'
    refine ⟨_,rfl,by dsimp only;omega,by dsimp only;omega,by simp [hD],DK d0 d1 Iz,hb',?_⟩
    dsimp only
    have e1 : (D.take i).length = i:=by simp;omega
    have e2 : (a.take i).length = i:=by simp;omega
    rw [P7 (by omega),mD,e1,dK (l:=a) (by omega),mD,e2]
    have e3 : val (b.take (i + 1)) = val (b.take i) + 1000000000 ^ i * (b.getD i 0).toNat:=by
     by_cases hb2 : i < b.length
     ·rw [dK hb2,mD];congr 3;simp;omega
     ·rw [List.take_of_length_le (by omega),List.take_of_length_le (by omega),zb (by omega)];simp
    rw [e3,Nat.pow_succ]
    exact U4 hv (by omega)
   by_cases c2 : (i : Int) < (b.length : Nat)
   ·by_cases c3 : a.getD i 0 - bo - b.getD i 0 < 0
    ·obtain ⟨_,rfl,k1,k2⟩:=key (a.getD i 0 - bo - b.getD i 0 + 1000000000) 1 (by omega) (by omega) (by omega) (.inr rfl)
     clear key hv zb hba hbb Iz
     refine ev4 @c1 @c2 @c3 @hD ?_
     exact ⟨_,k1,k2,by (refine aJ ?_;exact Et)⟩
    ·obtain ⟨_,rfl,k1,k2⟩:=key (a.getD i 0 - bo - b.getD i 0) 0 (by omega) (by omega) (by omega) (.inl rfl)
     clear key hv zb hba hbb Iz
     refine ev4 @c1 @c2 @c3 @hD ?_
     exact ⟨_,k1,k2,by (refine aJ ?_;exact Et)⟩
   ·have z:=zb (by omega)
    by_cases c3 : a.getD i 0 - bo < 0
    ·obtain ⟨_,rfl,k1,k2⟩:=key (a.getD i 0 - bo + 1000000000) 1 (by omega) (by omega) (by omega) (.inr rfl)
     clear key hv zb hba hbb Iz
     refine ev4 @c1 @c2 @c3 @hD ?_
     exact ⟨_,k1,k2,by (refine aJ ?_;exact Et)⟩
    ·obtain ⟨_,rfl,k1,k2⟩:=key (a.getD i 0 - bo) 0 (by omega) (by omega) (by omega) (.inl rfl)
     clear key hv zb hba hbb Iz
     refine ev4 @c1 @c2 @c3 @hD ?_
     exact ⟨_,k1,k2,by (refine aJ ?_;exact Et)⟩
  ·have hi2 : i = a.length:=by omega
   subst hi2
   rw [← hD,List.take_length,hD,List.take_length,List.take_of_length_le (by omega)] at hv
   have hlt:=nU Iz
   rw [hD] at hlt
   have hz : bo = 0:=by
    rcases hbo with h | h
    ·exact h
    ·rw [h] at hv
     simp at hv
     omega
   subst hz
   refine qm @c1 @hD ?_
   refine ah (Di h.iR (l:=D) (by omega)) ?_
   refine ev ?_
   rw [qV Iz]
   congr 3
   simp at hv
   omega
theorem ac4 {x y : Int} (hx : 0 ≤ x ∧ x < 1000000000) (hy : 0 ≤ y ∧ y < 1000000000) : 0 ≤ x * y ∧ x * y ≤ 999999998000000001:=by
 refine ⟨Int.mul_nonneg hx.1 hy.1,?_⟩
 have : x * y ≤ 999999999 * 999999999:=Int.mul_le_mul (by omega) (by omega) hy.1 (by omega)
 omega
theorem N8 {T : Tb} (h : xk T) {m n : Nat} (la : (mk m).length ≤ 1000:=by exact gU) (lb : (mk n).length ≤ 1000:=by exact gU) : PF T 155 [ints (mk m),ints (mk n)] (ints (mk (m * n))):=by
 obtain ⟨a,hA⟩ : ∃ a,mk m = a:=⟨_,rfl⟩
 obtain ⟨b,hB⟩ : ∃ b,mk n = b:=⟨_,rfl⟩
 have hva : val a = m:=by rw [← hA,val_mk]
 have hvb : val b = n:=by rw [← hB,val_mk]
 have hba : Lb a:=hA ▸ jT m
 have hbb : Lb b:=hB ▸ jT n
 rw [hA] at la ⊢
 rw [hB] at lb ⊢
 refine aC nR h.hT ?_
 simp only [xg,Lz]
 refine ev ?_
 by_cases h1 : a.length = 0
 ·have : a = []:=List.eq_nil_of_length_eq_zero h1
  have e : m = 0:=by rw [← hva,this];rfl
  have h1' : ((a.length : Nat) : Int) = 0:=by omega
  refine ev1 @h1' ?_
  rw [e,Nat.zero_mul,mk_zero];exact (fP 1 ▸ trivial)
 by_cases h2 : b.length = 0
 ·have : b = []:=List.eq_nil_of_length_eq_zero h2
  have e : n = 0:=by rw [← hvb,this];rfl
  have h1' : ¬ ((a.length : Nat) : Int) = 0:=by omega
  have h2' : ((b.length : Nat) : Int) = 0:=by omega
  refine qm @h1' @h2' ?_
  rw [e,Nat.mul_zero,mk_zero];exact (fP 1 ▸ trivial)
 have h1' : ¬ ((a.length : Nat) : Int) = 0:=by omega
 have h2' : ¬ ((b.length : Nat) : Int) = 0:=by omega
 refine qm @h1' @h2' ?_
 refine ⟨⟨by omega,by omega,by omega⟩,?_⟩
 have eL : ((a.length : Int) + (b.length : Int)).toNat = a.length + b.length:=by omega
 rw [eL,Ii]
 refine aS (fun _ _=>false) (α:=Nat × List Int) (fun q=>⟨dX [ints a,ints b,.any,.any,.any,.bF 0 0 (a.length + b.length),.any,.any,.any,.any,.any,.any,.any,.any,.any,.any,.any,.any,.any,.any,.any,.any,.any,ints a,iv (a.length : Nat),iv (q.1 : Nat)],[some ⟨1,aH q.2⟩],0,0,[],[]⟩) (fun q=>q.1 ≤ a.length ∧ q.2.length = a.length + b.length ∧ Lb q.2 ∧ val q.2 = val (a.take q.1) * n ∧ ∀ k,q.1 + b.length ≤ k → q.2.getD k 0 = 0) (fun q=>a.length - q.1) rfl (0,List.replicate (a.length + b.length) 0) ?_ ?_ ?_
 ·exact ⟨by omega,by simp,Il _,by rw [YT];simp [val],by intro k _;simp [List.getD_eq_getElem?_getD,List.getElem?_replicate];split <;> rfl⟩
 ·(refine aJ ?_;exact Et)
 ·rintro ⟨i,P⟩ ⟨hi,hP,hPb,hv,hz⟩
  dsimp only at hi hP hPb hv hz
  refine ev ?_
  refine aN (fun c1=>?_) fun c1=>?_ <;> (refine ev1 @c1 ?_;try with_reducible exact True.intro)
  ·have ga:=jU hba i
   have eA : val (a.take (i + 1)) = val (a.take i) + 1000000000 ^ i * (a.getD i 0).toNat:=by
    rw [dK (by omega),mD];congr 3;simp;omega
   refine aS (fun _ _=>false) (α:=Nat × Int × List Int) (fun q=>⟨dX [ints a,ints b,.any,.any,.any,.bF 0 0 (a.length + b.length),iv (i : Nat),iv q.2.1,.any,.any,.any,.any,.any,.any,.any,.any,.any,.any,.any,.any,.any,.any,.any,ints a,iv (a.length : Nat),iv (i : Nat),.any,.any,ints b,iv (b.length : Nat),iv (q.1 : Nat)],[some ⟨1,aH q.2.2⟩],0,0,[],[]⟩) (fun q=>q.1 ≤ b.length ∧ q.2.2.length = a.length + b.length ∧ Lb q.2.2 ∧ (0 ≤ q.2.1 ∧ q.2.1 < 1000000000) ∧ val q.2.2 + q.2.1.toNat * (1000000000 ^ i * 1000000000 ^ q.1) = val P + (a.getD i 0).toNat * (1000000000 ^ i * val (b.take q.1)) ∧ ∀ k,i + b.length ≤ k → q.2.2.getD k 0 = 0) (fun q=>b.length - q.1) rfl (0,0,P) ?_ ?_ ?_
   ·exact ⟨by omega,hP,hPb,⟨by dsimp only;omega,by dsimp only;omega⟩,by simp [val],hz⟩
   ·(refine aJ ?_;exact Et)
   ·rintro ⟨j,c,D⟩ ⟨hj,hD,Iz,hc,hw,hzD⟩
    dsimp only at hj hD Iz hc hw hzD
    have gb:=jU hbb j
    have gd:=jU Iz (i + j)
    have hm:=ac4 ga gb
    by_cases c2 : (j : Int) < (b.length : Nat)
    ·have k2 : (val (D.set (i + j) ((c + (D.getD (i + j) 0 + a.getD i 0 * b.getD j 0)) % 1000000000)) + ((c + (D.getD (i + j) 0 + a.getD i 0 * b.getD j 0)) / 1000000000).toNat * (1000000000 ^ i * 1000000000 ^ (j + 1))) = val P + (a.getD i 0).toNat * (1000000000 ^ i * val (b.take (j + 1))):=by
      have e1 : val (b.take (j + 1)) = val (b.take j) + 1000000000 ^ j * (b.getD j 0).toNat:=by
       rw [dK (by omega),mD];congr 3;simp;omega
      have e2:=MO (l:=D) (i:=i + j) (d:=(c + (D.getD (i + j) 0 + a.getD i 0 * b.getD j 0)) % 1000000000) (by omega)
      have e3 : (a.getD i 0 * b.getD j 0).toNat = (a.getD i 0).toNat * (b.getD j 0).toNat:=Int.toNat_mul ga.1 gb.1
      have e4 : (c + (D.getD (i + j) 0 + a.getD i 0 * b.getD j 0)).toNat = c.toNat + (D.getD (i + j) 0).toNat + (a.getD i 0).toNat * (b.getD j 0).toNat:=by
       rw [← e3];omega
      rw [e1,Nat.pow_succ]
      rw [Nat.pow_add] at e2
      have e5 : ((c + (D.getD (i + j) 0 + a.getD i 0 * b.getD j 0)) % 1000000000).toNat = (c + (D.getD (i + j) 0 + a.getD i 0 * b.getD j 0)).toNat % 1000000000:=by omega
      have e6 : ((c + (D.getD (i + j) 0 + a.getD i 0 * b.getD j 0)) / 1000000000).toNat = (c + (D.getD (i + j) 0 + a.getD i 0 * b.getD j 0)).toNat / 1000000000:=by omega
      rw [e5] at e2
      rw [e6]
      exact U6 hw e2 e4
     have k3 : ∀ k,i + b.length ≤ k → (D.set (i + j) ((c + (D.getD (i + j) 0 + a.getD i 0 * b.getD j 0)) % 1000000000)).getD k 0 = 0:=by
      intro k hk
      rw [iG,if_neg (by omega)]
      exact hzD k hk
     have k4:=DK (l:=D) (i:=i + j) (d:=(c + (D.getD (i + j) 0 + a.getD i 0 * b.getD j 0)) % 1000000000) (by omega) (by omega) Iz
     have t1 : (c + (D.getD (i + j) 0 + a.getD i 0 * b.getD j 0)).tmod 1000000000 = (c + (D.getD (i + j) 0 + a.getD i 0 * b.getD j 0)) % 1000000000:=Iu (by omega)
     have t2 : (c + (D.getD (i + j) 0 + a.getD i 0 * b.getD j 0)).tdiv 1000000000 = (c + (D.getD (i + j) 0 + a.getD i 0 * b.getD j 0)) / 1000000000:=Iw (by omega)
     have t3 : ((i : Int) + (j : Int)).toNat = i + j:=by omega
     clear hv hz hPb Iz eA hw hzD hba hbb
     refine ev5 @c2 @hD @t1 @t2 @t3 ?_
     refine ⟨(j + 1,(c + (D.getD (i + j) 0 + a.getD i 0 * b.getD j 0)) / 1000000000,D.set (i + j) ((c + (D.getD (i + j) 0 + a.getD i 0 * b.getD j 0)) % 1000000000)),by dsimp only;omega,⟨by dsimp only;omega,by simp [hD],k4,⟨by dsimp only;omega,by dsimp only;omega⟩,k2,k3⟩,by (refine aJ ?_;exact Et)⟩
    ·have hj2 : j = b.length:=by omega
     subst hj2
     rw [List.take_length] at hw
     have e2:=MO (l:=D) (i:=i + b.length) (d:=c) (by omega)
     rw [hzD (i + b.length) (Nat.le_refl _),Nat.pow_add] at e2
     have k1 : val (D.set (i + b.length) c) = val (a.take (i + 1)) * n:=by
      rw [eA,Nat.add_mul,← hv,← hvb]
      have : 1000000000 ^ i * (a.getD i 0).toNat * val b = (a.getD i 0).toNat * (1000000000 ^ i * val b):=by rw [Nat.mul_comm (1000000000 ^ i),Nat.mul_assoc]
      rw [this]
      have : c.toNat * (1000000000 ^ i * 1000000000 ^ b.length) = 1000000000 ^ i * 1000000000 ^ b.length * c.toNat:=Nat.mul_comm _ _
      simp only [Int.toNat_zero,Nat.mul_zero,Nat.add_zero] at e2
      omega
     have k2 : ∀ k,(i + 1) + b.length ≤ k → (D.set (i + b.length) c).getD k 0 = 0:=by
      intro k hk
      rw [iG,if_neg (by omega)]
      exact hzD k (by omega)
     have k3:=DK (l:=D) (i:=i + b.length) hc.1 hc.2 Iz
     have t3 : ((i : Int) + (b.length : Int)).toNat = i + b.length:=by omega
     clear hv hz hPb Iz eA hw hzD hba hbb e2
     refine vU @c2 @hD @t3 ?_
     exact ⟨(i + 1,D.set (i + b.length) c),by dsimp only;omega,⟨by dsimp only;omega,by simp [hD],k3,k1,k2⟩,by (refine aJ ?_;exact Et)⟩
  ·have hi2 : i = a.length:=by omega
   subst hi2
   rw [List.take_length,hva] at hv
   refine ev1 @hP ?_
   refine ah (Di h.iR (l:=P) (by omega)) ?_
   refine ev ?_
   rw [qV hPb,hv]
   exact au _
def uj : Fn:=⟨1,21,[.tmp 2],(sr [oN 2 mN] (sr [oW 4 0,oN 5 (ln 4),oW 3 5] (.seq (.block 0 (.loop (.seq (sr [oW 6 3,oN 7 (bc .gtr 6 0),oW 8 7,oG 8 true 9 (oV 0),oG 8 true 10 (oV 3),oG 8 true 11 (bc .sub 10 1),oG 8 true 12 (ix 1 9 11),oG 8 true 13 (lF 1 12),oG 8 true 14 (bc .eql 13 0),oN 15 (.pick (.t 8) (.t 14) (.c (.bool false)))] (cd 15 .skip (.exit 0))) (.block 1 (rg [oW 16 3,oN 17 (bc .sub 16 1),oW 3 17]))))) (sr [oW 18 0,oW 19 3,oN 20 (.slice 1 (.t 18) none (some (.t 19))),oW 2 20] .ret))))⟩
structure iT (T : Tb) : Prop where
 hT : T 71 = some uj
def xu : Fn:=⟨2,41,[.tmp 4],(sr [oN 4 (.iw (cI 0))] (.seq (sr [oW 6 0,oN 7 (ln 6),oW 8 1,oN 9 (ln 8),oN 10 (bt .neq 7 9)] (cd 10 (.seq (sr [oW 11 0,oN 12 (ln 11),oW 13 1,oN 14 (ln 13),oN 15 (bt .lss 12 14)] (cd 15 (sr [oN 4 (.iw (cI (-1)))] .ret) .skip)) (sr [oN 4 (.iw (cI 1))] .ret)) .skip)) (.seq (sr [oW 16 0,oN 17 (ln 16),oN 18 (bc .sub 17 1),oW 5 18] (.block 0 (.loop (.seq (sr [oW 19 5,oN 20 (bc .geq 19 0)] (cd 20 .skip (.exit 0))) (.seq (.block 1 (.seq (.seq (rt 0 [oW 23 0,oW 24 5,oA 25 0 (ix 1 23 24) [0,1],oA 26 0 (lF 1 25) [2],oW 27 1,oW 28 5,oA 29 0 (ix 1 27 28) [4,5],oA 30 0 (lF 1 29) [6],oA 31 0 (bt .lss 26 30) [3,7]]) (cd 31 (sr [oN 4 (.iw (cI (-1)))] .ret) .skip)) (.seq (rt 0 [oW 32 0,oW 33 5,oA 34 0 (ix 1 32 33) [0,1],oA 35 0 (lF 1 34) [2],oW 36 1,oW 37 5,oA 38 0 (ix 1 36 37) [4,5],oA 39 0 (lF 1 38) [6],oA 40 0 (bt .gtr 35 39) [3,7]]) (cd 40 (sr [oN 4 (.iw (cI 1))] .ret) .skip)))) (rg [oW 21 5,oN 22 (bc .sub 21 1),oW 5 22])))))) (sr [oN 4 (.iw (cI 0))] .ret))))⟩
structure ni (T : Tb) : Prop where
 hT : T 146 = some xu
def xw : Fn:=⟨2,55,[.tmp 4],(sr [oN 4 mN] (.seq (rf 1 [oN 9 (.fE 1 Eo 0 []),oK 5 1 (oV 9)]) (sr [oN 6 (.iw (cI 0))] (.seq (sr [oN 7 (.iw (cI 0))] (.block 0 (.loop (.seq (sr [oW 10 7,oW 11 0,oN 12 (ln 11),oN 13 (bt .lss 10 12),oW 14 13,oG 14 false 15 (oV 7),oG 14 false 16 (oV 1),oG 14 false 17 (ln 16),oG 14 false 18 (bt .lss 15 17),oN 19 (.pick (.t 14) (.c (.bool true)) (.t 18)),oW 20 19,oG 20 false 21 (oV 6),oG 20 false 22 (bc .gtr 21 0),oN 23 (.pick (.t 20) (.c (.bool true)) (.t 22))] (cd 23 .skip (.exit 0))) (.seq (.block 1 (sr [oW 26 6,oW 8 26] (.seq (sr [oW 27 7,oW 28 0,oN 29 (ln 28),oN 30 (bt .lss 27 29)] (cd 30 (rg [oW 31 8,oW 32 0,oW 33 7,oN 34 (ix 1 32 33),oN 35 (lF 1 34),oN 36 (bt .add 31 35),oW 8 36]) .skip)) (.seq (sr [oW 37 7,oW 38 1,oN 39 (ln 38),oN 40 (bt .lss 37 39)] (cd 40 (rg [oW 41 8,oW 42 1,oW 43 7,oN 44 (ix 1 42 43),oN 45 (lF 1 44),oN 46 (bt .add 41 45),oW 8 46]) .skip)) (.seq (rf 2 [oK 47 2 (oV 5),oK 48 2 (oV 8),oK 49 2 (bc .rem 48 1000000000),oN 50 (.fE 1 Eo 1 [(0,(.t 49))]),oK 51 1 (.app 1 8 (.t 47) (.t 50)),oK 5 2 (oV 51)]) (rg [oW 52 8,oN 53 (bc .quo 52 1000000000),oW 6 53])))))) (rg [oW 24 7,oN 25 (bc .add 24 1),oW 7 25])))))) (sr [oW 54 5,oW 4 54] .ret)))))⟩
structure BJ (T : Tb) : Prop where
 hT : T 209 = some xw
def xA : Fn:=⟨2,42,[.tmp 4],(sr [oN 4 mN] (.seq (rf 1 [oN 9 (.fE 1 Eo 0 []),oK 5 1 (oV 9)]) (sr [oN 6 (.iw (cI 0))] (.seq (sr [oW 10 0,oN 11 (ln 10),oN 12 (.iw (cI 0))] (.block 0 (.loop (sr [oN 13 (bt .lss 12 11)] (.seq (cd 13 .skip (.exit 0)) (.seq (.block 1 (sr [oW 14 12,oW 7 14] (sr [oW 15 0,oW 16 7,oN 17 (ix 1 15 16),oN 18 (lF 1 17),oW 19 6,oN 20 (bt .sub 18 19),oW 8 20] (.seq (sr [oW 21 7,oW 22 1,oN 23 (ln 22),oN 24 (bt .lss 21 23)] (cd 24 (rg [oW 25 8,oW 26 1,oW 27 7,oN 28 (ix 1 26 27),oN 29 (lF 1 28),oN 30 (bt .sub 25 29),oW 8 30]) .skip)) (sr [oN 6 (.iw (cI 0))] (.seq (sr [oW 31 8,oN 32 (bc .lss 31 0)] (cd 32 (sr [oW 33 8,oN 34 (bc .add 33 1000000000),oW 8 34] (rg [oN 6 (.iw (cI 1))])) .skip)) (rf 2 [oK 35 2 (oV 5),oK 36 2 (oV 8),oN 37 (.fE 1 Eo 1 [(0,(.t 36))]),oK 38 1 (.app 1 8 (.t 35) (.t 37)),oK 5 2 (oV 38)]))))))) (rg [oN 39 (bc .add 12 1),oW 12 39]))))))) (sr [oW 40 5,oN 41 (cl 71 [40]),oW 4 41] .ret)))))⟩
structure xB (T : Tb) : Prop where
 hT : T 149 = some xA
 bY : iT T
def xC : Fn:=⟨2,72,[.tmp 4],(sr [oN 4 mN] (.seq (sr [oW 12 0,oN 13 (ln 12),oN 14 (bc .eql 13 0),oW 15 14,oG 15 false 16 (oV 1),oG 15 false 17 (ln 16),oG 15 false 18 (bc .eql 17 0),oN 19 (.pick (.t 15) (.c (.bool true)) (.t 18))] (cd 19 (sr [oN 4 mN] .ret) .skip)) (.seq (rf 1 [oK 20 1 (oV 0),oK 21 1 (ln 20),oK 22 1 (oV 1),oK 23 1 (ln 22),oK 24 1 (bt .add 21 23),oN 25 (.make Eo 8 (.t 24)),oK 5 1 (oV 25)]) (.seq (sr [oW 26 0,oN 27 (ln 26),oN 28 (.iw (cI 0))] (.block 0 (.loop (sr [oN 29 (bt .lss 28 27)] (.seq (cd 29 .skip (.exit 0)) (.seq (.block 1 (sr [oW 30 28,oN 31 (ix 1 26 28),oN 32 (lF 1 31),oW 6 30,oW 7 32] (sr [oN 8 (.iw (cI 0))] (.seq (sr [oW 33 1,oN 34 (ln 33),oN 35 (.iw (cI 0))] (.block 2 (.loop (sr [oN 36 (bt .lss 35 34)] (.seq (cd 36 .skip (.exit 2)) (.seq (.block 3 (sr [oW 37 35,oN 38 (ix 1 33 35),oN 39 (lF 1 38),oW 9 37,oW 10 39] (sr [oW 40 5,oW 41 6,oW 42 9,oN 43 (bt .add 41 42),oN 44 (ix 1 40 43),oN 45 (lF 1 44),oW 46 7,oW 47 10,oN 48 (bt .mul 46 47),oN 49 (bt .add 45 48),oW 50 8,oN 51 (bt .add 49 50),oW 11 51] (sr [oW 52 5,oW 53 6,oW 54 9,oN 55 (bt .add 53 54),oW 56 11,oN 57 (bc .rem 56 1000000000),oN 58 (ix 1 52 55),oS (.store 1 (.t 58) (.t 57))] (rg [oW 59 11,oN 60 (bc .quo 59 1000000000),oW 8 60]))))) (rg [oN 61 (bc .add 35 1),oW 35 61]))))))) (rg [oW 62 5,oW 63 6,oW 64 1,oN 65 (ln 64),oN 66 (bt .add 63 65),oW 67 8,oN 68 (ix 1 62 66),oS (.store 1 (.t 68) (.t 67))]))))) (rg [oN 69 (bc .add 28 1),oW 28 69]))))))) (sr [oW 70 5,oN 71 (cl 71 [70]),oW 4 71] .ret)))))⟩
structure kL (T : Tb) : Prop where
 hT : T 150 = some xC
 bY : iT T
def zF : Fn:=⟨1,15,[.tmp 2],(sr [oN 2 mN] (.seq (rf 1 [oN 4 (.fE 1 Eo 0 []),oK 3 1 (oV 4)]) (.seq (.block 0 (.loop (.seq (sr [oW 5 0,oN 6 (bc .gtr 5 0)] (cd 6 .skip (.exit 0))) (.block 1 (.seq (rf 2 [oK 7 2 (oV 3),oK 8 2 (oV 0),oK 9 2 (bc .rem 8 1000000000),oN 10 (.fE 1 Eo 1 [(0,(.t 9))]),oK 11 1 (.app 1 8 (.t 7) (.t 10)),oK 3 2 (oV 11)]) (rg [oW 12 0,oN 13 (bc .quo 12 1000000000),oW 0 13])))))) (sr [oW 14 3,oW 2 14] .ret))))⟩
structure pI (T : Tb) : Prop where
 hT : T 67 = some zF
def zG : Fn:=⟨3,15,[.tmp 6],(sr [oN 6 mF] (sr [oW 7 0,oW 8 1,oN 9 (bt .geq 7 8),oW 10 9,oG 10 true 11 (oV 0),oG 10 true 12 (oV 2),oG 10 true 13 (bt .leq 11 12),oN 14 (.pick (.t 10) (.t 13) (.c (.bool false))),oW 6 14] .ret))⟩
structure um (T : Tb) : Prop where
 hT : T 35 = some zG
def zH : Fn:=⟨1,32,[.tmp 2],(sr [oN 2 mF] (.seq (sr [oW 5 0,oN 6 (ln 5),oN 7 (.iw (cI 0))] (.block 0 (.loop (sr [oN 8 (bt .lss 7 6)] (.seq (cd 8 .skip (.exit 0)) (.seq (.block 1 (sr [oN 9 (ix 1 5 7),oN 10 (lF 1 9),oW 4 10] (sr [oW 11 4,oN 12 (.call 35 [(.t 11),(cI 0),(cI 999999999)]),oN 13 (nt 12)] (cd 13 (sr [oN 2 mF] .ret) .skip)))) (rg [oN 14 (bc .add 7 1),oW 7 14]))))))) (sr [oW 15 0,oN 16 (ln 15),oN 17 (bc .leq 16 60),oW 18 17,oG 18 true 19 (oV 0),oG 18 true 20 (ln 19),oG 18 true 21 (bc .eql 20 0),oG 18 true 22 (oV 21),oG 22 false 23 (oV 0),oG 22 false 24 (oV 0),oG 22 false 25 (ln 24),oG 22 false 26 (bc .sub 25 1),oG 22 false 27 (ix 1 23 26),oG 22 false 28 (lF 1 27),oG 22 false 29 (bc .neq 28 0),oG 18 true 30 (.pick (.t 22) (.c (.bool true)) (.t 29)),oN 31 (.pick (.t 18) (.t 30) (.c (.bool false))),oW 2 31] .ret)))⟩
structure uo (T : Tb) : Prop where
 hT : T 121 = some zH
 lV : um T
def xE : Fn:=⟨1,10,[.tmp 2],(sr [oN 2 mN] (sr [oW 4 0,oN 5 (cl 71 [4]),oW 3 5] (.seq (sr [oW 6 3,oN 7 (ln 6),oN 8 (bc .gtr 7 60)] (cd 8 (sr [oN 2 mN] .ret) .skip)) (sr [oW 9 3,oW 2 9] .ret))))⟩
structure BK (T : Tb) : Prop where
 hT : T 70 = some xE
 bY : iT T
theorem tN {T : Tb} (h : iT T) {l : List Int} (hl : l.length ≤ 1048576:=by exact gU) : PF T 71 [ints l] (ints (trim l)):=by
 refine aV nR h.hT ?_
 simp only [uj,Lz]
 refine ev ?_
 refine aS (fun _ _=>false) (α:=Nat) (fun n=>⟨dX [ints l,.any,.any,iv (n : Nat)],[],0,0,[],[]⟩) (fun n=>n ≤ l.length ∧ lN l l.length = lN l n) (fun n=>n) rfl l.length ?_ ?_ ?_
 ·exact ⟨by omega,rfl⟩
 ·(refine aJ ?_;exact Et)
 ·rintro n ⟨hn,ht⟩
  refine ev ?_
  refine aN (fun hb=>?_) fun hb=>?_ <;> (refine ev1 @hb ?_;try with_reducible exact True.intro)
  ·obtain ⟨m,rfl⟩ : ∃ m,n = m + 1:=⟨n - 1,by omega⟩
   have e1 : ((m + 1 : Nat) : Int) - 1 = (m : Nat):=by omega
   refine ev1 @e1 ?_
   refine aN (fun hc=>?_) fun hc=>?_ <;> (refine ev1 @hc ?_;try with_reducible exact True.intro)
   ·refine ⟨m,by omega,⟨by omega,?_⟩,by (refine aJ ?_;exact Et)⟩
    rw [ht];simp only [lN,hc,if_true]
   ·rw [trim,ht];simp only [lN,hc,if_false]
  ·have : n = 0:=by omega
   subst this
   rw [trim,ht]
   simp [lN,aH]
theorem ac5 {T : Tb} (h : BK T) {n : Nat} (hl : (mk n).length ≤ 60:=by exact gU) : PF T 70 [ints (mk n)] (ints (mk n)):=by
 have ct:=tN h.bY (l:=mk n) (by omega)
 rw [NU (kJ n)] at ct
 have c1 : ¬ (60 : Int) < ((mk n).length : Nat):=by omega
 refine aV nR h.hT ?_
 simp only [xE,Lz]
 refine ev ?_
 refine ah ct ?_
 (refine ev1 @c1 ?_;try with_reducible exact True.intro)
theorem Jl {T : Tb} (h : ni T) {a b : List Int} (ha : Can a) (hb : Can b) (la : a.length ≤ 1048576:=by exact gU) (lb : b.length ≤ 1048576:=by exact gU) : PF T 146 [ints a,ints b] (iv (C9 (val a) (val b))):=by
 refine aV nR h.hT ?_
 simp only [xu,Lz]
 refine ev ?_
 by_cases h1 : ((a.length : Nat) : Int) < (b.length : Nat)
 ·have:=mP ha.1 hb (by omega)
  have h0 : ¬ ((a.length : Nat) : Int) = (b.length : Nat):=by omega
  refine qm @h0 @h1 ?_
  simp [C9,this]
 by_cases h2 : ((b.length : Nat) : Int) < (a.length : Nat)
 ·have:=mP hb.1 ha (by omega)
  have h3 : ¬ val a < val b:=by omega
  have h0 : ¬ ((a.length : Nat) : Int) = (b.length : Nat):=by omega
  refine qm @h0 @h1 ?_
  simp [C9,this,h3]
 have hl : a.length = b.length:=by omega
 have h0:=iff_true_intro (show ((a.length : Nat) : Int) = (b.length : Nat) by omega)
 refine ev1 @h0 ?_
 refine aS (fun _ _=>false) (α:=Nat) (fun n=>⟨dX [ints a,ints b,.any,.any,.any,iv ((n : Int) - 1)],[],0,0,[],[]⟩) (fun n=>n ≤ a.length ∧ a.drop n = b.drop n) (fun n=>n) rfl a.length ?_ ?_ ?_
 ·exact ⟨by omega,by rw [List.drop_eq_nil_of_le (by omega),List.drop_eq_nil_of_le (by omega)]⟩
 ·(refine aJ ?_;exact Et)
 ·rintro n ⟨hn,hd⟩
  refine ev ?_
  refine aN (fun h3=>?_) fun h3=>?_ <;> (refine ev1 @h3 ?_;try with_reducible exact True.intro)
  ·obtain ⟨m,rfl⟩ : ∃ m,n = m + 1:=⟨n - 1,by omega⟩
   have e1 : ((m + 1 : Nat) : Int) - 1 = (m : Nat):=by omega
   refine ev1 @e1 ?_
   refine aN (fun h4=>?_) fun h4=>?_ <;> (refine qm @h4 @e1 ?_;try with_reducible exact True.intro)
   ·have:=Gj ha.1 hb.1 (i:=m) (by omega) (by omega) hd h4
    simp [C9,this]
   refine aN (fun h5=>?_) fun h5=>?_ <;> (refine qm @h5 @e1 ?_;try with_reducible exact True.intro)
   ·have:=Gj hb.1 ha.1 (i:=m) (by omega) (by omega) hd.symm h5
    have h6 : ¬ val a < val b:=by omega
    simp [C9,this,h6]
   have e : a.getD m 0 = b.getD m 0:=by omega
   refine ⟨m,by omega,⟨by omega,?_⟩,by (refine aJ ?_;exact Et)⟩
   rw [Gm (by omega),Gm (l:=b) (by omega),e,hd]
  ·have : n = 0:=by omega
   subst this
   simp only [List.drop_zero] at hd
   subst hd
   simp [C9]
theorem ac6 {T : Tb} (h : BJ T) {m n : Nat} (la : (mk m).length ≤ 1000:=by exact gU) (lb : (mk n).length ≤ 1000:=by exact gU) : PF T 209 [ints (mk m),ints (mk n)] (ints (mk (m + n))):=by
 obtain ⟨a,hA⟩ : ∃ a,mk m = a:=⟨_,rfl⟩
 obtain ⟨b,hB⟩ : ∃ b,mk n = b:=⟨_,rfl⟩
 have hva : val a = m:=by rw [← hA,val_mk]
 have hvb : val b = n:=by rw [← hB,val_mk]
 have hba : Lb a:=hA ▸ jT m
 have hbb : Lb b:=hB ▸ jT n
 rw [hA] at la ⊢
 rw [hB] at lb ⊢
 refine aC nR h.hT ?_
 simp only [xw,Lz]
 refine ev ?_
 refine aS (fun _ _=>false) (α:=Nat × Int × List Int) (fun q=>⟨dX [ints a,ints b,.any,.any,.any,slV q.2.2.length,iv q.2.1,iv (q.1 : Nat)],WI 1 (aH q.2.2),0,0,[],[]⟩) (fun q=>q.2.2.length = q.1 ∧ Lb q.2.2 ∧ (0 ≤ q.2.1 ∧ q.2.1 ≤ 1) ∧ val q.2.2 + 1000000000 ^ q.1 * (q.2.1.toNat + val (a.drop q.1) + val (b.drop q.1)) = m + n ∧ (q.1 ≤ max a.length b.length ∨ (q.1 = max a.length b.length + 1 ∧ q.2.1 = 0 ∧ q.2.2.getLast? ≠ some 0))) (fun q=>max a.length b.length + 1 - q.1) rfl (0,0,[]) ?_ ?_ ?_
 ·exact ⟨rfl,Xt,⟨by dsimp only;omega,by dsimp only;omega⟩,by simp [val,hva,hvb],by dsimp only;omega⟩
 ·exact Iy
 ·rintro ⟨i,c,xs⟩ ⟨hl,hlb,hc,hv,hi⟩
  dsimp only at hl hlb hc hv hi
  have hi' : i ≤ max a.length b.length ∨ (i = max a.length b.length + 1 ∧ c = 0):=hi.imp id fun h=>⟨h.1,h.2.1⟩
  have hx : xs.length ≤ 1001:=by omega
  have ea:=fQ a i
  have eb:=fQ b i
  have ga:=jU hba i
  have gb:=jU hbb i
  have step:=U3 hl hc.1 ga.1 gb.1 hv ea eb
  have za : a.length ≤ i → a.getD i 0 = 0:=DT
  have zb : b.length ≤ i → b.getD i 0 = 0:=DT
  have key : ∀ t : Int,t = c + a.getD i 0 + b.getD i 0 → ((i : Int) < a.length ∨ (i : Int) < b.length ∨ 0 < c) → ∃ a' : Nat × Int × List Int,a' = (i + 1,t.tdiv 1000000000,xs ++ [t.tmod 1000000000]) ∧
    max a.length b.length + 1 - a'.1 < max a.length b.length + 1 - i ∧ (a'.2.2.length = a'.1 ∧ Lb a'.2.2 ∧ (0 ≤ a'.2.1 ∧ a'.2.1 ≤ 1) ∧ val a'.2.2 + 1000000000 ^ a'.1 * (a'.2.1.toNat + val (a.drop a'.1) + val (b.drop a'.1)) = m + n ∧
     (a'.1 ≤ max a.length b.length ∨ (a'.1 = max a.length b.length + 1 ∧ a'.2.1 = 0 ∧ a'.2.2.getLast? ≠ some 0))):=by
   intro t ht hor
   have ht0 : 0 ≤ t:=by omega
   refine ⟨_,rfl,?_⟩
   dsimp only
   rw [Iu ht0,Iw ht0]
   refine ⟨by omega,by simp [hl],Sl (by omega) (by omega) hlb,⟨by omega,by omega⟩,by rw [ht];exact step,?_⟩
   by_cases hlt : i < max a.length b.length
   ·left;omega
   ·right
    have h1:=za (by omega)
    have h2:=zb (by omega)
    refine ⟨by omega,by omega,?_⟩
    intro hlast
    rw [List.getLast?_concat] at hlast
    have:=Option.some.inj hlast
    omega
  have fin : ¬ ((i : Int) < a.length ∨ (i : Int) < b.length ∨ 0 < c) → xs = mk (m + n):=by
   intro hno
   have e1 : val (a.drop i) = 0:=bK (by omega)
   have e2 : val (b.drop i) = 0:=bK (by omega)
   rw [e1,e2,show c.toNat = 0 by omega] at hv
   simp only [Nat.add_zero,Nat.mul_zero] at hv
   refine (Y1 hv hlb ?_).symm
   rw [hA,hB]
   rcases hi with k | k
   ·left;omega
   ·right;exact k.2.2
  by_cases ca : (i : Int) < (a.length : Nat) <;> by_cases cb : (i : Int) < (b.length : Nat) <;> by_cases cc : 0 < c
  ·obtain ⟨_,rfl,k1,k2⟩:=key (c + a.getD i 0 + b.getD i 0) (by omega) (by omega)
   clear key step fin ea eb hi hv hlb hba hbb za zb
   (rcases xs with _ | ⟨x,xs⟩ <;> simp only [List.length_nil,List.length_cons,kX,ku,fF,dL] at hx ⊢)
   ·refine vU @ca @cb @cc ?_
    exact ⟨by omega,_,k1,k2,by exact Dj⟩
   ·refine vU @ca @cb @cc ?_
    exact ⟨by omega,_,k1,k2,by exact Dk⟩
  ·obtain ⟨_,rfl,k1,k2⟩:=key (c + a.getD i 0 + b.getD i 0) (by omega) (by omega)
   clear key step fin ea eb hi hv hlb hba hbb za zb
   (rcases xs with _ | ⟨x,xs⟩ <;> simp only [List.length_nil,List.length_cons,kX,ku,fF,dL] at hx ⊢)
   ·refine vU @ca @cb @cc ?_
    exact ⟨by omega,_,k1,k2,by exact Dj⟩
   ·refine vU @ca @cb @cc ?_
    exact ⟨by omega,_,k1,k2,by exact Dk⟩
  ·obtain ⟨_,rfl,k1,k2⟩:=key (c + a.getD i 0) (by omega) (by omega)
   clear key step fin ea eb hi hv hlb hba hbb za zb
   (rcases xs with _ | ⟨x,xs⟩ <;> simp only [List.length_nil,List.length_cons,kX,ku,fF,dL] at hx ⊢)
   ·refine vU @ca @cb @cc ?_
    exact ⟨by omega,_,k1,k2,by exact Dj⟩
   ·refine vU @ca @cb @cc ?_
    exact ⟨by omega,_,k1,k2,by exact Dk⟩
  ·obtain ⟨_,rfl,k1,k2⟩:=key (c + a.getD i 0) (by omega) (by omega)
   clear key step fin ea eb hi hv hlb hba hbb za zb
   (rcases xs with _ | ⟨x,xs⟩ <;> simp only [List.length_nil,List.length_cons,kX,ku,fF,dL] at hx ⊢)
   ·refine vU @ca @cb @cc ?_
    exact ⟨by omega,_,k1,k2,by exact Dj⟩
   ·refine vU @ca @cb @cc ?_
    exact ⟨by omega,_,k1,k2,by exact Dk⟩
  ·obtain ⟨_,rfl,k1,k2⟩:=key (c + b.getD i 0) (by omega) (by omega)
   clear key step fin ea eb hi hv hlb hba hbb za zb
   (rcases xs with _ | ⟨x,xs⟩ <;> simp only [List.length_nil,List.length_cons,kX,ku,fF,dL] at hx ⊢)
   ·refine vU @ca @cb @cc ?_
    exact ⟨by omega,_,k1,k2,by exact Dj⟩
   ·refine vU @ca @cb @cc ?_
    exact ⟨by omega,_,k1,k2,by exact Dk⟩
  ·obtain ⟨_,rfl,k1,k2⟩:=key (c + b.getD i 0) (by omega) (by omega)
   clear key step fin ea eb hi hv hlb hba hbb za zb
   (rcases xs with _ | ⟨x,xs⟩ <;> simp only [List.length_nil,List.length_cons,kX,ku,fF,dL] at hx ⊢)
   ·refine vU @ca @cb @cc ?_
    exact ⟨by omega,_,k1,k2,by exact Dj⟩
   ·refine vU @ca @cb @cc ?_
    exact ⟨by omega,_,k1,k2,by exact Dk⟩
  ·obtain ⟨_,rfl,k1,k2⟩:=key (c) (by omega) (by omega)
   clear key step fin ea eb hi hv hlb hba hbb za zb
   (rcases xs with _ | ⟨x,xs⟩ <;> simp only [List.length_nil,List.length_cons,kX,ku,fF,dL] at hx ⊢)
   ·refine vU @ca @cb @cc ?_
    exact ⟨by omega,_,k1,k2,by exact Dj⟩
   ·refine vU @ca @cb @cc ?_
    exact ⟨by omega,_,k1,k2,by exact Dk⟩
  ·have e:=fin (by omega)
   clear key step fin ea eb hi hv hlb hba hbb za zb
   (rcases xs with _ | ⟨x,xs⟩ <;> simp only [List.length_nil,List.length_cons,kX,ku,fF,dL] at hx ⊢)
   ·refine vU @ca @cb @cc ?_
    rw [← e];exact (fP 1 ▸ trivial)
   ·refine vU @ca @cb @cc ?_
    rw [← e];exact au _
theorem uw {T : Tb} (h : kL T) {m n : Nat} (la : (mk m).length ≤ 1000:=by exact gU) (lb : (mk n).length ≤ 1000:=by exact gU) : PF T 150 [ints (mk m),ints (mk n)] (ints (mk (m * n))):=by
 obtain ⟨a,hA⟩ : ∃ a,mk m = a:=⟨_,rfl⟩
 obtain ⟨b,hB⟩ : ∃ b,mk n = b:=⟨_,rfl⟩
 have hva : val a = m:=by rw [← hA,val_mk]
 have hvb : val b = n:=by rw [← hB,val_mk]
 have hba : Lb a:=hA ▸ jT m
 have hbb : Lb b:=hB ▸ jT n
 rw [hA] at la ⊢
 rw [hB] at lb ⊢
 refine aC nR h.hT ?_
 simp only [xC,Lz]
 refine ev ?_
 by_cases h1 : a.length = 0
 ·have : a = []:=List.eq_nil_of_length_eq_zero h1
  have e : m = 0:=by rw [← hva,this];rfl
  have h1' : ((a.length : Nat) : Int) = 0:=by omega
  refine ev1 @h1' ?_
  rw [e,Nat.zero_mul,mk_zero];exact (fP 1 ▸ trivial)
 by_cases h2 : b.length = 0
 ·have : b = []:=List.eq_nil_of_length_eq_zero h2
  have e : n = 0:=by rw [← hvb,this];rfl
  have h1' : ¬ ((a.length : Nat) : Int) = 0:=by omega
  have h2' : ((b.length : Nat) : Int) = 0:=by omega
  refine qm @h1' @h2' ?_
  rw [e,Nat.mul_zero,mk_zero];exact (fP 1 ▸ trivial)
 have h1' : ¬ ((a.length : Nat) : Int) = 0:=by omega
 have h2' : ¬ ((b.length : Nat) : Int) = 0:=by omega
 refine qm @h1' @h2' ?_
 refine ⟨⟨by omega,by omega,by omega⟩,?_⟩
 have eL : ((a.length : Int) + (b.length : Int)).toNat = a.length + b.length:=by omega
 rw [eL,Ii]
 refine aS (fun _ _=>false) (α:=Nat × List Int) (fun q=>⟨dX [ints a,ints b,.any,.any,.any,.bF 0 0 (a.length + b.length),.any,.any,.any,.any,.any,.any,.any,.any,.any,.any,.any,.any,.any,.any,.any,.any,.any,.any,.any,.any,ints a,iv (a.length : Nat),iv (q.1 : Nat)],[some ⟨1,aH q.2⟩],0,0,[],[]⟩) (fun q=>q.1 ≤ a.length ∧ q.2.length = a.length + b.length ∧ Lb q.2 ∧ val q.2 = val (a.take q.1) * n ∧ ∀ k,q.1 + b.length ≤ k → q.2.getD k 0 = 0) (fun q=>a.length - q.1) rfl (0,List.replicate (a.length + b.length) 0) ?_ ?_ ?_
 ·exact ⟨by omega,by simp,Il _,by rw [YT];simp [val],by intro k _;simp [List.getD_eq_getElem?_getD,List.getElem?_replicate];split <;> rfl⟩
 ·(refine aJ ?_;exact Et)
 ·rintro ⟨i,P⟩ ⟨hi,hP,hPb,hv,hz⟩
  dsimp only at hi hP hPb hv hz
  refine ev ?_
  refine aN (fun c1=>?_) fun c1=>?_ <;> (refine ev1 @c1 ?_;try with_reducible exact True.intro)
  ·have ga:=jU hba i
   have eA : val (a.take (i + 1)) = val (a.take i) + 1000000000 ^ i * (a.getD i 0).toNat:=by
    rw [dK (by omega),mD];congr 3;simp;omega
   refine aS (fun _ _=>false) (α:=Nat × Int × List Int) (fun q=>⟨dX [ints a,ints b,.any,.any,.any,.bF 0 0 (a.length + b.length),iv (i : Nat),iv (a.getD i 0),iv q.2.1,.any,.any,.any,.any,.any,.any,.any,.any,.any,.any,.any,.any,.any,.any,.any,.any,.any,ints a,iv (a.length : Nat),iv (i : Nat),.any,.any,.any,.any,ints b,iv (b.length : Nat),iv (q.1 : Nat)],[some ⟨1,aH q.2.2⟩],0,0,[],[]⟩) (fun q=>q.1 ≤ b.length ∧ q.2.2.length = a.length + b.length ∧ Lb q.2.2 ∧ (0 ≤ q.2.1 ∧ q.2.1 < 1000000000) ∧ val q.2.2 + q.2.1.toNat * (1000000000 ^ i * 1000000000 ^ q.1) = val P + (a.getD i 0).toNat * (1000000000 ^ i * val (b.take q.1)) ∧ ∀ k,i + b.length ≤ k → q.2.2.getD k 0 = 0) (fun q=>b.length - q.1) rfl (0,0,P) ?_ ?_ ?_
   ·exact ⟨by omega,hP,hPb,⟨by dsimp only;omega,by dsimp only;omega⟩,by simp [val],hz⟩
   ·(refine aJ ?_;exact Et)
   ·rintro ⟨j,c,D⟩ ⟨hj,hD,Iz,hc,hw,hzD⟩
    dsimp only at hj hD Iz hc hw hzD
    have gb:=jU hbb j
    have gd:=jU Iz (i + j)
    have hm:=ac4 ga gb
    by_cases c2 : (j : Int) < (b.length : Nat)
    ·have k2 : (val (D.set (i + j) ((D.getD (i + j) 0 + a.getD i 0 * b.getD j 0 + c) % 1000000000)) + ((D.getD (i + j) 0 + a.getD i 0 * b.getD j 0 + c) / 1000000000).toNat * (1000000000 ^ i * 1000000000 ^ (j + 1))) = val P + (a.getD i 0).toNat * (1000000000 ^ i * val (b.take (j + 1))):=by
      have e1 : val (b.take (j + 1)) = val (b.take j) + 1000000000 ^ j * (b.getD j 0).toNat:=by
       rw [dK (by omega),mD];congr 3;simp;omega
      have e2:=MO (l:=D) (i:=i + j) (d:=(D.getD (i + j) 0 + a.getD i 0 * b.getD j 0 + c) % 1000000000) (by omega)
      have e3 : (a.getD i 0 * b.getD j 0).toNat = (a.getD i 0).toNat * (b.getD j 0).toNat:=Int.toNat_mul ga.1 gb.1
      have e4 : (D.getD (i + j) 0 + a.getD i 0 * b.getD j 0 + c).toNat = c.toNat + (D.getD (i + j) 0).toNat + (a.getD i 0).toNat * (b.getD j 0).toNat:=by
       rw [← e3];omega
      rw [e1,Nat.pow_succ]
      rw [Nat.pow_add] at e2
      have e5 : ((D.getD (i + j) 0 + a.getD i 0 * b.getD j 0 + c) % 1000000000).toNat = (D.getD (i + j) 0 + a.getD i 0 * b.getD j 0 + c).toNat % 1000000000:=by omega
      have e6 : ((D.getD (i + j) 0 + a.getD i 0 * b.getD j 0 + c) / 1000000000).toNat = (D.getD (i + j) 0 + a.getD i 0 * b.getD j 0 + c).toNat / 1000000000:=by omega
      rw [e5] at e2
      rw [e6]
      exact U6 hw e2 e4
     have k3 : ∀ k,i + b.length ≤ k → (D.set (i + j) ((D.getD (i + j) 0 + a.getD i 0 * b.getD j 0 + c) % 1000000000)).getD k 0 = 0:=by
      intro k hk
      rw [iG,if_neg (by omega)]
      exact hzD k hk
     have k4:=DK (l:=D) (i:=i + j) (d:=(D.getD (i + j) 0 + a.getD i 0 * b.getD j 0 + c) % 1000000000) (by omega) (by omega) Iz
     have t1 : (D.getD (i + j) 0 + a.getD i 0 * b.getD j 0 + c).tmod 1000000000 = (D.getD (i + j) 0 + a.getD i 0 * b.getD j 0 + c) % 1000000000:=Iu (by omega)
     have t2 : (D.getD (i + j) 0 + a.getD i 0 * b.getD j 0 + c).tdiv 1000000000 = (D.getD (i + j) 0 + a.getD i 0 * b.getD j 0 + c) / 1000000000:=Iw (by omega)
     have t3 : ((i : Int) + (j : Int)).toNat = i + j:=by omega
     clear hv hz hPb Iz eA hw hzD hba hbb
     refine ev5 @c2 @hD @t1 @t2 @t3 ?_
     refine ⟨(j + 1,(D.getD (i + j) 0 + a.getD i 0 * b.getD j 0 + c) / 1000000000,D.set (i + j) ((D.getD (i + j) 0 + a.getD i 0 * b.getD j 0 + c) % 1000000000)),by dsimp only;omega,⟨by dsimp only;omega,by simp [hD],k4,⟨by dsimp only;omega,by dsimp only;omega⟩,k2,k3⟩,by (refine aJ ?_;exact Et)⟩
    ·have hj2 : j = b.length:=by omega
     subst hj2
     rw [List.take_length] at hw
     have e2:=MO (l:=D) (i:=i + b.length) (d:=c) (by omega)
     rw [hzD (i + b.length) (Nat.le_refl _),Nat.pow_add] at e2
     have k1 : val (D.set (i + b.length) c) = val (a.take (i + 1)) * n:=by
      rw [eA,Nat.add_mul,← hv,← hvb]
      have : 1000000000 ^ i * (a.getD i 0).toNat * val b = (a.getD i 0).toNat * (1000000000 ^ i * val b):=by rw [Nat.mul_comm (1000000000 ^ i),Nat.mul_assoc]
      rw [this]
      have : c.toNat * (1000000000 ^ i * 1000000000 ^ b.length) = 1000000000 ^ i * 1000000000 ^ b.length * c.toNat:=Nat.mul_comm _ _
      simp only [Int.toNat_zero,Nat.mul_zero,Nat.add_zero] at e2
      omega
     have k2 : ∀ k,(i + 1) + b.length ≤ k → (D.set (i + b.length) c).getD k 0 = 0:=by
      intro k hk
      rw [iG,if_neg (by omega)]
      exact hzD k (by omega)
     have k3:=DK (l:=D) (i:=i + b.length) hc.1 hc.2 Iz
     have t3 : ((i : Int) + (b.length : Int)).toNat = i + b.length:=by omega
     clear hv hz hPb Iz eA hw hzD hba hbb e2
     refine vU @c2 @hD @t3 ?_
     exact ⟨(i + 1,D.set (i + b.length) c),by dsimp only;omega,⟨by dsimp only;omega,by simp [hD],k3,k1,k2⟩,by (refine aJ ?_;exact Et)⟩
  ·have hi2 : i = a.length:=by omega
   subst hi2
   rw [List.take_length,hva] at hv
   refine ev1 @hP ?_
   refine ah (tN h.bY (l:=P) (by omega)) ?_
   refine ev ?_
   rw [qV hPb,hv]
   exact au _
theorem Jo {T : Tb} (h : um T) {a b c : Int} : PF T 35 [iv a,iv b,iv c] (.bool (decide (b ≤ a) && decide (a ≤ c))):=by
 refine aV nR h.hT ?_
 simp only [zG,Lz]
 refine ev ?_
 by_cases h1 : b ≤ a
 ·(refine ev1 @h1 ?_;try with_reducible exact True.intro)
 ·(refine ev1 @h1 ?_;try with_reducible exact True.intro)
theorem N9 {T : Tb} (h : uo T) {l : List Int} (hl : l.length ≤ 9223372036854775807:=by exact gU) : PF T 121 [ints l] (.bool (kT l)):=by
 refine aV nR h.hT ?_
 simp only [zH,Lz]
 refine ev ?_
 refine aS (fun _ _=>false) (α:=Nat) (fun i=>⟨dX [ints l,.any,.any,.any,.any,ints l,iv (l.length : Nat),iv (i : Nat)],[],0,0,[],[]⟩) (fun i=>i ≤ l.length ∧ ∀ j,j < i → 0 ≤ l.getD j 0 ∧ l.getD j 0 < 1000000000) (fun i=>l.length - i) rfl 0 ?_ ?_ ?_
 ·exact ⟨by omega,by intro j hj;omega⟩
 ·(refine aJ ?_;exact Et)
 ·rintro i ⟨hi,hj⟩
  refine ev ?_
  refine aN (fun h2=>?_) fun h2=>?_ <;> (refine ev1 @h2 ?_;try with_reducible exact True.intro)
  ·have bad : ¬ (0 ≤ l.getD i 0 ∧ l.getD i 0 < 1000000000) → kT l = false:=fun hn=>by
    have : ¬ kT l = true:=fun e=>by
     have hc:=(Gl.1 e).2.1
     exact hn (jU hc i)
    simpa using this
   refine ah (Jo h.lV) ?_
   by_cases g : 0 ≤ l.getD i 0 ∧ l.getD i 0 < 1000000000
   ·have g1 : 0 ≤ l.getD i 0:=g.1
    have g2 : l.getD i 0 ≤ 999999999:=by omega
    refine qm @g1 @g2 ?_
    refine ⟨i + 1,by omega,⟨by omega,fun j hj'=>?_⟩,by (refine aJ ?_;exact Et)⟩
    by_cases e : j = i
    ·subst e;omega
    ·exact hj j (by omega)
   ·rw [bad g]
    have g2 : (decide (0 ≤ l.getD i 0) && decide (l.getD i 0 ≤ 999999999)) = false:=by
     simp only [Bool.and_eq_false_iff,decide_eq_false_iff_not];omega
    (refine ev1 @g2 ?_;try with_reducible exact True.intro)
  ·have hi2 : i = l.length:=by omega
   subst hi2
   have hall : l.all (fun d=>decide (0 ≤ d) && decide (d < 1000000000)) = true:=by
    rw [List.all_eq_true]
    intro d hd
    obtain ⟨j,hj1,rfl⟩:=List.mem_iff_getElem.1 hd
    have:=hj j hj1
    rw [List.getD_eq_getElem?_getD,List.getElem?_eq_getElem hj1] at this
    simpa using this
   unfold kT
   rw [hall]
   by_cases q1 : ((l.length : Nat) : Int) ≤ 60
   ·have q1' : decide (l.length ≤ 60) = true:=by simp;omega
    rw [q1']
    by_cases q2 : ((l.length : Nat) : Int) = 0
    ·have q2':=iff_true_intro q2
     refine qm @q1 @q2' ?_
     have : l = []:=List.eq_nil_of_length_eq_zero (by omega)
     subst this;rfl
    ·refine qm @q1 @q2 ?_
     have e1 : ((l.length : Nat) : Int) - 1 = ((l.length - 1 : Nat) : Int):=by omega
     have e2 : ((l.length : Int) - 1).toNat = l.length - 1:=by omega
     have e3 : l.isEmpty = false:=by cases l <;> simp_all
     rw [e3,e2];simp
   ·have q1' : decide (l.length ≤ 60) = false:=by simp;omega
    rw [q1']
    (refine ev1 @q1 ?_;try with_reducible exact True.intro)
theorem Gn {T : Tb} (h : pI T) {n : Int} (hn : 0 ≤ n ∧ n ≤ 9223372036854775807:=by exact gU) : PF T 67 [iv n] (ints (mk n.toNat)):=by
 have hlen : (mk n.toNat).length ≤ 3:=aX.2 (by omega)
 refine aC nR h.hT ?_
 simp only [zF,Lz]
 refine ev ?_
 refine aS (fun _ _=>false) (α:=Nat × List Int) (fun q=>⟨dX [iv (q.1 : Nat),.any,.any,slV q.2.length],WI 1 (aH q.2),0,0,[],[]⟩) (fun q=>q.2 ++ mk q.1 = mk n.toNat ∧ q.1 ≤ n.toNat) (fun q=>q.1) rfl (n.toNat,[]) ?_ ?_ ?_
 ·exact ⟨rfl,Nat.le_refl _⟩
 ·exact Iy
 ·rintro ⟨m,xs⟩ ⟨hm,hle⟩
  dsimp only at hm hle
  have hx : xs.length ≤ 3:=by
   have:=congrArg List.length hm
   simp at this;omega
  have e1 : ((m : Int).tmod 1000000000) = ((m % 1000000000 : Nat) : Int):=by rw [Iu (by omega)];omega
  have e2 : ((m : Int).tdiv 1000000000) = ((m / 1000000000 : Nat) : Int):=by rw [Iw (by omega)];omega
  have key : 0 < m → (xs ++ [((m % 1000000000 : Nat) : Int)]) ++ mk (m / 1000000000) = mk n.toNat:=fun h=>by
   rw [← hm,mk_pos (n:=m) (by omega)];simp
  (rcases xs with _ | ⟨x,xs⟩ <;> simp only [List.length_nil,List.length_cons,kX,ku,fF,dL] at hx ⊢)
  ·refine ev ?_
   refine aN (fun hb=>?_) fun hb=>?_ <;> (refine vU @hb @e1 @e2 ?_;try with_reducible exact True.intro)
   ·exact ⟨by omega,(m / 1000000000,[] ++ [((m % 1000000000 : Nat) : Int)]),by dsimp only;omega,⟨key (by omega),by dsimp only;omega⟩,by exact Dj⟩
   ·have e : mk n.toNat = []:=by rw [← hm,show m = 0 by omega,mk_zero];rfl
    rw [e];exact (fP 1 ▸ trivial)
  ·refine ev ?_
   refine aN (fun hb=>?_) fun hb=>?_ <;> (refine vU @hb @e1 @e2 ?_;try with_reducible exact True.intro)
   ·refine ⟨by omega,(m / 1000000000,(x :: xs) ++ [((m % 1000000000 : Nat) : Int)]),by dsimp only;omega,⟨key (by omega),by dsimp only;omega⟩,by exact Dk⟩
   ·have e : x :: xs = mk n.toNat:=by rw [← hm,show m = 0 by omega,mk_zero];simp
    rw [← e];exact au _
def jd : Fn:=⟨2,44,[.tmp 4],(sr [oN 4 (.iw (cI 0))] (sr [oW 8 1,oN 9 (ln 8),oW 5 9] (sr [oW 10 0,oW 11 5,oN 12 (bc .sub 11 1),oN 13 (ix 1 10 12),oN 14 (lF 1 13),oW 6 14] (.seq (sr [oW 15 0,oN 16 (ln 15),oW 17 5,oN 18 (bt .gtr 16 17)] (cd 18 (rg [oW 19 6,oW 20 0,oW 21 5,oN 22 (ix 1 20 21),oN 23 (lF 1 22),oN 24 (bc .mul 23 1000000000),oN 25 (bt .add 19 24),oW 6 25]) .skip)) (.seq (sr [oW 26 5,oN 27 (bc .eql 26 1)] (cd 27 (sr [oW 28 6,oW 29 1,oN 30 (.idx 1 (.t 29) (cI 0)),oN 31 (lF 1 30),oN 32 (bt .quo 28 31),oW 4 32] .ret) .skip)) (sr [oW 33 6,oW 34 1,oW 35 5,oN 36 (bc .sub 35 1),oN 37 (ix 1 34 36),oN 38 (lF 1 37),oN 39 (bc .add 38 1),oN 40 (bt .quo 33 39),oW 7 40] (.seq (sr [oW 41 7,oN 42 (bc .eql 41 0)] (cd 42 (sr [oN 4 (.iw (cI 1))] .ret) .skip)) (sr [oW 43 7,oW 4 43] .ret))))))))⟩
structure yY (T : Tb) : Prop where
 hT : T 153 = some jd
def qB : Fn:=⟨2,76,[.tmp 4,.tmp 5],(sr [oN 4 mN,oN 5 mN] (.seq (sr [oW 12 0,oN 13 (ln 12),oN 14 (bc .leq 13 2),oW 15 14,oG 15 true 16 (oV 1),oG 15 true 17 (ln 16),oG 15 true 18 (bc .leq 17 2),oN 19 (.pick (.t 15) (.t 18) (.c (.bool false)))] (cd 19 (sr [oW 20 0,oN 21 (cl 137 [20]),oW 22 1,oN 23 (cl 137 [22]),oW 6 21,oW 7 23] (.seq (rt 0 [oW 24 6,oW 25 7,oA 26 0 (bt .quo 24 25) [0,1],oA 27 0 (.conv .u64 (.t 26)) [2],oA 28 0 (cl 69 [27]) [3],oW 29 6,oW 30 7,oA 31 0 (bt .rem 29 30) [5,6],oA 32 0 (.conv .u64 (.t 31)) [7],oA 33 0 (cl 69 [32]) [8,4],oA 4 0 (oV 28) [4,9,0,1,2,3,4],oA 5 0 (oV 33) [9,10,0,1,2,3,4,5,6,7,8,9,10]]) .ret)) .skip)) (.seq (rf 1 [oK 34 1 (oV 0),oK 35 1 (ln 34),oN 36 (.make Eo 8 (.t 35)),oK 8 1 (oV 36)]) (.seq (rf 1 [oN 37 (.fE 1 Eo 0 []),oK 9 1 (oV 37)]) (.seq (sr [oW 38 0,oN 39 (ln 38),oN 40 (bc .sub 39 1),oW 10 40] (.block 0 (.loop (.seq (sr [oW 41 10,oN 42 (bc .geq 41 0)] (cd 42 .skip (.exit 0))) (.seq (.block 1 (.seq (rf 2 [oK 45 2 (oV 0),oK 46 2 (oV 10),oK 47 2 (ix 1 45 46),oK 48 2 (lF 1 47),oN 49 (.fE 1 Eo 1 [(0,(.t 48))]),oK 50 2 (oV 9),oK 51 1 (.app 1 8 (.t 49) (.t 50)),oK 52 2 (cl 151 [51]),oK 9 2 (oV 52)]) (.block 2 (.loop (.seq (sr [oW 53 9,oW 54 1,oN 55 (cl 152 [53,54]),oN 56 (bc .geq 55 0)] (cd 56 .skip (.exit 2))) (.block 3 (sr [oW 57 9,oW 58 1,oN 59 (cl 153 [57,58]),oW 11 59] (.seq (rf 1 [oK 60 1 (oV 9),oK 61 1 (oV 1),oK 62 1 (oV 11),oN 63 (.fE 1 Eo 1 [(0,(.t 62))]),oK 64 1 (cl 155 [61,63]),oK 65 1 (cl 154 [60,64]),oK 9 1 (oV 65)]) (rg [oW 66 8,oW 67 10,oN 68 (ix 1 66 67),oN 69 (lF 1 68),oW 70 11,oN 71 (bt .add 69 70),oN 72 (ix 1 66 67),oS (.store 1 (.t 72) (.t 71))]))))))))) (rg [oW 43 10,oN 44 (bc .sub 43 1),oW 10 44])))))) (sr [oW 73 8,oN 74 (cl 151 [73]),oW 75 9,oW 4 74,oW 5 75] .ret))))))⟩
structure qC (T : Tb) : Prop where
 hT : T 138 = some qB
 bP : jB T
 je : qZ T
 iR : kZ T
 xG : wW T
 Eu : yY T
 qE : wZ T
 xH : xk T
theorem Oa {T : Tb} (h : yY T) {r b : Nat} (hb : 0 < b) (hle : b ≤ r) (hlt : r < b * 1000000000) (lr : (mk r).length ≤ 1000:=by exact gU) (lb : (mk b).length ≤ 1000:=by exact gU) :
  ∃ d : Nat,PF T 153 [ints (mk r),ints (mk b)] (iv (d : Nat)) ∧ 0 < d ∧ d < 1000000000 ∧ d * b ≤ r:=by
 obtain ⟨h1,h2,h3,h4,h5⟩:=ac2 hb hle hlt
 obtain ⟨A,hA⟩ : ∃ A,mk r = A:=⟨_,rfl⟩
 obtain ⟨B,hB⟩ : ∃ B,mk b = B:=⟨_,rfl⟩
 have Y3 : Lb A:=hA ▸ jT r
 have hbB : Lb B:=hB ▸ jT b
 rw [hA] at h1 h2 h4 h5 lr ⊢
 rw [hB] at h1 h2 h3 h4 h5 lb ⊢
 obtain ⟨k,hk⟩ : ∃ k,B.length = k + 1:=⟨B.length - 1,by omega⟩
 have g1:=jU Y3 k
 have g2:=jU Y3 (k + 1)
 have g3:=jU hbB k
 have g4:=jU hbB 0
 have eT : (val (A.drop k) : Int) = A.getD k 0 + (if k + 1 < A.length then A.getD (k + 1) 0 * 1000000000 else 0):=by
  rw [fQ A k]
  split
  ·rw [fQ A (k + 1),bK (l:=A) (i:=k + 1 + 1) (by omega)];omega
  ·rw [bK (l:=A) (i:=k + 1) (by omega)];omega
 have e1 : ((B.length : Nat) : Int) - 1 = (k : Nat):=by omega
 have ebk : B.length - 1 = k:=by omega
 rw [ebk] at h5
 by_cases hk0 : k = 0
 ·subst hk0
  obtain ⟨d1,d2,d3,d4⟩:=h4 (by omega)
  refine ⟨_,?_,d1,d2,d3⟩
  have c0 : ((B.length : Nat) : Int) = 1:=by omega
  have e2 : ((val (A.drop 0) / (B.getD 0 0).toNat : Nat) : Int) = (val (A.drop 0) : Int).tdiv (B.getD 0 0):=by
   rw [Int.tdiv_eq_ediv_of_nonneg (by omega)]
   have : ((B.getD 0 0).toNat : Int) = B.getD 0 0:=by omega
   rw [← this];simp
  have d5 : 0 ≤ (val (A.drop 0) : Int).tdiv (B.getD 0 0) ∧ (val (A.drop 0) : Int).tdiv (B.getD 0 0) < 1000000000:=by rw [← e2];omega
  rw [eT] at e2 d5
  rw [e2]
  clear h4 h5 eT Y3 hbB e2 d1 d2 d3 hlt hle hb hA hB h2
  have c0':=iff_true_intro c0
  have nb : ¬ B.getD 0 0 = 0:=by omega
  clear d4
  have e3 : ((0 : Nat) : Int).toNat = 0:=rfl
  have e4 : (((0 : Nat) : Int) + 1).toNat = 0 + 1:=rfl
  by_cases c1 : (1 : Int) < (A.length : Nat)
  ·have c2 : 0 + 1 < A.length:=by omega
   have c3:=iff_true_intro (show ((B.length : Nat) : Int) < (A.length : Nat) by omega)
   rw [if_pos c2] at d5 ⊢
   refine aV nR h.hT ?_
   simp only [jd,Lz]
   refine ev ?_
   refine ev5 @c0' @c3 @e1 @e3 @nb ?_
   rw [hk,w64 (n:=A.getD (0 + 1) 0 * 1000000000) (by omega),w64 (n:=A.getD 0 0 + _) (by omega),w64 (by omega)]
  ·have c2 : ¬ 0 + 1 < A.length:=by omega
   have c3 : ¬ ((B.length : Nat) : Int) < (A.length : Nat):=by omega
   rw [if_neg c2] at d5 ⊢
   refine aV nR h.hT ?_
   simp only [jd,Lz]
   refine ev ?_
   refine ev5 @c0' @c3 @e1 @e3 @nb ?_
   simp only [Int.add_zero] at d5 ⊢
 ·have c0 : ¬ ((B.length : Nat) : Int) = 1:=by omega
  have e4 : (((k : Nat) : Int) + 1).toNat = k + 1:=by omega
  obtain ⟨d2,d3⟩:=h5
  have e2 : ((val (A.drop k) / ((B.getD k 0).toNat + 1) : Nat) : Int) = (val (A.drop k) : Int).tdiv (B.getD k 0 + 1):=by
   rw [Int.tdiv_eq_ediv_of_nonneg (by omega)]
   have : (((B.getD k 0).toNat + 1 : Nat) : Int) = B.getD k 0 + 1:=by omega
   rw [← this,Int.natCast_ediv]
  have d5 : 0 ≤ (val (A.drop k) : Int).tdiv (B.getD k 0 + 1) ∧ (val (A.drop k) : Int).tdiv (B.getD k 0 + 1) < 1000000000:=⟨by rw [← e2];exact Int.natCast_nonneg _,by rw [← e2];exact Int.ofNat_lt.mpr d2⟩
  generalize hd : val (A.drop k) / ((B.getD k 0).toNat + 1) = d at d2 d3 e2
  rw [eT] at e2 d5
  have fin : ∀ t : Int,t = (if k + 1 < A.length then A.getD (k + 1) 0 * 1000000000 else 0) → ∃ d : Nat,(if (A.getD k 0 + t).tdiv (B.getD k 0 + 1) = 0 then iv 1 else iv ((A.getD k 0 + t).tdiv (B.getD k 0 + 1))) = iv (d : Nat) ∧ 0 < d ∧ d < 1000000000 ∧ d * b ≤ r:=by
   intro t ht
   rw [← ht] at e2
   rw [← e2]
   by_cases z : d = 0
   ·exact ⟨1,by simp [z],by omega,by omega,by omega⟩
   ·exact ⟨d,by rw [if_neg (by omega)],by omega,d2,d3⟩
  clear h4 eT Y3 hbB e2 d2 d3 hlt hle hb hA hB hd h2
  by_cases c1 : ((k : Nat) : Int) + 1 < (A.length : Nat)
  ·have c2 : k + 1 < A.length:=by omega
   have c3 : ((B.length : Nat) : Int) < (A.length : Nat):=by omega
   rw [if_pos c2] at d5 fin
   obtain ⟨u,f1,f2⟩:=fin _ rfl
   refine ⟨u,?_,f2⟩
   clear f2 fin
   rw [← f1]
   have nb : ¬ B.getD k 0 + 1 = 0:=by omega
   refine aV nR h.hT ?_
   simp only [jd,Lz]
   refine ev ?_
   refine ev5 @c0 @c3 @e1 @e4 @nb ?_
   rw [hk,w64 (n:=A.getD (k + 1) 0 * 1000000000) (by omega),w64 (n:=A.getD k 0 + _) (by omega),w64 (by omega)]
   refine aN (fun z=>?_) fun z=>?_ <;> (refine ev1 @z ?_;try with_reducible exact True.intro)
  ·have c2 : ¬ k + 1 < A.length:=by omega
   have c3 : ¬ ((B.length : Nat) : Int) < (A.length : Nat):=by omega
   rw [if_neg c2] at d5 fin
   obtain ⟨u,f1,f2⟩:=fin _ rfl
   refine ⟨u,?_,f2⟩
   clear f2 fin
   rw [← f1]
   have nb : ¬ B.getD k 0 + 1 = 0:=by omega
   refine aV nR h.hT ?_
   simp only [jd,Lz]
   refine ev ?_
   refine ev5 @c0 @c3 @e1 @e4 @nb ?_
   simp only [Int.add_zero] at d5 ⊢
   refine aN (fun z=>?_) fun z=>?_ <;> (refine ev1 @z ?_;try with_reducible exact True.intro)
theorem aaK {a b : St} (h : Fg a b:=by
 (refine NS [(0,_)] (by simp) (by intro p hp;simp only [List.mem_cons,List.not_mem_nil,or_false] at hp;rcases hp with rfl <;> refine ⟨rfl,?_⟩ <;> first | exact l9 _ | simp [dJ,V.still]) rfl ?_) <;> (try (refine ev ?_;try with_reducible exact True.intro)) <;> (repeat' (first | exact True.intro | omega | exact yL rfl (by simp) | refine ⟨?_,?_⟩ | exact of_eq_true (Am _ _ _) | exact jo rfl (by simp;done) | exact jo rfl rfl | (refine jZ rfl ?_ rfl;simp [aH];done) | (refine jZ rfl ?_ rfl;simp [aH];omega) | (refine CZ ?_ ?_;(focus ((refine ev ?_;try with_reducible exact True.intro);done));(intro q hq k s0 l0;simp;done))))) : Fg a b:=h
theorem Ob {T : Tb} (h : qC T) {m n : Nat} (hn : 0 < n) (la : (mk m).length ≤ 900:=by exact gU) (lb : (mk n).length ≤ 900:=by exact gU) :
  PF T 138 [ints (mk m),ints (mk n)] (.gq [ints (mk (m / n)),ints (mk (m % n))]):=by
 obtain ⟨A,hA⟩ : ∃ A,mk m = A:=⟨_,rfl⟩
 obtain ⟨B,hB⟩ : ∃ B,mk n = B:=⟨_,rfl⟩
 have hva : val A = m:=by rw [← hA,val_mk]
 have Y3 : Lb A:=hA ▸ jT m
 have hbB : Lb B:=hB ▸ jT n
 rw [hA] at la ⊢
 rw [hB] at lb ⊢
 refine aC nR h.hT ?_
 simp only [qB,Lz]
 refine ev ?_
 have cas : (((A.length : Nat) : Int) ≤ 2 ∧ ((B.length : Nat) : Int) ≤ 2) ∨ ((((A.length : Nat) : Int) ≤ 2 ∧ ¬ ((B.length : Nat) : Int) ≤ 2) ∨ ¬ ((A.length : Nat) : Int) ≤ 2):=by omega
 rcases cas with ⟨c1,c2⟩ | big
 ·have sm : m < 1000000000000000000:=by
   have:=nU Y3
   rw [hva] at this
   exact Nat.lt_of_lt_of_le this (Nat.le_trans (Nat.pow_le_pow_right (by omega) (show A.length ≤ 2 by omega)) (by omega))
  have sn : n < 1000000000000000000:=by
   have:=nU hbB
   rw [← hB,val_mk] at this
   exact Nat.lt_of_lt_of_le this (Nat.le_trans (Nat.pow_le_pow_right (by omega) (show (mk n).length ≤ 2 by rw [hB];omega)) (by omega))
  have cs:=wH h.je sm
  have ct:=wH h.je sn
  rw [hA] at cs
  rw [hB] at ct
  have e1 : ((m : Nat) : Int).tdiv (n : Nat) = ((m / n : Nat) : Int):=by rw [Int.tdiv_eq_ediv_of_nonneg (by omega),Int.natCast_ediv]
  have e2 : ((m : Nat) : Int).tmod (n : Nat) = ((m % n : Nat) : Int):=by rw [Int.tmod_eq_emod_of_nonneg (by omega),Int.natCast_emod]
  have d1 : m / n ≤ m:=Nat.div_le_self ..
  have d2 : m % n ≤ m:=Nat.mod_le ..
  have nz : ¬ ((n : Nat) : Int) = 0:=by omega
  generalize m / n = q at *
  generalize m % n = r at *
  have c3:=oI h.bP (n:=((q : Nat) : Int)) (by omega)
  have c4:=oI h.bP (n:=((r : Nat) : Int)) (by omega)
  rw [Int.toNat_natCast] at c3 c4
  refine qm @c1 @c2 ?_
  refine ah cs ?_
  refine ev ?_
  refine ah ct ?_
  refine vU @nz @e1 @e2 ?_
  refine ah c3 ?_
  refine vU @nz @e1 @e2 ?_
  refine ah c4 ?_
  refine ev ?_
  exact au _
 rcases big with ⟨c1,c2⟩ | c1
 case' inl=>(refine qm @c1 @c2 ?_;try with_reducible exact True.intro)
 case' inr=>(refine ev1 @c1 ?_;try with_reducible exact True.intro)
 all_goals
  refine ⟨by omega,?_⟩
  rw [Ii]
  refine aS (fun _ _=>false) (α:=Nat × List Int × Nat) (fun q=>⟨dX [ints A,ints B,.any,.any,.any,.any,.any,.any,.bF 0 0 A.length,ints (mk q.2.2),iv ((q.1 : Nat) - 1)],[some ⟨1,aH q.2.1⟩],0,0,[],[]⟩) (fun q=>q.1 ≤ A.length ∧ q.2.1.length = A.length ∧ Lb q.2.1 ∧ (∀ j,j < q.1 → q.2.1.getD j 0 = 0) ∧ q.2.2 < n ∧ val (A.drop q.1) = val (q.2.1.drop q.1) * n + q.2.2) (fun q=>q.1) rfl (A.length,List.replicate A.length 0,0) ?_ ?_ ?_
  ·exact ⟨by omega,by simp,Il _,by intro j _;simp [List.getD_eq_getElem?_getD,List.getElem?_replicate];split <;> rfl,hn,by dsimp only;rw [bK (Nat.le_refl _),bK (by simp)];simp⟩
  ·rw [mk_zero]
   exact aaK
  ·rintro ⟨k,Q,x⟩ ⟨hk,hQ,hQb,hz,hx,hv⟩
   dsimp only at hk hQ hQb hz hx hv
   by_cases k0 : k = 0
   ·subst k0
    rw [List.drop_zero,List.drop_zero,hva] at hv
    obtain ⟨q1,q2⟩:=DR hv hx
    have e0 : ¬ (0 : Int) ≤ ((0 : Nat) : Int) - 1:=by omega
    refine ev1 @e0 ?_
    refine ah (Di h.iR (l:=Q) (by omega)) ?_
    refine ev ?_
    rw [qV hQb,← q1,← q2]
    exact au _
   ·obtain ⟨i,rfl⟩ : ∃ i,k = i + 1:=⟨k - 1,by omega⟩
    have e0 : (((i + 1 : Nat) : Int) - 1) = (i : Nat):=by omega
    have e1 : ((i : Nat) : Int) < (A.length : Nat):=by omega
    have e2 : (0 : Int) ≤ (i : Nat):=by omega
    rw [e0]
    have ga:=jU Y3 i
    have hvi:=fQ A i
    obtain ⟨t,ht⟩ : ∃ t,(A.getD i 0).toNat + 1000000000 * x = t:=⟨_,rfl⟩
    have htn : t < n * 1000000000:=by omega
    have lt' : (A.getD i 0 :: mk x).length ≤ 1048576:=by
     have : (mk x).length ≤ B.length:=by rw [aX];exact Nat.lt_trans hx (by have:=nU hbB;rw [← hB,val_mk,hB] at this;exact this)
     simp only [List.length_cons];omega
    have tr : trim (A.getD i 0 :: mk x) = mk t:=by
     rw [qV (by intro y hy;rcases List.mem_cons.1 hy with rfl | hy;exact ga;exact jT x y hy),← ht,val,val_mk]
    have ct:=Di h.iR (l:=A.getD i 0 :: mk x) lt'
    rw [tr] at ct
    have Y4 : ∀ y,y ≤ t → (mk y).length ≤ 901:=by
     intro y hy
     have : (mk y).length ≤ B.length + 1:=by
      rw [aX,Nat.pow_succ]
      have:=nU hbB
      rw [← hB,val_mk,hB] at this
      exact Nat.lt_of_lt_of_le (Nat.lt_of_le_of_lt hy htn) (Nat.mul_le_mul_right _ (Nat.le_of_lt this))
     omega
    have lx:=Y4
    refine qm @e2 @e1 ?_
    refine ⟨fun e3=>?_,fun e3=>?_⟩
    case' refine_1 =>
     have x0 : mk x = []:=by cases hm : mk x with | nil=>rfl | cons a l=>rw [hm] at e3;cases e3
     rw [x0] at ct
     rw [show [[V.int IntKind.i64 (A.getD i 0)]] = aH [A.getD i 0] from rfl]
     (refine ev ?_;try with_reducible exact True.intro)
    case' refine_2 =>
     refine ev1 @e3 ?_
     rw [show [V.int IntKind.i64 (A.getD i 0)] :: aH (mk x) = aH (A.getD i 0 :: mk x) from rfl]
     refine ev ?_
     have lm:=lt'
     simp only [List.length_cons] at lm
     refine ⟨by omega,?_⟩
    all_goals
     clear lt'
     refine ah ct ?_
     refine ev ?_
     refine aS (fun _ _=>false) (α:=List Int × Nat) (fun q=>⟨dX [ints A,ints B,.any,.any,.any,.any,.any,.any,.bF 0 0 A.length,ints (mk q.2),iv (i : Nat)],[some ⟨1,aH q.1⟩],0,0,[],[]⟩) (fun q=>q.1.length = A.length ∧ Lb q.1 ∧ (∀ j,j < i → q.1.getD j 0 = 0) ∧ q.1.drop (i + 1) = Q.drop (i + 1) ∧ q.2 + (q.1.getD i 0).toNat * n = t) (fun q=>q.2) rfl (Q,t) ?_ ?_ ?_
     ·exact ⟨hQ,hQb,fun j hj=>hz j (by omega),rfl,by dsimp only;rw [hz i (by omega)];simp⟩
     ·exact aaK
     ·rintro ⟨P,y⟩ ⟨hP,hPb,hzP,hd,hy⟩
      dsimp only at hP hPb hzP hd hy
      have yt : y ≤ t:=by omega
      have ly:=Y4 y yt
      have cc:=N7 h.xG (kJ y) (kJ n) (by omega) (by rw [hB];omega)
      rw [val_mk,val_mk,hB] at cc
      refine ev ?_
      refine ah cc ?_
      refine ev ?_
      refine aN (fun c3=>?_) fun c3=>?_ <;> (refine ev1 @c3 ?_;try with_reducible exact True.intro)
      ·have hny : n ≤ y:=lQ.1 c3
       obtain ⟨d,pg,d0,d1,d2⟩:=Oa h.Eu hn hny (by omega) (by omega) (by rw [hB];omega)
       rw [hB] at pg
       have pm:=N8 h.xH (m:=n) (n:=d) (by rw [hB];omega) (by rw [mk_one d0 d1];simp)
       have dn : n * d ≤ y:=by rw [Nat.mul_comm];exact d2
       have lnd:=Y4 (n * d) (by omega)
       have ps:=Jk h.qE dn (by omega) (by omega)
       rw [hB,mk_one d0 d1] at pm
       have gp:=jU hPb i
       have y2 : y - n * d + ((P.getD i 0).toNat + d) * n = t:=by rw [Nat.add_mul,Nat.mul_comm d n];omega
       have gp2 : P.getD i 0 + d < 1000000000:=by
        have : ((P.getD i 0).toNat + d) * n < 1000000000 * n:=by rw [Nat.mul_comm 1000000000];omega
        have:=Nat.lt_of_mul_lt_mul_right this
        omega
       have d0' : 0 < n * d:=Nat.mul_pos hn d0
       have k1:=DK (l:=P) (i:=i) (d:=P.getD i 0 + d) (by omega) gp2 hPb
       have k2 : ∀ j,j < i → (P.set i (P.getD i 0 + d)).getD j 0 = 0:=by
        intro j hj
        rw [iG,if_neg (by omega)]
        exact hzP j hj
       have k3 : (P.set i (P.getD i 0 + d)).drop (i + 1) = Q.drop (i + 1):=by rw [List.drop_set_of_lt (by omega),hd]
       have k4 : ((P.set i (P.getD i 0 + d)).getD i 0) = P.getD i 0 + d:=by rw [iG,if_pos ⟨rfl,by omega⟩]
       have k5 : y - n * d + ((P.set i (P.getD i 0 + d)).getD i 0).toNat * n = t:=by
        rw [k4,show (P.getD i 0 + (d : Int)).toNat = (P.getD i 0).toNat + d by omega];exact y2
       have k6 : y - n * d < y:=by omega
       clear y2 hy htn ht hvi k4 hzP hd d2 lx Y4 hv hz hx
       refine ah pg ?_
       refine ev ?_
       rw [show [[V.int IntKind.i64 (d : Int)]] = aH [(d : Int)] from rfl]
       refine ev ?_
       refine ah pm ?_
       refine ev ?_
       refine ah ps ?_
       refine qm @e1 @hP ?_
       exact ⟨(P.set i (P.getD i 0 + d),y - n * d),k6,⟨by simp [hP],k1,k2,k3,k5⟩,by exact aaK⟩
      ·have hny : y < n:=by
        have:=@lQ y n
        omega
       have k1:=fQ P i
       rw [hd] at k1
       have k2 : val (A.drop i) = val (P.drop i) * n + y:=by
        rw [hvi,hv,k1,Nat.add_mul,Nat.mul_add,← Nat.mul_assoc];omega
       exact ⟨(i,P,y),by dsimp only;omega,⟨by dsimp only;omega,hP,hPb,hzP,hny,k2⟩,by (refine aJ ?_;exact Et)⟩
def mG : Fn:=⟨1,6,[.tmp 2],(sr [oN 2 mN] (.seq (rf 2 [oN 3 (.fE 1 Eo 0 []),oK 4 2 (oV 0),oK 5 1 (.app 1 8 (.t 3) (.t 4)),oK 2 2 (oV 5)]) .ret))⟩
structure jY (T : Tb) : Prop where
 hT : T 139 = some mG
def xI : Fn:=⟨2,43,[.tmp 4],(sr [oN 4 mN] (.seq (.block 0 (.loop (.seq (sr [oW 9 1,oN 10 (ln 9),oN 11 (bc .gtr 10 0)] (cd 11 .skip (.exit 0))) (.block 1 (.seq (sr [oW 12 0,oN 13 (ln 12),oN 14 (bc .leq 13 2),oW 15 14,oG 15 true 16 (oV 1),oG 15 true 17 (ln 16),oG 15 true 18 (bc .leq 17 2),oN 19 (.pick (.t 15) (.t 18) (.c (.bool false)))] (cd 19 (sr [oW 20 0,oN 21 (cl 137 [20]),oW 22 1,oN 23 (cl 137 [22]),oW 5 21,oW 6 23] (.seq (.block 2 (.loop (.seq (sr [oW 24 6,oN 25 (bc .gtr 24 0)] (cd 25 .skip (.exit 2))) (.block 3 (rt 0 [oW 26 6,oW 27 5,oW 28 6,oA 29 0 (bt .rem 27 28) [1,2],oA 5 0 (oV 26) [0,0,1],oA 6 0 (oV 29) [3,4,0,1,2,3,4]]))))) (sr [oW 30 5,oN 31 (.conv .u64 (.t 30)),oN 32 (cl 69 [31]),oW 4 32] .ret))) .skip)) (sr [oW 34 0,oW 35 1,oN 36 (cl 138 [34,35]),oW 33 36,oN 37 (ex 0 33),oN 38 (ex 1 33),oW 7 37,oW 8 38] (rg [oW 39 1,oW 40 8,oW 0 39,oW 1 40]))))))) (sr [oW 41 0,oN 42 (cl 139 [41]),oW 4 42] .ret)))⟩
structure xJ (T : Tb) : Prop where
 hT : T 127 = some xI
 bP : jB T
 je : qZ T
 nC : qC T
 jf : jY T
theorem IB {T : Tb} (h : jY T) {l : List Int} (hl : l.length ≤ 1048576:=by exact gU) : PF T 139 [ints l] (ints l):=by
 refine aC nR h.hT ?_
 simp only [mG,Lz]
 refine ev ?_
 refine ⟨fun e=>?_,fun e=>⟨by omega,au _⟩⟩
 show bM (.sl 1 (aH l)) .ak
 rw [e];exact of_eq_true (fP 1)
theorem Oc {T : Tb} (h : xJ T) {m n : Nat} (la : (mk m).length ≤ 900:=by exact gU) (lb : (mk n).length ≤ 900:=by exact gU) :
  PF T 127 [ints (mk m),ints (mk n)] (ints (mk (Nat.gcd m n))):=by
 refine aC nR h.hT ?_
 simp only [xI,Lz]
 refine ev ?_
 refine aS (fun _ _=>false) (α:=Nat × Nat) (fun q=>⟨dX [ints (mk q.1),ints (mk q.2)],[],0,0,[],[]⟩) (fun q=>Nat.gcd q.1 q.2 = Nat.gcd m n ∧ (mk q.1).length ≤ 900 ∧ (mk q.2).length ≤ 900) (fun q=>q.2) rfl (m,n) ?_ ?_ ?_
 ·exact ⟨rfl,la,lb⟩
 ·exact Iy
 ·rintro ⟨x,y⟩ ⟨hg,lx,ly⟩
  dsimp only at hg lx ly
  rw [← hg]
  clear hg la lb
  refine ev ?_
  refine aN (fun c1=>?_) fun c1=>?_ <;> (refine ev1 @c1 ?_;try with_reducible exact True.intro)
  ·have hy : 0 < y:=by
    rcases Nat.eq_zero_or_pos y with rfl | h
    ·rw [mk_zero] at c1;simp at c1
    ·exact h
   have cas : ((((mk x).length : Nat) : Int) ≤ 2 ∧ (((mk y).length : Nat) : Int) ≤ 2) ∨ (((((mk x).length : Nat) : Int) ≤ 2 ∧ ¬ (((mk y).length : Nat) : Int) ≤ 2) ∨ ¬ (((mk x).length : Nat) : Int) ≤ 2):=by omega
   rcases cas with ⟨c2,c3⟩ | big
   ·have sx : x < 1000000000000000000:=by have:=aX (n:=x) (k:=2);omega
    have sy : y < 1000000000000000000:=by have:=aX (n:=y) (k:=2);omega
    refine qm @c2 @c3 ?_
    refine ah (wH h.je sx) ?_
    refine ev ?_
    refine ah (wH h.je sy) ?_
    refine ev ?_
    refine aS (fun _ _=>false) (α:=Nat × Nat) (fun q=>⟨dX [.any,.any,.any,.any,.any,iv (q.1 : Nat),iv (q.2 : Nat)],[],0,0,[],[]⟩) (fun q=>Nat.gcd q.1 q.2 = Nat.gcd x y ∧ q.1 < 1000000000000000000 ∧ q.2 < 1000000000000000000) (fun q=>q.2) rfl (x,y) ?_ ?_ ?_
    ·exact ⟨rfl,sx,sy⟩
    ·exact Iy
    ·rintro ⟨u,v⟩ ⟨hg,su,sv⟩
     dsimp only at hg su sv
     rw [← hg]
     clear hg
     refine ev ?_
     refine aN (fun c4=>?_) fun c4=>?_ <;> (refine ev1 @c4 ?_;try with_reducible exact True.intro)
     ·have v0 : 0 < v:=by omega
      have er : ((u : Nat) : Int).tmod (v : Nat) = ((u % v : Nat) : Int):=by rw [Int.tmod_eq_emod_of_nonneg (by omega),Int.natCast_emod]
      have lr:=Nat.mod_lt u v0
      have eg : Nat.gcd v (u % v) = Nat.gcd u v:=by rw [Nat.gcd_comm u v,Nat.gcd_rec v u,Nat.gcd_comm]
      exact ⟨(v,u % v),lr,⟨eg,sv,by dsimp only;omega⟩,by (refine aJ ?_) <;> (try (refine ev1 @er ?_;try with_reducible exact True.intro)) <;> (repeat' (first | refine ⟨?_,?_⟩ | exact Gh (by omega) | exact Ij (by simp) | exact Gi _))⟩
     ·have v0 : v = 0:=by omega
      have cu:=oI h.bP (n:=((u : Nat) : Int)) (by omega)
      rw [Int.toNat_natCast] at cu
      refine ah cu ?_
      refine ev ?_
      rw [v0,Nat.gcd_zero_right]
      exact au _
   ·have lr:=Nat.mod_lt x hy
    have lr2 : (mk (x % y)).length ≤ 900:=Nat.le_trans (aX.2 (Nat.lt_trans lr (aX.1 (Nat.le_refl _)))) ly
    have eg : Nat.gcd y (x % y) = Nat.gcd x y:=by rw [Nat.gcd_comm x y,Nat.gcd_rec y x,Nat.gcd_comm]
    rcases big with ⟨c2,c3⟩ | c2
    case' inl=>(refine qm @c2 @c3 ?_;try with_reducible exact True.intro)
    case' inr=>(refine ev1 @c2 ?_;try with_reducible exact True.intro)
    all_goals
     refine ah (Ob h.nC hy lx ly) ?_
     refine ev ?_
     exact ⟨(y,x % y),lr,⟨eg,ly,lr2⟩,by (refine aJ ?_;exact Et)⟩
  ·have y0 : y = 0:=by
    rcases Nat.eq_zero_or_pos y with h | h
    ·exact h
    ·have:=acC (n:=y) (by omega);omega
   refine ah (IB h.jf (l:=mk x) (by omega)) ?_
   refine ev ?_
   rw [y0,Nat.gcd_zero_right]
   exact au _
end Go.Ml
end
