/- A small language for the functions of this claim, its soundness, contracts. -/
import Derived.Test.YtbccjdlcbhknoaaGreatPart0
set_option linter.unusedSimpArgs false
set_option linter.unusedVariables false
set_option maxRecDepth 100000
set_option maxHeartbeats 16000000
section
namespace Go.Ml
def oM (n : Nat) (v : V) (k : Nat → Prop) : Prop:=match v with
 | .int _ i=>(0 ≤ i ∧ i < n) ∧ k i.toNat
 | _=>False
def jE (n : Nat) (v : V) (k : Nat → Prop) : Prop:=match v with
 | .int _ i=>(0 ≤ i ∧ i ≤ n) ∧ k i.toNat
 | _=>False
theorem vk {n : Nat} {v : V} {k : Nat → Prop} (h : oM n v k) : ∃ j,Kv n v = some j ∧ k j:=by
 cases v <;> simp only [oM] at h <;> first | exact h.elim | skip
 exact ⟨_,by simp only [Kv];rw [if_pos h.1],h.2⟩
theorem Jh {n : Nat} {v : V} {k : Nat → Prop} (h : jE n v k) : ∃ j,Dp n v = some j ∧ k j:=by
 cases v <;> simp only [jE] at h <;> first | exact h.elim | skip
 exact ⟨_,by simp only [Dp];rw [if_pos h.1],h.2⟩
def dJ {α : Type} (o : Option α) (k : α → Prop) : Prop:=match o with
 | some a=>k a
 | none=>False
theorem bF {α : Type} {o : Option α} {k : α → Prop} (h : dJ o k) : ∃ a,o = some a ∧ k a:=by
 cases o with
 | none=>exact h.elim
 | some a=>exact ⟨a,rfl,h⟩
def pI (op : BinOp) (x y : V) (k : V → Prop) : Prop:=match op,x,y with
 | .add,.int q a,.int q' b=>q = q' ∧ k (.int q (q.wrap (a + b)))
 | .sub,.int q a,.int q' b=>q = q' ∧ k (.int q (q.wrap (a - b)))
 | .mul,.int q a,.int q' b=>q = q' ∧ k (.int q (q.wrap (a * b)))
 | .quo,.int q a,.int q' b=>(q = q' ∧ b ≠ 0) ∧ k (.int q (q.wrap (a.tdiv b)))
 | .rem,.int q a,.int q' b=>(q = q' ∧ b ≠ 0) ∧ k (.int q (a.tmod b))
 | .eql,.int q a,.int q' b=>q = q' ∧ k (.bool (a == b))
 | .neq,.int q a,.int q' b=>q = q' ∧ k (.bool (a != b))
 | .lss,.int q a,.int q' b=>q = q' ∧ k (.bool (decide (a < b)))
 | .leq,.int q a,.int q' b=>q = q' ∧ k (.bool (decide (a ≤ b)))
 | .gtr,.int q a,.int q' b=>q = q' ∧ k (.bool (decide (b < a)))
 | .geq,.int q a,.int q' b=>q = q' ∧ k (.bool (decide (b ≤ a)))
 | .eql,.str a,.str b=>k (.bool (a == b))
 | .neq,.str a,.str b=>k (.bool (!(a == b)))
 | .add,.str a,.str b=>a.length + b.length < 2 ^ 62 ∧ k (.str (a ++ b))
 | .shr,.int q a,.int _ b=>0 ≤ b ∧ k (.int q (a.fdiv (2 ^ (min b.toNat q.bits))))
 | .and,.int q a,.int q' b=>q = q' ∧ k (.int q (OA q a b))
 | .xor,.int q a,.int q' b=>q = q' ∧ k (.int q (OB q a b))
 | _,_,_=>False
theorem abf {op : BinOp} {x y : V} {k : V → Prop} (h : pI op x y k) : ∃ v,SA op x y = some v ∧ k v:=by
 unfold pI at h
 split at h <;> first | exact h.elim | skip
 all_goals first
  | exact ⟨_,by simp only [SA];rw [if_pos h.1],h.2⟩
  | exact ⟨_,by simp only [SA],h⟩
def I.dQ (env : Nat → V) (σ : Store) (i : I) (k : Eff → Prop) : Prop:=match i with
 | .bZ x=>k (.val (x.ev env))
 |
  .pick c a b=>match c.ev env with
  | .bool t=>k (.val (if t then a.ev env else b.ev env))
  | _=>False
 | .alloc zero=>k (.newP ⟨zero.length,[zero]⟩)
 |
  .box x=>match (x.ev env).cells? with
  | some (c :: cs)=>k (.newP ⟨(c :: cs).length,[c :: cs]⟩)
  | _=>False
 | .build zero parts=>dJ (tK env zero parts) fun cs=>k (.val (.agg cs))
 | .eG sz zero ln parts=>dJ (jU env sz (List.replicate ln zero) parts) fun rows=>if ln = 0 then k (.val .ak) else k (.newS ⟨sz,rows⟩ ln)
 |
  .make zero bytes x=>match x.ev env with
  | .int .i64 n=>(0 ≤ n ∧ n ≤ 2 ^ 47 ∧ n * bytes ≤ 2 ^ 47) ∧ k (.newS ⟨zero.length,List.replicate n.toNat zero⟩ n.toNat)
  | _=>False
 | .load n isAgg a=>dJ (rowAt σ (a.ev env)) fun p =>
   if isAgg then (p.2 + n ≤ p.1.length ∧ k (.val (.agg ((p.1.drop p.2).take n)))) else dJ p.1[p.2]? fun v=>k (.val v)
 |
  .store n a x=>match a.ev env with
  | .ptr o r off=>dJ (x.ev env).cells? fun cs=>dJ (aj σ o) fun ob=>dJ ob.rows[r]? fun row =>
    (cs.length = n ∧ off + n ≤ row.length) ∧ k (.upd o ⟨ob.sz,ob.rows.set r (splice row off cs)⟩)
  | _=>False
 |
  .fld d a=>match a.ev env with
  | .ptr o r off=>dJ (aj σ o) fun _=>k (.val (.ptr o r (off + d)))
  | .fB row off=>k (.val (.fB row (off + d)))
  | _=>False
 |
  .idx sz x i=>match x.ev env with
  | .bC o s l=>dJ (aj σ o) fun ob=>oM l (i.ev env) fun j=>ob.sz = sz ∧ k (.val (.ptr o (s + j) 0))
  | .sl sz' rows=>oM rows.length (i.ev env) fun j=>sz' = sz ∧ k (.val (.fB (rows.getD j []) 0))
  | _=>False
 |
  .Ue cnt sz x i=>match x.ev env with
  | .ptr o r off=>oM cnt (i.ev env) fun j=>dJ (aj σ o) fun _=>k (.val (.ptr o r (off + j * sz)))
  | .fB row off=>oM cnt (i.ev env) fun j=>k (.val (.fB row (off + j * sz)))
  | _=>False
 |
  .VL x i=>match x.ev env with
  | .str s=>oM s.length (i.ev env) fun j=>k (.val (.int .u8 (s.getD j 0).toNat))
  | _=>False
 | .len x=>dJ (lenOf σ (x.ev env)) fun n=>k (.val (.int .i64 n))
 |
  .VN x=>match x.ev env with
  | .str s=>k (.val (.int .i64 s.length))
  | _=>False
 | .bin op x y=>pI op (x.ev env) (y.ev env) fun v=>k (.val v)
 |
  .beq ne x y=>match x.ev env,y.ev env with
  | .bool a,.bool b=>k (.val (.bool (if ne then !(a == b) else a == b)))
  | _,_=>False
 |
  .un op x=>match op,x.ev env with
  | .neg,.int q n=>k (.val (.int q (q.wrap (0 - n))))
  | .not,.bool b=>k (.val (.bool (!b)))
  | _,_=>False
 |
  .conv q x=>match x.ev env with
  | .int _ n=>k (.val (.int q (q.wrap n)))
  | _=>False
 | .app sz bytes x y=>dJ (rowsOf σ (x.ev env)) fun old=>dJ (rowsOf σ (y.ev env)) fun new =>
   (new.2 = [] → k (.val (x.ev env))) ∧ (new.2 ≠ [] → (new.1 = sz ∧ (old.2.length + new.2.length) * bytes ≤ 2 ^ 40 ∧ old.2.length + new.2.length ≤ 2 ^ 40) ∧
    match x.ev env with
    | .ak=>k (.newS ⟨sz,new.2⟩ new.2.length)
    | .bC o _ _=>dJ (aj σ o) fun ob=>ob.sz = sz ∧ k (.bZ o ⟨sz,old.2 ++ new.2⟩ (old.2.length + new.2.length))
    | _=>False)
 |
  .max x y=>match x.ev env,y.ev env with
  | .int q a,.int q' b=>q = q' ∧ k (.val (.int q (if b > a then b else a)))
  | _,_=>False
 |
  .Rt i x=>match x.ev env with
  | .eF vs=>dJ vs[i]? fun v=>k (.val v)
  | _=>False
 |
  .chk x=>match x.ev env with
  | .ptr o r off=>dJ (aj σ o) fun _=>k (.val (.ptr o r off))
  | .fB row off=>k (.val (.fB row off))
  | _=>False
 |
  .Jr x lo hi=>match x.ev env with
  | .str s=>(match hi with | some h=>jE s.length (h.ev env) | none=>fun k=>k s.length) fun h =>
    (match lo with | some l=>jE h (l.ev env) | none=>fun k=>k 0) fun l=>k (.val (.str ((s.take h).drop l)))
  | _=>False
 | .slice sz x lo hi=>dJ (lenOf σ (x.ev env)) fun n=>(match hi with | some h=>jE n (h.ev env) | none=>fun k=>k n) fun h =>
   (match lo with | some l=>jE h (l.ev env) | none=>fun k=>k 0) fun l=>match x.ev env with
    | .ak=>k (.val .ak)
    | .sl sz' rows=>sz' = sz ∧ k (.val (.sl sz' ((rows.take h).drop l)))
    | .bC o s _=>dJ (aj σ o) fun ob=>ob.sz = sz ∧ k (.val (.bC o (s + l) (h - l)))
    | _=>False
 |
  .VO cnt x i=>match x.ev env with
  | .agg cs=>oM cnt (i.ev env) fun j=>dJ cs[j]? fun v=>k (.val v)
  | _=>False
 | i=>dJ (i.eff env σ) k
theorem Wh {env : Nat → V} {n : Nat} {hi : Option Src} {k : Nat → Prop} (h : (match hi with | some h=>jE n (h.ev env) | none=>fun k=>k n) k) : ∃ j,hiB env n hi = some j ∧ k j:=by
 cases hi with
 | none=>exact ⟨n,rfl,h⟩
 | some x=>exact Jh h
theorem Wi {env : Nat → V} {n : Nat} {lo : Option Src} {k : Nat → Prop} (h : (match lo with | some h=>jE n (h.ev env) | none=>fun k=>k 0) k) : ∃ j,loB env n lo = some j ∧ k j:=by
 cases lo with
 | none=>exact ⟨0,rfl,h⟩
 | some x=>exact Jh h
theorem MI {env : Nat → V} {σ : Store} {i : I} {k : Eff → Prop} (h : i.dQ env σ k) : ∃ ef,i.eff env σ = some ef ∧ k ef:=by
 cases i with
 | bZ x=>exact ⟨_,rfl,h⟩
 |
  pick c a b =>
  simp only [I.dQ] at h
  split at h <;> first | exact h.elim | skip
  rename_i t e
  exact ⟨_,by simp only [I.eff,e],h⟩
 | alloc z=>exact ⟨_,rfl,h⟩
 |
  box x =>
  simp only [I.dQ] at h
  split at h <;> first | exact h.elim | skip
  rename_i c cs e
  exact ⟨_,by simp only [I.eff,e],h⟩
 |
  build z ps =>
  obtain ⟨cs,e,h⟩:=bF h
  exact ⟨_,by simp only [I.eff,e],h⟩
 |
  eG sz z ln ps =>
  obtain ⟨rows,e,h⟩:=bF h
  split at h
  ·rename_i h0;exact ⟨_,by simp only [I.eff,e];rw [if_pos h0],h⟩
  ·rename_i h0;exact ⟨_,by simp only [I.eff,e];rw [if_neg h0],h⟩
 |
  make z b x =>
  simp only [I.dQ] at h
  split at h <;> first | exact h.elim | skip
  rename_i n e
  exact ⟨_,by simp only [I.eff,e];rw [if_pos h.1],h.2⟩
 |
  load n g a =>
  obtain ⟨p,e,h⟩:=bF h
  obtain ⟨row,off⟩:=p
  simp only [] at h
  cases g with
  |
   true =>
   simp only [if_true] at h
   exact ⟨_,by simp only [I.eff,e,if_true];rw [if_pos h.1],h.2⟩
  |
   false =>
   simp only [Bool.false_eq_true,if_false] at h
   obtain ⟨v,e2,h⟩:=bF h
   exact ⟨_,by simp only [I.eff,e,Bool.false_eq_true,if_false,e2],h⟩
 |
  store n a x =>
  simp only [I.dQ] at h
  split at h <;> first | exact h.elim | skip
  rename_i o r off e
  obtain ⟨cs,e1,h⟩:=bF h
  obtain ⟨ob,e2,h⟩:=bF h
  obtain ⟨row,e3,h⟩:=bF h
  exact ⟨_,by simp only [I.eff,e,e1,e2,e3];rw [if_pos h.1],h.2⟩
 |
  fld d a =>
  simp only [I.dQ] at h
  split at h <;> first | exact h.elim | skip
  ·rename_i o r off e
   obtain ⟨ob,e2,h⟩:=bF h
   exact ⟨_,by simp only [I.eff,e,e2],h⟩
  ·rename_i row off e
   exact ⟨_,by simp only [I.eff,e],h⟩
 |
  idx sz x i =>
  simp only [I.dQ] at h
  split at h <;> first | exact h.elim | skip
  ·rename_i o s l e
   obtain ⟨ob,e2,h⟩:=bF h
   obtain ⟨j,e3,h⟩:=vk h
   exact ⟨_,by simp only [I.eff,e,e2,e3];rw [if_pos h.1],h.2⟩
  ·rename_i sz' rows e
   obtain ⟨j,e3,h⟩:=vk h
   exact ⟨_,by simp only [I.eff,e,e3];rw [if_pos h.1],h.2⟩
 |
  Ue c sz x i =>
  simp only [I.dQ] at h
  split at h <;> first | exact h.elim | skip
  ·rename_i o r off e
   obtain ⟨j,e3,h⟩:=vk h
   obtain ⟨ob,e2,h⟩:=bF h
   exact ⟨_,by simp only [I.eff,e,e2,e3],h⟩
  ·rename_i row off e
   obtain ⟨j,e3,h⟩:=vk h
   exact ⟨_,by simp only [I.eff,e,e3],h⟩
 |
  VL x i =>
  simp only [I.dQ] at h
  split at h <;> first | exact h.elim | skip
  rename_i s e
  obtain ⟨j,e3,h⟩:=vk h
  exact ⟨_,by simp only [I.eff,e,e3],h⟩
 |
  len x =>
  obtain ⟨n,e,h⟩:=bF h
  exact ⟨_,by simp only [I.eff,e],h⟩
 |
  VN x =>
  simp only [I.dQ] at h
  split at h <;> first | exact h.elim | skip
  rename_i s e
  exact ⟨_,by simp only [I.eff,e],h⟩
 |
  bin op x y =>
  simp only [I.dQ] at h
  obtain ⟨v,e,h⟩:=abf h
  exact ⟨_,by simp only [I.eff,e],h⟩
 |
  beq ne x y =>
  simp only [I.dQ] at h
  split at h <;> first | exact h.elim | skip
  rename_i p q e1 e2
  exact ⟨_,by simp only [I.eff,e1,e2],h⟩
 |
  un op x =>
  simp only [I.dQ] at h
  split at h <;> first | exact h.elim | skip
  ·rename_i q n e
   exact ⟨_,by simp only [I.eff,e,acv],h⟩
  ·rename_i b e
   exact ⟨_,by simp only [I.eff,e,acv],h⟩
 |
  conv q x =>
  simp only [I.dQ] at h
  split at h <;> first | exact h.elim | skip
  rename_i q' n e
  exact ⟨_,by simp only [I.eff,e],h⟩
 |
  app sz b x y =>
  obtain ⟨old,e1,h⟩:=bF h
  obtain ⟨new,e2,h⟩:=bF h
  obtain ⟨so,old⟩:=old
  obtain ⟨sn,new⟩:=new
  simp only [] at h
  by_cases hn : new = []
  ·exact ⟨_,by simp only [I.eff,e1,e2];rw [if_pos hn],h.1 hn⟩
  ·obtain ⟨hc,h⟩:=h.2 hn
   split at h <;> first | exact h.elim | skip
   ·rename_i e
    rw [e] at e1
    refine ⟨_,?_,h⟩
    simp only [I.eff,e,e1,e2];rw [if_neg hn,if_pos hc]
   ·rename_i o s l e
    obtain ⟨ob,e3,h⟩:=bF h
    rw [e] at e1
    refine ⟨_,?_,h.2⟩
    simp only [I.eff,e,e1,e2,e3];rw [if_neg hn,if_pos hc,if_pos h.1]
 |
  max x y =>
  simp only [I.dQ] at h
  split at h <;> first | exact h.elim | skip
  rename_i q p q' r e1 e2
  exact ⟨_,by simp only [I.eff,e1,e2];rw [if_pos h.1],h.2⟩
 |
  Rt i x =>
  simp only [I.dQ] at h
  split at h <;> first | exact h.elim | skip
  rename_i vs e
  obtain ⟨v,e2,h⟩:=bF h
  exact ⟨_,by simp only [I.eff,e,e2],h⟩
 |
  chk x =>
  simp only [I.dQ] at h
  split at h <;> first | exact h.elim | skip
  ·rename_i o r off e
   obtain ⟨ob,e2,h⟩:=bF h
   exact ⟨_,by simp only [I.eff,e,e2],h⟩
  ·rename_i row off e
   exact ⟨_,by simp only [I.eff,e],h⟩
 |
  Jr x lo hi =>
  simp only [I.dQ] at h
  split at h <;> first | exact h.elim | skip
  rename_i s e
  obtain ⟨hh,e1,h⟩:=Wh h
  obtain ⟨l,e2,h⟩:=Wi h
  exact ⟨_,by simp only [I.eff,e,e1,e2],h⟩
 |
  slice sz x lo hi =>
  obtain ⟨n,e0,h⟩:=bF h
  obtain ⟨hh,e1,h⟩:=Wh h
  obtain ⟨l,e2,h⟩:=Wi h
  split at h <;> first | exact h.elim | skip
  ·rename_i e
   rw [e] at e0
   exact ⟨_,by simp only [I.eff,e,e0,e1,e2],h⟩
  ·rename_i sz' rows e
   rw [e] at e0
   exact ⟨_,by simp only [I.eff,e,e0,e1,e2];rw [if_pos h.1],h.2⟩
  ·rename_i o s q e
   obtain ⟨ob,e3,h⟩:=bF h
   rw [e] at e0
   exact ⟨_,by simp only [I.eff,e,e0,e1,e2,e3];rw [if_pos h.1],h.2⟩
 |
  VO cnt x i =>
  simp only [I.dQ] at h
  split at h <;> first | exact h.elim | skip
  rename_i cs e
  obtain ⟨j,e2,h⟩:=vk h
  obtain ⟨v,e3,h⟩:=bF h
  exact ⟨_,by simp only [I.eff,e,e2,e3],h⟩
 | _=>exact bF h
def PF (T : Tb) (f : Nat) (args : List V) (r : V) : Prop:=Run T (.fn f args []) (.fn r [])
def H7 (v : V) (k : Bool → Prop) : Prop:=match v with
 | .bool b=>k b
 | _=>False
theorem YC {v : V} {k : Bool → Prop} (h : H7 v k) : ∃ b,v = .bool b ∧ k b:=by
 cases v <;> first | exact h.elim | exact ⟨_,rfl,h⟩
def gdK (want : Bool) (v : V) (k : Bool → Prop) : Prop:=match v with
 | .bool b=>k b
 | .eF []=>k (!want)
 | _=>False
theorem Wj {want : Bool} {v : V} {k : Bool → Prop} (h : gdK want v k) : (v = .bool want ∧ k want) ∨ (aa2 want v ∧ k (!want)):=by
 unfold gdK at h
 split at h
 ·rename_i b
  by_cases e : b = want
  ·subst e;exact .inl ⟨rfl,h⟩
  ·have : b = !want:=by cases b <;> cases want <;> simp_all
   subst this
   exact .inr ⟨.inr ⟨_,rfl,e⟩,h⟩
 ·exact .inr ⟨.inl rfl,h⟩
 ·exact h.elim
def gK (g : Option (Nat × Bool)) (env : Nat → V) (on off : Prop) : Prop:=match g with
 | none=>on
 | some (t,true)=>gdK true (env t) fun b=>if b = true then on else off
 | some (t,false)=>gdK false (env t) fun b=>if b = true then off else on
theorem Un {g : Option (Nat × Bool)} {env : Nat → V} {on off : Prop} (h : gK g env on off) :
  ((∀ t want,g = some (t,want) → env t = .bool want) ∧ on) ∨ (∃ t want,g = some (t,want) ∧ aa2 want (env t) ∧ off):=by
 cases g with
 | none=>exact .inl ⟨fun _ _ h=>(by cases h),h⟩
 |
  some p =>
  obtain ⟨t,want⟩:=p
  cases want with
  |
   true =>
   rcases Wj h with ⟨e,h⟩ | ⟨e,h⟩
   ·exact .inl ⟨fun _ _ h=>(by cases h;exact e),(by simpa using h)⟩
   ·exact .inr ⟨t,true,rfl,e,by simpa using h⟩
  |
   false =>
   rcases Wj h with ⟨e,h⟩ | ⟨e,h⟩
   ·exact .inl ⟨fun _ _ h=>(by cases h;exact e),(by simpa using h)⟩
   ·exact .inr ⟨t,false,rfl,e,by simpa using h⟩
def EC (env : Nat → V) (σ : Store) : List Src → (List V → Prop) → Prop
 | [],k=>k []
 | s :: as,k=>dJ (resolve σ FD (s.ev env)) fun v=>EC env σ as fun vs=>k (v :: vs)
theorem qE {env : Nat → V} {σ : Store} : ∀ {as : List Src} {k : List V → Prop},EC env σ as k → ∃ vs,as.mapM (fun s=>resolve σ FD (s.ev env)) = some vs ∧ k vs
 | [],k,h=>⟨[],rfl,h⟩
 |
  s :: as,k,h=>by
  obtain ⟨v,e,h⟩:=bF h
  obtain ⟨vs,e2,h⟩:=qE h
  exact ⟨v :: vs,by simp [List.mapM_cons,e,e2],h⟩
def dh (env : Nat → V) (σ : Store) (as : List Src) : List Nat:=as.flatMap fun s=>reach σ FD (s.ev env)
def PFK (T : Tb) (f : Nat) (as : List V) (k : V → Prop) : Prop:=∃ r,PF T f as r ∧ k r
inductive KC (T : Tb) (f : Nat) (as : List Src) (dst : Option Nat) (st : St) : St → Prop
 | ref (ρ : List Nat) {r : V} {σ' : Store} (hn : ρ.Nodup) (hρ : ∀ o,o ∈ ρ → (aj st.objs o).isSome = true) (h : Run T (.fn f (as.map fun s=>aY (place ρ) (s.ev st.env)) (Eu ρ st.objs)) (.fn r σ')) :
   KC T f as dst st { st with env:=dV st.env dst (aY (back ρ st.objs.length) r),objs:=kR ρ st.objs σ' }
 | own {as' : List V} {r : V} {σ' : Store} {R : List Nat} (ha : as.mapM (fun s=>resolve st.objs FD (s.ev st.env)) = some as') (h : Run T (.fn f as' []) (.fn r σ'))
   (hR : R = if dH r && xZ σ' then [] else as.flatMap fun s=>reach st.objs FD (s.ev st.env)) :
   KC T f as dst st { st with env:=dV st.env dst (aY (bT st.objs.length) r),objs:=ru (cZ st.objs R) σ' }
 | idn {r : V} {σ' : Store} (h : Run T (.fn f (as.map fun s=>s.ev st.env) st.objs) (.fn r σ')) (hl : st.objs.length ≤ σ'.length) (hb : st.objs.length ≤ st.base) :
   KC T f as dst st { st with env:=dV st.env dst r,objs:=σ' }
 | frz {as' : List V} {r : V} {R : List Nat} (ha : as.mapM (fun s=>resolve st.objs FD (s.ev st.env)) = some as') (h : Run T (.fn f as' []) (.fn r []))
   (hR : R = if scalar SD r then [] else as.flatMap fun s=>reach st.objs FD (s.ev st.env)) :
   KC T f as dst st { st with env:=dV st.env dst r,objs:=cZ st.objs R }
def Jz (T : Tb) (f : Nat) (as : List Src) (dst : Option Nat) (st : St) (k : St → Prop) : Prop:=∃ st',KC T f as dst st st' ∧ k st'
def dN : Option Nat → Nat
 | some n=>n
 | none=>0
theorem H8 (n : Nat) : dN (some n) = n:=by have h : dN (some n) = n:=rfl;exact h
def opK (T : Tb) (rf : Nat → Nat → Bool) (o : fP) (st : St) (k : St → Prop) : Prop :=
 gK o.g st.env (match o.i with
  | .call f as=>if rf f (dN o.dst) = true then Jz T f as o.dst st k else EC st.env st.objs as fun as'=>PFK T f as' fun r =>
    k { st with env:=dV st.env o.dst r,objs:=cZ st.objs (if scalar SD r then [] else dh st.env st.objs as) }
  | i=>i.dQ st.env st.objs fun ef=>k (ef.go st o.dst (st.base + o.k)))
  (k { st with env:=dV st.env o.dst (.eF []) })
theorem ac4 {T : Tb} {rf : Nat → Nat → Bool} {o : fP} {st : St} {k : St → Prop} (h : opK T rf o st k) : ∃ st',Run T (.op o st) (.code .normal st') ∧ k st':=by
 rcases Un h with ⟨hg,h⟩ | ⟨t,want,hg,he,h⟩
 ·split at h
  ·rename_i f as hi
   split at h
   ·obtain ⟨st',h1,h4⟩:=h
    refine ⟨st',?_,h4⟩
    cases h1 with
    | ref ρ h1 h2 h3=>exact .acA ρ h1 h2 hg hi h3
    | own h1 h2 h3=>exact .acB hg hi h1 h2 h3
    | idn h1 h2 h3=>exact .acC hg hi h1 h2 h3
    | frz h1 h2 h3=>exact .VR hg hi h1 h2 h3
   ·obtain ⟨vs,e,h⟩:=qE h
    obtain ⟨r,h1,h⟩:=h
    exact ⟨_,.VR hg hi e h1 rfl,h⟩
  ·obtain ⟨ef,e,h⟩:=MI h
   exact ⟨_,.op hg e,h⟩
 ·exact ⟨_,.off hg he,h⟩
def YD (T : Tb) (rf : Nat → Nat → Bool) : List fP → St → (St → Prop) → Prop
 | [],st,k=>k st
 | o :: l,st,k=>opK T rf o st fun st=>YD T rf l st k
theorem SQ {T : Tb} {rf : Nat → Nat → Bool} : ∀ {l : List fP} {st : St} {k : St → Prop},YD T rf l st k → ∃ st',Run T (.ops l st) (.code .normal st') ∧ k st'
 | [],st,k,h=>⟨st,.nil st,h⟩
 |
  o :: l,st,k,h=>by
  obtain ⟨st1,h1,h⟩:=ac4 h
  obtain ⟨st2,h2,h⟩:=SQ h
  exact ⟨st2,.cons h1 h2,h⟩
def uni (a b : List Nat) : List Nat:=b.foldl (fun s x=>if s.contains x then s else x :: s) a
def am9 : List fP → List (List Nat) → List (List Nat)
 | [],acc=>acc
 | o :: l,acc=>am9 l (acc ++ [o.aft.foldl (fun s e=>uni s (acc.getD e [])) o.aft])
def okB (B : Nat → List Nat) (l : List fP) : Nat → Bool
 |
  i=>match l with
  | []=>true
  | o :: l=>(B i).all (fun j=>o.aft.contains j || o.aft.any fun e=>(B e).contains j) && o.aft.all (fun e=>decide (e < i)) && okB B l (i + 1)
theorem PG {B : Nat → List Nat} : ∀ {l : List fP} {n : Nat},okB B l n = true → ∀ i o,l[i]? = some o → (∀ j,j ∈ B (n + i) → j ∈ o.aft ∨ ∃ e ∈ o.aft,j ∈ B e) ∧ ∀ e ∈ o.aft,e < n + i
 | [],n,_,i,o,h=>by simp at h
 |
  x :: l,n,hk,i,o,h=>by
  unfold okB at hk
  simp only [Bool.and_eq_true,List.all_eq_true] at hk
  obtain ⟨⟨h1,h2⟩,h3⟩:=hk
  cases i with
  |
   zero =>
   simp only [List.getElem?_cons_zero,Option.some.injEq] at h
   subst h
   refine ⟨fun j hj=>?_,fun e he=>by simpa using h2 e he⟩
   have:=h1 j hj
   simpa using this
  |
   succ i =>
   simp only [List.getElem?_cons_succ] at h
   have:=PG h3 i o h
   rw [show n + (i + 1) = n + 1 + i by omega]
   exact this
def RG (l : List fP) : Nat → List Nat:=let b:=am9 l [];fun i=>b.getD i []
structure Acc where
 i : Nat
 R : List Nat
 W : List Nat
 n : Bool:=false
def rC (L : Nat) (a b : Acc) : Bool:=!a.n || (!b.n && b.R.all (fun o=>decide (o < L)) && b.W.all fun p=>decide (p < L))
def lD (L : Nat) (d e : fP) (a b : Acc) : Bool :=
 !Gy d.dst e.looks && !Gy e.dst d.looks && !(d.dst.isSome && d.dst == e.dst) &&
  a.W.all (fun p=>!b.R.contains p && b.W.all fun q=>q != p) && b.W.all (fun q=>!a.R.contains q) && rC L a b && rC L b a
def H9 (l : List fP) (i : Nat) : fP:=l.getD i ⟨none,none,0,.alloc [],[]⟩
def okA (L : Nat) (B : Nat → List Nat) (ops : List fP) : List Acc → Bool
 | []=>true
 | a :: l=>l.all (fun b=>(B b.i).contains a.i || lD L (H9 ops a.i) (H9 ops b.i) a b) && okA L B ops l
def jl (L : Nat) (ops : List fP) (l : List Acc) : Prop:=okA L (RG ops) ops l.reverse = true
def YE (T : Tb) (f : Nat) (as : List Src) (dst : Option Nat) (st : St) (k : List Nat → List Nat → Bool → St → Prop) : Prop :=
 (∃ as' r σ',as.mapM (fun s=>resolve st.objs FD (s.ev st.env)) = some as' ∧ Run T (.fn f as' []) (.fn r σ') ∧ (dH r && xZ σ') = true ∧
  k (dh st.env st.objs as) [] true { st with env:=dV st.env dst (aY (bT st.objs.length) r),objs:=ru st.objs σ' }) ∨
 (∃ as' r,as.mapM (fun s=>resolve st.objs FD (s.ev st.env)) = some as' ∧ Run T (.fn f as' []) (.fn r []) ∧ scalar SD r = false ∧
  k (dh st.env st.objs as) (dh st.env st.objs as) false { st with env:=dV st.env dst r,objs:=cZ st.objs (dh st.env st.objs as) }) ∨
 (∃ r σ',Run T (.fn f (as.map fun s=>s.ev st.env) st.objs) (.fn r σ') ∧ st.objs.length ≤ σ'.length ∧ st.objs.length ≤ st.base ∧
  k (List.range st.objs.length) (List.range st.objs.length) true { st with env:=dV st.env dst r,objs:=σ' }) ∨
 ∃
  ρ r v,ρ.Nodup ∧ (∀ o,o ∈ ρ → ∃ ob,aj st.objs o = some ob ∧ ∀ g,iH g ob = ob) ∧ Run T (.fn f (as.map fun s=>aY (place ρ) (s.ev st.env)) (Eu ρ st.objs)) (.fn r (Eu ρ st.objs)) ∧ (∀ n,aY (back ρ n) r = v) ∧
  k ρ [] false { st with env:=dV st.env dst v }
def KD (l : List Nat) (k : List Nat → Prop) : Prop:=k l
def Eff.wr (id : Nat) : Eff → List Nat
 | .val _=>[]
 | .newP _=>[id]
 | .newS _ _=>[id]
 | .upd o _=>[o]
 | .bZ o _ _=>[o,id]
def JA (T : Tb) (rf : Nat → Nat → Bool) (L : Nat) (ops : List fP) : List fP → Nat → List Acc → St → (St → Prop) → Prop
 | [],_,acc,st,k=>jl L ops acc ∧ k st
 |
  o :: l,i,acc,st,k=>gK o.g st.env (match o.i with
  | .call f as=>if rf f (dN o.dst) = true then YE T f as o.dst st fun R W n st=>JA T rf L ops l (i + 1) (⟨i,R,W,n⟩ :: acc) st k
    else EC st.env st.objs as fun as'=>PFK T f as' fun r=>KD (dh st.env st.objs as) fun R =>
    (R = [] ∨ scalar SD r = true) ∧ JA T rf L ops l (i + 1) (⟨i,R,[],false⟩ :: acc) { st with env:=dV st.env o.dst r } k
  | x
    => KD (x.reads st.env) fun R=>x.dQ st.env st.objs fun ef=>KD (ef.wr (st.base + o.k)) fun W =>
    JA T rf L ops l (i + 1) (⟨i,R,W,false⟩ :: acc) (ef.go st o.dst (st.base + o.k)) k)
  (JA T rf L ops l (i + 1) (⟨i,[],[],false⟩ :: acc) { st with env:=dV st.env o.dst (.eF []) } k)
def SS (ops : List fP) (p : Nat × Dat) (a : Acc) : Prop:=a.i = p.1 ∧ H9 ops a.i = p.2.x ∧ a.R = p.2.R ∧ a.W = p.2.W.map (·.1) ∧ a.n = p.2.N.isSome
theorem SV {L : Nat} {ops : List fP} {p q : Nat × Dat} {a b : Acc} (h : SS ops p a) (k : SS ops q b) : rC L a b = below L p.2 q.2:=by
 obtain ⟨h1,h2,h3,h4,h5⟩:=h
 obtain ⟨k1,k2,k3,k4,k5⟩:=k
 unfold rC below
 rw [h5,k5,k3,k4,List.all_map]
 simp only [Option.not_isSome]
 rfl
theorem abg {L : Nat} {ops : List fP} {p q : Nat × Dat} {a b : Acc} (h : SS ops p a) (k : SS ops q b) : lD L (H9 ops a.i) (H9 ops b.i) a b = apart L p.2 q.2:=by
 have e1:=SV (L:=L) h k
 have e2:=SV (L:=L) k h
 obtain ⟨h1,h2,h3,h4,h5⟩:=h
 obtain ⟨k1,k2,k3,k4,k5⟩:=k
 unfold lD apart
 rw [e1,e2,h2,k2,h3,k3,h4,k4]
 simp only [List.all_map]
 rfl
inductive oO (ops : List fP) : List (Nat × Dat) → List Acc → Prop
 | nil : oO ops [] []
 | cons {p a l m} (h : SS ops p a) (t : oO ops l m) : oO ops (p :: l) (a :: m)
theorem oO.all {ops : List fP} {f : Nat × Dat → Bool} {g : Acc → Bool} : ∀ {l m},oO ops l m → (∀ p a,SS ops p a → f p = g a) → l.all f = m.all g
 | _,_,.nil,_=>rfl
 | _,_,.cons h t,hfg=>by simp only [List.all_cons];rw [hfg _ _ h,t.all hfg]
theorem YF {L : Nat} {B : Nat → List Nat} {ops : List fP} : ∀ {l m},oO ops l m → okA L B ops m = true → okD L B l = true
 | _,_,.nil,_=>rfl
 |
  _,_,.cons (p:=p) (a:=a) h t,hk=>by
  simp only [okA,Bool.and_eq_true] at hk
  obtain ⟨i,d⟩:=p
  simp only [okD,Bool.and_eq_true]
  refine ⟨?_,YF t hk.2⟩
  rw [t.all fun q b hq=>?_]
  ·exact hk.1
  ·rw [abg h hq,hq.1,h.1]
theorem oO.append {ops : List fP} : ∀ {l m l' m'},oO ops l m → oO ops l' m' → oO ops (l ++ l') (m ++ m')
 | _,_,_,_,.nil,h=>h
 | _,_,_,_,.cons h t,k=>.cons h (t.append k)
theorem ana (ef : Eff) (id : Nat) : ef.wr id = (ef.writes id).map (·.1):=by cases ef <;> rfl
theorem JB {T : Tb} {d : Dat} : ∀ (l : List Dat) (st : St),Chain T l st → Fp T d (xR l st) → Chain T (l ++ [d]) st
 | [],_,_,h=>⟨h,trivial⟩
 | _ :: l,_,h,k=>⟨h.1,JB l _ h.2 k⟩
theorem JC {d : Dat} : ∀ (l : List Dat) (st : St),xR (l ++ [d]) st = d.go (xR l st)
 | [],_=>rfl
 | _ :: l,_=>JC l _
theorem SX {T : Tb} {rf : Nat → Nat → Bool} {L : Nat} {ops : List fP} {st0 : St} : ∀ {l : List fP} {i : Nat} {acc : List Acc} {st : St} {k : St → Prop} (ds : List (Nat × Dat)),JA T rf L ops l i acc st k →
  i ≤ ops.length → ops.drop i = l → ds.length = i → ds.map (·.1) = List.range i → oO ops ds acc.reverse → Chain T (ds.map (·.2)) st0 → xR (ds.map (·.2)) st0 = st →
  ∃ ds',ds'.map (·.1) = List.range ops.length ∧ (∃ acc',oO ops ds' acc' ∧ okA L (RG ops) ops acc' = true) ∧ Chain T (ds'.map (·.2)) st0 ∧ k (xR (ds'.map (·.2)) st0)
 |
  [],i,acc,st,k,ds,h,hil,hd,hi,hr,hf,hc,hg=>by
  have hl : ops.length = i:=by
   have:=congrArg List.length hd
   simp at this;omega
  exact ⟨ds,by rw [hr,hl],⟨_,hf,h.1⟩,hc,by rw [hg];exact h.2⟩
 |
  o :: l,i,acc,st,k,ds,h,_,hd,hi,hr,hf,hc,hg=>by
  have hio : ops[i]? = some o:=by
   have:=congrArg (·[0]?) hd
   simpa using this
  have hd' : ops.drop (i + 1) = l:=by
   rw [← List.drop_drop,hd];rfl
  have hgo : H9 ops i = o:=by simp [H9,List.getD_eq_getElem?_getD,hio]
  have step : ∀ (d : Dat),d.x = o → ∀ (a : Acc),a.i = i → a.R = d.R → a.W = d.W.map (·.1) → a.n = d.N.isSome → Fp T d st → JA T rf L ops l (i + 1) (a :: acc) (d.go st) k → _:=fun d hdx a ha hR hW hN hfp hk =>
   SX (ds ++ [(i,d)]) hk (List.getElem?_eq_some_iff.1 hio).1 hd' (by simp [hi]) (by simp [hr,List.range_succ]) (by
    rw [List.reverse_cons]
    exact hf.append (.cons ⟨ha,by rw [ha,hgo,hdx],hR,hW,hN⟩ .nil)) (by
    rw [List.map_append];exact JB _ _ hc (by rw [hg];exact hfp)) (by rw [List.map_append,List.map_cons,List.map_nil,JC,hg])
  rcases Un h with ⟨hgd,h⟩ | ⟨t,want,hgd,he,h⟩
  ·split at h
   ·rename_i f as hi2
    split at h
    ·rcases h with ⟨vs,r,σ',e,h1,h2,h⟩ | ⟨vs,r,e,h1,h2,h⟩ | ⟨r,σ',h1,h2,h3,h⟩ | ⟨ρ,r,v,h1,h2,h3,h4,h⟩
     rotate_right
     ·refine step ⟨o,ρ,v,[],none⟩ rfl ⟨i,ρ,[],false⟩ rfl rfl rfl rfl (ac1 hgd hi2 h1 h2 h3 h4) ?_
      have e2 : (⟨o,ρ,v,[],none⟩ : Dat).go st = { st with env:=dV st.env o.dst v }:=by
       simp only [Dat.go,lW,List.foldl_nil,Option.getD_none,List.append_nil]
      rw [e2];exact h
     rotate_right
     ·refine step ⟨o,_,r,(List.range st.objs.length).map fun o=>(o,aj σ' o),some (σ'.drop st.objs.length)⟩ rfl ⟨i,_,List.range st.objs.length,true⟩ rfl rfl (by rw [List.map_map];exact (List.map_id _).symm) rfl (ac2 hgd hi2 h1 h2 h3) ?_
      have e2 : (⟨o,List.range st.objs.length,r,(List.range st.objs.length).map fun o=>(o,aj σ' o),some (σ'.drop st.objs.length)⟩ : Dat).go st = { st with env:=dV st.env o.dst r,objs:=σ' }:=by
       simp only [Dat.go,Option.getD_some]
       congr 1
       exact V9 h2
      rw [e2];exact h
     rotate_left
     ·refine step ⟨o,_,r,(as.flatMap fun s=>reach st.objs FD (s.ev st.env)).map fun o=>(o,none),none⟩ rfl ⟨i,_,as.flatMap fun s=>reach st.objs FD (s.ev st.env),false⟩ rfl rfl (by rw [List.map_map];exact (List.map_id _).symm) rfl (acZ hgd hi2 e h1 h2) ?_
      have e2 : (⟨o,as.flatMap fun s=>reach st.objs FD (s.ev st.env),r,(as.flatMap fun s=>reach st.objs FD (s.ev st.env)).map fun o=>(o,none),none⟩ : Dat).go st =
        { st with env:=dV st.env o.dst r,objs:=cZ st.objs (as.flatMap fun s=>reach st.objs FD (s.ev st.env)) }:=by
       simp only [Dat.go,MH,Option.getD_none,List.append_nil]
      rw [e2];exact h
     refine step ⟨o,_,_,[],some _⟩ rfl ⟨i,_,[],true⟩ rfl rfl rfl rfl (ac0 hgd hi2 e h1 h2) ?_
     have e2 : (⟨o,as.flatMap fun s=>reach st.objs FD (s.ev st.env),aY (bT st.objs.length) r,[],some (σ'.map (Option.map (iH (bT st.objs.length))))⟩ : Dat).go st =
       { st with env:=dV st.env o.dst (aY (bT st.objs.length) r),objs:=ru st.objs σ' }:=by
      simp only [Dat.go,lW,List.foldl_nil,ru,Option.getD_some]
     rw [e2];exact h
    ·obtain ⟨vs,e,h⟩:=qE h
     obtain ⟨r,h1,h⟩:=h
     obtain ⟨hR,h⟩:=h
     refine step ⟨o,_,r,[],none⟩ rfl ⟨i,_,[],false⟩ rfl rfl rfl rfl (V8 hgd hi2 e h1 hR.symm) ?_
     have e2 : (⟨o,as.flatMap fun s=>reach st.objs FD (s.ev st.env),r,[],none⟩ : Dat).go st = { st with env:=dV st.env o.dst r }:=by
      simp only [Dat.go,lW,List.foldl_nil,Option.getD_none,List.append_nil]
     rw [e2];exact h
   ·unfold KD at h
    obtain ⟨ef,e,h⟩:=MI h
    refine step ⟨o,o.i.reads st.env,ef.dv (st.base + o.k),ef.writes (st.base + o.k),none⟩ rfl ⟨i,_,_,false⟩ rfl rfl (ana _ _) rfl (acQ hgd e) ?_
    have e2 : (⟨o,o.i.reads st.env,ef.dv (st.base + o.k),ef.writes (st.base + o.k),none⟩ : Dat).go st = ef.go st o.dst (st.base + o.k):=by
     simp only [Dat.go,Eff.go,V5,Option.getD_none,List.append_nil]
    rw [e2];exact h
  ·refine step ⟨o,[],.eF [],[],none⟩ rfl ⟨i,[],[],false⟩ rfl rfl rfl rfl (acR hgd he) ?_
   have e2 : (⟨o,[],.eF [],[],none⟩ : Dat).go st = { st with env:=dV st.env o.dst (.eF []) }:=by
    simp only [Dat.go,lW,List.foldl_nil,Option.getD_none,List.append_nil]
   rw [e2];exact h
theorem ac5 {T : Tb} {rf : Nat → Nat → Bool} {ops : List fP} {st : St} {k : St → Prop} (hb : okB (RG ops) ops 0 = true) (h : JA T rf st.objs.length ops ops 0 [] st k) : ∃ st',Run T (.any ops [] st) (.code .normal st') ∧ k st':=by
 obtain ⟨ds,h1,⟨acc,h2,h3⟩,h4,h5⟩:=SX (ops:=ops) (st0:=st) [] h (Nat.zero_le _) rfl rfl rfl .nil trivial rfl
 have hB:=PG hb
 simp only [Nat.zero_add] at hB
 have hfit : ∀ {l m},oO ops l m → ∀ p ∈ l,H9 ops p.1 = p.2.x:=by
  intro l m hf
  induction hf with
  | nil=>intro p hp;cases hp
  |
   cons h t ih =>
   intro p hp
   rcases List.mem_cons.1 hp with rfl | hp
   ·rw [← h.1];exact h.2.1
   ·exact ih p hp
 have hlt : ∀ p ∈ ds,p.1 < ops.length:=by
  intro p hp
  have : p.1 ∈ ds.map (·.1):=List.mem_map_of_mem hp
  rw [h1] at this;exact List.mem_range.1 this
 refine ⟨_,run_any (B:=RG ops) (fun i o j ho hj=>(hB i o ho).1 j hj) ds.length ds [] st (Nat.le_refl _) rfl (YF h2 h3) (fun e he=>by cases he) h4 ?_ ?_ ?_,h5⟩
 ·rw [h1];exact List.pairwise_lt_range
 ·intro p hp
  have hp2 : ops[p.1]? = some p.2.x:=by
   have:=hfit h2 p hp
   unfold H9 at this
   rw [List.getD_eq_getElem?_getD] at this
   rw [List.getElem?_eq_getElem (hlt p hp)] at this ⊢
   exact congrArg some this
  exact ⟨hp2,by simp,(hB p.1 p.2.x hp2).2⟩
 ·intro i hi _
  have : i ∈ ds.map (·.1):=by rw [h1];exact List.mem_range.2 hi
  obtain ⟨p,hp,e⟩:=List.mem_map.1 this
  exact ⟨p.2,by rw [← e];exact hp⟩
def afS (ef : Eff) (k : V → Prop) : Prop:=match ef with
 | .val v=>k v
 | _=>False
theorem abh {ef : Eff} {k : V → Prop} (h : afS ef k) : ∃ v,ef = .val v ∧ k v:=by
 cases ef <;> first | exact h.elim | exact ⟨_,rfl,h⟩
def ED (T : Tb) : List fP → St → (St → Prop) → Prop
 | [],st,k=>k st
 |
  o :: l,st,k=>gK o.g st.env (match o.i with
  | .call f as=>EC st.env st.objs as fun as'=>PFK T f as' fun r=>KD (dh st.env st.objs as) fun R =>
    (R = [] ∨ scalar SD r = true) ∧ ED T l { st with env:=dV st.env o.dst r } k
  | x=>x.dQ st.env st.objs fun ef=>afS ef fun v=>ED T l { st with env:=dV st.env o.dst v } k)
  (ED T l { st with env:=dV st.env o.dst (.eF []) } k)
def FM (rf : Nat → Nat → Bool) (l : List fP) : Bool:=l.all fun o=>match o.i with
 | .call f _=>!rf f (dN o.dst)
 | _=>true
theorem PK {T : Tb} {ops : List fP} {st0 : St} : ∀ {l : List fP} {i : Nat} {acc : List Acc} {st : St} {k : St → Prop} (ds : List (Nat × Dat)),ED T l st k →
  i ≤ ops.length → ops.drop i = l → ds.length = i → ds.map (·.1) = List.range i → oO ops ds acc.reverse → (∀ a ∈ acc,a.W = [] ∧ a.n = false) → Chain T (ds.map (·.2)) st0 → xR (ds.map (·.2)) st0 = st →
  ∃ ds',ds'.map (·.1) = List.range ops.length ∧ (∃ acc',oO ops ds' acc' ∧ ∀ a ∈ acc',a.W = [] ∧ a.n = false) ∧ Chain T (ds'.map (·.2)) st0 ∧ k (xR (ds'.map (·.2)) st0)
 |
  [],i,acc,st,k,ds,h,hil,hd,hi,hr,hf,hw,hc,hg=>by
  have hl : ops.length = i:=by
   have:=congrArg List.length hd
   simp at this;omega
  exact ⟨ds,by rw [hr,hl],⟨_,hf,by simpa using hw⟩,hc,by rw [hg];exact h⟩
 |
  o :: l,i,acc,st,k,ds,h,_,hd,hi,hr,hf,hw,hc,hg=>by
  have hio : ops[i]? = some o:=by
   have:=congrArg (·[0]?) hd
   simpa using this
  have hd' : ops.drop (i + 1) = l:=by
   rw [← List.drop_drop,hd];rfl
  have hgo : H9 ops i = o:=by simp [H9,List.getD_eq_getElem?_getD,hio]
  have step : ∀ (R : List Nat) (v : V),Fp T ⟨o,R,v,[],none⟩ st → ED T l { st with env:=dV st.env o.dst v } k → _:=fun R v hfp hk =>
   PK (acc:=⟨i,R,[],false⟩ :: acc) (ds ++ [(i,⟨o,R,v,[],none⟩)]) hk (List.getElem?_eq_some_iff.1 hio).1 hd' (by simp [hi]) (by simp [hr,List.range_succ]) (by
    rw [List.reverse_cons]
    exact hf.append (.cons ⟨rfl,hgo,rfl,rfl,rfl⟩ .nil)) (by
    intro a ha
    rcases List.mem_cons.1 ha with rfl | ha
    ·exact ⟨rfl,rfl⟩
    ·exact hw a ha) (by
    rw [List.map_append];exact JB _ _ hc (by rw [hg];exact hfp)) (by rw [List.map_append,List.map_cons,List.map_nil,JC,hg,go_val])
  rcases Un h with ⟨hgd,h⟩ | ⟨t,want,hgd,he,h⟩
  ·split at h
   ·rename_i f as hi2
    obtain ⟨vs,e,h⟩:=qE h
    obtain ⟨r,h1,h⟩:=h
    obtain ⟨hR,h⟩:=h
    exact step _ r (V8 hgd hi2 e h1 hR.symm) h
   ·obtain ⟨ef,e,h⟩:=MI h
    obtain ⟨v,rfl,h⟩:=abh h
    exact step _ v (acQ hgd e) h
  ·exact step [] (.eF []) (acR hgd he) h
def anb (ops : List fP) : Bool:=okA 0 (RG ops) ops ((List.range ops.length).map fun i=>⟨i,[],[],false⟩)
theorem SY {L : Nat} {B : Nat → List Nat} {ops : List fP} : ∀ {l : List Acc},(∀ a ∈ l,a.W = [] ∧ a.n = false) → okA 0 B ops (l.map fun a=>⟨a.i,[],[],false⟩) = okA L B ops l
 | [],_=>rfl
 |
  a :: l,h=>by
  simp only [List.map_cons,okA]
  rw [SY fun b hb=>h b (by simp [hb])]
  congr 1
  rw [List.all_map]
  have hall : ∀ (m : List Acc),(∀ b ∈ m,b.W = [] ∧ b.n = false) → (m.all ((fun b : Acc=>(B b.i).contains a.i || lD 0 (H9 ops a.i) (H9 ops b.i) ⟨a.i,[],[],false⟩ b) ∘ fun b=>⟨b.i,[],[],false⟩)) =
    m.all fun b=>(B b.i).contains a.i || lD L (H9 ops a.i) (H9 ops b.i) a b:=by
   intro m
   induction m with
   | nil=>intro _;rfl
   |
    cons b m ih =>
    intro hm
    simp only [List.all_cons]
    rw [ih fun c hc=>hm c (by simp [hc])]
    congr 1
    simp only [Function.comp,lD,rC,(h a (by simp)).1,(hm b (by simp)).1,(h a (by simp)).2,(hm b (by simp)).2,List.all_nil,Bool.not_false,Bool.true_or]
  exact hall l fun b hb=>h b (by simp [hb])
theorem abj {T : Tb} {ops : List fP} {st : St} {k : St → Prop} (L : Nat) (h0 : anb ops = true) (h : ED T ops st k) :
  ∃ ds : List (Nat × Dat),ds.map (·.1) = List.range ops.length ∧ (∃ acc',oO ops ds acc' ∧ okA L (RG ops) ops acc' = true) ∧ Chain T (ds.map (·.2)) st ∧ k (xR (ds.map (·.2)) st):=by
 obtain ⟨ds,h1,⟨acc,h2,h3⟩,h4,h5⟩:=PK (ops:=ops) (acc:=[]) (st0:=st) [] h (Nat.zero_le _) rfl rfl rfl .nil (by simp) trivial rfl
 refine ⟨ds,h1,⟨acc,h2,?_⟩,h4,h5⟩
 rw [← SY h3]
 have : (acc.map fun a=>(⟨a.i,[],[],false⟩ : Acc)) = (List.range ops.length).map fun i=>⟨i,[],[],false⟩:=by
  rw [← h1,List.map_map]
  clear h1 h3 h4 h5 h h0
  induction h2 with
  | nil=>rfl
  | cons h t ih=>simp only [List.map_cons,Function.comp,h.1,ih]
 rw [this];exact h0
theorem ai2 {T : Tb} {ops : List fP} {st : St} (hb : okB (RG ops) ops 0 = true) {ds : List (Nat × Dat)} (h1 : ds.map (·.1) = List.range ops.length)
  {acc : List Acc} (h2 : oO ops ds acc) (h3 : okA st.objs.length (RG ops) ops acc = true) (h4 : Chain T (ds.map (·.2)) st) : Run T (.any ops [] st) (.code .normal (xR (ds.map (·.2)) st)):=by
 have hB:=PG hb
 simp only [Nat.zero_add] at hB
 have hfit : ∀ {l m},oO ops l m → ∀ p ∈ l,H9 ops p.1 = p.2.x:=by
  intro l m hf
  induction hf with
  | nil=>intro p hp;cases hp
  |
   cons h t ih =>
   intro p hp
   rcases List.mem_cons.1 hp with rfl | hp
   ·rw [← h.1];exact h.2.1
   ·exact ih p hp
 have hlt : ∀ p ∈ ds,p.1 < ops.length:=by
  intro p hp
  have : p.1 ∈ ds.map (·.1):=List.mem_map_of_mem hp
  rw [h1] at this;exact List.mem_range.1 this
 refine run_any (B:=RG ops) (fun i o j ho hj=>(hB i o ho).1 j hj) ds.length ds [] st (Nat.le_refl _) rfl (YF h2 h3) (fun e he=>by cases he) h4 ?_ ?_ ?_
 ·rw [h1];exact List.pairwise_lt_range
 ·intro p hp
  have hp2 : ops[p.1]? = some p.2.x:=by
   have:=hfit h2 p hp
   unfold H9 at this
   rw [List.getD_eq_getElem?_getD] at this
   rw [List.getElem?_eq_getElem (hlt p hp)] at this ⊢
   exact congrArg some this
  exact ⟨hp2,by simp,(hB p.1 p.2.x hp2).2⟩
 ·intro i hi _
  have : i ∈ ds.map (·.1):=by rw [h1];exact List.mem_range.2 hi
  obtain ⟨p,hp,e⟩:=List.mem_map.1 this
  exact ⟨p.2,by rw [← e];exact hp⟩
def EF (l : List fP) : Bool:=l.all fun o=>match o.i with
 | .store .. | .alloc _ | .box _ | .eG .. | .make .. | .app ..=>false
 | _=>true
def C.VJ : C → Bool
 | .reg d m l=>VI m l && (!d || (okB (RG l) l 0 && (!EF l || anb l)))
 | .seq a b=>a.VJ && b.VJ
 | .cond _ a b=>a.VJ && b.VJ
 | .block _ c=>c.VJ
 | .loop c=>c.VJ
 | _=>true
def Wn (σ : Store) (m : Nat) : Store:=σ ++ List.replicate m none
def St.in (st : St) (m : Nat) : St:={ st with objs:=Wn st.objs m,base:=st.objs.length,rds:=[],muts:=[] }
def Uo (e : Ex) (k q : Prop) : Prop:=match e with
 | .normal=>k
 | _=>q
def NQ (T : Tb) (c : C) (Q : Ex → St → Prop) (st : St) : Prop:=∃ e st',Run T (.code (.loop c) st) (.code e st') ∧ Q e st'
def wp (T : Tb) (rf : Nat → Nat → Bool) : C → (Ex → St → Prop) → St → Prop
 | .skip,Q,st=>Q .normal st
 | .reg d m l,Q,st=>if d then (if EF l && FM rf l then ED T l (st.in m) (Q .normal) else JA T rf (st.in m).objs.length l l 0 [] (st.in m) (Q .normal)) else YD T rf l (st.in m) (Q .normal)
 | .seq a b,Q,st=>wp T rf a (fun e st=>Uo e (wp T rf b Q st) (Q e st)) st
 | .cond x a b,Q,st=>H7 (x.ev st.env) fun t=>if t = true then wp T rf a Q st else wp T rf b Q st
 | .block id c,Q,st=>wp T rf c (fun e st=>Q (VP id e) st) st
 | .loop c,Q,st=>NQ T c Q st
 | .exit id,Q,st=>Q (.exit id) st
 | .ret,Q,st=>Q .ret st
 | .lib _,_,_=>False
theorem rH {T : Tb} {rf : Nat → Nat → Bool} : ∀ {c : C} {Q : Ex → St → Prop} {st : St},c.VJ = true → wp T rf c Q st → ∃ e st',Run T (.code c st) (.code e st') ∧ Q e st'
 | .skip,Q,st,_,h=>⟨_,_,.skip st,h⟩
 |
  .reg d m l,Q,st,hk,h=>by
  simp only [C.VJ,Bool.and_eq_true,Bool.or_eq_true,Bool.not_eq_true'] at hk
  obtain ⟨hk,hk2⟩:=hk
  unfold wp at h
  cases d with
  |
   false =>
   obtain ⟨st',h1,h2⟩:=SQ (by simpa using h)
   exact ⟨_,_,.reg hk h1,h2⟩
  |
   true =>
   simp only [Bool.true_eq_false,false_or] at hk2
   simp only [if_true] at h
   split at h
   ·rename_i hw
    simp only [Bool.and_eq_true] at hw
    rcases hk2.2 with h' | h'
    ·rw [h'] at hw;cases hw.1
    obtain ⟨ds,h1,⟨acc,h2,h3⟩,h4,h5⟩:=abj (st.in m).objs.length h' h
    exact ⟨_,_,.aiU hk (ai2 hk2.1 h1 h2 h3 h4),h5⟩
   ·obtain ⟨st',h1,h2⟩:=ac5 hk2.1 h
    exact ⟨_,_,.aiU hk h1,h2⟩
 |
  .seq a b,Q,st,hk,h=>by
  simp only [C.VJ,Bool.and_eq_true] at hk
  obtain ⟨e,st1,h1,h2⟩:=rH hk.1 (Q:=fun e st=>Uo e (wp T rf b Q st) (Q e st)) h
  cases e with
  |
   normal =>
   obtain ⟨e,st2,h3,h4⟩:=rH hk.2 (Q:=Q) h2
   exact ⟨e,st2,.amT h1 h3,h4⟩
  | exit id=>exact ⟨_,_,.aiV (by simp) h1,h2⟩
  | ret=>exact ⟨_,_,.aiV (by simp) h1,h2⟩
 |
  .cond x a b,Q,st,hk,h=>by
  simp only [C.VJ,Bool.and_eq_true] at hk
  obtain ⟨t,e,h⟩:=YC h
  cases t with
  |
   true =>
   obtain ⟨e2,st2,h1,h2⟩:=rH hk.1 (Q:=Q) (by simpa using h)
   exact ⟨e2,st2,.cond e h1,h2⟩
  |
   false =>
   obtain ⟨e2,st2,h1,h2⟩:=rH hk.2 (Q:=Q) (by simpa using h)
   exact ⟨e2,st2,.cond e h1,h2⟩
 |
  .block id c,Q,st,hk,h=>by
  obtain ⟨e,st1,h1,h2⟩:=rH (c:=c) (Q:=fun e st=>Q (VP id e) st) hk h
  exact ⟨_,_,.block h1,h2⟩
 | .loop c,Q,st,_,h=>h
 | .exit id,Q,st,_,h=>⟨_,_,.exit id st,h⟩
 | .ret,Q,st,_,h=>⟨_,_,.ret st,h⟩
 | .lib _,_,_,_,h=>by simp [wp] at h
def wr {α : Sort _} (a : α) : α:=a
theorem nr {α : Sort _} {a b : α} (h : a = b) : a = b:=h
theorem gV {α : Sort _} (a : α) : wr a = a:=nr rfl
def MJ (σ : Store) (k : Store → Prop) : Prop:=k σ
theorem ai3 (k : Store → Prop) : MJ [] k = k []:=nr rfl
theorem ai4 (a : Option Obj) (σ : Store) (k : Store → Prop) : MJ (a :: σ) k = k (a :: σ):=nr rfl
@[congr] theorem aqt {v v' : Store} {k : Store → Prop} (h : wr v = v') : MJ v k = MJ v' k:=by rw [← h,gV]
def JD (n : Nat) (k : Nat → Prop) : Prop:=k n
theorem afT (n : Nat) (k : Nat → Prop) : JD n k = k n:=nr rfl
@[congr] theorem aqu {v v' : Nat} {k : Nat → Prop} (h : wr v = v') : JD v k = JD v' k:=by rw [← h,gV]
def Yj (t : Bool) (a b : Prop) : Prop:=if t = true then a else b
@[congr] theorem asx {t t' : Bool} {a b : Prop} (h : wr t = t') : Yj t a b = Yj t' a b:=by rw [← h,gV]
theorem ait (a b : Prop) : Yj true a b = a:=by simp [Yj]
theorem aiu (a b : Prop) : Yj false a b = b:=by simp [Yj]
theorem afU (t : Bool) (a b : Prop) : Yj (!t) a b = Yj t b a:=by cases t <;> simp [Yj]
theorem aG {c : Prop} [Decidable c] {a b : Prop} (h1 : c → a) (h2 : ¬ c → b) : Yj (decide c) a b:=by
 unfold Yj
 by_cases h : c
 ·rw [if_pos (decide_eq_true h)];exact h1 h
 ·rw [if_neg (by simpa using h)];exact h2 h
def xU (v : V) (k : V → Prop) : Prop:=k v
theorem ai5 (v : V) (k : V → Prop) : xU v k = k v:=nr rfl
@[congr] theorem asy {v v' : V} {k : V → Prop} (h : wr v = v') : xU v k = xU v' k:=by rw [← h,gV]
@[congr] theorem aqv {α : Type} {v v' : Option α} {k : α → Prop} (h : wr v = v') : dJ v k = dJ v' k:=by rw [← h,gV]
@[congr] theorem anc {v v' : V} {k : Bool → Prop} (h : wr v = v') : H7 v k = H7 v' k:=by rw [← h,gV]
@[congr] theorem asz {w : Bool} {v v' : V} {k : Bool → Prop} (h : wr v = v') : gdK w v k = gdK w v' k:=by rw [← h,gV]
@[congr] theorem aqw {v v' : List Nat} {k : List Nat → Prop} (h : wr v = v') : KD v k = KD v' k:=by rw [← h,gV]
@[congr] theorem amI {n n' : Nat} {v v' : V} {k : Nat → Prop} (h0 : wr n = n') (h : wr v = v') : oM n v k = oM n' v' k:=by rw [← h0,← h,gV,gV]
@[congr] theorem aiv {n n' : Nat} {v v' : V} {k : Nat → Prop} (h0 : wr n = n') (h : wr v = v') : jE n v k = jE n' v' k:=by rw [← h0,← h,gV,gV]
@[congr] theorem aqx {op : BinOp} {x x' y y' : V} {k : V → Prop} (h0 : wr x = x') (h : wr y = y') : pI op x y k = pI op x' y' k:=by rw [← h0,← h,gV,gV]
@[congr] theorem asA {T : Tb} {f : Nat} {as as' : List V} {k : V → Prop} (h : wr as = as') : PFK T f as k = PFK T f as' k:=by rw [← h,gV]
@[congr] theorem aqy {T : Tb} {f f' : Nat} {as : List Src} {d : Option Nat} {st : St} {k : St → Prop} (h : wr f = f') : Jz T f as d st k = Jz T f' as d st k:=by rw [← h,gV]
@[congr] theorem ane {T T' : Tb} {c : C} {Q : Ex → St → Prop} {st : St} (h : wr T = T') : NQ T c Q st = NQ T' c Q st:=by rw [← h,gV]
@[congr] theorem asB {L : Nat} {ops : List fP} {l l' : List Acc} (h : wr l = l') : jl L ops l = jl L ops l':=by rw [← h,gV]
@[congr] theorem aqz {T : Tb} {f f' : Nat} {as : List Src} {d : Option Nat} {st : St} {k : List Nat → List Nat → Bool → St → Prop} (h : wr f = f') : YE T f as d st k = YE T f' as d st k:=by rw [← h,gV]
theorem abk {α : Type} (a : α) (k : α → Prop) : dJ (some a) k = k a:=nr rfl
theorem anf (want b : Bool) (k : Bool → Prop) : gdK want (.bool b) k = k b:=nr rfl
theorem ang (want : Bool) (k : Bool → Prop) : gdK want (.eF []) k = k (!want):=nr rfl
theorem afV (b : Bool) (k : Bool → Prop) : H7 (.bool b) k = k b:=nr rfl
theorem ac6 (k : List Nat → Prop) : KD [] k = k []:=nr rfl
theorem abl (a : Nat) (l : List Nat) (k : List Nat → Prop) : KD (a :: l) k = k (a :: l):=nr rfl
theorem abm {n : Nat} {q : IntKind} {i : Int} {k : Nat → Prop} (h : 0 ≤ i ∧ i < n) : oM n (.int q i) k = k i.toNat:=by
 simp [oM,h]
theorem Wp {n : Nat} {q : IntKind} {i : Int} {k : Nat → Prop} (h : 0 ≤ i ∧ i ≤ n) : jE n (.int q i) k = k i.toNat:=by
 simp [jE,h]
theorem w64 {n : Int} (h : -9223372036854775808 ≤ n ∧ n ≤ 9223372036854775807) : IntKind.i64.wrap n = n:=IntWalk.i64_in n h
theorem asC {n : Int} (h : 0 ≤ n ∧ n ≤ 4294967295) : IntKind.u32.wrap n = n:=IntWalk.u32_in n h
theorem asD {n : Int} (h : 0 ≤ n ∧ n ≤ 18446744073709551615) : IntKind.u64.wrap n = n:=IntWalk.u64_in n h
theorem w8u {n : Int} (h : 0 ≤ n ∧ n ≤ 255) : IntKind.u8.wrap n = n:=IntWalk.u8_in n h
theorem asE (n : Nat) (env : Nat → V) : Src.ev env (.t n) = env n:=nr rfl
theorem asF (v : V) (env : Nat → V) : Src.ev env (.c v) = v:=nr rfl
theorem abn (env : Nat → V) (v : V) : dV env none v = env:=nr rfl
theorem afW (env : Nat → V) (t : Nat) (v : V) (s : Nat) : dV env (some t) v s = if s = t then v else env s:=nr rfl
theorem ai6 (env : Nat → V) (t : Nat) (v : V) (s : Nat) : upd env t v s = if s = t then v else env s:=nr rfl
theorem ai7 (a : V) (l : List V) : bM (a :: l) 0 = a:=nr rfl
theorem ai8 (a : V) (l : List V) (n : Nat) : bM (a :: l) (n + 1) = bM l n:=nr rfl
theorem ai9 (n : Nat) : bM [] n = .any:=nr rfl
theorem afX (a : Option Obj) (l : Store) : aj (a :: l) 0 = a:=nr rfl
theorem afY (a : Option Obj) (l : Store) (n : Nat) : aj (a :: l) (n + 1) = aj l n:=nr rfl
theorem afZ (n : Nat) : aj [] n = none:=nr rfl
theorem anh (a : Option Obj) (l : Store) (x : Option Obj) : List.set (a :: l) 0 x = x :: l:=nr rfl
theorem ani (a : Option Obj) (l : Store) (n : Nat) (x : Option Obj) : List.set (a :: l) (n + 1) x = a :: List.set l n x:=nr rfl
theorem aja (σ : Store) : Wn σ 0 = σ:=by simp [Wn]
theorem ajb (σ : Store) (n : Nat) : Wn σ (n + 1) = Wn (σ ++ [none]) n:=by simp [Wn,List.replicate_succ]
theorem ac7 (args : List V) (σ : Store) : St.enter args σ = ⟨bM args,σ,σ.length,0,[],[]⟩:=nr rfl
theorem ac8 (σ : Store) : cZ σ [] = σ:=nr rfl
theorem abo (σ : Store) (o : Nat) (l : List Nat) : cZ σ (o :: l) = cZ (σ.set o none) l:=nr rfl
section
variable (T : Tb) (rf : Nat → Nat → Bool) (Q : Ex → St → Prop) (st : St) (k : St → Prop) (env : Nat → V) (σ : Store) (kp bs : Nat) (rs ms : List Nat)
def goK (st : St) (d : Option Nat) (id : Nat) (ef : Eff) (k : St → Prop) : Prop:=k (ef.go st d id)
@[congr] theorem asG {st : St} {d : Option Nat} {id id' : Nat} {ef : Eff} {k : St → Prop} (h : wr id = id') : goK st d id ef k = goK st d id' ef k:=by rw [← h,gV]
theorem anj (t id : Nat) (v : V) : goK ⟨env,σ,kp,bs,rs,ms⟩ (some t) id (.val v) k = k ⟨upd env t v,σ,kp,bs,rs,ms⟩:=nr rfl
theorem ajc (id : Nat) (v : V) : goK ⟨env,σ,kp,bs,rs,ms⟩ none id (.val v) k = k ⟨env,σ,kp,bs,rs,ms⟩:=nr rfl
theorem ank (t id : Nat) (ob : Obj) : goK ⟨env,σ,kp,bs,rs,ms⟩ (some t) id (.newP ob) k = MJ (σ.set id (some ob)) fun σ=>k ⟨upd env t (.ptr id 0 0),σ,kp,bs,rs,ms⟩:=nr rfl
theorem anl (t id : Nat) (ob : Obj) (n : Nat) : goK ⟨env,σ,kp,bs,rs,ms⟩ (some t) id (.newS ob n) k = MJ (σ.set id (some ob)) fun σ=>k ⟨upd env t (.bC id 0 n),σ,kp,bs,rs,ms⟩:=nr rfl
theorem anm (id o : Nat) (ob : Obj) : goK ⟨env,σ,kp,bs,rs,ms⟩ none id (.upd o ob) k = MJ (σ.set o (some ob)) fun σ=>k ⟨env,σ,kp,bs,rs,ms⟩:=nr rfl
theorem ano (t id o : Nat) (ob : Obj) (n : Nat) : goK ⟨env,σ,kp,bs,rs,ms⟩ (some t) id (.bZ o ob n) k = MJ ((σ.set o none).set id (some ob)) fun σ=>k ⟨upd env t (.bC id 0 n),σ,kp,bs,rs,ms⟩:=nr rfl
theorem wp_skip : wp T rf .skip Q st = Q .normal st:=nr rfl
theorem af0 (m : Nat) (l : List fP) : wp T rf (.reg false m l) Q ⟨env,σ,kp,bs,rs,ms⟩ = JD σ.length fun b=>MJ (Wn σ m) fun σ=>YD T rf l ⟨env,σ,kp,b,[],[]⟩ (Q .normal):=nr rfl
theorem af2 (m : Nat) (l : List fP) : wp T rf (.reg true m l) Q ⟨env,σ,kp,bs,rs,ms⟩ = JD σ.length fun b=>MJ (Wn σ m) fun σ=>if (EF l && FM rf l) = true then ED T l ⟨env,σ,kp,b,[],[]⟩ (Q .normal) else JD σ.length fun L=>JA T rf L l l 0 [] ⟨env,σ,kp,b,[],[]⟩ (Q .normal):=nr rfl
theorem wp_seq (a b : C) : wp T rf (.seq a b) Q st = wp T rf a (fun e st=>Uo e (wp T rf b Q st) (Q e st)) st:=nr rfl
theorem wp_cond (x : Src) (a b : C) : wp T rf (.cond x a b) Q st = H7 (x.ev st.env) fun t=>if t = true then wp T rf a Q st else wp T rf b Q st:=nr rfl
theorem ac9 (x : Src) (a b : C) : wp T rf (.cond x a b) Q ⟨env,σ,kp,bs,rs,ms⟩ = H7 (x.ev env) fun t=>Yj t (wp T rf a Q ⟨env,σ,kp,bs,rs,ms⟩) (wp T rf b Q ⟨env,σ,kp,bs,rs,ms⟩):=nr rfl
theorem wp_block (id : Nat) (c : C) : wp T rf (.block id c) Q st = wp T rf c (fun e st=>Q (VP id e) st) st:=nr rfl
theorem wp_loop (c : C) : wp T rf (.loop c) Q st = NQ T c Q st:=nr rfl
theorem wp_exit (id : Nat) : wp T rf (.exit id) Q st = Q (.exit id) st:=nr rfl
theorem wp_ret : wp T rf .ret Q st = Q .ret st:=nr rfl
theorem ajd (a b : Prop) : Uo .normal a b = a:=nr rfl
theorem aje (id : Nat) (a b : Prop) : Uo (.exit id) a b = b:=nr rfl
theorem ajf (a b : Prop) : Uo .ret a b = b:=nr rfl
theorem ajg (id : Nat) : VP id .normal = .normal:=nr rfl
theorem ajh (id : Nat) : VP id .ret = .ret:=nr rfl
theorem aji (id j : Nat) : VP id (.exit j) = if j = id then .normal else .exit j:=nr rfl
theorem ajj : YD T rf [] st k = k st:=nr rfl
theorem ajk (o : fP) (l : List fP) : YD T rf (o :: l) st k = opK T rf o st fun st=>YD T rf l st k:=nr rfl
theorem ajl (g : Option (Nat × Bool)) (d : Option Nat) (n : Nat) (i : I) (a : List Nat) : opK T rf ⟨g,d,n,i,a⟩ ⟨env,σ,kp,bs,rs,ms⟩ k = gK g env (match i with
  | .call f as=>if rf f (dN d) = true then Jz T f as d ⟨env,σ,kp,bs,rs,ms⟩ k else EC env σ as fun as'=>PFK T f as' fun r =>
    MJ (cZ σ (if scalar SD r then [] else dh env σ as)) fun σ=>k ⟨dV env d r,σ,kp,bs,rs,ms⟩
  | i=>JD (bs + n) fun id=>i.dQ env σ fun ef=>goK ⟨env,σ,kp,bs,rs,ms⟩ d id ef k)
  (k ⟨dV env d (.eF []),σ,kp,bs,rs,ms⟩):=by cases i <;> rfl
theorem af4 : ED T [] st k = k st:=nr rfl
theorem af5 (g : Option (Nat × Bool)) (d : Option Nat) (n : Nat) (i : I) (a : List Nat) (l : List fP) : ED T (⟨g,d,n,i,a⟩ :: l) ⟨env,σ,kp,bs,rs,ms⟩ k = gK g env (match i with
  | .call f as=>EC env σ as fun as'=>PFK T f as' fun r=>KD (dh env σ as) fun R =>
    (R = [] ∨ scalar SD r = true) ∧ ED T l ⟨dV env d r,σ,kp,bs,rs,ms⟩ k
  | x=>x.dQ env σ fun ef=>afS ef fun v=>ED T l ⟨dV env d v,σ,kp,bs,rs,ms⟩ k)
  (ED T l ⟨dV env d (.eF []),σ,kp,bs,rs,ms⟩ k):=by cases i <;> rfl
theorem ajm (L : Nat) (ops : List fP) (i : Nat) (acc : List Acc) : JA T rf L ops [] i acc st k = (jl L ops acc ∧ k st):=nr rfl
theorem ajn (L : Nat) (ops : List fP) (g : Option (Nat × Bool)) (d : Option Nat) (n : Nat) (x : I) (a : List Nat) (l : List fP) (i : Nat) (acc : List Acc) : JA T rf L ops (⟨g,d,n,x,a⟩ :: l) i acc ⟨env,σ,kp,bs,rs,ms⟩ k = gK g env (match x with
  | .call f as=>if rf f (dN d) = true then YE T f as d ⟨env,σ,kp,bs,rs,ms⟩ fun R W n st=>JD (i + 1) fun j=>JA T rf L ops l j (⟨i,R,W,n⟩ :: acc) st k
    else EC env σ as fun as'=>PFK T f as' fun r=>KD (dh env σ as) fun R =>
    (R = [] ∨ scalar SD r = true) ∧ JD (i + 1) fun j=>JA T rf L ops l j (⟨i,R,[],false⟩ :: acc) ⟨dV env d r,σ,kp,bs,rs,ms⟩ k
  | x
    => KD (x.reads env) fun R=>JD (bs + n) fun id=>x.dQ env σ fun ef=>KD (ef.wr id) fun W=>JD (i + 1) fun j =>
    goK ⟨env,σ,kp,bs,rs,ms⟩ d id ef fun st=>JA T rf L ops l j (⟨i,R,W,false⟩ :: acc) st k)
  (JD (i + 1) fun j=>JA T rf L ops l j (⟨i,[],[],false⟩ :: acc) ⟨dV env d (.eF []),σ,kp,bs,rs,ms⟩ k):=by cases x <;> rfl
end
theorem asH (env : Nat → V) (a b : Prop) : gK none env a b = a:=nr rfl
theorem asI (t : Nat) (env : Nat → V) (on off : Prop) : gK (some (t,true)) env on off = gdK true (env t) fun b=>Yj b on off:=nr rfl
theorem asJ (t : Nat) (env : Nat → V) (on off : Prop) : gK (some (t,false)) env on off = gdK false (env t) fun b=>Yj b off on:=nr rfl
theorem ajo (v : V) (k : V → Prop) : afS (.val v) k = k v:=nr rfl
theorem asK (v : V) (id : Nat) : Eff.wr id (.val v) = []:=nr rfl
theorem asL (ob : Obj) (id : Nat) : Eff.wr id (.newP ob) = [id]:=nr rfl
theorem asM (ob : Obj) (n : Nat) (id : Nat) : Eff.wr id (.newS ob n) = [id]:=nr rfl
theorem asN (ob : Obj) (o : Nat) (id : Nat) : Eff.wr id (.upd o ob) = [o]:=nr rfl
theorem asO (ob : Obj) (o n : Nat) (id : Nat) : Eff.wr id (.bZ o ob n) = [o,id]:=nr rfl
def iZ (v : V) (k : List V → Prop) : Prop:=dJ v.cells? k
@[congr] theorem amJ {v v' : V} {k : List V → Prop} (h : wr v = v') : iZ v k = iZ v' k:=by rw [← h,gV]
theorem YG (q : IntKind) (n : Int) (k : List V → Prop) : iZ (.int q n) k = k [.int q n]:=nr rfl
theorem Wq (b : Bool) (k : List V → Prop) : iZ (.bool b) k = k [.bool b]:=nr rfl
theorem YH (s : List UInt8) (k : List V → Prop) : iZ (.str s) k = k [.str s]:=nr rfl
theorem Ws (k : List V → Prop) : iZ .ak k = k [.ak]:=nr rfl
theorem YI (k : List V → Prop) : iZ .one k = k [.one]:=nr rfl
theorem abp (sz : Nat) (r : List (List V)) (k : List V → Prop) : iZ (.sl sz r) k = k [.sl sz r]:=nr rfl
theorem YJ (o s l : Nat) (k : List V → Prop) : iZ (.bC o s l) k = k [.bC o s l]:=nr rfl
theorem YK (o s l : Nat) (k : List V → Prop) : iZ (.ptr o s l) k = k [.ptr o s l]:=nr rfl
theorem Wu (r : List V) (o : Nat) (k : List V → Prop) : iZ (.fB r o) k = k [.fB r o]:=nr rfl
theorem YL (cs : List V) (k : List V → Prop) : iZ (.agg cs) k = if cs.all V.leaf = true then k cs else False:=by
 simp only [iZ,V.cells?];split <;> rfl
def Wv (σ : Store) (v : V) (k : Nat → Nat → Nat → Prop) (kf : List V → Nat → Prop) : Prop:=match v with
 | .ptr o r off=>k o r off
 | .fB row off=>kf row off
 | _=>False
@[congr] theorem aqA {σ : Store} {v v' : V} {k : Nat → Nat → Nat → Prop} {kf : List V → Nat → Prop} (h : wr v = v') : Wv σ v k kf = Wv σ v' k kf:=by rw [← h,gV]
theorem ajp (σ : Store) (o r off : Nat) (k : Nat → Nat → Nat → Prop) (kf : List V → Nat → Prop) : Wv σ (.ptr o r off) k kf = k o r off:=nr rfl
theorem ajq (σ : Store) (r : List V) (off : Nat) (k : Nat → Nat → Nat → Prop) (kf : List V → Nat → Prop) : Wv σ (.fB r off) k kf = kf r off:=nr rfl
def slK (v : V) (kn : Prop) (kf : Nat → List (List V) → Prop) (km : Nat → Nat → Nat → Prop) : Prop:=match v with
 | .ak=>kn
 | .sl sz rows=>kf sz rows
 | .bC o s l=>km o s l
 | _=>False
@[congr] theorem asP {v v' : V} {kn : Prop} {kf : Nat → List (List V) → Prop} {km : Nat → Nat → Nat → Prop} (h : wr v = v') : slK v kn kf km = slK v' kn kf km:=by rw [← h,gV]
theorem anp (kn : Prop) (kf : Nat → List (List V) → Prop) (km : Nat → Nat → Nat → Prop) : slK .ak kn kf km = kn:=nr rfl
theorem anq (sz : Nat) (r : List (List V)) (kn : Prop) (kf : Nat → List (List V) → Prop) (km : Nat → Nat → Nat → Prop) : slK (.sl sz r) kn kf km = kf sz r:=nr rfl
theorem anr (o s l : Nat) (kn : Prop) (kf : Nat → List (List V) → Prop) (km : Nat → Nat → Nat → Prop) : slK (.bC o s l) kn kf km = km o s l:=nr rfl
def Wx (v : V) (k : IntKind → Int → Prop) : Prop:=match v with
 | .int q n=>k q n
 | _=>False
@[congr] theorem aqB {v v' : V} {k : IntKind → Int → Prop} (h : wr v = v') : Wx v k = Wx v' k:=by rw [← h,gV]
theorem ajr (q : IntKind) (n : Int) (k : IntKind → Int → Prop) : Wx (.int q n) k = k q n:=nr rfl
def abq (v : V) (k : List UInt8 → Prop) : Prop:=match v with
 | .str s=>k s
 | _=>False
@[congr] theorem aqC {v v' : V} {k : List UInt8 → Prop} (h : wr v = v') : abq v k = abq v' k:=by rw [← h,gV]
theorem ajs (s : List UInt8) (k : List UInt8 → Prop) : abq (.str s) k = k s:=nr rfl
def af6 (v : V) (k : List V → Prop) : Prop:=match v with
 | .eF s=>k s
 | _=>False
@[congr] theorem aqD {v v' : V} {k : List V → Prop} (h : wr v = v') : af6 v k = af6 v' k:=by rw [← h,gV]
def af7 (v : V) (k : List V → Prop) : Prop:=match v with
 | .agg s=>k s
 | _=>False
@[congr] theorem aqE {v v' : V} {k : List V → Prop} (h : wr v = v') : af7 v k = af7 v' k:=by rw [← h,gV]
theorem ajt (s : List V) (k : List V → Prop) : af7 (.agg s) k = k s:=nr rfl
theorem aju (s : List V) (k : List V → Prop) : af6 (.eF s) k = k s:=nr rfl
section
variable (env : Nat → V) (σ : Store) (k : Eff → Prop)
theorem ant (x : Src) : I.dQ env σ (.bZ x) k = xU (x.ev env) fun v=>k (.val v):=nr rfl
theorem ajv (c a b : Src) : I.dQ env σ (.pick c a b) k = H7 (c.ev env) fun t=>Yj t (xU (a.ev env) fun v=>k (.val v)) (xU (b.ev env) fun v=>k (.val v)):=by
 simp only [I.dQ];cases c.ev env with | bool t=>cases t <;> rfl | _=>rfl
theorem af8 (z : List V) : I.dQ env σ (.alloc z) k = k (.newP ⟨z.length,[z]⟩):=nr rfl
theorem anu (x : Src) : I.dQ env σ (.box x) k = iZ (x.ev env) fun cs=>match cs with | c :: cs=>k (.newP ⟨(c :: cs).length,[c :: cs]⟩) | []=>False:=by
 simp only [I.dQ,iZ];cases (x.ev env).cells? with | none=>rfl | some cs=>cases cs <;> rfl
theorem af9 (z : List V) (ps : List (Nat × Nat × Src)) : I.dQ env σ (.build z ps) k = dJ (tK env z ps) fun cs=>k (.val (.agg cs)):=nr rfl
theorem ajw (sz : Nat) (z : List V) (ln : Nat) (ps : List (Nat × Src)) : I.dQ env σ (.eG sz z ln ps) k =
  dJ (jU env sz (List.replicate ln z) ps) fun rows=>if ln = 0 then k (.val .ak) else k (.newS ⟨sz,rows⟩ ln):=nr rfl
theorem ajx (z : List V) (b : Nat) (x : Src) : I.dQ env σ (.make z b x) k = Wx (x.ev env) fun q n=>match q with
  | .i64=>(0 ≤ n ∧ n ≤ 2 ^ 47 ∧ n * b ≤ 2 ^ 47) ∧ k (.newS ⟨z.length,List.replicate n.toNat z⟩ n.toNat) | _=>False:=by
 simp only [I.dQ];cases x.ev env with | int q n=>cases q <;> rfl | _=>rfl
theorem aga (n : Nat) (a : Src) : I.dQ env σ (.load n false a) k = dJ (rowAt σ (a.ev env)) fun p=>dJ p.1[p.2]? fun v=>xU v fun v=>k (.val v):=nr rfl
theorem agb (n : Nat) (a : Src) : I.dQ env σ (.load n true a) k = dJ (rowAt σ (a.ev env)) fun p=>p.2 + n ≤ p.1.length ∧ xU (.agg ((p.1.drop p.2).take n)) fun v=>k (.val v):=nr rfl
theorem
    agc (n : Nat) (a x : Src) : I.dQ env σ (.store n a x) k = Wv σ (a.ev env) (fun o r off=>iZ (x.ev env) fun cs=>dJ (aj σ o) fun ob=>dJ ob.rows[r]? fun row =>
    (cs.length = n ∧ off + n ≤ row.length) ∧ k (.upd o ⟨ob.sz,ob.rows.set r (splice row off cs)⟩)) fun _ _=>False:=by
 simp only [I.dQ];cases a.ev env <;> rfl
theorem anv (d : Nat) (a : Src) : I.dQ env σ (.fld d a) k = Wv σ (a.ev env) (fun o r off=>dJ (aj σ o) fun _=>xU (.ptr o r (off + d)) fun v=>k (.val v)) fun row off=>xU (.fB row (off + d)) fun v=>k (.val v):=by
 simp only [I.dQ];cases a.ev env <;> rfl
theorem anw (sz : Nat) (x i : Src) : I.dQ env σ (.idx sz x i) k = slK (x.ev env) False (fun sz' rows=>oM rows.length (i.ev env) fun j=>sz' = sz ∧ xU (.fB (rows.getD j []) 0) fun v=>k (.val v))
  (fun o s l=>dJ (aj σ o) fun ob=>oM l (i.ev env) fun j=>ob.sz = sz ∧ xU (.ptr o (s + j) 0) fun v=>k (.val v)):=by
 simp only [I.dQ];cases x.ev env <;> rfl
theorem ajy (c sz : Nat) (x i : Src) : I.dQ env σ (.Ue c sz x i) k = Wv σ (x.ev env) (fun o r off=>oM c (i.ev env) fun j=>dJ (aj σ o) fun _=>xU (.ptr o r (off + j * sz)) fun v=>k (.val v))
  fun row off=>oM c (i.ev env) fun j=>xU (.fB row (off + j * sz)) fun v=>k (.val v):=by
 simp only [I.dQ];cases x.ev env <;> rfl
theorem ajz (x i : Src) : I.dQ env σ (.VL x i) k = abq (x.ev env) fun s=>oM s.length (i.ev env) fun j=>xU (.int .u8 (s.getD j 0).toNat) fun v=>k (.val v):=by
 simp only [I.dQ];cases x.ev env <;> rfl
theorem ajA (c : Nat) (x i : Src) : I.dQ env σ (.VO c x i) k = af7 (x.ev env) fun cs=>oM c (i.ev env) fun j=>dJ cs[j]? fun v=>xU v fun v=>k (.val v):=by
 simp only [I.dQ];cases x.ev env <;> rfl
theorem anx (x : Src) : I.dQ env σ (.len x) k = dJ (lenOf σ (x.ev env)) fun n=>xU (.int .i64 n) fun v=>k (.val v):=nr rfl
theorem ajB (x : Src) : I.dQ env σ (.VN x) k = abq (x.ev env) fun s=>xU (.int .i64 s.length) fun v=>k (.val v):=by
 simp only [I.dQ];cases x.ev env <;> rfl
theorem anz (op : BinOp) (x y : Src) : I.dQ env σ (.bin op x y) k = pI op (x.ev env) (y.ev env) fun v=>xU v fun v=>k (.val v):=nr rfl
theorem anA (ne : Bool) (x y : Src) : I.dQ env σ (.beq ne x y) k = H7 (x.ev env) fun a=>H7 (y.ev env) fun b=>xU (.bool (if ne = true then !(a == b) else a == b)) fun v=>k (.val v):=by
 simp only [I.dQ];cases x.ev env <;> first | rfl | (cases y.ev env <;> rfl)
theorem anB (x : Src) : I.dQ env σ (.un .not x) k = H7 (x.ev env) fun a=>xU (.bool (!a)) fun v=>k (.val v):=by
 simp only [I.dQ];cases x.ev env <;> rfl
theorem anC (x : Src) : I.dQ env σ (.un .neg x) k = Wx (x.ev env) fun q n=>xU (.int q (q.wrap (0 - n))) fun v=>k (.val v):=by
 simp only [I.dQ];cases x.ev env <;> rfl
theorem ajC (q : IntKind) (x : Src) : I.dQ env σ (.conv q x) k = Wx (x.ev env) fun _ n=>xU (.int q (q.wrap n)) fun v=>k (.val v):=by
 simp only [I.dQ];cases x.ev env <;> rfl
theorem anD (x y : Src) : I.dQ env σ (.max x y) k = Wx (x.ev env) fun q a=>Wx (y.ev env) fun q' b=>q = q' ∧ xU (.int q (if b > a then b else a)) fun v=>k (.val v):=by
 simp only [I.dQ];cases x.ev env <;> first | rfl | (cases y.ev env <;> rfl)
theorem ajD (i : Nat) (x : Src) : I.dQ env σ (.Rt i x) k = af6 (x.ev env) fun vs=>dJ vs[i]? fun v=>xU v fun v=>k (.val v):=by
 simp only [I.dQ];cases x.ev env <;> rfl
theorem anE (x : Src) : I.dQ env σ (.chk x) k = Wv σ (x.ev env) (fun o r off=>dJ (aj σ o) fun _=>k (.val (.ptr o r off))) fun row off=>k (.val (.fB row off)):=by
 simp only [I.dQ];cases x.ev env <;> rfl
theorem anF (sz b : Nat) (x y : Src) : I.dQ env σ (.app sz b x y) k = xU (x.ev env) fun xv=>dJ (rowsOf σ xv) fun old=>dJ (rowsOf σ (y.ev env)) fun new =>
  (new.2 = [] → k (.val xv)) ∧ (new.2 ≠ [] → (new.1 = sz ∧ (old.2.length + new.2.length) * b ≤ 2 ^ 40 ∧ old.2.length + new.2.length ≤ 2 ^ 40) ∧
   slK xv (k (.newS ⟨sz,new.2⟩ new.2.length)) (fun _ _=>False) fun o _ _=>dJ (aj σ o) fun ob=>ob.sz = sz ∧ k (.bZ o ⟨sz,old.2 ++ new.2⟩ (old.2.length + new.2.length))):=by
 simp only [I.dQ,xU];cases x.ev env <;> rfl
end
section
variable (k : V → Prop) (q : IntKind) (a b : Int)
theorem anG : pI .add (.int q a) (.int q b) k = k (.int q (q.wrap (a + b))):=by simp [pI]
theorem anH : pI .sub (.int q a) (.int q b) k = k (.int q (q.wrap (a - b))):=by simp [pI]
theorem anI : pI .mul (.int q a) (.int q b) k = k (.int q (q.wrap (a * b))):=by simp [pI]
theorem anJ {b : Int} (h : b ≠ 0) : pI .quo (.int q a) (.int q b) k = k (.int q (q.wrap (a.tdiv b))):=by simp [pI,h]
theorem anK {b : Int} (h : b ≠ 0) : pI .rem (.int q a) (.int q b) k = k (.int q (a.tmod b)):=by simp [pI,h]
theorem anL : pI .eql (.int q a) (.int q b) k = k (.bool (decide (a = b))):=by simp [pI];rfl
theorem anM : pI .neq (.int q a) (.int q b) k = k (.bool (!decide (a = b))):=by simp [pI,bne];rfl
theorem anN : pI .lss (.int q a) (.int q b) k = k (.bool (decide (a < b))):=by simp [pI]
theorem anO : pI .leq (.int q a) (.int q b) k = k (.bool (decide (a ≤ b))):=by simp [pI]
theorem anP : pI .gtr (.int q a) (.int q b) k = k (.bool (decide (b < a))):=by simp [pI]
theorem anQ : pI .geq (.int q a) (.int q b) k = k (.bool (decide (b ≤ a))):=by simp [pI]
theorem anR (q' : IntKind) (h : 0 ≤ b) : pI .shr (.int q a) (.int q' b) k = k (.int q (a.fdiv (2 ^ (min b.toNat q.bits)))):=by simp [pI,h]
theorem anS : pI .and (.int q a) (.int q b) k = k (.int q (OA q a b)):=by simp [pI]
theorem anT : pI .xor (.int q a) (.int q b) k = k (.int q (OB q a b)):=by simp [pI]
theorem ajE (s t : List UInt8) : pI .eql (.str s) (.str t) k = k (.bool (s == t)):=nr rfl
theorem ajF (s t : List UInt8) : pI .neq (.str s) (.str t) k = k (.bool (!(s == t))):=nr rfl
end
theorem agd (σ : Store) (row : List V) (off : Nat) : rowAt σ (.fB row off) = some (row,off):=nr rfl
theorem agf (σ : Store) (o r off : Nat) : rowAt σ (.ptr o r off) = match aj σ o with | some ob=>(ob.rows[r]?).map (·,off) | none=>none:=nr rfl
theorem agh (σ : Store) : lenOf σ .ak = some 0:=nr rfl
theorem agi (σ : Store) (sz : Nat) (rows : List (List V)) : lenOf σ (.sl sz rows) = some rows.length:=nr rfl
theorem agj (σ : Store) (o s l : Nat) : lenOf σ (.bC o s l) = (aj σ o).map fun _=>l:=nr rfl
theorem ada (σ : Store) : rowsOf σ .ak = some (0,[]):=nr rfl
theorem adb (σ : Store) (sz : Nat) (rows : List (List V)) : rowsOf σ (.sl sz rows) = some (sz,rows):=nr rfl
theorem ade (σ : Store) (o s l : Nat) : rowsOf σ (.bC o s l) = match aj σ o with
  | some ob=>if s + l ≤ ob.rows.length then some (ob.sz,(ob.rows.drop s).take l) else none
  | none=>none:=nr rfl
theorem ajG (env : Nat → V) (σ : Store) (k : List V → Prop) : EC env σ [] k = k []:=nr rfl
theorem ajH (env : Nat → V) (σ : Store) (s : Src) (as : List Src) (k : List V → Prop) : EC env σ (s :: as) k = xU (s.ev env) fun v=>dJ (resolve σ FD v) fun v=>EC env σ as fun vs=>k (v :: vs):=nr rfl
def Oc (σ : Store) : List V → Option (List V)
 | []=>some []
 |
  c :: cs=>match resolve σ 11 c with
  |
   some d=>match Oc σ cs with
   | some ds=>some (d :: ds)
   | none=>none
  | none=>none
theorem Ur (σ : Store) : ∀ cs,cs.mapM (resolve σ 11) = Oc σ cs
 | []=>rfl
 |
  c :: cs=>by
  simp only [List.mapM_cons,Oc,Ur σ cs]
  cases resolve σ 11 c with
  | none=>rfl
  | some d=>cases Oc σ cs <;> rfl
theorem anU (σ : Store) (q : IntKind) (n : Int) : resolve σ FD (.int q n) = some (.int q n):=nr rfl
theorem ajI (σ : Store) (b : Bool) : resolve σ FD (.bool b) = some (.bool b):=nr rfl
theorem anV (σ : Store) (s : List UInt8) : resolve σ FD (.str s) = some (.str s):=nr rfl
theorem ajJ (σ : Store) : resolve σ FD .ak = some .ak:=nr rfl
theorem anW (σ : Store) : resolve σ FD .one = some .one:=nr rfl
theorem asQ (σ : Store) (sz : Nat) (r : List (List V)) : resolve σ FD (.sl sz r) = some (.sl sz r):=nr rfl
theorem ajK (σ : Store) (r : List V) (o : Nat) : resolve σ FD (.fB r o) = some (.fB r o):=nr rfl
theorem anX (σ : Store) (cs : List V) : resolve σ FD (.agg cs) = (Oc σ cs).map .agg:=by rw [← Ur];rfl
theorem anY (σ : Store) (cs : List V) : resolve σ FD (.eF cs) = (Oc σ cs).map .eF:=by rw [← Ur];rfl
theorem ajL (σ : Store) : Oc σ [] = some []:=nr rfl
theorem ajM (σ : Store) (c : V) (cs : List V) : Oc σ (c :: cs) = match resolve σ 11 c with
  |
   some d=>match Oc σ cs with
   | some ds=>some (d :: ds)
   | none=>none
  | none=>none:=nr rfl
theorem ajN (σ : Store) (q : IntKind) (n : Int) : resolve σ 11 (.int q n) = some (.int q n):=nr rfl
theorem agk (σ : Store) (b : Bool) : resolve σ 11 (.bool b) = some (.bool b):=nr rfl
theorem ajO (σ : Store) (s : List UInt8) : resolve σ 11 (.str s) = some (.str s):=nr rfl
theorem agl (σ : Store) : resolve σ 11 .ak = some .ak:=nr rfl
theorem ajP (σ : Store) : resolve σ 11 .one = some .one:=nr rfl
theorem anZ (σ : Store) (sz : Nat) (r : List (List V)) : resolve σ 11 (.sl sz r) = some (.sl sz r):=nr rfl
theorem agm (σ : Store) (r : List V) (o : Nat) : resolve σ 11 (.fB r o) = some (.fB r o):=nr rfl
def V.still : V → Bool
 | .one | .int .. | .bool _ | .str _ | .ak | .sl .. | .fB ..=>true
 | _=>false
def dO (rows : List (List V)) : Prop:=∀ r ∈ rows,∀ v ∈ r,v.still = true
theorem MK {σ : Store} {n : Nat} {v : V} (h : v.still = true) : resolve σ (n + 1) v = some v:=by
 cases v <;> first | rfl | cases h
theorem pU {σ : Store} {n : Nat} : ∀ {r : List V},(∀ v ∈ r,v.still = true) → r.mapM (resolve σ (n + 1)) = some r
 | [],_=>rfl
 |
  v :: r,h=>by
  rw [List.mapM_cons,MK (h v (by simp)),pU fun x hx=>h x (by simp [hx])];rfl
theorem pV {σ : Store} {n : Nat} : ∀ {rows : List (List V)},dO rows → (rows.mapM fun (r : List V)=>r.mapM (resolve σ (n + 1))) = some rows
 | [],_=>rfl
 |
  r :: rows,h=>by
  rw [List.mapM_cons,pU (h r (by simp)),pV fun x hx=>h x (by simp [hx])];rfl
theorem dO.part {rows : List (List V)} (h : dO rows) (s l : Nat) : dO ((rows.drop s).take l):=fun r hr=>h r (List.mem_of_mem_drop (List.mem_of_mem_take hr))
theorem asR (env : Nat → V) (σ : Store) : dh env σ [] = []:=nr rfl
theorem asT (env : Nat → V) (σ : Store) (s : Src) (as : List Src) : dh env σ (s :: as) = reach σ FD (s.ev env) ++ dh env σ as:=nr rfl
theorem Du {σ : Store} {n : Nat} {v : V} (h : v.still = true) : reach σ (n + 1) v = []:=by
 cases v <;> first | rfl | cases h
theorem an0 (σ : Store) (q : IntKind) (n : Int) : reach σ FD (.int q n) = []:=nr rfl
theorem ajQ (σ : Store) (b : Bool) : reach σ FD (.bool b) = []:=nr rfl
theorem an1 (σ : Store) (s : List UInt8) : reach σ FD (.str s) = []:=nr rfl
theorem ajR (σ : Store) : reach σ FD .ak = []:=nr rfl
theorem asU (σ : Store) (sz : Nat) (r : List (List V)) : reach σ FD (.sl sz r) = []:=nr rfl
theorem ajS (σ : Store) (r : List V) (o : Nat) : reach σ FD (.fB r o) = []:=nr rfl
def Us (σ : Store) (cs : List V) : List Nat:=cs.flatMap (reach σ 11)
theorem an2 (σ : Store) (cs : List V) : reach σ FD (.agg cs) = Us σ cs:=nr rfl
theorem asV (σ : Store) : Us σ [] = []:=nr rfl
theorem asW (σ : Store) (c : V) (cs : List V) : Us σ (c :: cs) = reach σ 11 c ++ Us σ cs:=nr rfl
theorem ajT (σ : Store) (q : IntKind) (n : Int) : reach σ 11 (.int q n) = []:=nr rfl
theorem agn (σ : Store) (b : Bool) : reach σ 11 (.bool b) = []:=nr rfl
theorem ajU (σ : Store) (s : List UInt8) : reach σ 11 (.str s) = []:=nr rfl
theorem agp (σ : Store) : reach σ 11 .ak = []:=nr rfl
theorem an3 (σ : Store) (sz : Nat) (r : List (List V)) : reach σ 11 (.sl sz r) = []:=nr rfl
theorem agq (σ : Store) (r : List V) (o : Nat) : reach σ 11 (.fB r o) = []:=nr rfl
theorem an4 (q : IntKind) (n : Int) : scalar SD (.int q n) = true:=nr rfl
theorem ajV (b : Bool) : scalar SD (.bool b) = true:=nr rfl
theorem an5 (s : List UInt8) : scalar SD (.str s) = true:=nr rfl
def G6 : List GZ → List V → St → (V → Prop) → Prop
 | [],acc,st,k=>xU (jH acc.reverse) fun v=>dJ (resolve st.objs FD v) k
 | r :: rs,acc,st,k=>dJ (r.get st) fun v=>xU v fun v=>G6 rs (v :: acc) st k
theorem ML {st : St} {k : V → Prop} : ∀ (rs : List GZ) (acc : List V),G6 rs acc st k → dJ (rs.mapM (GZ.get st)) fun vs=>dJ (resolve st.objs FD (jH (acc.reverse ++ vs))) k
 | [],acc,h=>by simpa [dJ,G6,xU] using h
 |
  r :: rs,acc,h=>by
  obtain ⟨v,e,h⟩:=bF h
  have:=ML rs (v :: acc) h
  obtain ⟨vs,e2,h⟩:=bF this
  simp only [List.mapM_cons,e,e2]
  simpa [dJ,wr] using h
def agr (rs : List GZ) (e : Ex) (k : V → Prop) (st : St) : Prop:=match e with
 | .normal=>G6 rs [] st k
 | .ret=>G6 rs [] st k
 | .exit _=>False
theorem ajW (rs : List GZ) (k : V → Prop) (st : St) : agr rs .normal k st = G6 rs [] st k:=nr rfl
theorem ajX (rs : List GZ) (k : V → Prop) (st : St) : agr rs .ret k st = G6 rs [] st k:=nr rfl
theorem ajY (acc : List V) (st : St) (k : V → Prop) : G6 [] acc st k = xU (jH acc.reverse) fun v=>dJ (resolve st.objs FD v) k:=nr rfl
theorem ajZ (t : Nat) (rs : List GZ) (acc : List V) (st : St) (k : V → Prop) : G6 (.tmp t :: rs) acc st k = xU (st.env t) fun v=>G6 rs (v :: acc) st k:=nr rfl
theorem ags (t n : Nat) (rs : List GZ) (acc : List V) (st : St) (k : V → Prop) : G6 (.cell t n false :: rs) acc st k = dJ (rowAt st.objs (st.env t)) fun p=>dJ p.1[p.2]? fun v=>xU v fun v=>G6 rs (v :: acc) st k:=by
 simp only [G6,GZ.get]
 cases rowAt st.objs (st.env t) <;> rfl
theorem an6 (v : V) : jH [v] = v:=nr rfl
theorem an7 (v w : V) : jH [v,w] = .eF [v,w]:=nr rfl
theorem an8 (v w x : V) : jH [v,w,x] = .eF [v,w,x]:=nr rfl
theorem aT {T : Tb} {f : Nat} {F : Fn} {args : List V} {r : V} (rf : Nat → Nat → Bool) (hT : T f = some F)
  (h : wp T rf F.body (fun e st=>agr F.res e (· = r) st) (St.enter args [])) (hl : args.length = F.nargs:=by rfl) (hk : F.body.VJ = true:=by rfl) : PF T f args r:=by
 obtain ⟨e,st',h1,h2⟩:=rH hk h
 have h3 : (e = .normal ∨ e = .ret) ∧ G6 F.res [] st' (· = r):=by
  cases e with
  | normal=>exact ⟨.inl rfl,h2⟩
  | ret=>exact ⟨.inr rfl,h2⟩
  | exit id=>exact h2.elim
 obtain ⟨he,h3⟩:=h3
 have:=ML _ _ h3
 obtain ⟨rs,e1,h4⟩:=bF this
 obtain ⟨r',e2,h5⟩:=bF h4
 subst h5
 exact .frz (.fn hT hl h1 he e1) e2
theorem ah {T : Tb} {f : Nat} {as : List V} {k : V → Prop} {r : V} (h : PF T f as r) (hk : k r) : PFK T f as k:=⟨r,h,hk⟩
def aN (l : List Int) : List (List V):=l.map fun x=>[.int .i64 x]
abbrev ints (l : List Int) : V:=.sl 1 (aN l)
theorem Ak (l : List Int) : (aN l).length = l.length:=by simp [aN]
theorem agt {l : List Int} {j : Nat} (h : j < l.length) : (aN l).getD j [] = [.int .i64 (l.getD j 0)]:=by
 simp [aN,List.getD_eq_getElem?_getD,List.getElem?_eq_getElem h]
theorem aj0 {l : List Int} {j : Nat} (h : j < l.length) : (aN l)[j]? = some [.int .i64 (l.getD j 0)]:=by
 simp [aN,List.getD_eq_getElem?_getD,List.getElem?_eq_getElem h]
theorem aj1 (l : List Int) (j : Nat) (x : Int) : (aN l).set j [.int .i64 x] = aN (l.set j x):=by
 simp only [aN,List.map_set]
theorem FN (n : Nat) (x : Int) : List.replicate n [V.int .i64 x] = aN (List.replicate n x):=by simp [aN]
theorem Ut (l : List Int) (n : Nat) : (aN l).drop n = aN (l.drop n):=by simp [aN]
theorem Uu (l : List Int) (n : Nat) : (aN l).take n = aN (l.take n):=by simp [aN]
theorem nN (l : List Int) : dO (aN l):=by
 intro r hr v hv
 obtain ⟨x,_,rfl⟩:=List.mem_map.1 hr
 simp at hv;subst hv;rfl
theorem agu (a b : V) : splice [a] 0 [b] = [b]:=nr rfl
end Go.Ml
end
section
namespace Go.Ml
theorem PL : ∀ {x y : V},bQ x y → y.leaf = true → x.leaf = true:=by
 intro x y h hl
 cases x <;> first | rfl | skip
 ·simp only [bQ] at h;subst h;exact hl
 ·simp only [bQ] at h;obtain ⟨_,rfl,_⟩:=h;exact hl
 ·simp only [bQ] at h;obtain ⟨_,rfl,_⟩:=h;exact hl
theorem Wy : ∀ {xs ys : List V},oJ xs ys → xs.length = ys.length
 | [],ys,h=>by simp only [oJ] at h;subst h;rfl
 |
  x :: xs,ys,h=>by
  simp only [oJ] at h
  obtain ⟨y,ys',rfl,_,h2⟩:=h
  simp [Wy h2]
theorem WA : ∀ {xs ys : List (List V)},Ru xs ys → xs.length = ys.length
 | [],ys,h=>by simp only [Ru] at h;subst h;rfl
 |
  x :: xs,ys,h=>by
  simp only [Ru] at h
  obtain ⟨y,ys',rfl,_,h2⟩:=h
  simp [WA h2]
mutual
theorem MN {w : World} : ∀ (D : DM) (X : Nat → Prop) (x y : V) (v : Value),bQ x y → rd w D X y v → rd w D X x v
 |
  D,X,.sl sz rows,y,v,h,hr=>by
  simp only [bQ] at h
  rcases h with ⟨rfl,rfl | ⟨sz',rfl⟩⟩ | ⟨rows',rfl,h⟩
  ·simp only [rd] at hr ⊢
   obtain ⟨a,rfl⟩:=hr
   exact ⟨a,0,rfl,Nat.le_refl _,.inl (by trivial)⟩
  ·simp only [rd] at hr ⊢
   obtain ⟨a,cap,rfl,h2,_⟩:=hr
   exact ⟨a,cap,rfl,h2,.inl (by trivial)⟩
  ·simp only [rd] at hr ⊢
   obtain ⟨a,cap,rfl,h2,h3⟩:=hr
   have hl:=WA h
   refine ⟨a,cap,by rw [hl],by rw [hl];exact h2,?_⟩
   rcases h3 with h3 | ⟨b,off,h3,h4,h5,h6⟩
   ·left;subst h3;exact List.eq_nil_of_length_eq_zero hl
   ·exact .inr ⟨b,off,h3,h4,h5,PN DM.none X b sz off rows rows' h h6⟩
 |
  D,X,.agg cs,y,v,h,hr=>by
  simp only [bQ] at h
  obtain ⟨cs',rfl,h⟩:=h
  simp only [rd] at hr ⊢
  obtain ⟨a,rfl,hr⟩:=hr
  exact ⟨a,rfl,KE D X cs cs' _ h hr⟩
 |
  D,X,.eF cs,y,v,h,hr=>by
  simp only [bQ] at h
  obtain ⟨cs',rfl,h⟩:=h
  simp only [rd] at hr ⊢
  obtain ⟨a,rfl,hr⟩:=hr
  exact ⟨a,rfl,KE D X cs cs' _ h hr⟩
 |
  D,X,.fB row off,y,v,h,hr=>by
  simp only [bQ] at h
  obtain ⟨row',rfl,h⟩:=h
  simp only [rd] at hr ⊢
  obtain ⟨b,o,rfl,h1,h2,h3⟩:=hr
  exact ⟨b,o,rfl,h1,h2,Ia DM.none X b o row row' h h3⟩
 | _,_,.any,y,v,h,hr=>by simp [rd]
 | _,_,.one,y,v,h,hr=>by simp only [bQ] at h;subst h;exact hr
 | _,_,.int ..,y,v,h,hr=>by simp only [bQ] at h;subst h;exact hr
 | _,_,.bool _,y,v,h,hr=>by simp only [bQ] at h;subst h;exact hr
 | _,_,.str _,y,v,h,hr=>by simp only [bQ] at h;subst h;exact hr
 | _,_,.ak,y,v,h,hr=>by simp only [bQ] at h;subst h;exact hr
 | _,_,.bC ..,y,v,h,hr=>by simp only [bQ] at h;subst h;exact hr
 | _,_,.ptr ..,y,v,h,hr=>by simp only [bQ] at h;subst h;exact hr
termination_by structural _ _ x=>x
theorem KE {w : World} : ∀ (D : DM) (X : Nat → Prop) (xs ys : List V) (vs : List Value),oJ xs ys → fG w D X ys vs → fG w D X xs vs
 | D,X,[],ys,vs,h,hr=>by simp only [oJ] at h;subst h;exact hr
 |
  D,X,x :: xs,ys,vs,h,hr=>by
  simp only [oJ] at h
  obtain ⟨y,ys',rfl,h1,h2⟩:=h
  simp only [fG] at hr ⊢
  obtain ⟨v,vs',rfl,k1,k2⟩:=hr
  exact ⟨v,vs',rfl,MN D X x y v h1 k1,KE D X xs ys' vs' h2 k2⟩
termination_by structural _ _ x=>x
theorem Ia {w : World} : ∀ (D : DM) (X : Nat → Prop) (b off : Nat) (xs ys : List V),oJ xs ys → dU w D X b off ys → dU w D X b off xs
 | D,X,b,off,[],ys,h,hr=>by simp [dU]
 |
  D,X,b,off,x :: xs,ys,h,hr=>by
  simp only [oJ] at h
  obtain ⟨y,ys',rfl,h1,h2⟩:=h
  simp only [dU] at hr ⊢
  obtain ⟨k0,⟨c,k1,k2⟩,k3⟩:=hr
  exact ⟨PL h1 k0,⟨c,k1,MN D X x y c h1 k2⟩,Ia D X b (off + 1) xs ys' h2 k3⟩
termination_by structural _ _ _ _ x=>x
theorem PN {w : World} : ∀ (D : DM) (X : Nat → Prop) (b sz off : Nat) (xs ys : List (List V)),Ru xs ys → iE w D X b sz off ys → iE w D X b sz off xs
 | D,X,b,sz,off,[],ys,h,hr=>by simp [iE]
 |
  D,X,b,sz,off,x :: xs,ys,h,hr=>by
  simp only [Ru] at h
  obtain ⟨y,ys',rfl,h1,h2⟩:=h
  simp only [iE] at hr ⊢
  exact ⟨(Wy h1).trans hr.1,Ia D X b off x y h1 hr.2.1,PN D X b sz (off + sz) xs ys' h2 hr.2.2⟩
termination_by structural _ _ _ _ _ x=>x
end
mutual
theorem aC : ∀ (x : V),bQ x x
 | .sl sz rows=>by simp only [bQ];exact .inr ⟨rows,rfl,S9 rows⟩
 | .agg cs=>by simp only [bQ];exact ⟨cs,rfl,qF cs⟩
 | .eF cs=>by simp only [bQ];exact ⟨cs,rfl,qF cs⟩
 | .fB row off=>by simp only [bQ];exact ⟨row,rfl,qF row⟩
 | .any=>by simp [bQ]
 | .one=>by simp [bQ]
 | .int ..=>by simp [bQ]
 | .bool _=>by simp [bQ]
 | .str _=>by simp [bQ]
 | .ak=>by simp [bQ]
 | .bC ..=>by simp [bQ]
 | .ptr ..=>by simp [bQ]
theorem qF : ∀ (xs : List V),oJ xs xs
 | []=>by simp [oJ]
 | x :: xs=>by simp only [oJ];exact ⟨x,xs,rfl,aC x,qF xs⟩
theorem S9 : ∀ (xs : List (List V)),Ru xs xs
 | []=>by simp [Ru]
 | x :: xs=>by simp only [Ru];exact ⟨x,xs,rfl,qF x,S9 xs⟩
end
def DM.win (D : DM) (W : Jb) (kp : Nat) : DM:=fun k=>match W[k]? with
 |
  some (some (o,s,l))=>(match D o with
  | .live d=>.live ⟨d.blk,d.Et + s * d.sz,d.sz,l,d.cap⟩
  | x=>x)
 | some Option.none=>if k < kp then (match D k with | .live _=>.dK | x=>x) else .dK
 | Option.none=>.dK
section
variable {w : World} {D : DM} {M : Nat → Prop} {σ σ2 : Store} {W : Jb} {kp : Nat}
theorem BX {k : Nat} {d : aa0} (h : D.win W kp k = .live d) : ∃ o s l d0,W[k]? = some (some (o,s,l)) ∧ D o = .live d0 ∧ d = ⟨d0.blk,d0.Et + s * d0.sz,d0.sz,l,d0.cap⟩:=by
 unfold DM.win at h
 split at h
 ·rename_i o s l e
  split at h
  ·rename_i d0 e2
   cases h
   exact ⟨o,s,l,d0,e,e2,rfl⟩
  ·rename_i hx;rw [h] at hx;exact absurd rfl (hx d)
 ·split at h
  ·split at h
   ·cases h
   ·rename_i hx;rw [h] at hx;exact absurd rfl (hx d)
  ·cases h
 ·cases h
theorem adf : ∀ b,XS M (D.win W kp) b → XS M D b:=by
 rintro b (h | ⟨k,d,hk,rfl⟩)
 ·exact .inl h
 ·obtain ⟨o,s,l,d0,_,h2,rfl⟩:=BX hk
  exact .inr ⟨o,d0,h2,rfl⟩
theorem adg : ∀ {x y : V},pJ W σ x y → x.leaf = true → y.leaf = true:=by
 intro x y h hl
 cases x <;> simp only [V.leaf] at hl <;> first | (cases hl;done) | skip
 all_goals simp only [pJ] at h
 case one=>subst h;rfl
 case int=>subst h;rfl
 case bool=>subst h;rfl
 case str=>subst h;rfl
 case ak=>rcases h with rfl | ⟨_,rfl⟩ <;> rfl
 case sl=>exact PL h rfl
 case bC =>
  rcases h with ⟨k,s0,l0,_,_,_,rfl⟩ | ⟨_,_,sz,rfl⟩ | ⟨h,_⟩
  ·rfl
  ·rfl
  ·exact Bh h rfl
 case ptr =>
  rcases h with ⟨k,s0,l0,_,_,_,rfl⟩ | ⟨h,_⟩
  ·rfl
  ·exact Bh h rfl
 case fB=>exact PL h rfl
theorem WB : ∀ {xs ys : List V},DU W σ xs ys → ys.length = xs.length
 | [],ys,h=>by simp only [DU] at h;subst h;rfl
 |
  x :: xs,ys,h=>by
  simp only [DU] at h
  obtain ⟨y,ys',rfl,_,h2⟩:=h
  simp [WB h2]
theorem WC : ∀ {xs ys : List V},DU W σ xs ys → ∀ (i : Nat) (y : V),ys[i]? = some y → ∃ x,xs[i]? = some x ∧ pJ W σ x y
 | [],ys,h,i,y,hi=>by simp only [DU] at h;subst h;simp at hi
 |
  x :: xs,ys,h,i,y,hi=>by
  simp only [DU] at h
  obtain ⟨z,zs,rfl,h1,h2⟩:=h
  cases i with
  | zero=>simp at hi;subst hi;exact ⟨x,rfl,h1⟩
  | succ i=>simpa using WC h2 i y (by simpa using hi)
theorem YM {D D' : DM} {X X' : Nat → Prop} (hX : ∀ b,X' b → X b) {x : V} {v : Value} (hx : (∃ sz rows,x = .sl sz rows) ∨ ∃ row off,x = .fB row off) (h : rd w D X x v) : rd w D' X' x v:=by
 have E : Ext w DM.none X w DM.none X':=⟨Nat.le_refl _,fun _ _ _=>rfl,fun b _=>hX b,fun _=>jV.refl _⟩
 rcases hx with ⟨sz,rows,rfl⟩ | ⟨row,off,rfl⟩
 ·have h' : rd w DM.none X (.sl sz rows) v:=by simpa only [rd] using h
  have:=dL _ _ E h'
  simpa only [rd] using this
 ·have h' : rd w DM.none X (.fB row off) v:=by simpa only [rd] using h
  have:=dL _ _ E h'
  simpa only [rd] using this
theorem agv {o s l n : Nat} {y : V} (h : resolve σ (n + 1) (.bC o s l) = some y) : ∃ sz rows,y = .sl sz rows:=by
 simp only [resolve] at h
 split at h <;> first | (cases h;done) | skip
 split at h <;> first | (cases h;done) | skip
 simp only [Option.map_eq_some_iff] at h
 obtain ⟨_,_,rfl⟩:=h
 exact ⟨_,_,rfl⟩
theorem OD {o r f n : Nat} {y : V} (h : resolve σ (n + 1) (.ptr o r f) = some y) : ∃ row off,y = .fB row off:=by
 simp only [resolve] at h
 split at h <;> first | (cases h;done) | skip
 split at h <;> first | (cases h;done) | skip
 simp only [Option.map_eq_some_iff] at h
 obtain ⟨_,_,rfl⟩:=h
 exact ⟨_,_,rfl⟩
theorem Tc (hS : jI w D M σ) {x y : V} {v : Value} (h : resolve σ FD x = some y) (hq : ∀ q,q ∈ reach σ FD x → ∀ (k s0 l0 : Nat),W[k]? ≠ some (some (q,s0,l0)))
  (hy : (∃ sz rows,y = .sl sz rows) ∨ ∃ row off,y = .fB row off) (hr : rd w D (XS M D) x v) : rd w (D.win W kp) (XS M (D.win W kp)) y v:=by
 have h1:=yh hS (R:=reach σ FD x) FD x y v h (fun _ ho=>ho) hr
 refine YM (fun b hb=>?_) hy h1
 rcases hb with hb | ⟨k,d,hk,rfl⟩
 ·exact .inl hb
 ·obtain ⟨o,s,l,d0,e1,e2,rfl⟩:=BX hk
  exact .inr ⟨o,d0,e2,rfl,fun ho=>hq o ho k s l e1⟩
mutual
theorem Uw (hS : jI w D M σ) (hW : ∀ (k o s l : Nat),W[k]? = some (some (o,s,l)) → (aj σ o).isSome = true) : ∀ (x y : V) (v : Value),pJ W σ x y → rd w D (XS M D) x v →
  rd w (D.win W kp) (XS M (D.win W kp)) y v
 |
  .bC o s l,y,v,h,hr=>by
  simp only [pJ] at h
  rcases h with ⟨k,s0,l0,h1,h2,h3,rfl⟩ | ⟨rfl,ho,sz,rfl⟩ | ⟨h1,h2⟩
  ·obtain ⟨ob,hob⟩:=Option.isSome_iff_exists.1 (hW k o s0 l0 h1)
   obtain ⟨d,hd⟩:=hS.alive o ob hob
   simp only [rd,hd] at hr
   obtain ⟨e1,a,cap,rfl,e2,e3⟩:=hr
   simp only [rd,DM.win,h1,hd]
   refine ⟨by omega,a,cap,rfl,e2,e3.imp ?_ id⟩
   rintro ⟨rfl,e4⟩
   have hm : s * d.sz = s0 * d.sz + (s - s0) * d.sz:=by rw [← Nat.add_mul];congr 1;omega
   refine ⟨by congr 2;omega,?_⟩
   have : (s + cap) * d.sz = s0 * d.sz + (s - s0 + cap) * d.sz:=by rw [← Nat.add_mul];congr 1;omega
   omega
  ·obtain ⟨ob,hob⟩:=Option.isSome_iff_exists.1 ho
   obtain ⟨d,hd⟩:=hS.alive o ob hob
   simp only [rd,hd] at hr ⊢
   obtain ⟨e1,a,cap,rfl,e2,e3⟩:=hr
   exact ⟨a,cap,rfl,Nat.zero_le _,.inl (by trivial)⟩
  ·exact Tc hS h1 h2 (.inl (agv (n:=11) h1)) hr
 |
  .ptr o r off,y,v,h,hr=>by
  simp only [pJ] at h
  rcases h with ⟨k,s0,l0,h1,h2,h3,rfl⟩ | ⟨h1,h2⟩
  rotate_left
  ·exact Tc hS h1 h2 (.inr (OD (n:=11) h1)) hr
  obtain ⟨ob,hob⟩:=Option.isSome_iff_exists.1 (hW k o s0 l0 h1)
  obtain ⟨d,hd⟩:=hS.alive o ob hob
  simp only [rd,hd] at hr
  subst hr
  simp only [rd,DM.win,h1,hd]
  have hm : r * d.sz = s0 * d.sz + (r - s0) * d.sz:=by rw [← Nat.add_mul];congr 1;omega
  congr 3;omega
 |
  .agg cs,y,v,h,hr=>by
  simp only [pJ] at h
  obtain ⟨ds,rfl,h⟩:=h
  simp only [rd] at hr ⊢
  obtain ⟨a,rfl,hr⟩:=hr
  exact ⟨a,rfl,Ux hS hW cs ds _ h hr⟩
 |
  .eF cs,y,v,h,hr=>by
  simp only [pJ] at h
  obtain ⟨ds,rfl,h⟩:=h
  simp only [rd] at hr ⊢
  obtain ⟨a,rfl,hr⟩:=hr
  exact ⟨a,rfl,Ux hS hW cs ds _ h hr⟩
 |
  .ak,y,v,h,hr=>by
  simp only [pJ] at h
  simp only [rd] at hr
  obtain ⟨a,rfl⟩:=hr
  rcases h with rfl | ⟨sz,rfl⟩
  ·simp only [rd];exact ⟨a,rfl⟩
  ·simp only [rd];exact ⟨a,0,rfl,Nat.le_refl _,.inl (by trivial)⟩
 |
  .sl sz rows,y,v,h,hr=>by
  simp only [pJ] at h
  exact MN _ _ _ _ _ h (YM adf (.inl ⟨sz,rows,rfl⟩) hr)
 |
  .fB row off,y,v,h,hr=>by
  simp only [pJ] at h
  exact MN _ _ _ _ _ h (YM adf (.inr ⟨row,off,rfl⟩) hr)
 | .any,y,v,h,hr=>by simp only [pJ] at h;subst h;simp [rd]
 | .one,y,v,h,hr=>by simp only [pJ] at h;subst h;simpa only [rd] using hr
 | .int ..,y,v,h,hr=>by simp only [pJ] at h;subst h;simpa only [rd] using hr
 | .bool _,y,v,h,hr=>by simp only [pJ] at h;subst h;simpa only [rd] using hr
 | .str _,y,v,h,hr=>by simp only [pJ] at h;subst h;simpa only [rd] using hr
theorem Ux (hS : jI w D M σ) (hW : ∀ (k o s l : Nat),W[k]? = some (some (o,s,l)) → (aj σ o).isSome = true) : ∀ (xs ys : List V) (vs : List Value),DU W σ xs ys → fG w D (XS M D) xs vs →
  fG w (D.win W kp) (XS M (D.win W kp)) ys vs
 | [],ys,vs,h,hr=>by simp only [DU] at h;subst h;simpa only [fG] using hr
 |
  x :: xs,ys,vs,h,hr=>by
  simp only [DU] at h
  obtain ⟨y,ys',rfl,h1,h2⟩:=h
  simp only [fG] at hr ⊢
  obtain ⟨v,vs',rfl,k1,k2⟩:=hr
  exact ⟨v,vs',rfl,Uw hS hW x y v h1 k1,Ux hS hW xs ys' vs' h2 k2⟩
end
theorem jI.re (hS : jI w D M σ) (h : ReS W σ σ2) (hkp : kp ≤ W.length) : jI w (D.win W kp) M σ2:=by
 have hW : ∀ (k o s l : Nat),W[k]? = some (some (o,s,l)) → (aj σ o).isSome = true:=fun k o s l hk=>by
  obtain ⟨ob,_,h1,_⟩:=h.win k o s l hk
  rw [h1];rfl
 refine ⟨?_,?_,?_,?_,hS.mlt⟩
 ·intro k d hk
  obtain ⟨o,s,l,d0,e1,e2,rfl⟩:=BX hk
  obtain ⟨ob,Yp,w1,w2,w3,w4,w5,w6⟩:=h.win k o s l e1
  obtain ⟨ob',c,e,h1,h2,h3,h4,h5,h6,h7,h8,h9,h10,h11⟩:=hS.live o d0 e2
  rw [w1] at h1;cases h1
  have hrow : ∀ i r2,Yp.rows[i]? = some r2 → ∃ r,ob.rows[s + i]? = some r ∧ DU W σ r r2:=by
   intro i r2 hi
   have hlt : s + i < ob.rows.length:=by have:=(List.getElem?_eq_some_iff.1 hi).1;omega
   exact ⟨ob.rows[s + i],List.getElem?_eq_getElem hlt,w6 i _ r2 (List.getElem?_eq_getElem hlt) hi⟩
  have hlen2 : ∀ r ∈ Yp.rows,r.length = Yp.sz:=by
   intro r2 hr2
   obtain ⟨i,hi⟩:=List.mem_iff_getElem?.1 hr2
   obtain ⟨r,hr,hc⟩:=hrow i r2 hi
   rw [WB hc,w4];exact h10 r (List.mem_of_getElem? hr)
  refine ⟨Yp,c,e,w3,by simp only [];rw [w4];exact h2,by simp only [];exact w5.symm,h4,h5,h6,h7,h8,?_,hlen2,?_⟩
  ·simp only []
   have : d0.Et + s * d0.sz + l * d0.sz = d0.Et + (s + l) * d0.sz:=by rw [Nat.add_mul];omega
   rw [this]
   refine Nat.le_trans (Nat.add_le_add_left (Nat.mul_le_mul_right _ ?_) _) h9
   omega
  ·intro i z hz
   have hpos : 0 < ob.sz:=by rw [← h2];exact h4
   have hilt:=(List.getElem?_eq_some_iff.1 hz).1
   have hfl:=pR hlen2
   have hq : i / ob.sz < Yp.rows.length:=Nat.div_lt_of_lt_mul (by rw [Nat.mul_comm,← w4];omega)
   have hmod : i % ob.sz < Yp.rows[i / ob.sz].length:=by rw [hlen2 _ (by simp),w4];exact Nat.mod_lt _ hpos
   have hz':=vg hlen2 (i:=i / ob.sz) (j:=i % ob.sz) (r:=Yp.rows[i / ob.sz]) (x:=Yp.rows[i / ob.sz][i % ob.sz]) (by simp [hq]) (by simp [hmod])
   have hi : i / ob.sz * Yp.sz + i % ob.sz = i:=by rw [w4,Nat.mul_comm];exact Nat.div_add_mod i ob.sz
   rw [hi,hz] at hz'
   obtain ⟨r,hr,hc⟩:=hrow (i / ob.sz) Yp.rows[i / ob.sz] (by simp [hq])
   obtain ⟨x,hx,hcx⟩:=WC hc (i % ob.sz) z (by rw [Option.some.inj hz'];simp [hmod])
   obtain ⟨hlf,cv,k1,k2⟩:=h11 _ x (vg h10 hr hx)
   refine ⟨adg hcx hlf,cv,?_,Uw hS hW x z cv hcx k2⟩
   rw [← k1]
   simp only []
   congr 1
   have hi2 : i = i / ob.sz * ob.sz + i % ob.sz:=by rw [← w4];rw [w4];rw [w4] at hi;exact hi.symm
   rw [h2,Nat.add_mul]
   omega
 ·intro k ob hk
  have hlt : k < W.length:=by
   rw [← h.len]
   rcases Nat.lt_or_ge k σ2.length with h' | h'
   ·exact h'
   ·rw [aj,List.getElem?_eq_none h'] at hk;cases hk
  cases hw : W[k] with
  |
   none =>
   have:=h.hole k (by rw [List.getElem?_eq_getElem hlt,hw])
   rw [this] at hk;cases hk
  |
   some p =>
   obtain ⟨o,s,l⟩:=p
   have hk' : W[k]? = some (some (o,s,l)):=by rw [List.getElem?_eq_getElem hlt,hw]
   obtain ⟨ob0,_,w1,_⟩:=h.win k o s l hk'
   obtain ⟨d,hd⟩:=hS.alive o ob0 w1
   exact ⟨⟨d.blk,d.Et + s * d.sz,d.sz,l,d.cap⟩,by simp only [DM.win,hk',hd]⟩
 ·intro k k' d d' hk hk' hb
  obtain ⟨o,s,l,d0,e1,e2,rfl⟩:=BX hk
  obtain ⟨o',s',l',d0',e1',e2',rfl⟩:=BX hk'
  have:=hS.inj o o' d0 d0' e2 e2' hb
  subst this
  exact h.nd k k' o s l s' l' e1 e1'
 ·intro k hk
  rw [h.len] at hk
  simp only [DM.win,List.getElem?_eq_none hk]
end
section
variable {P : Program} {ν : Nat → Option Nat} {nt : Nat} {M : Nat → Prop} {w0 : World} {D0 : DM} {st st2 : St} {D : DM} {a : Act} {w : World} {W : Jb}
theorem ReS.some {σ σ2 : Store} (h : ReS W σ σ2) : ∀ (k o s l : Nat),W[k]? = some (some (o,s,l)) → (aj σ o).isSome = true:=fun k o s l hk=>by
 obtain ⟨ob,_,h1,_⟩:=h.win k o s l hk
 rw [h1];rfl
theorem SR.re (h : SR nt M w0 D0 st D a w) (hr : aiT W st st2) : SR nt M w0 D0 st2 (D.win W st.keep) a w:=by
 have hkp : st.keep ≤ W.length:=by
  rcases Nat.lt_or_ge W.length st.keep with h' | h'
  ·have : W[W.length]? = Option.none:=by simp
   rcases hr.kp W.length h' with ⟨ob,_,h2⟩ | ⟨_,h2⟩ <;> rw [this] at h2 <;> cases h2
  ·exact h'
 refine ⟨fun t=>?_,h.tm,h.df,h.store.re hr.objs hkp,h.gr,?_,?_⟩
 ·rcases hr.env t with e | e
  ·rw [e];simp [rd]
  ·exact Uw h.store hr.objs.some _ _ _ e (h.env t)
 ·intro k d hk
  obtain ⟨o,s,l,d0,_,e2,rfl⟩:=BX hk
  exact h.fr o d0 e2
 ·intro k hk
  rw [hr.keep] at hk
  have hle:=h.kp k hk
  rcases hr.kp k hk with ⟨ob,h1,h2⟩ | ⟨h1,h2⟩
  ·obtain ⟨d,hd⟩:=h.store.alive k ob h1
   obtain ⟨ob',c,e,g1,g2,g3,_⟩:=h.store.live k d hd
   rw [h1] at g1;cases g1
   have : D.win W st.keep k = D k:=by
    simp only [DM.win,h2,hd,Nat.zero_mul,Nat.add_zero,← g3]
   rw [this];exact hle
  ·have : D.win W st.keep k = D k:=by
    simp only [DM.win,h2,if_pos hk]
    cases hd : D k with
    |
     live d =>
     obtain ⟨ob',c,e,g1,_⟩:=h.store.live k d hd
     rw [h1] at g1;cases g1
    | _=>rfl
   rw [this];exact hle
theorem SR.forget (h : SR nt M w0 D0 st D a w) (he : ∀ t,st2.env t = .any ∨ bQ (st2.env t) (st.env t)) (ho : st2.objs = st.objs) (hk : st2.keep = st.keep) : SR nt M w0 D0 st2 D a w:=by
 refine ⟨fun t=>?_,h.tm,h.df,by rw [ho];exact h.store,h.gr,h.fr,by rw [hk];exact h.kp⟩
 rcases he t with e | e
 ·rw [e];simp [rd]
 ·exact MN _ _ _ _ _ e (h.env t)
end
end Go.Ml
end
section
namespace Go.Ml
inductive Fg : St → St → Prop
 | env {st2 st : St} (he : ∀ t,st2.env t = .any ∨ bQ (st2.env t) (st.env t)) (ho : st2.objs = st.objs) (hk : st2.keep = st.keep) : Fg st2 st
 | re {st2 st : St} (W : Jb) (h : aiT W st st2) : Fg st2 st
theorem Fg.run {T : Tb} {c : C} {st2 st : St} {o : Out} (h : Fg st2 st) (k : Run T (.code c st2) o) : Run T (.code c st) o:=by
 cases h with
 | env he ho hk=>exact .forget he ho hk k
 | re W h=>exact .re W h k
theorem PS {T : Tb} {rf : Nat → Nat → Bool} {c : C} {Q : Ex → St → Prop} {α : Type} (I : α → St) (P : α → Prop) (m : α → Nat) (hk : c.VJ = true)
  (step : ∀ a,P a → wp T rf c (fun e st'=>Uo e (∃ a',m a' < m a ∧ P a' ∧ Fg (I a') st') (Q e st')) (I a)) :
  ∀ (n : Nat) (a : α) (st : St),m a < n → P a → Fg (I a) st → NQ T c Q st
 | 0,_,_,hn,_,_=>absurd hn (Nat.not_lt_zero _)
 |
  n + 1,a,st,hn,h,hf=>by
  obtain ⟨e,st1,h1,h2⟩:=rH hk (step a h)
  cases e with
  |
   normal =>
   obtain ⟨a',hlt,h3,h3'⟩:=h2
   obtain ⟨e,st2,h4,h5⟩:=PS I P m hk step n a' _ (by omega) h3 h3'
   exact ⟨e,st2,hf.run (.acz h1 h4),h5⟩
  | exit id=>exact ⟨_,_,hf.run (.VQ (by simp) h1),h2⟩
  | ret=>exact ⟨_,_,hf.run (.VQ (by simp) h1),h2⟩
theorem aQ {T : Tb} (rf : Nat → Nat → Bool) {c : C} {Q : Ex → St → Prop} {α : Type} (I : α → St) (P : α → Prop) (m : α → Nat) (hk : c.VJ = true) (a : α) {st : St} (h0 : P a) (hf : Fg (I a) st)
  (step : ∀ a,P a → wp T rf c (fun e st'=>Uo e (∃ a',m a' < m a ∧ P a' ∧ Fg (I a') st') (Q e st')) (I a)) :
  NQ T c Q st:=PS I P m hk step (m a + 1) a st (by omega) h0 hf
def EvV (v y : V) : Prop:=v = .any ∨ bQ v y
theorem agw (y : V) : EvV .any y = True:=eq_true (.inl rfl)
theorem adh (y : V) : EvV y y = True:=eq_true (.inr (aC y))
theorem mV {v y : V} (h : v = y) : EvV v y:=h ▸ .inr (aC v)
theorem kE {q : IntKind} {a b : Int} (h : a = b) : EvV (.int q a) (.int q b):=mV (by rw [h])
theorem kF (sz : Nat) : EvV (.sl sz []) .ak:=.inr (by simp [bQ])
def EG : List V → Nat → (Nat → V) → Prop
 | [],_,_=>True
 | v :: vs,i,env=>EvV v (env i) ∧ EG vs (i + 1) env
theorem agx (i : Nat) (env : Nat → V) : EG [] i env = True:=nr rfl
theorem agy (v : V) (vs : List V) (i : Nat) (env : Nat → V) : EG (v :: vs) i env = (EvV v (env i) ∧ EG vs (i + 1) env):=nr rfl
theorem EG.at_ : ∀ {l : List V} {i : Nat} {env : Nat → V},EG l i env → ∀ t,bM l t = .any ∨ bQ (bM l t) (env (i + t))
 | [],_,_,_,t=>.inl rfl
 | v :: vs,i,env,h,0=>h.1
 |
  v :: vs,i,env,h,t + 1=>by
  have:=EG.at_ h.2 t
  rw [show i + 1 + t = i + (t + 1) by omega] at this
  exact this
theorem aI {l : List V} {env : Nat → V} {objs : Store} {kp b1 b2 : Nat} {r1 r2 m1 m2 : List Nat} (h : EG l 0 env) : Fg ⟨bM l,objs,kp,b1,r1,m1⟩ ⟨env,objs,kp,b2,r2,m2⟩ :=
 .env (fun t=>by have:=h.at_ t;rwa [Nat.zero_add] at this) rfl rfl
theorem agz {l : List V} {env : Nat → V} {objs aiz : Store} {kp b1 b2 : Nat} {r1 r2 m1 m2 : List Nat} (h : EG l 0 env) (ho : aiz = objs) : Fg ⟨bM l,aiz,kp,b1,r1,m1⟩ ⟨env,objs,kp,b2,r2,m2⟩:=by
 subst ho;exact aI h
theorem uM {W : Jb} {σ : Store} {v : V} (h : v.still = true) : pJ W σ v v:=by
 cases v <;> simp only [V.still] at h <;> first | (cases h;done) | skip
 all_goals simp only [pJ]
 ·exact .inl (by trivial)
 ·exact aC _
 ·exact aC _
theorem BZ {W : Jb} {σ : Store} : ∀ {r : List V},(∀ v ∈ r,v.still = true) → DU W σ r r
 | [],_=>by simp [DU]
 |
  v :: r,h=>by
  simp only [DU]
  exact ⟨v,r,rfl,uM (h v (by simp)),BZ fun x hx=>h x (by simp [hx])⟩
theorem adi {σ : Store} (l : List (Nat × Obj)) (hn : (l.map (·.1)).Nodup) (h : ∀ p ∈ l,aj σ p.1 = some p.2 ∧ dO p.2.rows) :
  ReS (l.map fun p=>some (p.1,0,p.2.rows.length)) σ (l.map fun p=>some p.2):=by
 have hget : ∀ (k o s n : Nat),(l.map fun p=>some (p.1,0,p.2.rows.length))[k]? = some (some (o,s,n)) → ∃ p,l[k]? = some p ∧ o = p.1 ∧ s = 0 ∧ n = p.2.rows.length:=by
  intro k o s n hk
  rw [List.getElem?_map,Option.map_eq_some_iff] at hk
  obtain ⟨p,h1,h2⟩:=hk
  simp only [Option.some.injEq,Prod.mk.injEq] at h2
  exact ⟨p,h1,h2.1.symm,h2.2.1.symm,h2.2.2.symm⟩
 refine ⟨by simp,?_,?_,?_⟩
 ·intro i j o s n s' n' hi hj
  obtain ⟨p,p1,p2,_⟩:=hget i o s n hi
  obtain ⟨q,q1,q2,_⟩:=hget j o s' n' hj
  have hi':=(List.getElem?_eq_some_iff.1 p1).1
  have hj':=(List.getElem?_eq_some_iff.1 q1).1
  have e1:=(List.getElem?_eq_some_iff.1 p1).2
  have e2:=(List.getElem?_eq_some_iff.1 q1).2
  refine (List.getElem_inj (h₀:=by simpa using hi') (h₁:=by simpa using hj') hn).1 ?_
  simp [e1,e2,← p2,← q2]
 ·intro k o s n hk
  obtain ⟨p,p1,rfl,rfl,rfl⟩:=hget k o s n hk
  obtain ⟨h1,h2⟩:=h p (List.mem_of_getElem? p1)
  refine ⟨p.2,p.2,h1,by omega,by unfold aj;rw [List.getElem?_map,p1];rfl,rfl,rfl,fun i r r2 hr hr2=>?_⟩
  rw [Nat.zero_add,hr2] at hr
  cases hr
  exact BZ (h2 _ (List.mem_of_getElem? hr2))
 ·intro k hk
  rw [List.getElem?_map,Option.map_eq_some_iff] at hk
  obtain ⟨p,_,h⟩:=hk
  cases h
def G7 (W : Jb) (σ : Store) (v y : V) : Prop:=v = .any ∨ pJ W σ y v
theorem adk (W : Jb) (σ : Store) (y : V) : G7 W σ .any y = True:=eq_true (.inl rfl)
theorem adl (W : Jb) (σ : Store) (q : IntKind) (a b : Int) : G7 W σ (.int q a) (.int q b) = (a = b):=by simp [G7,pJ]
theorem abr (W : Jb) (σ : Store) (a b : Bool) : G7 W σ (.bool a) (.bool b) = (a = b):=by simp [G7,pJ]
theorem FP (W : Jb) (σ : Store) {y : V} (h : y.still = true) : G7 W σ y y:=.inr (uM h)
theorem agA (W : Jb) (σ : Store) (sz : Nat) (rows : List (List V)) : G7 W σ (.sl sz rows) (.sl sz rows) = True:=eq_true (FP W σ rfl)
theorem adn (W : Jb) (σ : Store) (a : List UInt8) : G7 W σ (.str a) (.str a) = True:=eq_true (FP W σ rfl)
theorem Ag (W : Jb) (σ : Store) (sz : Nat) : G7 W σ (.sl sz []) .ak = True:=eq_true (.inr (by simp only [pJ];exact .inr ⟨sz,rfl⟩))
theorem abt (W : Jb) (σ : Store) : G7 W σ .ak .ak = True:=eq_true (FP W σ rfl)
theorem kS {W : Jb} {σ : Store} {k o l l' n : Nat} (h : W[k]? = some (some (o,0,n))) (hl : l ≤ n) (e : l' = l) : G7 W σ (.bC k 0 l') (.bC o 0 l) :=
 .inr (by simp only [pJ];exact .inl ⟨k,0,n,h,Nat.le_refl _,by omega,by rw [e]⟩)
theorem fV {W : Jb} {σ : Store} {k o r off n : Nat} (h : W[k]? = some (some (o,0,n))) (hl : r < n) : G7 W σ (.ptr k r off) (.ptr o r off) :=
 .inr (by simp only [pJ];exact .inl ⟨k,0,n,h,Nat.zero_le _,by omega,by simp⟩)
theorem Cb {W : Jb} {σ : Store} {o s l : Nat} {y : V} (h : resolve σ FD (.bC o s l) = some y) (hq : ∀ q,q ∈ reach σ FD (.bC o s l) → ∀ (k s0 l0 : Nat),W[k]? ≠ some (some (q,s0,l0))) : G7 W σ y (.bC o s l) :=
 .inr (by simp only [pJ];exact .inr (.inr ⟨h,hq⟩))
theorem jm {W : Jb} {σ : Store} {x y : V} (h : y.still = true) (e : x = y) : G7 W σ x y:=e ▸ FP W σ (e ▸ h)
def Am (W : Jb) (σ : Store) : List V → Nat → (Nat → V) → Prop
 | [],_,_=>True
 | v :: vs,i,env=>G7 W σ v (env i) ∧ Am W σ vs (i + 1) env
theorem ado (W : Jb) (σ : Store) (i : Nat) (env : Nat → V) : Am W σ [] i env = True:=nr rfl
theorem adp (W : Jb) (σ : Store) (v : V) (vs : List V) (i : Nat) (env : Nat → V) : Am W σ (v :: vs) i env = (G7 W σ v (env i) ∧ Am W σ vs (i + 1) env):=nr rfl
theorem Am.at_ {W : Jb} {σ : Store} : ∀ {l : List V} {i : Nat} {env : Nat → V},Am W σ l i env → ∀ t,bM l t = .any ∨ pJ W σ (env (i + t)) (bM l t)
 | [],_,_,_,t=>.inl rfl
 | v :: vs,i,env,h,0=>h.1
 |
  v :: vs,i,env,h,t + 1=>by
  have:=Am.at_ h.2 t
  rw [show i + 1 + t = i + (t + 1) by omega] at this
  exact this
theorem PU (l : List (Nat × Obj)) {vs : List V} {env : Nat → V} {σ σ2 : Store} {b1 b2 : Nat} {r1 r2 m1 m2 : List Nat} (hn : (l.map (·.1)).Nodup)
  (h : ∀ p ∈ l,aj σ p.1 = some p.2 ∧ dO p.2.rows) (ho : σ2 = l.map fun p=>some p.2)
  (he : Am (l.map fun p=>some (p.1,0,p.2.rows.length)) σ vs 0 env) : Fg ⟨bM vs,σ2,0,b1,r1,m1⟩ ⟨env,σ,0,b2,r2,m2⟩:=by
 subst ho
 exact .re _ ⟨adi l hn h,rfl,fun i hi=>absurd hi (Nat.not_lt_zero _),fun t=>by have:=he.at_ t;rwa [Nat.zero_add] at this⟩
theorem agB (t n : Nat) (rs : List GZ) (acc : List V) (st : St) (k : V → Prop) : G6 (.cell t n true :: rs) acc st k = dJ (rowAt st.objs (st.env t)) fun p=>if p.2 + n ≤ p.1.length then xU (.agg ((p.1.drop p.2).take n)) fun v=>G6 rs (v :: acc) st k else False:=by
 simp only [G6,GZ.get]
 cases e : rowAt st.objs (st.env t) with
 | none=>rfl
 |
  some p =>
  by_cases h : p.2 + n ≤ p.1.length
  ·simp only [dJ,if_true,xU,gV,if_pos h]
  ·simp only [dJ,if_true,xU,gV,if_neg h]
theorem agC {c : Prop} [Decidable c] {α : Type} {a b : Option α} (h : c) : (if c then a else b) = a:=by rw [if_pos h]
def FQ (env : Nat → V) (sz : Nat) : List (List V) → List (Nat × Src) → (List (List V) → Prop) → Prop
 | rows,[],k=>k rows
 | rows,(i,s) :: rest,k=>iZ (s.ev env) fun cs=>(cs.length = sz ∧ i < rows.length) ∧ FQ env sz (rows.set i cs) rest k
@[congr] theorem amK {env : Nat → V} {sz : Nat} {r r' : List (List V)} {ps : List (Nat × Src)} {k : List (List V) → Prop} (h : wr r = r') : FQ env sz r ps k = FQ env sz r' ps k:=by rw [← h,gV]
theorem adq (env : Nat → V) (sz : Nat) (rows : List (List V)) (k : List (List V) → Prop) : FQ env sz rows [] k = k rows:=nr rfl
theorem adr (env : Nat → V) (sz : Nat) (r : List V) (rows : List (List V)) (i : Nat) (s : Src) (rest : List (Nat × Src)) (k : List (List V) → Prop) :
  FQ env sz (r :: rows) ((i,s) :: rest) k = iZ (s.ev env) fun cs=>(cs.length = sz ∧ i < (r :: rows).length) ∧ FQ env sz ((r :: rows).set i cs) rest k:=nr rfl
theorem Td {env : Nat → V} {sz : Nat} : ∀ {ps : List (Nat × Src)} {rows : List (List V)} {k : List (List V) → Prop},dJ (jU env sz rows ps) k = FQ env sz rows ps k
 | [],rows,k=>rfl
 |
  (i,s) :: rest,rows,k=>by
  simp only [jU,FQ,iZ]
  cases h : (s.ev env).cells? with
  | none=>rfl
  |
   some cs =>
   simp only [dJ]
   by_cases hc : cs.length = sz ∧ i < rows.length
   ·rw [if_pos hc]
    simp only [hc,and_self,true_and]
    exact Td
   ·rw [if_neg hc]
    simp only [hc,false_and]
theorem agD (env : Nat → V) (σ : Store) (k : Eff → Prop) (sz : Nat) (z : List V) (n : Nat) (ps : List (Nat × Src)) : I.dQ env σ (.eG sz z (n + 1) ps) k = FQ env sz (List.replicate (n + 1) z) ps fun rows=>k (.newS ⟨sz,rows⟩ (n + 1)):=by
 rw [ajw,Td]
 congr 1
theorem agE (env : Nat → V) (σ : Store) (k : Eff → Prop) (sz : Nat) (z : List V) : I.dQ env σ (.eG sz z 0 []) k = k (.val .ak):=nr rfl
def KF (env : Nat → V) : List V → List (Nat × Nat × Src) → (List V → Prop) → Prop
 | row,[],k=>k row
 | row,(off,n,s) :: rest,k=>iZ (s.ev env) fun cs=>(cs.length = n ∧ off + n ≤ row.length) ∧ KF env (splice row off cs) rest k
@[congr] theorem an9 {env : Nat → V} {r r' : List V} {ps : List (Nat × Nat × Src)} {k : List V → Prop} (h : wr r = r') : KF env r ps k = KF env r' ps k:=by rw [← h,gV]
theorem agF (env : Nat → V) (row : List V) (k : List V → Prop) : KF env row [] k = k row:=nr rfl
theorem agG (env : Nat → V) (c : V) (row : List V) (off n : Nat) (s : Src) (rest : List (Nat × Nat × Src)) (k : List V → Prop) :
  KF env (c :: row) ((off,n,s) :: rest) k = iZ (s.ev env) fun cs=>(cs.length = n ∧ off + n ≤ (c :: row).length) ∧ KF env (splice (c :: row) off cs) rest k:=nr rfl
theorem WE {env : Nat → V} : ∀ {ps : List (Nat × Nat × Src)} {row : List V} {k : List V → Prop},dJ (tK env row ps) k = KF env row ps k
 | [],row,k=>rfl
 |
  (off,n,s) :: rest,row,k=>by
  simp only [tK,KF,iZ]
  cases h : (s.ev env).cells? with
  | none=>rfl
  |
   some cs =>
   simp only [dJ]
   by_cases hc : cs.length = n ∧ off + n ≤ row.length
   ·rw [if_pos hc]
    simp only [hc,and_self,true_and]
    exact WE
   ·rw [if_neg hc]
    simp only [hc,false_and]
theorem ads (env : Nat → V) (σ : Store) (k : Eff → Prop) (z : List V) (ps : List (Nat × Nat × Src)) : I.dQ env σ (.build z ps) k = KF env z ps fun cs=>xU (.agg cs) fun v=>k (.val v):=by
 rw [af9,WE];rfl
def YN : Option Src → (Nat → V) → Nat → (Nat → Prop) → Prop
 | none,_,n,k=>JD n k
 | some h,env,n,k=>jE n (h.ev env) k
def YO : Option Src → (Nat → V) → Nat → (Nat → Prop) → Prop
 | none,_,_,k=>k 0
 | some h,env,n,k=>jE n (h.ev env) k
theorem aj2 (env : Nat → V) (n : Nat) (k : Nat → Prop) : YN none env n k = JD n k:=nr rfl
theorem aj3 (h : Src) (env : Nat → V) (n : Nat) (k : Nat → Prop) : YN (some h) env n k = jE n (h.ev env) k:=nr rfl
theorem aj6 (env : Nat → V) (n : Nat) (k : Nat → Prop) : YO none env n k = k 0:=nr rfl
theorem aj7 (h : Src) (env : Nat → V) (n : Nat) (k : Nat → Prop) : YO (some h) env n k = jE n (h.ev env) k:=nr rfl
@[congr] theorem aqF {o : Option Src} {env : Nat → V} {n n' : Nat} {k : Nat → Prop} (h : wr n = n') : YN o env n k = YN o env n' k:=by rw [← h,gV]
@[congr] theorem aqG {o : Option Src} {env : Nat → V} {n n' : Nat} {k : Nat → Prop} (h : wr n = n') : YO o env n k = YO o env n' k:=by rw [← h,gV]
theorem agH (env : Nat → V) (σ : Store) (k : Eff → Prop) (sz : Nat) (x : Src) (lo hi : Option Src) : I.dQ env σ (.slice sz x lo hi) k =
  dJ (lenOf σ (x.ev env)) fun n=>YN hi env n fun h=>YO lo env h fun l=>slK (x.ev env) (xU .ak fun v=>k (.val v)) (fun sz' rows=>sz' = sz ∧ xU (.sl sz' ((rows.take h).drop l)) fun v=>k (.val v))
   (fun o s _=>dJ (aj σ o) fun ob=>ob.sz = sz ∧ xU (.bC o (s + l) (h - l)) fun v=>k (.val v)):=by
 simp only [I.dQ]
 congr 1
 funext n
 cases hi <;> cases lo <;> simp only [YN,YO,JD,xU] <;> (cases x.ev env <;> rfl)
theorem adt (env : Nat → V) (σ : Store) (k : Eff → Prop) (x : Src) (lo hi : Option Src) : I.dQ env σ (.Jr x lo hi) k =
  abq (x.ev env) fun s=>YN hi env s.length fun h=>YO lo env h fun l=>xU (.str ((s.take h).drop l)) fun v=>k (.val v):=by
 simp only [I.dQ]
 cases x.ev env <;> first | rfl | (cases hi <;> cases lo <;> rfl)
theorem PF.lax {T : Tb} {f : Nat} {as as' : List V} {r r' : V} (h : PF T f as r) (ha : oJ as as') (hr : bQ r' r) : PF T f as' r':=Run.Yq ha h hr
theorem agI {T : Tb} {f : Nat} {as as' : List V} {k : V → Prop} {r : V} (h : PF T f as r) (ha : oJ as as') (hk : k r) : PFK T f as' k:=⟨r,h.lax ha (aC r),hk⟩
def val : List Int → Nat
 | []=>0
 | d :: l=>d.toNat + 1000000000 * val l
def mk (n : Nat) : List Int:=if h : n = 0 then [] else ((n % 1000000000 : Nat) : Int) :: mk (n / 1000000000)
termination_by n
decreasing_by omega
def Lb (l : List Int) : Prop:=∀ d ∈ l,0 ≤ d ∧ d < 1000000000
theorem mk_zero : mk 0 = []:=by rw [mk];rfl
theorem mk_pos {n : Nat} (h : n ≠ 0) : mk n = ((n % 1000000000 : Nat) : Int) :: mk (n / 1000000000):=by rw [mk];rw [dif_neg h]
theorem val_mk (n : Nat) : val (mk n) = n:=by
 induction n using Nat.strongRecOn with
 |
  ind n ih =>
  by_cases h : n = 0
  ·subst h;rw [mk_zero];rfl
  ·rw [mk_pos h]
   simp only [val]
   rw [ih _ (by omega),Int.toNat_natCast]
   omega
theorem kH (n : Nat) : Lb (mk n):=by
 induction n using Nat.strongRecOn with
 |
  ind n ih =>
  by_cases h : n = 0
  ·subst h;rw [mk_zero];intro d hd;cases hd
  ·rw [mk_pos h]
   intro d hd
   rcases List.mem_cons.1 hd with rfl | hd
   ·omega
   ·exact ih _ (by omega) d hd
theorem val_append (a b : List Int) : val (a ++ b) = val a + 1000000000 ^ a.length * val b:=by
 induction a with
 | nil=>simp [val]
 |
  cons d a ih =>
  simp only [List.cons_append,val,ih,List.length_cons,Nat.pow_succ,Nat.mul_add]
  rw [Nat.mul_comm (1000000000 ^ a.length) 1000000000,Nat.mul_assoc]
  omega
theorem oP {l : List Int} (h : Lb l) : val l < 1000000000 ^ l.length:=by
 induction l with
 | nil=>simp [val]
 |
  cons d l ih =>
  have h1:=h d (by simp)
  have h2:=ih fun x hx=>h x (by simp [hx])
  simp only [val,List.length_cons,Nat.pow_succ]
  have : d.toNat < 1000000000:=by omega
  generalize 1000000000 ^ l.length = p at *
  omega
theorem PV (n : Nat) : ∀ (l : List Int),Lb l → val l = n → n ≠ 0 → l.getLast? ≠ some 0 → mk n = l:=by
 induction n using Nat.strongRecOn with
 |
  ind n ih =>
  intro l hl hv hn ht
  cases l with
  | nil=>simp [val] at hv;omega
  |
   cons d l =>
   have hd:=hl d (by simp)
   have hl' : Lb l:=fun x hx=>hl x (by simp [hx])
   simp only [val] at hv
   rw [mk_pos hn]
   have e1 : ((n % 1000000000 : Nat) : Int) = d:=by omega
   have e2 : n / 1000000000 = val l:=by omega
   rw [e1,e2]
   congr 1
   by_cases h0 : val l = 0
   ·rw [h0,mk_zero]
    have hz : ∀ (l : List Int),Lb l → val l = 0 → ∀ x ∈ l,x = 0:=by
     intro l
     induction l with
     | nil=>intro _ _ x hx;cases hx
     |
      cons y l ih2 =>
      intro hl hv x hx
      simp only [val] at hv
      have hy:=hl y (by simp)
      rcases List.mem_cons.1 hx with rfl | hx
      ·omega
      ·exact ih2 (fun z hz=>hl z (by simp [hz])) (by omega) x hx
    cases l with
    | nil=>rfl
    |
     cons y l =>
     exfalso
     apply ht
     have hlast : (d :: y :: l).getLast? = some ((y :: l).getLast (by simp)):=by
      rw [List.getLast?_cons_cons,List.getLast?_eq_some_getLast (by simp)]
     rw [hlast]
     congr 1
     exact hz _ hl' h0 _ (List.getLast_mem _)
   ·refine ih (val l) (by omega) l hl' rfl h0 ?_
    cases l with
    | nil=>simp [val] at h0
    | cons y l=>rwa [List.getLast?_cons_cons] at ht
def Can (l : List Int) : Prop:=Lb l ∧ l.getLast? ≠ some 0
theorem mk_val {l : List Int} (h : Can l) : mk (val l) = l:=by
 by_cases h0 : val l = 0
 ·rw [h0,mk_zero]
  cases l with
  | nil=>rfl
  |
   cons d l =>
   exfalso
   apply h.2
   have hz : ∀ (l : List Int),Lb l → val l = 0 → ∀ x ∈ l,x = 0:=by
    intro l
    induction l with
    | nil=>intro _ _ x hx;cases hx
    |
     cons y l ih2 =>
     intro hl hv x hx
     simp only [val] at hv
     have hy:=hl y (by simp)
     rcases List.mem_cons.1 hx with rfl | hx
     ·omega
     ·exact ih2 (fun z hz=>hl z (by simp [hz])) (by omega) x hx
   rw [List.getLast?_eq_some_getLast (by simp)]
   congr 1
   exact hz _ h.1 h0 _ (List.getLast_mem _)
 ·exact PV _ l h.1 rfl h0 h.2
theorem lG (n : Nat) : Can (mk n):=by
 refine ⟨kH n,?_⟩
 induction n using Nat.strongRecOn with
 |
  ind n ih =>
  by_cases h : n = 0
  ·subst h;rw [mk_zero];simp
  ·rw [mk_pos h]
   by_cases h1 : n / 1000000000 = 0
   ·rw [h1,mk_zero]
    simp
    omega
   ·rw [mk_pos h1,List.getLast?_cons_cons,← mk_pos h1]
    exact ih _ (by omega)
theorem aZ {n k : Nat} : (mk n).length ≤ k ↔ n < 1000000000 ^ k:=by
 constructor
 ·intro h
  have h1:=oP (kH n)
  rw [val_mk] at h1
  exact Nat.lt_of_lt_of_le h1 (Nat.pow_le_pow_right (by omega) h)
 ·induction k generalizing n with
  | zero =>
       intro h;have : n = 0:=by simpa using h
       subst this;rw [mk_zero];simp
  |
   succ k ih =>
   intro h
   by_cases h0 : n = 0
   ·subst h0;rw [mk_zero];simp
   ·rw [mk_pos h0,List.length_cons]
    have : n / 1000000000 < 1000000000 ^ k:=by
     rw [Nat.pow_succ,Nat.mul_comm] at h
     exact Nat.div_lt_of_lt_mul h
    have:=ih this
    omega
theorem Tf {n k : Nat} : k < (mk n).length ↔ 1000000000 ^ k ≤ n:=by
 have:=@aZ n k
 omega
theorem adu {n : Nat} : mk n = [] ↔ n = 0:=by
 constructor
 ·intro h;have:=val_mk n;rw [h] at this;simpa [val] using this.symm
 ·rintro rfl;exact mk_zero
theorem adv {n : Nat} (h : n ≠ 0) : 0 < (mk n).length:=by
 rw [mk_pos h];simp
theorem abu {l : List Int} (h : Lb l) (hv : l ≠ [] → 1000000000 ^ (l.length - 1) ≤ val l) : Can l:=by
 refine ⟨h,fun ht=>?_⟩
 cases hl : l with
 | nil=>rw [hl] at ht;simp at ht
 |
  cons d r =>
  have hne : l ≠ []:=by rw [hl];simp
  have h1:=hv hne
  have h2 : l = l.dropLast ++ [0]:=by
   have:=List.dropLast_concat_getLast hne
   rw [List.getLast?_eq_some_getLast hne] at ht
   rw [Option.some.inj ht] at this
   exact this.symm
  have h3 : Lb l.dropLast:=fun x hx=>h x (List.dropLast_subset _ hx)
  have h4:=oP h3
  rw [h2,val_append] at h1
  simp only [val,List.length_append,List.length_cons,List.length_nil,List.length_dropLast] at h1 h4
  simp at h1
  omega
def mP (l : List Int) : Nat → Nat
 | 0=>0
 | n + 1=>if l.getD n 0 = 0 then mP l n else n + 1
def trim (l : List Int) : List Int:=l.take (mP l l.length)
theorem WG (l : List Int) : ∀ n,mP l n ≤ n
 | 0=>Nat.le_refl _
 | n + 1=>by simp only [mP];split;exact Nat.le_succ_of_le (WG l n);exact Nat.le_refl _
theorem dP {l : List Int} {n : Nat} (h : n < l.length) : l.take (n + 1) = l.take n ++ [l.getD n 0]:=by
 rw [List.take_add_one]
 simp [List.getD_eq_getElem?_getD,h]
theorem Ti (l : List Int) : ∀ n,n ≤ l.length → val (l.take (mP l n)) = val (l.take n) ∧ (l.take (mP l n)).getLast? ≠ some 0
 | 0,_=>by simp [mP]
 |
  n + 1,h=>by
  simp only [mP]
  obtain ⟨h1,h2⟩:=Ti l n (by omega)
  split
  ·rename_i h0
   refine ⟨?_,h2⟩
   rw [h1,dP (by omega),h0,val_append]
   simp [val]
  ·rename_i h0
   refine ⟨rfl,?_⟩
   rw [dP (by omega)]
   simp only [List.getLast?_append,List.getLast?_singleton,Option.some_or,ne_eq,Option.some.injEq]
   exact h0
theorem Uy {l : List Int} (h : Lb l) (n : Nat) : Lb (l.take n):=fun x hx=>h x (List.mem_of_mem_take hx)
theorem tN {l : List Int} (h : Lb l) : trim l = mk (val l):=by
 obtain ⟨h1,h2⟩:=Ti l l.length (Nat.le_refl _)
 rw [List.take_length] at h1
 have hc : Can (trim l):=⟨Uy h _,h2⟩
 rw [← h1]
 exact (mk_val hc).symm
theorem PW {l : List Int} (h : Can l) : trim l = l:=by rw [tN h.1,mk_val h]
theorem YP : Lb []:=fun x hx=>by cases hx
theorem Uz {d : Int} {l : List Int} (h0 : 0 ≤ d) (h1 : d < 1000000000) (h : Lb l) : Lb (l ++ [d]):=by
 intro x hx
 rcases List.mem_append.1 hx with hx | hx
 ·exact h x hx
 ·simp at hx;subst hx;exact ⟨h0,h1⟩
theorem FT {l : List Int} {d : Int} {i : Nat} (h0 : 0 ≤ d) (h1 : d < 1000000000) (h : Lb l) : Lb (l.set i d):=by
 intro x hx
 rcases List.mem_or_eq_of_mem_set hx with hx | rfl
 ·exact h x hx
 ·exact ⟨h0,h1⟩
theorem kJ {l : List Int} (h : Lb l) (i : Nat) : 0 ≤ l.getD i 0 ∧ l.getD i 0 < 1000000000:=by
 by_cases hi : i < l.length
 ·rw [List.getD_eq_getElem?_getD,List.getElem?_eq_getElem hi]
  exact h _ (List.getElem_mem _)
 ·rw [List.getD_eq_getElem?_getD,List.getElem?_eq_none (by omega)];simp
theorem JE (n : Nat) : Lb (List.replicate n 0):=by
 intro x hx
 have:=List.eq_of_mem_replicate hx
 subst this;omega
theorem nO (l : List Int) (d : Int) : val (l ++ [d]) = val l + 1000000000 ^ l.length * d.toNat:=by
 rw [val_append];simp [val]
theorem adw {l : List Int} {i : Nat} (h : i < l.length) : val (l.drop i) = (l.getD i 0).toNat + 1000000000 * val (l.drop (i + 1)):=by
 rw [List.drop_eq_getElem_cons h]
 simp [val,List.getD_eq_getElem?_getD,h]
theorem bW {l : List Int} {i : Nat} (h : l.length ≤ i) : val (l.drop i) = 0:=by
 rw [List.drop_eq_nil_of_le h];rfl
theorem rJ (l : List Int) (i : Nat) : val l = val (l.take i) + 1000000000 ^ (l.take i).length * val (l.drop i):=by
 rw [← val_append,List.take_append_drop]
theorem aag (n : Nat) : val (List.replicate n 0) = 0:=by
 induction n with
 | zero=>rfl
 | succ n ih=>simp [List.replicate_succ,val,ih]
theorem OE {l : List Int} {i : Nat} {d : Int} (h : i < l.length) : val (l.set i d) + 1000000000 ^ i * (l.getD i 0).toNat = val l + 1000000000 ^ i * d.toNat:=by
 induction l generalizing i with
 | nil=>simp at h
 |
  cons x l ih =>
  cases i with
  | zero=>simp [val];omega
  |
   succ i =>
   have:=ih (i:=i) (by simpa using h)
   simp only [List.set_cons_succ,val,Nat.pow_succ]
   have e : (x :: l).getD (i + 1) 0 = l.getD i 0:=by simp
   rw [e]
   have e1 : ∀ z,1000000000 ^ i * 1000000000 * z = 1000000000 * (1000000000 ^ i * z):=fun z=>by rw [Nat.mul_comm (1000000000 ^ i) 1000000000,Nat.mul_assoc]
   rw [e1,e1]
   generalize 1000000000 ^ i * (l.getD i 0).toNat = p at *
   generalize 1000000000 ^ i * d.toNat = q at *
   omega
def EH (a b : Nat) : Int:=if a < b then -1 else if b < a then 1 else 0
theorem val_last {l : List Int} {n : Nat} (h : n < l.length) : val (l.take (n + 1)) = val (l.take n) + 1000000000 ^ n * (l.getD n 0).toNat:=by
 have e : (l.take n).length = n:=by simp;omega
 rw [dP h,nO,e]
theorem YQ {l : List Int} (h : Can l) (hne : l ≠ []) : 1000000000 ^ (l.length - 1) ≤ val l:=by
 have h1:=@Tf (val l) (l.length - 1)
 rw [mk_val h] at h1
 apply h1.1
 have : l.length ≠ 0:=fun e=>hne (List.eq_nil_of_length_eq_zero e)
 omega
theorem nX {a b : List Int} (ha : Lb a) (hb : Can b) (h : a.length < b.length) : val a < val b:=by
 have h1:=oP ha
 have hne : b ≠ []:=by intro e;subst e;simp at h
 have h2:=YQ hb hne
 exact Nat.lt_of_lt_of_le h1 (Nat.le_trans (Nat.pow_le_pow_right (by omega) (by omega)) h2)
theorem IJ {a b : List Int} (ha : Lb a) (hb : Lb b) {i : Nat} (hia : i < a.length) (hib : i < b.length) (hd : a.drop (i + 1) = b.drop (i + 1)) (hlt : a.getD i 0 < b.getD i 0) : val a < val b:=by
 rw [rJ a (i + 1),rJ b (i + 1),hd,val_last hia,val_last hib]
 have h1:=oP (Uy ha i)
 have e1 : (a.take (i + 1)).length = i + 1:=by simp;omega
 have e2 : (b.take (i + 1)).length = i + 1:=by simp;omega
 have e3 : (a.take i).length = i:=by simp;omega
 rw [e1,e2]
 rw [e3] at h1
 have h2:=kJ ha i
 have h3:=kJ hb i
 have : 1000000000 ^ i * (a.getD i 0).toNat + 1000000000 ^ i ≤ 1000000000 ^ i * (b.getD i 0).toNat:=by
  rw [← Nat.mul_succ]
  exact Nat.mul_le_mul_left _ (by omega)
 omega
structure R where
 neg : Bool
 mag : List Int
 den : List Int
 deriving DecidableEq
instance : Inhabited R:=⟨⟨false,[],[]⟩⟩
def fits (q : Rat) : Bool:=decide (q.num.natAbs < 1000000000 ^ 24) && decide (q.den < 1000000000 ^ 24)
abbrev Q:=Option Rat
def norm (q : Rat) : Q:=if fits q = true then some q else none
def Q.raw : Q → R
 | none=>⟨false,[],[]⟩
 | some q=>⟨decide (q.num < 0),mk q.num.natAbs,mk q.den⟩
def Q.ok : Q → Prop
 | none=>True
 | some q=>fits q = true
theorem UA (q : Rat) : (norm q).ok:=by
 unfold norm
 split
 ·assumption
 ·trivial
theorem Tj {q : Rat} (h : fits q = true) : norm q = some q:=by unfold norm;rw [if_pos h]
theorem Tm {q : Rat} (h : fits q = false) : norm q = none:=by unfold norm;rw [if_neg (by simp [h])]
def negQ : Q → Q
 | some a=>some (-a)
 | none=>none
def JF : Q → Q → Q
 | some a,some b=>norm (a + b)
 | _,_=>none
def adx (a b : Q) : Q:=JF a (negQ b)
def PY : Q → Q → Q
 | some a,some b=>norm (a * b)
 | _,_=>none
def PZ : Q → Q → Q
 | some a,some b=>if b = 0 then none else norm (a / b)
 | _,_=>none
def Kt (n d : Int) : Q:=if d = 0 then none else norm (Rat.divInt n d)
def sgn (n : Int) : Int:=if n < 0 then -1 else if n = 0 then 0 else 1
def lX : Q → Int
 | some a=>sgn a.num
 | none=>0
def aoa (n : Int) : Q:=some (n : Rat)
theorem UC {a : Q} (h : a.ok) : (negQ a).ok:=by
 cases a with
 | none=>trivial
 |
  some a =>
  simp only [negQ,Q.ok,fits,Rat.neg_num,Rat.neg_den,Int.natAbs_neg] at h ⊢
  exact h
theorem UD (a b : Q) : (JF a b).ok:=by
 unfold JF;split <;> first | exact UA _ | trivial
theorem agK (a b : Q) : (adx a b).ok:=UD _ _
theorem agL (a b : Q) : (PY a b).ok:=by
 unfold PY;split <;> first | exact UA _ | trivial
theorem agM (a b : Q) : (PZ a b).ok:=by
 unfold PZ;split <;> first | (split <;> first | exact UA _ | trivial) | trivial
theorem agN {n : Int} (h : n.natAbs < 1000000000 ^ 24) : (aoa n).ok:=by
 have h1 : decide (n.natAbs < 1000000000 ^ 24) = true:=decide_eq_true h
 show (decide ((n : Rat).num.natAbs < 1000000000 ^ 24) && decide ((n : Rat).den < 1000000000 ^ 24)) = true
 rw [Rat.num_intCast,Rat.den_intCast,h1]
 rfl
theorem UE (a b : Rat) : Kt (a.num * b.den + b.num * a.den) (a.den * b.den) = norm (a + b):=by
 have ha:=a.den_nz
 have hb:=b.den_nz
 have h0 : (a.den : Int) * b.den ≠ 0:=by
  intro h
  rcases Int.mul_eq_zero.1 h with h | h <;> omega
 unfold Kt
 rw [if_neg h0,Rat.add_def',← Rat.divInt_ofNat]
 simp
theorem UF (a b : Rat) : Kt (a.num * b.num) (a.den * b.den) = norm (a * b):=by
 have ha:=a.den_nz
 have hb:=b.den_nz
 have h0 : (a.den : Int) * b.den ≠ 0:=by
  intro h
  rcases Int.mul_eq_zero.1 h with h | h <;> omega
 unfold Kt
 rw [if_neg h0,Rat.mul_def',← Rat.divInt_ofNat]
 simp
theorem UG (a b : Rat) : Kt (a.num * b.den) (b.num * a.den) = if b = 0 then none else norm (a / b):=by
 have ha:=a.den_nz
 have hb:=b.den_nz
 unfold Kt
 by_cases h : b = 0
 ·subst h;simp
 ·have hn : b.num ≠ 0:=fun k=>h (Rat.num_eq_zero.1 k)
  have h0 : b.num * (a.den : Int) ≠ 0:=by
   intro h
   rcases Int.mul_eq_zero.1 h with h | h <;> omega
  rw [if_neg h0,if_neg h,Rat.div_def,Rat.inv_def]
  congr 1
  conv=>rhs;lhs;rw [← Rat.num_divInt_den a]
  rw [Rat.divInt_mul_divInt,Int.mul_comm b.num]
theorem YR {n d : Int} (h : d ≠ 0) : (Rat.divInt n d).num.natAbs = n.natAbs / Nat.gcd n.natAbs d.natAbs ∧ (Rat.divInt n d).den = d.natAbs / Nat.gcd n.natAbs d.natAbs ∧
  (decide ((Rat.divInt n d).num < 0) = (decide (n ≠ 0) && (decide (n < 0) != decide (d < 0)))):=by
 have hg : d.gcd n = Nat.gcd n.natAbs d.natAbs:=by rw [Int.gcd_comm];rfl
 have aob : 0 < Nat.gcd n.natAbs d.natAbs:=Nat.gcd_pos_of_pos_right _ (by omega)
 have hdvd : ((Nat.gcd n.natAbs d.natAbs : Nat) : Int) ∣ d.sign * n:=by
  have : ((Nat.gcd n.natAbs d.natAbs : Nat) : Int) ∣ n:=Int.ofNat_dvd_left.2 (Nat.gcd_dvd_left _ _)
  exact Int.dvd_trans this (Int.dvd_mul_left _ _)
 rw [Rat.num_divInt,Rat.den_divInt,if_neg h,hg]
 obtain ⟨c,hc⟩:=hdvd
 have hsg : d.sign = 1 ∨ d.sign = -1:=by
  rcases Int.lt_trichotomy d 0 with h1 | h1 | h1
  ·right;exact Int.sign_eq_neg_one_of_neg h1
  ·exact absurd h1 h
  ·left;exact Int.sign_eq_one_of_pos h1
 refine ⟨?_,rfl,?_⟩
 ·rw [hc,Int.mul_ediv_cancel_left _ (by omega)]
  have h1 : (d.sign * n).natAbs = n.natAbs:=by
   rcases hsg with e | e <;> rw [e] <;> simp
  have h2 : n.natAbs = Nat.gcd n.natAbs d.natAbs * c.natAbs:=by
   have h3:=congrArg Int.natAbs hc
   rw [h1,Int.natAbs_mul,Int.natAbs_natCast] at h3
   exact h3
  generalize hG : Nat.gcd n.natAbs d.natAbs = G at *
  rw [h2,Nat.mul_div_cancel_left _ aob]
 ·rw [hc,Int.mul_ediv_cancel_left _ (by omega)]
  have hcn : (c < 0) ↔ (d.sign * n < 0):=by
   rw [hc]
   constructor
   ·intro hlt;exact Int.mul_neg_of_pos_of_neg (by omega) hlt
   ·intro hlt
    by_cases k : c < 0
    ·exact k
    ·have k : 0 ≤ c:=by omega
     have:=Int.mul_nonneg (by omega : (0 : Int) ≤ ((Nat.gcd n.natAbs d.natAbs : Nat) : Int)) k
     omega
  rcases Int.lt_trichotomy d 0 with h1 | h1 | h1
  ·rw [Int.sign_eq_neg_one_of_neg h1] at hcn
   have e1 : decide (d < 0) = true:=by simpa using h1
   rw [e1]
   by_cases hn : n < 0
   ·have : ¬ c < 0:=by rw [hcn];omega
    simp [hn,this]
   ·by_cases hn0 : n = 0
    ·have : ¬ c < 0:=by rw [hcn];omega
     simp [hn0,this]
    ·have : c < 0:=by rw [hcn];omega
     simp [hn,hn0,this]
  ·exact absurd h1 h
  ·rw [Int.sign_eq_one_of_pos h1] at hcn
   have e1 : decide (d < 0) = false:=by simp;omega
   rw [e1]
   by_cases hn : n < 0
   ·have : c < 0:=by rw [hcn];omega
    have h2 : n ≠ 0:=by omega
    simp [hn,this,h2]
   ·have : ¬ c < 0:=by rw [hcn];omega
    simp [hn,this]
def nP (a : List Int) : Bool:=decide (a.length ≤ 60) && a.all (fun d=>decide (0 ≤ d) && decide (d < 1000000000)) && (a.isEmpty || decide (a.getD (a.length - 1) 0 ≠ 0))
theorem IK {a : List Int} : nP a = true ↔ a.length ≤ 60 ∧ Can a:=by
 unfold nP Can Lb
 simp only [Bool.and_eq_true,decide_eq_true_eq,List.all_eq_true,Bool.or_eq_true,List.isEmpty_iff]
 have h : (a = [] ∨ a.getD (a.length - 1) 0 ≠ 0) ↔ a.getLast? ≠ some 0:=by
  cases a with
  | nil=>simp
  |
   cons d l =>
   rw [List.getLast?_eq_getElem?,List.getD_eq_getElem?_getD]
   simp
 rw [h,and_assoc]
theorem EI {a : List Int} (h : nP a = true) : a = mk (val a):=(mk_val (IK.1 h).2).symm
theorem P5 {n : Nat} (h : n < 1000000000 ^ 60) : nP (mk n) = true:=IK.2 ⟨aZ.2 h,lG n⟩
def R.ok (r : R) : Bool:=nP r.mag && (!(r.neg && r.mag.isEmpty)) && nP r.den && !r.den.isEmpty && decide (r.mag.length ≤ 24) && decide (r.den.length ≤ 24) &&
 decide (Nat.gcd (val r.mag) (val r.den) = 1)
theorem aj8 {q : Rat} (h : fits q = true) : (Q.raw (some q)).ok = true:=by
 simp only [fits,Bool.and_eq_true,decide_eq_true_eq] at h
 obtain ⟨h1,h2⟩:=h
 have p : (1000000000 : Nat) ^ 24 ≤ 1000000000 ^ 60:=Nat.pow_le_pow_right (by omega) (by omega)
 unfold R.ok Q.raw
 simp only [Bool.and_eq_true,decide_eq_true_eq,Bool.not_eq_true',Bool.and_eq_false_iff,List.isEmpty_eq_false_iff,val_mk]
 refine ⟨⟨⟨⟨⟨⟨P5 (by omega),?_⟩,P5 (by omega)⟩,?_⟩,aZ.2 h1⟩,aZ.2 h2⟩,q.reduced⟩
 ·by_cases h0 : q.num < 0
  ·right;intro e;rw [adu] at e;omega
  ·left;exact decide_eq_false h0
 ·intro e;rw [adu] at e;exact q.den_nz e
theorem yx {r : R} (h : r.ok = true) : ∃ q : Rat,fits q = true ∧ r = Q.raw (some q):=by
 obtain ⟨neg,mag,den⟩:=r
 unfold R.ok at h
 simp only [Bool.and_eq_true,decide_eq_true_eq,Bool.not_eq_true',Bool.and_eq_false_iff,List.isEmpty_eq_false_iff] at h
 obtain ⟨⟨⟨⟨⟨⟨h1,h2⟩,h3⟩,h4⟩,h5⟩,h6⟩,h7⟩:=h
 have em:=EI h1
 have ed:=EI h3
 have hdn : val den ≠ 0:=by intro e;rw [e,mk_zero] at ed;exact h4 ed
 refine ⟨⟨if neg then -(val mag : Int) else val mag,val den,hdn,?_⟩,?_,?_⟩
 ·unfold Nat.Coprime
  cases neg <;> simpa using h7
 ·simp only [fits,Bool.and_eq_true,decide_eq_true_eq]
  rw [em] at h5
  rw [ed] at h6
  rw [aZ] at h5 h6
  refine ⟨?_,h6⟩
  cases neg <;> simpa using h5
 ·simp only [Q.raw,R.mk.injEq]
  refine ⟨?_,?_,ed⟩
  ·cases neg with
   | false=>simp
   |
    true =>
    simp only [if_true]
    rcases h2 with h2 | h2
    ·cases h2
    ·have : val mag ≠ 0:=by intro e;rw [e,mk_zero] at em;exact h2 em
     simp;omega
  ·have : (if neg = true then -(val mag : Int) else (val mag : Int)).natAbs = val mag:=by cases neg <;> simp
   rw [this];exact em
theorem WH : (Q.raw none).ok = false:=by decide
def R.q (r : R) : Q:=if r.ok = true then some (mkRat (if r.neg then -(val r.mag : Int) else val r.mag) (val r.den)) else none
theorem Cc {q : Q} (h : q.ok) : (Q.raw q).q = q:=by
 cases q with
 | none=>unfold R.q;rw [WH];rfl
 |
  some q =>
  have h' : fits q = true:=h
  unfold R.q
  rw [if_pos (aj8 h')]
  congr 1
  simp only [Q.raw,val_mk]
  have : (if decide (q.num < 0) = true then -(q.num.natAbs : Int) else (q.num.natAbs : Int)) = q.num:=by
   split
   ·rename_i h;have h:=of_decide_eq_true h;omega
   ·rename_i h;have h : ¬ q.num < 0:=fun k=>h (decide_eq_true k);omega
  rw [this,Rat.mkRat_self]
theorem Ib (r : R) : r.q.ok:=by
 by_cases h : r.ok = true
 ·obtain ⟨q,h1,rfl⟩:=yx h
  rw [Cc (q:=some q) h1];exact h1
 ·unfold R.q;rw [if_neg h];trivial
theorem aoc {r : R} (h : r.ok = true) : Q.raw r.q = r:=by
 obtain ⟨q,h1,rfl⟩:=yx h
 rw [Cc (q:=some q) h1]
theorem YS {r : R} : r.q.isSome = r.ok:=by
 unfold R.q;split <;> simp_all
abbrev iv (n : Int) : V:=.int .i64 n
structure Lk where
 a : Int
 b : Int
 w : R
 dx : R
 dy : R
 deriving Inhabited,DecidableEq
structure Pt where
 x : R
 y : R
 deriving Inhabited,DecidableEq
structure Pa where
 node : Int
 share : R
 dx : R
 dy : R
 deriving Inhabited,DecidableEq
structure Cd where
 node : Int
 total : R
 ps : List Pa
 deriving Inhabited,DecidableEq
structure Tn where
 node : Int
 up : Int
 own : List Lk
 cond : Cd
 msgs : List Lk
 Ap : R
 deriving Inhabited,DecidableEq
structure Po where
 turn : Int
 x : Int
 y : Int
 deriving Inhabited,DecidableEq
structure Bi where
 neg : Bool
 mag : List Int
 deriving Inhabited,DecidableEq
abbrev R.num (r : R) : Bi:=⟨r.neg,r.mag⟩
abbrev Bi.cells (z : Bi) : List V:=[.bool z.neg,ints z.mag]
abbrev R.cells (r : R) : List V:=[.bool r.neg,ints r.mag,ints r.den]
abbrev Lk.cells (l : Lk) : List V:=[iv l.a,iv l.b,.bool l.w.neg,ints l.w.mag,ints l.w.den,.bool l.dx.neg,ints l.dx.mag,ints l.dx.den,.bool l.dy.neg,ints l.dy.mag,ints l.dy.den]
abbrev Pt.cells (p : Pt) : List V:=[.bool p.x.neg,ints p.x.mag,ints p.x.den,.bool p.y.neg,ints p.y.mag,ints p.y.den]
abbrev Pa.cells (p : Pa) : List V:=[iv p.node,.bool p.share.neg,ints p.share.mag,ints p.share.den,.bool p.dx.neg,ints p.dx.mag,ints p.dx.den,.bool p.dy.neg,ints p.dy.mag,ints p.dy.den]
abbrev dZ (l : List Pa) : V:=.sl 10 (l.map Pa.cells)
abbrev bf (l : List Lk) : V:=.sl 11 (l.map Lk.cells)
abbrev Ce (l : List R) : V:=.sl 3 (l.map R.cells)
abbrev Cd.cells (c : Cd) : List V:=[iv c.node,.bool c.total.neg,ints c.total.mag,ints c.total.den,dZ c.ps]
abbrev Tn.cells (t : Tn) : List V:=[iv t.node,iv t.up,bf t.own,iv t.cond.node,.bool t.cond.total.neg,ints t.cond.total.mag,ints t.cond.total.den,dZ t.cond.ps,bf t.msgs,
 .bool t.Ap.neg,ints t.Ap.mag,ints t.Ap.den]
abbrev asX (l : List Tn) : V:=.sl 12 (l.map Tn.cells)
abbrev JG (l : List (List R)) : V:=.sl 1 (l.map fun r=>[Ce r])
abbrev Po.cells (p : Po) : List V:=[iv p.turn,iv p.x,iv p.y]
abbrev aU (r : R) : V:=.agg r.cells
abbrev Ie (z : Bi) : V:=.agg z.cells
abbrev IL (l : Lk) : V:=.agg l.cells
abbrev paV (p : Pa) : V:=.agg p.cells
abbrev Hg (c : Cd) : V:=.agg c.cells
theorem mg {α : Type} [Inhabited α] {l : List α} {f : α → List V} {j : Nat} (h : j < l.length) : (l.map f).getD j [] = f (l.getD j default):=by
 simp [List.getD_eq_getElem?_getD,List.getElem?_eq_getElem h]
theorem mg? {α : Type} [Inhabited α] {l : List α} {f : α → List V} {j : Nat} (h : j < l.length) : (l.map f)[j]? = some (f (l.getD j default)):=by
 simp [List.getD_eq_getElem?_getD,List.getElem?_eq_getElem h]
theorem R.ext' {p q : R} (h1 : p.neg = q.neg) (h2 : p.mag = q.mag) (h3 : p.den = q.den) : p = q:=by cases p;cases q;simp_all
theorem Pt.ext' {p q : Pt} (h1 : p.x = q.x) (h2 : p.y = q.y) : p = q:=by cases p;cases q;simp_all
theorem Lk.ext' {p q : Lk} (h1 : p.a = q.a) (h2 : p.b = q.b) (h3 : p.w = q.w) (h4 : p.dx = q.dx) (h5 : p.dy = q.dy) : p = q:=by cases p;cases q;simp_all
theorem Pa.ext' {p q : Pa} (h1 : p.node = q.node) (h2 : p.share = q.share) (h3 : p.dx = q.dx) (h4 : p.dy = q.dy) : p = q:=by cases p;cases q;simp_all
theorem Cd.ext' {p q : Cd} (h1 : p.node = q.node) (h2 : p.total = q.total) (h3 : p.ps = q.ps) : p = q:=by cases p;cases q;simp_all
theorem Tn.ext' {p q : Tn} (h1 : p.node = q.node) (h2 : p.up = q.up) (h3 : p.own = q.own) (h4 : p.cond = q.cond) (h5 : p.msgs = q.msgs) (h6 : p.Ap = q.Ap) : p = q:=by cases p;cases q;simp_all
def szr (left : Int) (n : Nat) : Int:=if left < n then -1 else left - n
theorem OG {left : Int} {n : Nat} (h : szr left n < 0) (h0 : 0 ≤ left) (m : Nat) : szr left (n + m) = -1:=by
 unfold szr at h ⊢
 split at h
 ·rw [if_pos (by omega)]
 ·omega
theorem UH {left : Int} {n : Nat} (h : ¬ szr left n < 0) (m : Nat) : szr (szr left n) m = szr left (n + m):=by
 unfold szr at h ⊢
 split at h
 ·omega
 ·rename_i k
  rw [if_neg k]
  by_cases e : left < ((n + m : Nat) : Int)
  ·rw [if_pos (by omega),if_pos e]
  ·rw [if_neg (by omega),if_neg e];omega
theorem P6 {left : Int} {n : Nat} : szr left n ≤ left ∨ szr left n = -1:=by
 unfold szr;split <;> omega
def sumTo {α : Type} (f : α → Nat) (l : List α) (i : Nat) : Nat:=((l.take i).map f).sum
theorem P7 {α : Type} (f : α → Nat) (l : List α) : sumTo f l 0 = 0:=by simp [sumTo]
theorem JH {α : Type} [Inhabited α] (f : α → Nat) {l : List α} {i : Nat} (h : i < l.length) : sumTo f l (i + 1) = sumTo f l i + f (l.getD i default):=by
 unfold sumTo
 rw [List.take_add_one,List.getElem?_eq_getElem h,List.getD_eq_getElem?_getD,List.getElem?_eq_getElem h]
 simp only [Option.toList,Option.getD,List.map_append,List.map_cons,List.map_nil,List.sum_append,List.sum_cons,List.sum_nil,Nat.add_zero]
theorem abv {α : Type} (f : α → Nat) (l : List α) : sumTo f l l.length = (l.map f).sum:=by simp [sumTo]
theorem sumTo_le {α : Type} (f : α → Nat) (l : List α) (i : Nat) : sumTo f l i ≤ (l.map f).sum:=by
 unfold sumTo
 conv=>rhs;rw [← List.take_append_drop i l]
 rw [List.map_append,List.sum_append]
 omega
theorem P8 {α : Type} [Inhabited α] (f : α → Nat) {l : List α} {i : Nat} (h : i < l.length) : sumTo f l i + f (l.getD i default) ≤ (l.map f).sum:=by
 rw [← JH f h];exact sumTo_le f l _
def Aq {α : Type} (f : α → Nat) (l : List α) : Nat:=l.length + (l.map f).sum
theorem rD {α : Type} (f : α → Nat) (l : List α) : Aq f l = l.length + (l.map f).sum:=rfl
def R.sz (r : R) : Nat:=r.mag.length + r.den.length
def Lk.sz (l : Lk) : Nat:=l.w.sz + l.dx.sz + l.dy.sz
def Pt.sz (p : Pt) : Nat:=p.x.sz + p.y.sz
def Pa.sz (p : Pa) : Nat:=p.share.sz + p.dx.sz + p.dy.sz
def Cd.sz (c : Cd) : Nat:=c.total.sz + Aq Pa.sz c.ps
def Tn.sz (t : Tn) : Nat:=Aq Lk.sz t.own + t.cond.sz + Aq Lk.sz t.msgs + t.Ap.sz
def R.wf (r : R) : Prop:=r.mag.length ≤ 9223372036854775807 ∧ r.den.length ≤ 9223372036854775807
def Lk.wf (l : Lk) : Prop:=l.w.wf ∧ l.dx.wf ∧ l.dy.wf
def Pt.wf (p : Pt) : Prop:=p.x.wf ∧ p.y.wf
def Pa.wf (p : Pa) : Prop:=p.share.wf ∧ p.dx.wf ∧ p.dy.wf
def Hl {α : Type} (f : α → Prop) (l : List α) : Prop:=l.length ≤ 9223372036854775807 ∧ ∀ x ∈ l,f x
def Cd.wf (c : Cd) : Prop:=c.total.wf ∧ Hl Pa.wf c.ps
def Tn.wf (t : Tn) : Prop:=Hl Lk.wf t.own ∧ t.cond.wf ∧ Hl Lk.wf t.msgs ∧ t.Ap.wf
theorem Hl.at_ {α : Type} [Inhabited α] {f : α → Prop} {l : List α} (h : Hl f l) {i : Nat} (hi : i < l.length) : f (l.getD i default):=by
 refine h.2 _ ?_
 simp [List.getD_eq_getElem?_getD,List.getElem?_eq_getElem hi]
theorem getD_mem {α : Type} [Inhabited α] {l : List α} {i : Nat} (hi : i < l.length) : l.getD i default ∈ l:=by
 simp [List.getD_eq_getElem?_getD,List.getElem?_eq_getElem hi]
def Ci {α : Type} (l : List α) (z : α) (i : Nat) : List α:=l.take i ++ List.replicate (l.length - i) z
theorem NR {α : Type} (l : List α) (z : α) : Ci l z 0 = List.replicate l.length z:=by simp [Ci]
theorem P9 {α : Type} (l : List α) (z : α) : Ci l z l.length = l:=by simp [Ci]
theorem Qa {α : Type} (l : List α) (z : α) {i : Nat} (h : i ≤ l.length) : (Ci l z i).length = l.length:=by simp [Ci];omega
theorem Qb {α : Type} [Inhabited α] (l : List α) (z : α) {i : Nat} (h : i < l.length) : (Ci l z i).set i (l.getD i default) = Ci l z (i + 1):=by
 unfold Ci
 have e : l.length - i = (l.length - (i + 1)) + 1:=by omega
 rw [List.set_append_right _ _ (by simp;omega),e,List.replicate_succ]
 have e2 : i - (l.take i).length = 0:=by simp;omega
 rw [e2,List.set_cons_zero,List.take_add_one,List.getElem?_eq_getElem h,List.getD_eq_getElem?_getD,List.getElem?_eq_getElem h]
 simp only [Option.toList,Option.getD,List.append_assoc,List.cons_append,List.nil_append]
theorem EJ {α : Type} [Inhabited α] {a b : List α} (hl : a.length = b.length) (h : ∀ j,j < a.length → a.getD j default = b.getD j default) : a = b:=by
 refine List.ext_getElem hl fun i h1 h2=>?_
 have:=h i h1
 simpa [List.getD_eq_getElem?_getD,h1,h2] using this
theorem map_set {α : Type} (f : α → List V) (l : List α) (i : Nat) (z : α) : (l.map f).set i (f z) = (l.set i z).map f:=by simp [List.map_set]
theorem yA {α : Type} {f : α → List V} {l : List α} (h : ∀ x ∈ l,∀ v ∈ f x,v.still = true) : dO (l.map f):=by
 intro r hr v hv
 obtain ⟨x,hx,rfl⟩:=List.mem_map.1 hr
 exact h x hx v hv
end Go.Ml
namespace Go.Ml
theorem ady {left : Int} {n : Nat} (h : szr left n < 0) (h0 : 0 ≤ left) : szr left n = -1:=OG h h0 0
theorem adz {left : Int} {n : Nat} (h : (n : Int) ≤ left) : szr left n = left - n:=by unfold szr;rw [if_neg (by omega)]
theorem adA {left : Int} {n : Nat} (h : left < (n : Int)) : szr left n = -1:=by unfold szr;rw [if_pos h]
theorem aj9 {left : Int} {n : Nat} (h : szr left n < 0) (h0 : 0 ≤ left) : left < (n : Int):=by unfold szr at h;split at h <;> omega
theorem aah {left : Int} {n : Nat} (h : ¬ szr left n < 0) : (n : Int) ≤ left:=by unfold szr at h;split at h <;> omega
def GH {α : Type} (f : α → List V) (l : List α) (z : List V) (i : Nat) : List (List V):=(l.take i).map f ++ List.replicate (l.length - i) z
theorem YT {α : Type} (f : α → List V) (l : List α) (z : List V) : GH f l z 0 = List.replicate l.length z:=by simp [GH]
theorem abw {α : Type} (f : α → List V) (l : List α) (z : List V) : GH f l z l.length = l.map f:=by simp [GH]
theorem abx {α : Type} (f : α → List V) (l : List α) (z : List V) {i : Nat} (h : i ≤ l.length) : (GH f l z i).length = l.length:=by simp [GH];omega
theorem aby {α : Type} [Inhabited α] (f : α → List V) (l : List α) (z : List V) {i : Nat} (h : i < l.length) : (GH f l z i).set i (f (l.getD i default)) = GH f l z (i + 1):=by
 unfold GH
 have e : l.length - i = (l.length - (i + 1)) + 1:=by omega
 rw [List.set_append_right _ _ (by simp;omega),e,List.replicate_succ]
 have e2 : i - ((l.take i).map f).length = 0:=by simp;omega
 rw [e2,List.set_cons_zero,List.take_add_one,List.getElem?_eq_getElem h,List.getD_eq_getElem?_getD,List.getElem?_eq_getElem h]
 simp only [Option.toList,Option.getD,List.map_append,List.map_cons,List.map_nil,List.append_assoc,List.cons_append,List.nil_append]
theorem abz {α : Type} (f : α → List V) (l : List α) (z : List V) {i : Nat} (h : i < l.length) : (GH f l z i)[i]? = some z:=by
 unfold GH
 rw [List.getElem?_append_right (by simp;omega)]
 have e2 : i - ((l.take i).map f).length = 0:=by simp;omega
 rw [e2,show l.length - i = (l.length - (i + 1)) + 1 by omega,List.replicate_succ]
 rfl
def MO (σ : Store) (s l : Nat) (o : Option Obj) : Option V:=match o with
 | some ob=>if s + l ≤ ob.rows.length then (((ob.rows.drop s).take l).mapM fun (r : List V)=>r.mapM (resolve σ 11)).map (.sl ob.sz) else none
 | none=>none
def KG (σ : Store) (s l : Nat) (o : Option Obj) : Option V:=match o with
 | some ob=>if s + l ≤ ob.rows.length then (((ob.rows.drop s).take l).mapM fun (r : List V)=>r.mapM (resolve σ 10)).map (.sl ob.sz) else none
 | none=>none
theorem akb (σ : Store) (o s l : Nat) : resolve σ FD (.bC o s l) = MO σ s l (aj σ o):=nr rfl
theorem agO (σ : Store) (o s l : Nat) : resolve σ 11 (.bC o s l) = KG σ s l (aj σ o):=nr rfl
@[congr] theorem aqH {σ : Store} {s l : Nat} {o o' : Option Obj} (h : wr o = o') : MO σ s l o = MO σ s l o':=by rw [← h,gV]
@[congr] theorem aod {σ : Store} {s l : Nat} {o o' : Option Obj} (h : wr o = o') : KG σ s l o = KG σ s l o':=by rw [← h,gV]
theorem Bj {σ : Store} {s l n : Nat} {rows : List (List V)} (hs : dO rows) (h : s + l ≤ rows.length) : MO σ s l (some ⟨n,rows⟩) = some (.sl n ((rows.drop s).take l)):=by
 unfold MO
 simp only []
 rw [if_pos h,pV (n:=10) (hs.part s l)];rfl
theorem Qc {σ : Store} {s l n : Nat} {rows : List (List V)} (hs : dO rows) (h : s + l ≤ rows.length) : KG σ s l (some ⟨n,rows⟩) = some (.sl n ((rows.drop s).take l)):=by
 unfold KG
 simp only []
 rw [if_pos h,pV (n:=9) (hs.part s l)];rfl
theorem akc {σ : Store} {s l n : Nat} {xs : List Int} (h : s + l ≤ xs.length) : MO σ s l (some ⟨n,aN xs⟩) = some (.sl n (aN ((xs.drop s).take l))):=by
 rw [Bj (nN xs) (by rw [Ak];exact h),Ut,Uu]
theorem agP {σ : Store} {s l n : Nat} {xs : List Int} (h : s + l ≤ xs.length) : KG σ s l (some ⟨n,aN xs⟩) = some (.sl n (aN ((xs.drop s).take l))):=by
 rw [Qc (nN xs) (by rw [Ak];exact h),Ut,Uu]
theorem lH {α : Type} (f : α → List V) (L : List α) (s l : Nat) : ((L.map f).drop s).take l = ((L.drop s).take l).map f:=by simp [List.map_drop,List.map_take]
theorem WI (L : List R) : dO (L.map R.cells):=yA (by intro x _ v hv;simp at hv;rcases hv with rfl | rfl | rfl <;> rfl)
theorem aiB (L : List Pt) : dO (L.map Pt.cells):=yA (by intro x _ v hv;simp at hv;rcases hv with rfl | rfl | rfl | rfl | rfl | rfl <;> rfl)
theorem vw (L : List Lk) : dO (L.map Lk.cells):=yA (by intro x _ v hv;simp at hv;rcases hv with rfl | rfl | rfl | rfl | rfl | rfl | rfl | rfl | rfl | rfl | rfl <;> rfl)
theorem Ig (L : List Pa) : dO (L.map Pa.cells):=yA (by intro x _ v hv;simp at hv;rcases hv with rfl | rfl | rfl | rfl | rfl | rfl | rfl | rfl | rfl | rfl <;> rfl)
theorem NS (L : List Cd) : dO (L.map Cd.cells):=yA (by intro x _ v hv;simp at hv;rcases hv with rfl | rfl | rfl | rfl | rfl <;> rfl)
theorem aiC (L : List (List R)) : dO (L.map fun r=>[Ce r]):=yA (by intro x _ v hv;simp at hv;subst hv;rfl)
theorem akd {σ : Store} {s l n : Nat} {L : List R} (h : s + l ≤ L.length) : MO σ s l (some ⟨n,L.map R.cells⟩) = some (.sl n (((L.drop s).take l).map R.cells)):=by rw [Bj (WI L) (by simpa using h),lH]
theorem agQ {σ : Store} {s l n : Nat} {L : List Pt} (h : s + l ≤ L.length) : MO σ s l (some ⟨n,L.map Pt.cells⟩) = some (.sl n (((L.drop s).take l).map Pt.cells)):=by rw [Bj (aiB L) (by simpa using h),lH]
theorem agR {σ : Store} {s l n : Nat} {L : List Lk} (h : s + l ≤ L.length) : MO σ s l (some ⟨n,L.map Lk.cells⟩) = some (.sl n (((L.drop s).take l).map Lk.cells)):=by rw [Bj (vw L) (by simpa using h),lH]
theorem agS {σ : Store} {s l n : Nat} {L : List Pa} (h : s + l ≤ L.length) : MO σ s l (some ⟨n,L.map Pa.cells⟩) = some (.sl n (((L.drop s).take l).map Pa.cells)):=by rw [Bj (Ig L) (by simpa using h),lH]
theorem adB {σ : Store} {s l n : Nat} {L : List Pa} (h : s + l ≤ L.length) : KG σ s l (some ⟨n,L.map Pa.cells⟩) = some (.sl n (((L.drop s).take l).map Pa.cells)):=by rw [Qc (Ig L) (by simpa using h),lH]
theorem agT {σ : Store} {s l n : Nat} {L : List Cd} (h : s + l ≤ L.length) : MO σ s l (some ⟨n,L.map Cd.cells⟩) = some (.sl n (((L.drop s).take l).map Cd.cells)):=by rw [Bj (NS L) (by simpa using h),lH]
theorem agU {σ : Store} {s l n : Nat} {L : List (List R)} (h : s + l ≤ L.length) : MO σ s l (some ⟨n,L.map fun r=>[Ce r]⟩) = some (.sl n (((L.drop s).take l).map fun r=>[Ce r])):=by rw [Bj (aiC L) (by simpa using h),lH]
def vN (σ : Store) (rows : List (List V)) : List Nat:=rows.flatMap fun (r : List V)=>r.flatMap (reach σ 11)
def Qd (σ : Store) (o : Option Obj) : List Nat:=match o with
 | some ob=>vN σ ob.rows
 | none=>[]
theorem ake (σ : Store) (o s l : Nat) : reach σ FD (.bC o s l) = o :: Qd σ (aj σ o):=nr rfl
@[congr] theorem amL {σ : Store} {o o' : Option Obj} (h : wr o = o') : Qd σ o = Qd σ o':=by rw [← h,gV]
theorem adC (σ : Store) (n : Nat) (rows : List (List V)) : Qd σ (some ⟨n,rows⟩) = vN σ rows:=nr rfl
theorem adD (σ : Store) : Qd σ none = []:=nr rfl
theorem uN {σ : Store} {rows : List (List V)} (h : dO rows) : vN σ rows = []:=by
 unfold vN
 rw [List.flatMap_eq_nil_iff]
 intro r hr
 rw [List.flatMap_eq_nil_iff]
 intro v hv
 exact Du (n:=10) (h r hr v hv)
theorem abA (σ : Store) (xs : List Int) : vN σ (aN xs) = []:=uN (nN xs)
theorem abB (σ : Store) (L : List R) : vN σ (L.map R.cells) = []:=uN (WI L)
theorem YU (σ : Store) (L : List Pt) : vN σ (L.map Pt.cells) = []:=uN (aiB L)
theorem YV (σ : Store) (L : List Lk) : vN σ (L.map Lk.cells) = []:=uN (vw L)
theorem YW (σ : Store) (L : List Pa) : vN σ (L.map Pa.cells) = []:=uN (Ig L)
theorem YX (σ : Store) (L : List Cd) : vN σ (L.map Cd.cells) = []:=uN (NS L)
theorem YZ (σ : Store) (L : List (List R)) : vN σ (L.map fun r=>[Ce r]) = []:=uN (aiC L)
theorem asY (sz : Nat) (r : List (List V)) : scalar SD (.sl sz r) = false:=nr rfl
theorem akf : scalar SD .ak = true:=nr rfl
def Tq (n : Nat) (cs : List V) : Bool:=cs.all (scalar n)
theorem aoe (cs : List V) : scalar SD (.agg cs) = Tq 3 cs:=nr rfl
theorem aof (cs : List V) : scalar SD (.eF cs) = Tq 3 cs:=nr rfl
theorem agV (n : Nat) : Tq n [] = true:=nr rfl
theorem agW (n : Nat) (c : V) (cs : List V) : Tq n (c :: cs) = (scalar n c && Tq n cs):=nr rfl
theorem akg (q : IntKind) (n : Int) : scalar 3 (.int q n) = true:=nr rfl
theorem agX (b : Bool) : scalar 3 (.bool b) = true:=nr rfl
theorem akh (s : List UInt8) : scalar 3 (.str s) = true:=nr rfl
theorem agY : scalar 3 .ak = true:=nr rfl
theorem aog (sz : Nat) (r : List (List V)) : scalar 3 (.sl sz r) = false:=nr rfl
theorem aki (cs : List V) : scalar 3 (.agg cs) = Tq 2 cs:=nr rfl
theorem akj (q : IntKind) (n : Int) : scalar 2 (.int q n) = true:=nr rfl
theorem agZ (b : Bool) : scalar 2 (.bool b) = true:=nr rfl
theorem akk (s : List UInt8) : scalar 2 (.str s) = true:=nr rfl
theorem ag0 : scalar 2 .ak = true:=nr rfl
theorem aoh (sz : Nat) (r : List (List V)) : scalar 2 (.sl sz r) = false:=nr rfl
theorem asZ {t b : Int} (h : 0 ≤ t ∧ t ≤ 9223372036854775807 ∧ 0 < b) : IntKind.i64.wrap (t.tdiv b) = t.tdiv b:=by
 rw [Int.tdiv_eq_ediv_of_nonneg h.1]
 have h1 : 0 ≤ t / b:=Int.ediv_nonneg h.1 (by omega)
 have h2 : t / b ≤ t:=Int.ediv_le_self _ h.1
 exact w64 (by omega)
theorem adF {α : Type} {l : List α} {n : Nat} (h : l.length ≤ n) : l.take n = l:=List.take_of_length_le h
theorem ag1 (env : Nat → V) (x : Src) : I.reads env (.bZ x) = []:=by simp [I.reads,I.mO]
theorem ag2 (env : Nat → V) (x : Src) : I.reads env (.box x) = []:=by simp [I.reads,I.mO]
theorem adG (env : Nat → V) (x : Src) : I.reads env (.VN x) = []:=by simp [I.reads,I.mO]
theorem ag3 (env : Nat → V) (x : Src) : I.reads env (.len x) = iI (x.ev env):=by simp [I.reads,I.mO]
theorem ag4 (env : Nat → V) (x : Src) : I.reads env (.chk x) = iI (x.ev env):=by simp [I.reads,I.mO]
theorem ag5 (env : Nat → V) (d : Nat) (x : Src) : I.reads env (.fld d x) = iI (x.ev env):=by simp [I.reads,I.mO]
theorem akl (env : Nat → V) (d : UnOp) (x : Src) : I.reads env (.un d x) = []:=by simp [I.reads,I.mO]
theorem adH (env : Nat → V) (d : IntKind) (x : Src) : I.reads env (.conv d x) = []:=by simp [I.reads,I.mO]
theorem adI (env : Nat → V) (d : Nat) (x : Src) : I.reads env (.Rt d x) = []:=by simp [I.reads,I.mO]
theorem adJ (env : Nat → V) (n : Nat) (b : Bool) (x : Src) : I.reads env (.load n b x) = iI (x.ev env):=by simp [I.reads,I.mO]
theorem adK (env : Nat → V) (z : List V) (n : Nat) (x : Src) : I.reads env (.make z n x) = []:=by simp [I.reads,I.mO]
theorem abC (env : Nat → V) (z : List V) : I.reads env (.alloc z) = []:=by simp [I.reads,I.mO]
theorem adL (env : Nat → V) (x y z : Src) : I.reads env (.pick x y z) = []:=by simp [I.reads,I.mO]
theorem abD (env : Nat → V) (n : Nat) (x y : Src) : I.reads env (.store n x y) = iI (x.ev env):=by simp [I.reads,I.mO]
theorem ag6 (env : Nat → V) (n : Nat) (x y : Src) : I.reads env (.idx n x y) = iI (x.ev env):=by simp [I.reads,I.mO]
theorem adM (env : Nat → V) (m n : Nat) (x y : Src) : I.reads env (.Ue m n x y) = iI (x.ev env):=by simp [I.reads,I.mO]
theorem adN (env : Nat → V) (x y : Src) : I.reads env (.VL x y) = []:=by simp [I.reads,I.mO]
theorem adO (env : Nat → V) (m : Nat) (x y : Src) : I.reads env (.VO m x y) = []:=by simp [I.reads,I.mO]
theorem ag7 (env : Nat → V) (n : BinOp) (x y : Src) : I.reads env (.bin n x y) = []:=by simp [I.reads,I.mO]
theorem ag8 (env : Nat → V) (n : Bool) (x y : Src) : I.reads env (.beq n x y) = []:=by simp [I.reads,I.mO]
theorem ag9 (env : Nat → V) (m n : Nat) (x y : Src) : I.reads env (.app m n x y) = iI (x.ev env) ++ iI (y.ev env):=by simp [I.reads,I.mO]
theorem aha (env : Nat → V) (x y : Src) : I.reads env (.max x y) = []:=by simp [I.reads,I.mO]
theorem akm (env : Nat → V) (z : List V) : I.reads env (.build z []) = []:=by simp [I.reads,I.mO]
theorem akn (env : Nat → V) (z : List V) (a b : Nat) (x : Src) (l : List (Nat × Nat × Src)) : I.reads env (.build z ((a,b,x) :: l)) = []:=by simp [I.reads,I.mO]
theorem ako (env : Nat → V) (sz : Nat) (z : List V) (n : Nat) : I.reads env (.eG sz z n []) = []:=by simp [I.reads,I.mO]
theorem akp (env : Nat → V) (sz : Nat) (z : List V) (n a : Nat) (x : Src) (l : List (Nat × Src)) : I.reads env (.eG sz z n ((a,x) :: l)) = []:=by simp [I.reads,I.mO]
theorem ahb (q : IntKind) (n : Int) : iI (.int q n) = []:=nr rfl
theorem adP (b : Bool) : iI (.bool b) = []:=nr rfl
theorem ahc (b : List UInt8) : iI (.str b) = []:=nr rfl
theorem adQ  : iI .ak = []:=nr rfl
theorem ahd  : iI .one = []:=nr rfl
theorem ahe  : iI .any = []:=nr rfl
theorem akq (n : Nat) (r : List (List V)) : iI (.sl n r) = []:=nr rfl
theorem adS (r : List V) (n : Nat) : iI (.fB r n) = []:=nr rfl
theorem ahf (r : List V) : iI (.agg r) = []:=nr rfl
theorem ahg (r : List V) : iI (.eF r) = []:=nr rfl
theorem ahh (o r k : Nat) : iI (.ptr o r k) = [o]:=nr rfl
theorem ahi (o r k : Nat) : iI (.bC o r k) = [o]:=nr rfl
end Go.Ml
end
section
set_option linter.defProp false
namespace Go.Ml
def WJ:=(And.intro (And.intro (And.intro (And.intro (And.intro (And.intro @Go.Ml.gV.{1} @Go.Ml.ait) (And.intro @Go.Ml.aiu (And.intro @Go.Ml.wp_skip 
 @Go.Ml.af0))) (And.intro (And.intro @Go.Ml.af2 @Go.Ml.wp_seq) (And.intro @Go.Ml.ac9 (And.intro @Go.Ml.wp_block @Go.Ml.wp_loop)))) (And.intro 
 (And.intro (And.intro @Go.Ml.wp_exit @Go.Ml.wp_ret) (And.intro @Go.Ml.ajd (And.intro @Go.Ml.aje @Go.Ml.ajf))) (And.intro (And.intro @Go.Ml.ajj 
 (And.intro @Go.Ml.ajk @Go.Ml.ajl)) (And.intro @Go.Ml.af4 (And.intro @Go.Ml.af5 @Go.Ml.ajm))))) (And.intro (And.intro (And.intro (And.intro 
 @Go.Ml.ajn @Go.Ml.asH) (And.intro @Go.Ml.asI (And.intro @Go.Ml.asJ @Go.Ml.ajo))) (And.intro (And.intro @Go.Ml.anj (And.intro @Go.Ml.ajc 
 @Go.Ml.ank)) (And.intro @Go.Ml.anl (And.intro @Go.Ml.anm @Go.Ml.ano)))) (And.intro (And.intro (And.intro @Go.Ml.ac7 @Go.Ml.ant) (And.intro 
 @Go.Ml.ajv (And.intro @Go.Ml.af8 @Go.Ml.anu))) (And.intro (And.intro @Go.Ml.ads (And.intro @Go.Ml.agD @Go.Ml.agE)) (And.intro 
 @Go.Ml.adq (And.intro @Go.Ml.adr @Go.Ml.agF)))))) (And.intro (And.intro (And.intro (And.intro (And.intro @Go.Ml.agG @Go.Ml.ajx) (And.intro 
 @Go.Ml.aga (And.intro @Go.Ml.agb @Go.Ml.agc))) (And.intro (And.intro @Go.Ml.anv @Go.Ml.anw) (And.intro @Go.Ml.ajy (And.intro @Go.Ml.ajz 
 @Go.Ml.ajA)))) (And.intro (And.intro (And.intro @Go.Ml.anx @Go.Ml.ajB) (And.intro @Go.Ml.anz (And.intro @Go.Ml.anA @Go.Ml.anB))) (And.intro 
 (And.intro @Go.Ml.anC (And.intro @Go.Ml.ajC @Go.Ml.anD)) (And.intro @Go.Ml.ajD (And.intro @Go.Ml.anE @Go.Ml.agH))))) (And.intro (And.intro 
 (And.intro (And.intro @Go.Ml.adt @Go.Ml.aj2) (And.intro @Go.Ml.aj3 (And.intro @Go.Ml.aj6 @Go.Ml.aj7))) (And.intro (And.intro @Go.Ml.anF 
 (And.intro @Go.Ml.ajG @Go.Ml.ajH)) (And.intro @Go.Ml.ajW (And.intro @Go.Ml.ajX @Go.Ml.ajY)))) (And.intro (And.intro (And.intro @Go.Ml.ajZ 
 @Go.Ml.ags) (And.intro @Go.Ml.agB (And.intro @Go.Ml.asE @Go.Ml.asF))) (And.intro (And.intro @Go.Ml.afW (And.intro @Go.Ml.abn @Go.Ml.ai6)) 
 (And.intro @Go.Ml.ai7 (And.intro @Go.Ml.ai8 @Go.Ml.ai9)))))))
def WL:=(And.intro (And.intro (And.intro (And.intro (And.intro (And.intro (And.intro (And.intro @Go.Ml.afU @Go.Ml.ait) (And.intro @Go.Ml.aiu @Go.Ml.ai3)) 
 (And.intro (And.intro @Go.Ml.ai4 @Go.Ml.afT) (And.intro @Go.Ml.ai5 @Go.Ml.abk))) (And.intro (And.intro (And.intro @Go.Ml.afV @Go.Ml.anf) 
 (And.intro @Go.Ml.ang @Go.Ml.ac6)) (And.intro (And.intro @Go.Ml.abl @Go.Ml.abm) (And.intro @Go.Ml.Wp (And.intro @Go.Ml.YG 
 @Go.Ml.Wq))))) (And.intro (And.intro (And.intro (And.intro @Go.Ml.YH @Go.Ml.Ws) (And.intro @Go.Ml.YI @Go.Ml.abp)) 
 (And.intro (And.intro @Go.Ml.YJ @Go.Ml.YK) (And.intro @Go.Ml.Wu (And.intro @Go.Ml.YL @Go.Ml.ajp)))) (And.intro (And.intro 
 (And.intro @Go.Ml.ajq @Go.Ml.anp) (And.intro @Go.Ml.anq @Go.Ml.anr)) (And.intro (And.intro @Go.Ml.ajr @Go.Ml.ajs) (And.intro @Go.Ml.aju 
 (And.intro @Go.Ml.ajt @Go.Ml.anR)))))) (And.intro (And.intro (And.intro (And.intro (And.intro @Go.Ml.anS @Go.Ml.anT) (And.intro @Go.Ml.anG 
 @Go.Ml.anH)) (And.intro (And.intro @Go.Ml.anI @Go.Ml.anJ) (And.intro @Go.Ml.anK (And.intro @Go.Ml.anL @Go.Ml.anM)))) (And.intro (And.intro 
 (And.intro @Go.Ml.anN @Go.Ml.anO) (And.intro @Go.Ml.anP @Go.Ml.anQ)) (And.intro (And.intro @Go.Ml.ajE @Go.Ml.ajF) (And.intro @Go.Ml.w64 (And.intro 
 @Go.Ml.agd @Go.Ml.agf))))) (And.intro (And.intro (And.intro (And.intro @Go.Ml.agh @Go.Ml.agi) (And.intro @Go.Ml.agj @Go.Ml.ada)) 
 (And.intro (And.intro @Go.Ml.adb @Go.Ml.ade) (And.intro @Go.Ml.anU (And.intro @Go.Ml.ajI @Go.Ml.anV)))) (And.intro (And.intro (And.intro 
 @Go.Ml.ajJ @Go.Ml.anW) (And.intro @Go.Ml.asQ @Go.Ml.ajK)) (And.intro (And.intro @Go.Ml.anX @Go.Ml.anY) (And.intro @Go.Ml.ajL (And.intro 
 @Go.Ml.ajM @Go.Ml.ajN))))))) (And.intro (And.intro (And.intro (And.intro (And.intro (And.intro @Go.Ml.agk @Go.Ml.ajO) (And.intro @Go.Ml.agl 
 @Go.Ml.ajP)) (And.intro (And.intro @Go.Ml.anZ @Go.Ml.agm) (And.intro @Go.Ml.asR (And.intro @Go.Ml.asT @Go.Ml.an0)))) (And.intro (And.intro 
 (And.intro @Go.Ml.ajQ @Go.Ml.an1) (And.intro @Go.Ml.ajR @Go.Ml.asU)) (And.intro (And.intro @Go.Ml.ajS @Go.Ml.an2) (And.intro @Go.Ml.asV 
 (And.intro @Go.Ml.asW @Go.Ml.ajT))))) (And.intro (And.intro (And.intro (And.intro @Go.Ml.agn @Go.Ml.ajU) (And.intro @Go.Ml.agp @Go.Ml.an3)) 
 (And.intro (And.intro @Go.Ml.agq @Go.Ml.an4) (And.intro @Go.Ml.ajV (And.intro @Go.Ml.an5 @Go.Ml.an6)))) (And.intro (And.intro (And.intro 
 @Go.Ml.an7 @Go.Ml.an8) (And.intro @Go.Ml.afX @Go.Ml.afY)) (And.intro (And.intro @Go.Ml.afZ @Go.Ml.anh) (And.intro @Go.Ml.ani (And.intro 
 @Go.Ml.aja @Go.Ml.ajb)))))) (And.intro (And.intro (And.intro (And.intro (And.intro @Go.Ml.ac8 @Go.Ml.abo) (And.intro @Go.Ml.ajg 
 @Go.Ml.ajh)) (And.intro (And.intro @Go.Ml.aji @Go.Ml.asK) (And.intro @Go.Ml.asL (And.intro @Go.Ml.asM @Go.Ml.asN)))) (And.intro (And.intro (And.intro 
 @Go.Ml.asO @Go.Ml.Ak) (And.intro @Go.Ml.agt @Go.Ml.aj0)) (And.intro (And.intro @Go.Ml.aj1 @Go.Ml.agu) (And.intro @Go.Ml.ag1 (And.intro 
 @Go.Ml.ag2 @Go.Ml.adG))))) (And.intro (And.intro (And.intro (And.intro @Go.Ml.ag3 @Go.Ml.ag4) (And.intro @Go.Ml.ag5 @Go.Ml.akl)) 
 (And.intro (And.intro @Go.Ml.adH @Go.Ml.adI) (And.intro @Go.Ml.adJ (And.intro @Go.Ml.adK @Go.Ml.abC)))) (And.intro (And.intro 
 (And.intro @Go.Ml.adL @Go.Ml.abD) (And.intro @Go.Ml.ag6 @Go.Ml.adM)) (And.intro (And.intro @Go.Ml.adN @Go.Ml.adO) (And.intro 
 @Go.Ml.ag7 (And.intro @Go.Ml.ag8 @Go.Ml.ag9)))))))) (And.intro (And.intro (And.intro (And.intro (And.intro (And.intro (And.intro @Go.Ml.aha 
 @Go.Ml.akm) (And.intro @Go.Ml.akn @Go.Ml.ako)) (And.intro (And.intro @Go.Ml.akp @Go.Ml.ahb) (And.intro @Go.Ml.adP @Go.Ml.ahc))) 
 (And.intro (And.intro (And.intro @Go.Ml.adQ @Go.Ml.ahd) (And.intro @Go.Ml.ahe @Go.Ml.akq)) (And.intro (And.intro @Go.Ml.adS @Go.Ml.ahf) 
 (And.intro @Go.Ml.ahg (And.intro @Go.Ml.ahh @Go.Ml.ahi))))) (And.intro (And.intro (And.intro (And.intro @Int.toNat_zero @Int.toNat_one) (And.intro 
 @Go.Ml.asZ @Bool.false_and)) (And.intro (And.intro @Bool.true_and @Bool.and_false) (And.intro @Go.Ml.akb (And.intro @Go.Ml.agO @Go.Ml.akc)))) 
 (And.intro (And.intro (And.intro @Go.Ml.agP @Go.Ml.akd) (And.intro @Go.Ml.agQ @Go.Ml.agR)) (And.intro (And.intro @Go.Ml.agS @Go.Ml.adB) 
 (And.intro @Go.Ml.agT (And.intro @Go.Ml.agU @Go.Ml.ake)))))) (And.intro (And.intro (And.intro (And.intro (And.intro @Go.Ml.adC @Go.Ml.adD) 
 (And.intro @Go.Ml.abA @Go.Ml.abB)) (And.intro (And.intro @Go.Ml.YU @Go.Ml.YV) (And.intro @Go.Ml.YW (And.intro 
 @Go.Ml.YX @Go.Ml.YZ)))) (And.intro (And.intro (And.intro @Go.Ml.asY @Go.Ml.akf) (And.intro @Go.Ml.aoe @Go.Ml.aof)) (And.intro (And.intro 
 @Go.Ml.agV @Go.Ml.agW) (And.intro @Go.Ml.akg (And.intro @Go.Ml.agX @Go.Ml.akh))))) (And.intro (And.intro (And.intro (And.intro @Go.Ml.agY 
 @Go.Ml.aog) (And.intro @Go.Ml.aki @Go.Ml.akj)) (And.intro (And.intro @Go.Ml.agZ @Go.Ml.akk) (And.intro @Go.Ml.ag0 (And.intro @Go.Ml.aoh 
 @Go.Ml.adF)))) (And.intro (And.intro (And.intro @Go.Ml.agC @Nat.le_refl) (And.intro @List.replicate_succ.{0} @List.replicate_zero.{0})) (And.intro 
 (And.intro @List.take_length.{0} @Go.Ml.asD) (And.intro @Go.Ml.w8u (And.intro @Go.Ml.asC @Go.Ml.Uu))))))) (And.intro (And.intro (And.intro (And.intro 
 (And.intro (And.intro @Go.Ml.Ut @Nat.sub_zero) (And.intro @implies_true.{0} @false_implies)) (And.intro (And.intro @true_implies @List.length_map.{0,0}) 
 (And.intro @true_or (And.intro @or_true @Bool.beq_eq_decide_eq.{0})))) (And.intro (And.intro (And.intro @List.set_cons_zero.{0} @List.set_cons_succ.{0}) 
 (And.intro @Go.Ml.agx @Go.Ml.agy)) (And.intro (And.intro @Go.Ml.agw @Go.Ml.adh) (And.intro @Go.Ml.ado (And.intro @Go.Ml.adp 
 @Go.Ml.adk))))) (And.intro (And.intro (And.intro (And.intro @Go.Ml.agA @Go.Ml.adl) (And.intro @Go.Ml.abr @Go.Ml.adn)) (And.intro 
 (And.intro @Go.Ml.Ag @Go.Ml.abt) (And.intro @List.reverse_cons.{0} (And.intro @List.reverse_nil.{0} @List.nil_append.{0})))) (And.intro (And.intro 
 (And.intro @List.cons_append.{0} @List.append_nil.{0}) (And.intro @List.length_cons.{0} @List.length_nil.{0})) (And.intro (And.intro 
 @List.getElem?_cons_zero.{0} @List.getElem?_cons_succ.{0}) (And.intro @Nat.zero_add (And.intro @Nat.add_zero @ite_self.{1})))))) (And.intro (And.intro 
 (And.intro (And.intro (And.intro @ite_true.{1} @ite_false.{1}) (And.intro @if_true.{1} @if_false.{1})) (And.intro (And.intro @eq_self.{1} @and_true) (And.intro 
 @true_and (And.intro @and_self @Bool.not_true)))) (And.intro (And.intro (And.intro @Bool.not_false @Bool.true_eq_false) (And.intro @Bool.false_eq_true 
 @Bool.not_eq_true')) (And.intro (And.intro @decide_eq_true_eq @decide_eq_false_iff_not) (And.intro @Bool.not_eq_eq_eq_not (And.intro @Option.map_some.{0,0} 
 @Option.map_none.{0,0}))))) (And.intro (And.intro (And.intro (And.intro @Int.toNat_natCast @List.drop_zero.{0}) (And.intro @List.drop_succ_cons.{0} 
 @List.take_succ_cons.{0})) (And.intro (And.intro @List.take_zero.{0} @List.all_cons.{0}) (And.intro @List.all_nil.{0} (And.intro @Bool.and_true 
 @Bool.and_self)))) (And.intro (And.intro (And.intro @Go.Ml.Ex.exit.injEq @not_false_eq_true) (And.intro @not_true_eq_false @decide_true)) (And.intro (And.intro 
 @decide_false @ite_not.{1}) (And.intro @decide_not (And.intro @Bool.not_not @ne_eq.{1})))))))))
theorem ev {P Q : Prop} (h : Q) (e : P = Q:=by conv=>lhs;simp (maxSteps:=1000000) (disch:=first | omega | assumption | (simp;done) | (simp;omega)) only [↓WJ,WL,splice,Nat.reduceAdd,Nat.reduceEqDiff,Nat.reduceMul,Nat.reduceLT,Nat.reduceLeDiff,reduceIte,V.leaf,EF,FM,H8,Bool.true_and,Bool.false_and,Bool.or_false,Bool.false_or,Bool.true_or,reduceCtorEq]) : P:=Eq.mpr (e) h
theorem ev1 {P Q A1 : Prop} (x1 : A1) (h : Q) (e : A1 → P = Q:=by intro x1;conv=>lhs;simp (maxSteps:=1000000) (disch:=first | omega | assumption | (simp;done) | (simp;omega)) only [↓WJ,WL,splice,Nat.reduceAdd,Nat.reduceEqDiff,Nat.reduceMul,Nat.reduceLT,Nat.reduceLeDiff,reduceIte,V.leaf,EF,FM,H8,Bool.true_and,Bool.false_and,Bool.or_false,Bool.false_or,Bool.true_or,reduceCtorEq,x1]) : P:=Eq.mpr (e x1) h
theorem iW {P Q A1 A2 : Prop} (x1 : A1) (x2 : A2) (h : Q) (e : A1 → A2 → P = Q:=by intro x1 x2;conv=>lhs;simp (maxSteps:=1000000) (disch:=first | omega | assumption | (simp;done) | (simp;omega)) only [↓WJ,WL,splice,Nat.reduceAdd,Nat.reduceEqDiff,Nat.reduceMul,Nat.reduceLT,Nat.reduceLeDiff,reduceIte,V.leaf,EF,FM,H8,Bool.true_and,Bool.false_and,Bool.or_false,Bool.false_or,Bool.true_or,reduceCtorEq,x1,x2]) : P:=Eq.mpr (e x1 x2) h
theorem uO {P Q A1 A2 A3 : Prop} (x1 : A1) (x2 : A2) (x3 : A3) (h : Q) (e : A1 → A2 → A3 → P = Q:=by intro x1 x2 x3;conv=>lhs;simp (maxSteps:=1000000) (disch:=first | omega | assumption | (simp;done) | (simp;omega)) only [↓WJ,WL,splice,Nat.reduceAdd,Nat.reduceEqDiff,Nat.reduceMul,Nat.reduceLT,Nat.reduceLeDiff,reduceIte,V.leaf,EF,FM,H8,Bool.true_and,Bool.false_and,Bool.or_false,Bool.false_or,Bool.true_or,reduceCtorEq,x1,x2,x3]) : P:=Eq.mpr (e x1 x2 x3) h
theorem ev4 {P Q A1 A2 A3 A4 : Prop} (x1 : A1) (x2 : A2) (x3 : A3) (x4 : A4) (h : Q) (e : A1 → A2 → A3 → A4 → P = Q:=by intro x1 x2 x3 x4;conv=>lhs;simp (maxSteps:=1000000) (disch:=first | omega | assumption | (simp;done) | (simp;omega)) only [↓WJ,WL,splice,Nat.reduceAdd,Nat.reduceEqDiff,Nat.reduceMul,Nat.reduceLT,Nat.reduceLeDiff,reduceIte,V.leaf,EF,FM,H8,Bool.true_and,Bool.false_and,Bool.or_false,Bool.false_or,Bool.true_or,reduceCtorEq,x1,x2,x3,x4]) : P:=Eq.mpr (e x1 x2 x3 x4) h
theorem ev5 {P Q A1 A2 A3 A4 A5 : Prop} (x1 : A1) (x2 : A2) (x3 : A3) (x4 : A4) (x5 : A5) (h : Q) (e : A1 → A2 → A3 → A4 → A5 → P = Q:=by intro x1 x2 x3 x4 x5;conv=>lhs;simp (maxSteps:=1000000) (disch:=first | omega | assumption | (simp;done) | (simp;omega)) only [↓WJ,WL,splice,Nat.reduceAdd,Nat.reduceEqDiff,Nat.reduceMul,Nat.reduceLT,Nat.reduceLeDiff,reduceIte,V.leaf,EF,FM,H8,Bool.true_and,Bool.false_and,Bool.or_false,Bool.false_or,Bool.true_or,reduceCtorEq,x1,x2,x3,x4,x5]) : P:=Eq.mpr (e x1 x2 x3 x4 x5) h
theorem ev6 {P Q A1 A2 A3 A4 A5 A6 : Prop} (x1 : A1) (x2 : A2) (x3 : A3) (x4 : A4) (x5 : A5) (x6 : A6) (h : Q) (e : A1 → A2 → A3 → A4 → A5 → A6 → P = Q:=by intro x1 x2 x3 x4 x5 x6;conv=>lhs;simp (maxSteps:=1000000) (disch:=first | omega | assumption | (simp;done) | (simp;omega)) only [↓WJ,WL,splice,Nat.reduceAdd,Nat.reduceEqDiff,Nat.reduceMul,Nat.reduceLT,Nat.reduceLeDiff,reduceIte,V.leaf,EF,FM,H8,Bool.true_and,Bool.false_and,Bool.or_false,Bool.false_or,Bool.true_or,reduceCtorEq,x1,x2,x3,x4,x5,x6]) : P:=Eq.mpr (e x1 x2 x3 x4 x5 x6) h
abbrev oN (d : Nat) (i : I) : fP:=⟨none,some d,0,i,[]⟩
abbrev oS (i : I) : fP:=⟨none,none,0,i,[]⟩
abbrev oG (g : Nat) (b : Bool) (d : Nat) (i : I) : fP:=⟨some (g,b),some d,0,i,[]⟩
abbrev oK (d k : Nat) (i : I) : fP:=⟨none,some d,k,i,[]⟩
abbrev oA (d k : Nat) (i : I) (a : List Nat) : fP:=⟨none,some d,k,i,a⟩
abbrev oH (g : Nat) (b : Bool) (d k : Nat) (i : I) (a : List Nat) : fP:=⟨some (g,b),some d,k,i,a⟩
abbrev oV (n : Nat) : I:=.bZ (.t n)
abbrev cI (n : Int) : Src:=.c (.int .i64 n)
end Go.Ml
end
namespace Go.Ml
abbrev nR : Nat → Nat → Bool:=fun _ _=>false
def oW (d n : Nat) : fP:=⟨none,some d,0,.bZ (.t n),[]⟩
def mF : I:=.bZ (.c (.bool false))
def mT : I:=.bZ (.c (.bool true))
def mN : I:=.bZ (.c .ak)
def lT (n a : Nat) : I:=.load n true (.t a)
def lF (n a : Nat) : I:=.load n false (.t a)
def ix (n a b : Nat) : I:=.idx n (.t a) (.t b)
def ln (a : Nat) : I:=.len (.t a)
def fd (n a : Nat) : I:=.fld n (.t a)
def ex (n a : Nat) : I:=.Rt n (.t a)
def nt (a : Nat) : I:=.un .not (.t a)
def bt (o : BinOp) (a b : Nat) : I:=.bin o (.t a) (.t b)
def bc (o : BinOp) (a : Nat) (n : Int) : I:=.bin o (.t a) (.c (.int .i64 n))
def cd (a : Nat) (c e : C) : C:=.cond (.t a) c e
def rf (n : Nat) (l : List fP) : C:=.reg false n l
def rt (n : Nat) (l : List fP) : C:=.reg true n l
def rg (l : List fP) : C:=.reg false 0 l
def sr (l : List fP) (c : C) : C:=.seq (.reg false 0 l) c
def kK : List V:=[.bool false,.ak,.ak]
def xW : List V:=[.int .i64 0,.int .i64 0,.bool false,.ak,.ak,.bool false,.ak,.ak,.bool false,.ak,.ak]
def FU : List V:=[.int .i64 0]
def Ku : List V:=[.int .i64 0,.bool false,.ak,.ak,.ak]
def Qe : List V:=[.int .i64 0,.bool false,.ak,.ak,.bool false,.ak,.ak,.bool false,.ak,.ak]
def Ro : List V:=[.bool false,.ak]
def cl (f : Nat) (l : List Nat) : I:=.call f (l.map .t)
theorem Lz : (∀ (d : Nat),∀ (i : I),oN d i = (⟨none,some d,0,i,[]⟩ : fP)) ∧ (∀ (i : I),oS i = (⟨none,none,0,i,[]⟩ : fP)) ∧ (∀ (g : Nat),∀ (b : Bool),∀ (d : Nat),∀ (i : I),oG g b d i = (⟨some (g,b),some d,0,i,[]⟩ : fP)) ∧ (∀ (d k : Nat),∀ (i : I),oK d k i = (⟨none,some d,k,i,[]⟩ : fP)) ∧ (∀ (d k : Nat),∀ (i : I),∀ (a : List Nat),oA d k i a = (⟨none,some d,k,i,a⟩ : fP)) ∧ (∀ (g : Nat),∀ (b : Bool),∀ (d k : Nat),∀ (i : I),∀ (a : List Nat),oH g b d k i a = (⟨some (g,b),some d,k,i,a⟩ : fP)) ∧ (∀ (n : Nat),oV n = (.bZ (.t n) : I)) ∧ (∀ (n : Int),cI n = (.c (.int .i64 n) : Src)) ∧ (∀ (d n : Nat),oW d n = (⟨none,some d,0,.bZ (.t n),[]⟩ : fP)) ∧ (mF = (.bZ (.c (.bool false)) : I)) ∧ (mT = (.bZ (.c (.bool true)) : I)) ∧ (mN = (.bZ (.c .ak) : I)) ∧ (∀ (n a : Nat),lT n a = (.load n true (.t a) : I)) ∧ (∀ (n a : Nat),lF n a = (.load n false (.t a) : I)) ∧ (∀ (n a b : Nat),ix n a b = (.idx n (.t a) (.t b) : I)) ∧ (∀ (a : Nat),ln a = (.len (.t a) : I)) ∧ (∀ (n a : Nat),fd n a = (.fld n (.t a) : I)) ∧ (∀ (n a : Nat),ex n a = (.Rt n (.t a) : I)) ∧ (∀ (a : Nat),nt a = (.un .not (.t a) : I)) ∧ (∀ (o : BinOp),∀ (a b : Nat),bt o a b = (.bin o (.t a) (.t b) : I)) ∧ (∀ (o : BinOp),∀ (a : Nat),∀ (n : Int),bc o a n = (.bin o (.t a) (.c (.int .i64 n)) : I)) ∧ (∀ (a : Nat),∀ (c e : C),cd a c e = (.cond (.t a) c e : C)) ∧ (∀ (n : Nat),∀ (l : List fP),rf n l = (.reg false n l : C)) ∧ (∀ (n : Nat),∀ (l : List fP),rt n l = (.reg true n l : C)) ∧ (∀ (l : List fP),rg l = (.reg false 0 l : C)) ∧ (∀ (l : List fP),∀ (c : C),sr l c = (.seq (.reg false 0 l) c : C)) ∧ (kK = ([.bool false,.ak,.ak] : List V)) ∧ (xW = ([.int .i64 0,.int .i64 0,.bool false,.ak,.ak,.bool false,.ak,.ak,.bool false,.ak,.ak] : List V)) ∧ (FU = ([.int .i64 0] : List V)) ∧ (Ku = ([.int .i64 0,.bool false,.ak,.ak,.ak] : List V)) ∧ (Qe = ([.int .i64 0,.bool false,.ak,.ak,.bool false,.ak,.ak,.bool false,.ak,.ak] : List V)) ∧ (Ro = ([.bool false,.ak] : List V)) ∧ (nR = fun _ _=>false) ∧ (∀ f : Nat,cl f [] = .call f []) ∧ (∀ f a : Nat,cl f [a] = .call f [.t a]) ∧ (∀ f a b : Nat,cl f [a,b] = .call f [.t a,.t b]) ∧ (∀ f a b c : Nat,cl f [a,b,c] = .call f [.t a,.t b,.t c]) ∧ (∀ f a b c d : Nat,cl f [a,b,c,d] = .call f [.t a,.t b,.t c,.t d]) ∧ (∀ f a b c d e : Nat,cl f [a,b,c,d,e] = .call f [.t a,.t b,.t c,.t d,.t e]) ∧ (∀ f a b c d e f : Nat,cl f [a,b,c,d,e,f] = .call f [.t a,.t b,.t c,.t d,.t e,.t f]) ∧ (∀ f a b c d e f g : Nat,cl f [a,b,c,d,e,f,g] = .call f [.t a,.t b,.t c,.t d,.t e,.t f,.t g]) ∧ (∀ f a b c d e f g h : Nat,cl f [a,b,c,d,e,f,g,h] = .call f [.t a,.t b,.t c,.t d,.t e,.t f,.t g,.t h]) :=
 ⟨fun _ _=>rfl,fun _=>rfl,fun _ _ _ _=>rfl,fun _ _ _=>rfl,fun _ _ _ _=>rfl,fun _ _ _ _ _ _=>rfl,fun _=>rfl,fun _=>rfl,fun _ _=>rfl,rfl,rfl,rfl,fun _ _=>rfl,fun _ _=>rfl,fun _ _ _=>rfl,fun _=>rfl,fun _ _=>rfl,fun _ _=>rfl,fun _=>rfl,fun _ _ _=>rfl,fun _ _ _=>rfl,fun _ _ _=>rfl,fun _ _=>rfl,fun _ _=>rfl,fun _=>rfl,fun _ _=>rfl,rfl,rfl,rfl,rfl,rfl,rfl,rfl,fun _=>rfl,fun _ _=>rfl,fun _ _ _=>rfl,fun _ _ _ _=>rfl,fun _ _ _ _ _=>rfl,fun _ _ _ _ _ _=>rfl,fun _ _ _ _ _ _ _=>rfl,fun _ _ _ _ _ _ _ _=>rfl,fun _ _ _ _ _ _ _ _ _=>rfl⟩
end Go.Ml
namespace Go.Ml
theorem yB {l : List V} {env : Nat → V} (h : EG l 0 env:=by (try (refine ev ?_;try with_reducible exact True.intro)) <;> (repeat' (first | refine ⟨?_,?_⟩ | exact kE (by omega) | exact mV (by simp) | exact kF _))) : EG l 0 env:=h
end Go.Ml
section
namespace Go.Ml
def slV : Nat → V
 | 0=>.ak
 | n + 1=>.bC 0 0 (n + 1)
def Yk (n : Nat) : List (List V) → Store
 | []=>[]
 | r :: rs=>[some ⟨n,r :: rs⟩]
theorem kT : slV 0 = .ak:=nr rfl
theorem jW (n : Nat) : slV (n + 1) = .bC 0 0 (n + 1):=nr rfl
theorem WM (n : Nat) : Yk n [] = []:=nr rfl
theorem Tt (n : Nat) (r : List V) (rs : List (List V)) : Yk n (r :: rs) = [some ⟨n,r :: rs⟩]:=nr rfl
theorem adU (n : Nat) (rows : List (List V)) (r : List V) : Yk n (rows ++ [r]) = [some ⟨n,rows ++ [r]⟩]:=by cases rows <;> rfl
theorem Dv {vs : List V} {env : Nat → V} {σ : Store} {b1 b2 n k : Nat} {r1 r2 m1 m2 : List Nat} {rows : List (List V)} {r : List V} (hs : dO (rows ++ [r]))
  (h : aj σ k = some ⟨n,rows ++ [r]⟩) (he : Am [some (k,0,rows.length + 1)] σ vs 0 env) : Fg ⟨bM vs,Yk n (rows ++ [r]),0,b1,r1,m1⟩ ⟨env,σ,0,b2,r2,m2⟩:=by
 rw [adU]
 refine PU [(k,⟨n,rows ++ [r]⟩)] (by simp) ?_ rfl (by simpa using he)
 intro p hp
 simp only [List.mem_cons,List.not_mem_nil,or_false] at hp
 subst hp
 exact ⟨h,hs⟩
theorem vC {σ : Store} {k l n m : Nat} (hl : l ≤ m) (e : n = l) (h0 : 0 < n) : G7 [some (k,0,m)] σ (slV n) (.bC k 0 l):=by
 subst e
 obtain ⟨j,rfl⟩ : ∃ j,n = j + 1:=⟨n - 1,by omega⟩
 rw [jW]
 exact kS rfl hl rfl
theorem aK {T : Tb} {f : Nat} {F : Fn} {args : List V} {r : V} (rf : Nat → Nat → Bool) (hT : T f = some F)
  (h : wp T rf F.body (fun e st=>agr F.res e (bQ r) st) (St.enter args [])) (hl : args.length = F.nargs:=by rfl) (hk : F.body.VJ = true:=by rfl) : PF T f args r:=by
 obtain ⟨e,st',h1,h2⟩:=rH hk h
 have h3 : (e = .normal ∨ e = .ret) ∧ G6 F.res [] st' (bQ r):=by
  cases e with
  | normal=>exact ⟨.inl rfl,h2⟩
  | ret=>exact ⟨.inr rfl,h2⟩
  | exit id=>exact h2.elim
 obtain ⟨he,h3⟩:=h3
 have:=ML _ _ h3
 obtain ⟨rs,e1,h4⟩:=bF this
 obtain ⟨r',e2,h5⟩:=bF h4
 exact .Yq (qF _) (.frz (.fn hT hl h1 he e1) e2) h5
theorem adW (q : IntKind) (a b : Int) : bQ (.int q a) (.int q b) = (b = a):=by simp [bQ]
theorem EK (a b : Bool) : bQ (.bool a) (.bool b) = (b = a):=by simp [bQ]
theorem gZ (sz : Nat) : bQ (.sl sz []) .ak = True:=by simp [bQ]
theorem Ih (xs ys : List V) : bQ (.agg xs) (.agg ys) = oJ xs ys:=by simp [bQ]
theorem MP : oJ [] [] = True:=by simp [oJ]
theorem MQ (x y : V) (xs ys : List V) : oJ (x :: xs) (y :: ys) = (bQ x y ∧ oJ xs ys):=by
 simp only [oJ,List.cons.injEq]
 exact propext ⟨fun ⟨_,_,⟨e1,e2⟩,h1,h2⟩=>by subst e1;subst e2;exact ⟨h1,h2⟩,fun ⟨h1,h2⟩=>⟨y,ys,⟨rfl,rfl⟩,h1,h2⟩⟩
theorem ahj {T : Tb} {f : Nat} {as as' : List V} {k : V → Prop} {r : V} (h : PF T f as' r) (ha : oJ as' as) (hk : k r) : PFK T f as k:=⟨r,h.lax ha (aC r),hk⟩
theorem Cj (l : List Int) (d : Int) : aN l ++ [[V.int .i64 d]] = aN (l ++ [d]):=by simp [aN]
theorem EVi : (∀ x : Int,[[V.int .i64 x]] = aN [x]) ∧ (∀ (x : Int) (l : List Int),[V.int .i64 x] :: aN l = aN (x :: l)) ∧ (∀ (l : List Int) (x : Int),aN l ++ [[V.int .i64 x]] = aN (l ++ [x])) ∧
  (∀ l m : List Int,aN l ++ aN m = aN (l ++ m)) :=
 ⟨fun _=>rfl,fun _ _=>rfl,fun l x=>by simp [aN],fun l m=>by simp [aN]⟩
theorem FV {l : List Int} : aN l = [] ↔ l = []:=by simp [aN]
theorem gI : Yk 1 (aN []) = []:=rfl
theorem dW (x : Int) (l : List Int) : Yk 1 (aN (x :: l)) = [some ⟨1,aN (x :: l)⟩]:=rfl
theorem Dw (l : List Int) (d : Int) : dO (aN l ++ [[V.int .i64 d]]):=by rw [Cj];exact nN _
theorem abG : aN [] = []:=rfl
theorem Qg (x : Int) (l : List Int) : aN (x :: l) = [V.int .i64 x] :: aN l:=rfl
theorem JI {t : Int} (h : 0 ≤ t) : t.tmod 1000000000 = t % 1000000000:=Int.tmod_eq_emod_of_nonneg h
theorem JJ {t : Int} (h : 0 ≤ t) : t.tdiv 1000000000 = t / 1000000000:=Int.tdiv_eq_ediv_of_nonneg h
theorem WO {N i va vb va' vb' : Nat} {xs : List Int} {c x y : Int} (hl : xs.length = i) (hc : 0 ≤ c) (hx : 0 ≤ x) (hy : 0 ≤ y)
  (h : val xs + 1000000000 ^ i * (c.toNat + va + vb) = N) (ha : va = x.toNat + 1000000000 * va') (hb : vb = y.toNat + 1000000000 * vb') :
  val (xs ++ [(c + x + y) % 1000000000]) + 1000000000 ^ (i + 1) * (((c + x + y) / 1000000000).toNat + va' + vb') = N:=by
 rw [nO,hl,Nat.pow_succ]
 have e : c.toNat + va + vb = ((c + x + y) % 1000000000).toNat + 1000000000 * (((c + x + y) / 1000000000).toNat + va' + vb'):=by omega
 rw [e,Nat.mul_add,← Nat.mul_assoc] at h
 omega
theorem WQ {vx va vb p x y d bo WR : Nat} (h : vx + vb = va + bo * p) (hd : d + y + bo = x + WR * 1000000000) :
  (vx + p * d) + (vb + p * y) = (va + p * x) + WR * (p * 1000000000):=by
 have e:=congrArg (fun z=>p * z) hd
 simp only [Nat.mul_add] at e
 have e1 : p * bo = bo * p:=Nat.mul_comm _ _
 have e2 : p * (WR * 1000000000) = WR * (p * 1000000000):=by rw [← Nat.mul_assoc,Nat.mul_comm p WR,Nat.mul_assoc]
 omega
theorem RH {l : List Int} {i : Nat} {d : Int} (h : i < l.length) : (l.set i d).take (i + 1) = l.take i ++ [d]:=by
 rw [dP (by simpa using h)]
 congr 1
 ·rw [List.take_set,List.set_eq_of_length_le (by simp;omega)]
 ·simp [List.getD_eq_getElem?_getD,h]
theorem WS {vp vp' V0 a p q pb x y : Nat} {c t : Nat}
  (h : vp + c * (p * q) = V0 + a * (p * pb)) (hs : vp' + (p * q) * x = vp + (p * q) * (t % 1000000000)) (ht : t = c + x + a * y) :
  vp' + t / 1000000000 * (p * (q * 1000000000)) = V0 + a * (p * (pb + q * y)):=by
 have e1 : (p * q) * (t % 1000000000) + t / 1000000000 * (p * (q * 1000000000)) = (p * q) * t:=by
  have : t / 1000000000 * (p * (q * 1000000000)) = (p * q) * (1000000000 * (t / 1000000000)):=by
   rw [← Nat.mul_assoc p q,Nat.mul_comm (t / 1000000000),Nat.mul_assoc]
  rw [this,← Nat.mul_add]
  congr 1
  omega
 have e2 : (p * q) * t = (p * q) * c + (p * q) * x + (p * q) * (a * y):=by rw [ht,Nat.mul_add,Nat.mul_add]
 have e3 : a * (p * (pb + q * y)) = a * (p * pb) + (p * q) * (a * y):=by
  rw [Nat.mul_add,Nat.mul_add,← Nat.mul_assoc p q y]
  congr 1
  rw [← Nat.mul_assoc,Nat.mul_comm a (p * q),Nat.mul_assoc]
 have e4 : c * (p * q) = (p * q) * c:=Nat.mul_comm _ _
 omega
theorem FW {a b q r : Nat} (h : a = q * b + r) (hr : r < b) : q = a / b ∧ r = a % b:=by
 have hb : 0 < b:=by omega
 subst h
 constructor
 ·rw [Nat.mul_comm,Nat.mul_add_div hb,Nat.div_eq_of_lt hr,Nat.add_zero]
 ·rw [Nat.mul_comm,Nat.mul_add_mod,Nat.mod_eq_of_lt hr]
end Go.Ml
namespace Go.Ml
theorem NT {l : List Int} (i : Nat) : val (l.drop i) ≤ val l:=by
 rw [rJ l i]
 have : val (l.drop i) ≤ 1000000000 ^ (l.take i).length * val (l.drop i):=Nat.le_mul_of_pos_left _ (Nat.pow_pos (by omega))
 omega
theorem IQ {l : List Int} {i : Nat} (h : i < l.length) : l.drop i = l.getD i 0 :: l.drop (i + 1):=by
 rw [List.drop_eq_getElem_cons h,List.getD_eq_getElem?_getD,List.getElem?_eq_getElem h];rfl
theorem aai {m n : Nat} {xs : List Int} (hv : val xs = m + n) (hb : Lb xs) (hl : xs.length ≤ max (mk m).length (mk n).length ∨ xs.getLast? ≠ some 0) : mk (m + n) = xs:=by
 rw [← hv]
 refine mk_val ⟨hb,?_⟩
 rcases hl with hl | hl
 ·refine (abu hb fun hne=>?_).2
  have hpos : 0 < xs.length:=by
   cases xs with
   | nil=>exact absurd rfl hne
   | cons=>simp
  rw [hv]
  have p1 : ∀ k : Nat,mk k ≠ [] → 1000000000 ^ ((mk k).length - 1) ≤ k:=fun k hk=>by
   have:=YQ (lG k) hk
   rwa [val_mk] at this
  by_cases hmn : (mk n).length ≤ (mk m).length
  ·have hm : mk m ≠ []:=by intro e;have h0 : (mk m).length = 0:=(by rw [e];rfl);omega
   have:=p1 m hm
   have h2 : (1000000000 : Nat) ^ (xs.length - 1) ≤ 1000000000 ^ ((mk m).length - 1):=Nat.pow_le_pow_right (by omega) (by omega)
   omega
  ·have hm : mk n ≠ []:=by intro e;have h0 : (mk n).length = 0:=(by rw [e];rfl);omega
   have:=p1 n hm
   have h2 : (1000000000 : Nat) ^ (xs.length - 1) ≤ 1000000000 ^ ((mk n).length - 1):=Nat.pow_le_pow_right (by omega) (by omega)
   omega
 ·exact hl
theorem FX {l : List Int} {i : Nat} (h : l.length ≤ i) : l.getD i 0 = 0:=by
 rw [List.getD_eq_getElem?_getD,List.getElem?_eq_none h];rfl
theorem fZ (l : List Int) (i : Nat) : val (l.drop i) = (l.getD i 0).toNat + 1000000000 * val (l.drop (i + 1)):=by
 by_cases h : i < l.length
 ·exact adw h
 ·rw [bW (by omega),bW (by omega),FX (by omega)];rfl
end Go.Ml
namespace Go.Ml
theorem iP (l : List Int) (i j : Nat) (v : Int) : (l.set i v).getD j 0 = if i = j ∧ i < l.length then v else l.getD j 0:=by
 simp only [List.getD_eq_getElem?_getD,List.getElem?_set]
 by_cases h : i = j
 ·subst h
  by_cases h2 : i < l.length
  ·simp [h2]
  ·simp [h2,List.getElem?_eq_none (Nat.le_of_not_lt h2)]
 ·simp [h]
end Go.Ml
namespace Go.Ml
theorem drop_set_self {l : List Int} {i : Nat} {d : Int} (h : i < l.length) : (l.set i d).drop i = d :: l.drop (i + 1):=by
 induction l generalizing i with
 | nil=>simp at h
 |
  cons x l ih =>
  cases i with
  | zero=>simp
  | succ i=>simpa using ih (by simpa using h)
theorem mQ {a b : Nat} : 0 ≤ EH a b ↔ b ≤ a:=by
 unfold EH
 by_cases h : a < b
 ·rw [if_pos h];omega
 ·rw [if_neg h]
  split <;> omega
theorem mk_one {d : Nat} (h0 : 0 < d) (h1 : d < 1000000000) : mk d = [(d : Int)]:=by
 rw [mk_pos (by omega),Nat.mod_eq_of_lt h1,Nat.div_eq_of_lt h1,mk_zero]
theorem adX {r b : Nat} (hb : 0 < b) (hle : b ≤ r) (hlt : r < b * 1000000000) :
  (mk b).length ≤ (mk r).length ∧ (mk r).length ≤ (mk b).length + 1 ∧ 0 < (mk b).length ∧
  ((mk b).length = 1 → let d:=val ((mk r).drop 0) / ((mk b).getD 0 0).toNat;0 < d ∧ d < 1000000000 ∧ d * b ≤ r ∧ 0 < ((mk b).getD 0 0).toNat) ∧
  (let d:=val ((mk r).drop ((mk b).length - 1)) / (((mk b).getD ((mk b).length - 1) 0).toNat + 1);d < 1000000000 ∧ d * b ≤ r):=by
 have hbm:=adv (n:=b) (by omega)
 have h1 : (mk b).length ≤ (mk r).length:=by
  have : (mk b).length - 1 < (mk r).length:=by
   rw [Tf]
   have:=YQ (lG b) (by intro e;rw [e] at hbm;simp at hbm)
   rw [val_mk] at this
   omega
  omega
 have h2 : (mk r).length ≤ (mk b).length + 1:=by
  rw [aZ,Nat.pow_succ]
  have:=oP (kH b)
  rw [val_mk] at this
  exact Nat.lt_of_lt_of_le hlt (Nat.mul_le_mul_right _ (Nat.le_of_lt this))
 refine ⟨h1,h2,hbm,?_,?_⟩
 ·intro hm
  have eb : ((mk b).getD 0 0).toNat = b:=by
   have h3:=fZ (mk b) 0
   rw [List.drop_zero,val_mk,bW (by omega)] at h3
   omega
  rw [List.drop_zero,val_mk,eb]
  refine ⟨Nat.div_pos hle hb,Nat.div_lt_of_lt_mul (by omega),Nat.div_mul_le_self r b,hb⟩
 ·have er:=rJ (mk r) ((mk b).length - 1)
  have eb:=rJ (mk b) ((mk b).length - 1)
  rw [val_mk] at er eb
  have l1 : ((mk r).take ((mk b).length - 1)).length = (mk b).length - 1:=by simp;omega
  have l2 : ((mk b).take ((mk b).length - 1)).length = (mk b).length - 1:=by simp
  rw [l1] at er
  rw [l2] at eb
  have ed:=fZ (mk b) ((mk b).length - 1)
  rw [show (mk b).length - 1 + 1 = (mk b).length by omega,bW (Nat.le_refl _)] at ed
  have hlo:=oP (Uy (kH b) ((mk b).length - 1))
  rw [l2] at hlo
  generalize hP : 1000000000 ^ ((mk b).length - 1) = P at *
  generalize hT : val ((mk r).drop ((mk b).length - 1)) = t at *
  generalize hB : ((mk b).getD ((mk b).length - 1) 0).toNat = bt at *
  have hd:=Nat.div_mul_le_self t (bt + 1)
  generalize hq : t / (bt + 1) = d at *
  have hbb : b ≤ P * (bt + 1):=by rw [Nat.mul_succ];rw [ed] at eb;simp only [Nat.mul_zero,Nat.add_zero] at eb;omega
  have key : d * b ≤ r:=by
   have s1 : d * b ≤ d * (P * (bt + 1)):=Nat.mul_le_mul_left _ hbb
   have s2 : d * (P * (bt + 1)) = P * (d * (bt + 1)):=by rw [Nat.mul_left_comm]
   have s3 : P * (d * (bt + 1)) ≤ P * t:=Nat.mul_le_mul_left _ hd
   omega
  refine ⟨?_,key⟩
  have : d * b < 1000000000 * b:=by rw [Nat.mul_comm 1000000000];omega
  exact Nat.lt_of_mul_lt_mul_right this
def Bl : Fn:=⟨1,33,[.tmp 2],(sr [oN 2 mF] (.seq (sr [oW 5 0,oN 6 (ln 5),oN 7 (bc .gtr 6 60)] (cd 7 (sr [oN 2 mF] .ret) .skip)) (.seq (sr [oW 8 0,oN 9 (ln 8),oN 10 (.bZ (cI 0))] (.block 0 (.loop (sr [oN 11 (bt .lss 10 9)] (.seq (cd 11 .skip (.exit 0)) (.seq (.block 1 (sr [oN 12 (ix 1 8 10),oN 13 (lF 1 12),oW 4 13] (sr [oW 14 4,oN 15 (bc .lss 14 0),oW 16 15,oG 16 false 17 (oV 4),oG 16 false 18 (bc .geq 17 1000000000),oN 19 (.pick (.t 16) (.c (.bool true)) (.t 18))] (cd 19 (sr [oN 2 mF] .ret) .skip)))) (rg [oN 20 (bc .add 10 1),oW 10 20]))))))) (sr [oW 21 0,oN 22 (ln 21),oN 23 (bc .eql 22 0),oW 24 23,oG 24 false 25 (oV 0),oG 24 false 26 (oV 0),oG 24 false 27 (ln 26),oG 24 false 28 (bc .sub 27 1),oG 24 false 29 (ix 1 25 28),oG 24 false 30 (lF 1 29),oG 24 false 31 (bc .neq 30 0),oN 32 (.pick (.t 24) (.c (.bool true)) (.t 31)),oW 2 32] .ret))))⟩
structure Bo (T : Tb) : Prop where
 hT : T 126 = some Bl
def lY : Fn:=⟨1,16,[.tmp 2],(sr [oN 2 mN] (.seq (rf 1 [oN 4 (.eG 1 FU 0 []),oK 3 1 (oV 4)]) (.seq (.block 0 (.loop (.seq (sr [oW 5 0,oN 6 (.bin .gtr (.t 5) (.c (.int .u64 0)))] (cd 6 .skip (.exit 0))) (.block 1 (.seq (rf 2 [oK 7 2 (oV 3),oK 8 2 (oV 0),oK 9 2 (.bin .rem (.t 8) (.c (.int .u64 1000000000))),oK 10 2 (.conv .i64 (.t 9)),oN 11 (.eG 1 FU 1 [(0,(.t 10))]),oK 12 1 (.app 1 8 (.t 7) (.t 11)),oK 3 2 (oV 12)]) (rg [oW 13 0,oN 14 (.bin .quo (.t 13) (.c (.int .u64 1000000000))),oW 0 14])))))) (sr [oW 15 3,oW 2 15] .ret))))⟩
structure jS (T : Tb) : Prop where
 hT : T 69 = some lY
def yQ : Fn:=⟨2,41,[.tmp 4],(sr [oN 4 (.bZ (cI 0))] (.seq (sr [oW 6 0,oN 7 (ln 6),oW 8 1,oN 9 (ln 8),oN 10 (bt .lss 7 9)] (cd 10 (sr [oN 4 (.bZ (cI (-1)))] .ret) .skip)) (.seq (sr [oW 11 0,oN 12 (ln 11),oW 13 1,oN 14 (ln 13),oN 15 (bt .gtr 12 14)] (cd 15 (sr [oN 4 (.bZ (cI 1))] .ret) .skip)) (.seq (sr [oW 16 0,oN 17 (ln 16),oN 18 (bc .sub 17 1),oW 5 18] (.block 0 (.loop (.seq (sr [oW 19 5,oN 20 (bc .geq 19 0)] (cd 20 .skip (.exit 0))) (.seq (.block 1 (.seq (.seq (rt 0 [oW 23 0,oW 24 5,oA 25 0 (ix 1 23 24) [0,1],oA 26 0 (lF 1 25) [2],oW 27 1,oW 28 5,oA 29 0 (ix 1 27 28) [4,5],oA 30 0 (lF 1 29) [6],oA 31 0 (bt .lss 26 30) [3,7]]) (cd 31 (sr [oN 4 (.bZ (cI (-1)))] .ret) .skip)) (.seq (rt 0 [oW 32 0,oW 33 5,oA 34 0 (ix 1 32 33) [0,1],oA 35 0 (lF 1 34) [2],oW 36 1,oW 37 5,oA 38 0 (ix 1 36 37) [4,5],oA 39 0 (lF 1 38) [6],oA 40 0 (bt .gtr 35 39) [3,7]]) (cd 40 (sr [oN 4 (.bZ (cI 1))] .ret) .skip)))) (rg [oW 21 5,oN 22 (bc .sub 21 1),oW 5 22])))))) (sr [oN 4 (.bZ (cI 0))] .ret)))))⟩
structure yR (T : Tb) : Prop where
 hT : T 152 = some yQ
def pW : Fn:=⟨1,21,[.tmp 2],(sr [oN 2 mN] (sr [oW 4 0,oN 5 (ln 4),oW 3 5] (.seq (.block 0 (.loop (.seq (sr [oW 6 3,oN 7 (bc .gtr 6 0),oW 8 7,oG 8 true 9 (oV 0),oG 8 true 10 (oV 3),oG 8 true 11 (bc .sub 10 1),oG 8 true 12 (ix 1 9 11),oG 8 true 13 (lF 1 12),oG 8 true 14 (bc .eql 13 0),oN 15 (.pick (.t 8) (.t 14) (.c (.bool false)))] (cd 15 .skip (.exit 0))) (.block 1 (rg [oW 16 3,oN 17 (bc .sub 16 1),oW 3 17]))))) (sr [oW 18 0,oW 19 3,oN 20 (.slice 1 (.t 18) none (some (.t 19))),oW 2 20] .ret))))⟩
structure lZ (T : Tb) : Prop where
 hT : T 151 = some pW
def yS : Fn:=⟨2,53,[.tmp 4],(sr [oN 4 mN] (.seq (rf 1 [oN 8 (.eG 1 FU 0 []),oK 5 1 (oV 8)]) (sr [oN 6 (.bZ (cI 0))] (.seq (sr [oN 7 (.bZ (cI 0))] (.block 0 (.loop (.seq (sr [oW 9 7,oW 10 0,oN 11 (ln 10),oN 12 (bt .lss 9 11),oW 13 12,oG 13 false 14 (oV 7),oG 13 false 15 (oV 1),oG 13 false 16 (ln 15),oG 13 false 17 (bt .lss 14 16),oN 18 (.pick (.t 13) (.c (.bool true)) (.t 17)),oW 19 18,oG 19 false 20 (oV 6),oG 19 false 21 (bc .gtr 20 0),oN 22 (.pick (.t 19) (.c (.bool true)) (.t 21))] (cd 22 .skip (.exit 0))) (.seq (.block 1 (.seq (sr [oW 25 7,oW 26 0,oN 27 (ln 26),oN 28 (bt .lss 25 27)] (cd 28 (rg [oW 29 6,oW 30 0,oW 31 7,oN 32 (ix 1 30 31),oN 33 (lF 1 32),oN 34 (bt .add 29 33),oW 6 34]) .skip)) (.seq (sr [oW 35 7,oW 36 1,oN 37 (ln 36),oN 38 (bt .lss 35 37)] (cd 38 (rg [oW 39 6,oW 40 1,oW 41 7,oN 42 (ix 1 40 41),oN 43 (lF 1 42),oN 44 (bt .add 39 43),oW 6 44]) .skip)) (.seq (rf 2 [oK 45 2 (oV 5),oK 46 2 (oV 6),oK 47 2 (bc .rem 46 1000000000),oN 48 (.eG 1 FU 1 [(0,(.t 47))]),oK 49 1 (.app 1 8 (.t 45) (.t 48)),oK 5 2 (oV 49)]) (rg [oW 50 6,oN 51 (bc .quo 50 1000000000),oW 6 51]))))) (rg [oW 23 7,oN 24 (bc .add 23 1),oW 7 24])))))) (sr [oW 52 5,oW 4 52] .ret)))))⟩
structure DV (T : Tb) : Prop where
 hT : T 160 = some yS
def yT : Fn:=⟨2,44,[.tmp 4],(sr [oN 4 mN] (.seq (rf 1 [oK 9 1 (oV 0),oK 10 1 (ln 9),oN 11 (.make FU 8 (.t 10)),oK 5 1 (oV 11)]) (sr [oN 6 (.bZ (cI 0))] (.seq (sr [oW 12 0,oN 13 (ln 12),oN 14 (.bZ (cI 0))] (.block 0 (.loop (sr [oN 15 (bt .lss 14 13)] (.seq (cd 15 .skip (.exit 0)) (.seq (.block 1 (sr [oW 16 14,oW 7 16] (sr [oW 17 0,oW 18 7,oN 19 (ix 1 17 18),oN 20 (lF 1 19),oW 21 6,oN 22 (bt .sub 20 21),oW 8 22] (.seq (sr [oW 23 7,oW 24 1,oN 25 (ln 24),oN 26 (bt .lss 23 25)] (cd 26 (rg [oW 27 8,oW 28 1,oW 29 7,oN 30 (ix 1 28 29),oN 31 (lF 1 30),oN 32 (bt .sub 27 31),oW 8 32]) .skip)) (sr [oN 6 (.bZ (cI 0))] (.seq (sr [oW 33 8,oN 34 (bc .lss 33 0)] (cd 34 (sr [oW 35 8,oN 36 (bc .add 35 1000000000),oW 8 36] (rg [oN 6 (.bZ (cI 1))])) .skip)) (rg [oW 37 5,oW 38 7,oW 39 8,oN 40 (ix 1 37 38),oS (.store 1 (.t 40) (.t 39))]))))))) (rg [oN 41 (bc .add 14 1),oW 14 41]))))))) (sr [oW 42 5,oN 43 (cl 151 [42]),oW 4 43] .ret)))))⟩
structure yU (T : Tb) : Prop where
 hT : T 154 = some yT
 jc : lZ T
def yV : Fn:=⟨2,71,[.tmp 4],(sr [oN 4 mN] (.seq (sr [oW 9 0,oN 10 (ln 9),oN 11 (bc .eql 10 0),oW 12 11,oG 12 false 13 (oV 1),oG 12 false 14 (ln 13),oG 12 false 15 (bc .eql 14 0),oN 16 (.pick (.t 12) (.c (.bool true)) (.t 15))] (cd 16 (sr [oN 4 mN] .ret) .skip)) (.seq (rf 1 [oK 17 1 (oV 0),oK 18 1 (ln 17),oK 19 1 (oV 1),oK 20 1 (ln 19),oK 21 1 (bt .add 18 20),oN 22 (.make FU 8 (.t 21)),oK 5 1 (oV 22)]) (.seq (sr [oW 23 0,oN 24 (ln 23),oN 25 (.bZ (cI 0))] (.block 0 (.loop (sr [oN 26 (bt .lss 25 24)] (.seq (cd 26 .skip (.exit 0)) (.seq (.block 1 (sr [oW 27 25,oW 6 27] (sr [oN 7 (.bZ (cI 0))] (.seq (sr [oW 28 1,oN 29 (ln 28),oN 30 (.bZ (cI 0))] (.block 2 (.loop (sr [oN 31 (bt .lss 30 29)] (.seq (cd 31 .skip (.exit 2)) (.seq (.block 3 (sr [oW 32 30,oW 8 32] (.seq (rt 0 [oW 33 7,oW 34 5,oW 35 6,oW 36 8,oA 37 0 (bt .add 35 36) [2,3],oA 38 0 (ix 1 34 37) [1,4],oA 39 0 (lF 1 38) [5],oW 40 0,oW 41 6,oA 42 0 (ix 1 40 41) [7,8],oA 43 0 (lF 1 42) [9],oW 44 1,oW 45 8,oA 46 0 (ix 1 44 45) [11,12],oA 47 0 (lF 1 46) [13],oA 48 0 (bt .mul 43 47) [10,14],oA 49 0 (bt .add 39 48) [6,15],oA 50 0 (bt .add 33 49) [0,16],oA 7 0 (oV 50) [17,0,1,2,3,4,5,6,7,8,9,10,11,12,13,14,15,16,17]]) (sr [oW 51 5,oW 52 6,oW 53 8,oN 54 (bt .add 52 53),oW 55 7,oN 56 (bc .rem 55 1000000000),oN 57 (ix 1 51 54),oS (.store 1 (.t 57) (.t 56))] (rg [oW 58 7,oN 59 (bc .quo 58 1000000000),oW 7 59]))))) (rg [oN 60 (bc .add 30 1),oW 30 60]))))))) (rg [oW 61 5,oW 62 6,oW 63 1,oN 64 (ln 63),oN 65 (bt .add 62 64),oW 66 7,oN 67 (ix 1 61 65),oS (.store 1 (.t 67) (.t 66))]))))) (rg [oN 68 (bc .add 25 1),oW 25 68]))))))) (sr [oW 69 5,oN 70 (cl 151 [69]),oW 4 70] .ret)))))⟩
structure yX (T : Tb) : Prop where
 hT : T 155 = some yV
 jc : lZ T
def tV : Fn:=⟨1,20,[.tmp 2],(sr [oN 2 (.bZ (cI 0))] (sr [oN 3 (.bZ (cI 0))] (.seq (sr [oW 5 0,oN 6 (ln 5),oN 7 (bc .sub 6 1),oW 4 7] (.block 0 (.loop (.seq (sr [oW 8 4,oN 9 (bc .geq 8 0)] (cd 9 .skip (.exit 0))) (.seq (.block 1 (rg [oW 12 3,oN 13 (bc .mul 12 1000000000),oW 14 0,oW 15 4,oN 16 (ix 1 14 15),oN 17 (lF 1 16),oN 18 (bt .add 13 17),oW 3 18])) (rg [oW 10 4,oN 11 (bc .sub 10 1),oW 4 11])))))) (sr [oW 19 3,oW 2 19] .ret))))⟩
structure tX (T : Tb) : Prop where
 hT : T 137 = some tV
theorem dD {p : Prop} (h : p:=by
 first | omega | assumption | (simp;omega)) : p:=h
theorem EM {T : Tb} (h : lZ T) {l : List Int} (hl : l.length ≤ 1048576:=by exact dD) : PF T 151 [ints l] (ints (trim l)):=by
 refine aT nR h.hT ?_
 simp only [pW,Lz]
 refine ev ?_
 refine aQ (fun _ _=>false) (α:=Nat) (fun n=>⟨bM [ints l,.any,.any,iv (n : Nat)],[],0,0,[],[]⟩) (fun n=>n ≤ l.length ∧ mP l l.length = mP l n) (fun n=>n) rfl l.length ?_ ?_ ?_
 ·exact ⟨by omega,rfl⟩
 ·(refine aI ?_;exact yB)
 ·rintro n ⟨hn,ht⟩
  refine ev ?_
  refine aG (fun hb=>?_) fun hb=>?_ <;> (refine ev1 @hb ?_;try with_reducible exact True.intro)
  ·obtain ⟨m,rfl⟩ : ∃ m,n = m + 1:=⟨n - 1,by omega⟩
   have e1 : ((m + 1 : Nat) : Int) - 1 = (m : Nat):=by omega
   refine ev1 @e1 ?_
   refine aG (fun hc=>?_) fun hc=>?_ <;> (refine ev1 @hc ?_;try with_reducible exact True.intro)
   ·refine ⟨m,by omega,⟨by omega,?_⟩,by (refine aI ?_;exact yB)⟩
    rw [ht];simp only [mP,hc,if_true]
   ·rw [trim,ht];simp only [mP,hc,if_false]
  ·have : n = 0:=by omega
   subst this
   rw [trim,ht]
   simp [mP,aN]
theorem Y0 {a b : St} (h : Fg a b:=by
 (refine PU [] (by simp) (by intro p hp;cases hp) rfl ?_) <;> (try (refine ev ?_;try with_reducible exact True.intro)) <;> (repeat' (first | exact True.intro | omega | exact fV rfl (by simp) | refine ⟨?_,?_⟩ | exact of_eq_true (Ag _ _ _) | exact jm rfl (by simp;done) | exact jm rfl rfl | (refine kS rfl ?_ rfl;simp [aN];done) | (refine kS rfl ?_ rfl;simp [aN];omega) | (refine Cb ?_ ?_;(focus ((refine ev ?_;try with_reducible exact True.intro);done));(intro q hq k s0 l0;simp;done))))) : Fg a b:=h
theorem JK {a b : St} (h : Fg a b:=by
 first | ((refine aI ?_;exact yB);done) | (exact Y0;done)) : Fg a b:=h
theorem EN {a b : St} (h : Fg a b:=by
 (simp only [← Cj];refine Dv (k:=1) (Dw _ _) rfl ?_;(try (refine ev ?_;try with_reducible exact True.intro));(repeat' (first | exact True.intro | omega | exact vC (by simp) (by simp) (by simp) | refine ⟨?_,?_⟩ | exact jm rfl (by simp))))) : Fg a b:=h
theorem EO {a b : St} (h : Fg a b:=by
 (simp only [← Cj];refine Dv (k:=2) (Dw _ _) rfl ?_;(try (refine ev ?_;try with_reducible exact True.intro));(repeat' (first | exact True.intro | omega | exact vC (by simp) (by simp) (by simp) | refine ⟨?_,?_⟩ | exact jm rfl (by simp))))) : Fg a b:=h
theorem pX {T : Tb} (h : jS T) {n : Int} (hn : 0 ≤ n ∧ n < 18446744073709551616:=by exact dD) : PF T 69 [.int .u64 n] (ints (mk n.toNat)):=by
 have hlen : (mk n.toNat).length ≤ 3:=aZ.2 (by omega)
 refine aK nR h.hT ?_
 simp only [lY,Lz]
 refine ev ?_
 refine aQ (fun _ _=>false) (α:=Nat × List Int) (fun q=>⟨bM [.int .u64 (q.1 : Nat),.any,.any,slV q.2.length],Yk 1 (aN q.2),0,0,[],[]⟩) (fun q=>q.2 ++ mk q.1 = mk n.toNat ∧ q.1 ≤ n.toNat) (fun q=>q.1) rfl (n.toNat,[]) ?_ ?_ ?_
 ·exact ⟨rfl,Nat.le_refl _⟩
 ·exact JK
 ·rintro ⟨m,xs⟩ ⟨hm,hle⟩
  dsimp only at hm hle
  have hx : xs.length ≤ 3:=by
   have:=congrArg List.length hm
   simp at this;omega
  have e1 : ((m : Int).tmod 1000000000) = ((m % 1000000000 : Nat) : Int):=by rw [JI (by omega)];omega
  have e2 : ((m : Int).tdiv 1000000000) = ((m / 1000000000 : Nat) : Int):=by rw [JJ (by omega)];omega
  have key : 0 < m → (xs ++ [((m % 1000000000 : Nat) : Int)]) ++ mk (m / 1000000000) = mk n.toNat:=fun h=>by
   rw [← hm,mk_pos (n:=m) (by omega)];simp
  (rcases xs with _ | ⟨x,xs⟩ <;> simp only [List.length_nil,List.length_cons,kT,jW,gI,dW] at hx ⊢)
  ·refine ev ?_
   refine aG (fun hb=>?_) fun hb=>?_ <;> (refine uO @hb @e1 @e2 ?_;try with_reducible exact True.intro)
   ·exact ⟨by omega,(m / 1000000000,[] ++ [((m % 1000000000 : Nat) : Int)]),by dsimp only;omega,⟨key (by omega),by dsimp only;omega⟩,by exact EN⟩
   ·have e : mk n.toNat = []:=by rw [← hm,show m = 0 by omega,mk_zero];rfl
    rw [e];exact (gZ 1 ▸ trivial)
  ·refine ev ?_
   refine aG (fun hb=>?_) fun hb=>?_ <;> (refine uO @hb @e1 @e2 ?_;try with_reducible exact True.intro)
   ·refine ⟨by omega,(m / 1000000000,(x :: xs) ++ [((m % 1000000000 : Nat) : Int)]),by dsimp only;omega,⟨key (by omega),by dsimp only;omega⟩,by exact EO⟩
   ·have e : x :: xs = mk n.toNat:=by rw [← hm,show m = 0 by omega,mk_zero];simp
    rw [← e];exact aC _
theorem aaj {T : Tb} (h : Bo T) {l : List Int} (hl : l.length ≤ 9223372036854775807:=by exact dD) : PF T 126 [ints l] (.bool (nP l)):=by
 refine aT nR h.hT ?_
 simp only [Bl,Lz]
 refine ev ?_
 refine aG (fun h1=>?_) fun h1=>?_ <;> (refine ev1 @h1 ?_;try with_reducible exact True.intro)
 ·simp [nP];intro h2;omega
 refine aQ (fun _ _=>false) (α:=Nat) (fun i=>⟨bM [ints l,.any,.any,.any,.any,.any,.any,.any,ints l,iv (l.length : Nat),iv (i : Nat)],[],0,0,[],[]⟩) (fun i=>i ≤ l.length ∧ ∀ j,j < i → 0 ≤ l.getD j 0 ∧ l.getD j 0 < 1000000000) (fun i=>l.length - i) rfl 0 ?_ ?_ ?_
 ·exact ⟨by omega,by intro j hj;omega⟩
 ·(refine aI ?_;exact yB)
 ·rintro i ⟨hi,hj⟩
  refine ev ?_
  refine aG (fun h2=>?_) fun h2=>?_ <;> (refine ev1 @h2 ?_;try with_reducible exact True.intro)
  ·have bad : ¬ (0 ≤ l.getD i 0 ∧ l.getD i 0 < 1000000000) → nP l = false:=fun hn=>by
    have : ¬ nP l = true:=fun e=>by
     have hc:=(IK.1 e).2.1
     exact hn (kJ hc i)
    simpa using this
   repeat' (first | ((refine aG (fun hb=>?_) fun hb=>?_) <;> (try (refine ev1 @hb ?_;try with_reducible exact True.intro))))
   all_goals first
    | (rw [bad (by omega)];done)
    | (
      refine ⟨i + 1,by omega,⟨by omega,fun j hj'=>?_⟩,by (refine aI ?_;exact yB)⟩
      by_cases e : j = i
      ·subst e;omega
      ·exact hj j (by omega))
  ·have hi2 : i = l.length:=by omega
   subst hi2
   have hall : l.all (fun d=>decide (0 ≤ d) && decide (d < 1000000000)) = true:=by
    rw [List.all_eq_true]
    intro d hd
    obtain ⟨j,hj1,rfl⟩:=List.mem_iff_getElem.1 hd
    have:=hj j hj1
    rw [List.getD_eq_getElem?_getD,List.getElem?_eq_getElem hj1] at this
    simpa using this
   repeat' (first | ((refine aG (fun hb=>?_) fun hb=>?_) <;> (try (refine ev1 @hb ?_;try with_reducible exact True.intro))))
   ·have : l = []:=List.eq_nil_of_length_eq_zero (by omega)
    subst this;rfl
   ·have e1 : ((l.length : Nat) : Int) - 1 = ((l.length - 1 : Nat) : Int):=by omega
    have e2 : ((l.length : Int) - 1).toNat = l.length - 1:=by omega
    have e3 : l.isEmpty = false:=by cases l <;> simp_all
    have e4 : decide (l.length ≤ 60) = true:=by simp;omega
    unfold nP
    rw [hall,e3,e4,e2];simp
theorem Qh {T : Tb} (h : yR T) {a b : List Int} (ha : Can a) (hb : Can b) (la : a.length ≤ 1048576:=by exact dD) (lb : b.length ≤ 1048576:=by exact dD) : PF T 152 [ints a,ints b] (iv (EH (val a) (val b))):=by
 refine aT nR h.hT ?_
 simp only [yQ,Lz]
 refine ev ?_
 refine aG (fun h1=>?_) fun h1=>?_ <;> (refine ev1 @h1 ?_;try with_reducible exact True.intro)
 ·have:=nX ha.1 hb (by omega)
  simp [EH,this]
 refine aG (fun h2=>?_) fun h2=>?_ <;> (refine ev1 @h2 ?_;try with_reducible exact True.intro)
 ·have:=nX hb.1 ha (by omega)
  have h3 : ¬ val a < val b:=by omega
  simp [EH,this,h3]
 have hl : a.length = b.length:=by omega
 refine aQ (fun _ _=>false) (α:=Nat) (fun n=>⟨bM [ints a,ints b,.any,.any,.any,iv ((n : Int) - 1)],[],0,0,[],[]⟩) (fun n=>n ≤ a.length ∧ a.drop n = b.drop n) (fun n=>n) rfl a.length ?_ ?_ ?_
 ·exact ⟨by omega,by rw [List.drop_eq_nil_of_le (by omega),List.drop_eq_nil_of_le (by omega)]⟩
 ·(refine aI ?_;exact yB)
 ·rintro n ⟨hn,hd⟩
  refine ev ?_
  refine aG (fun h3=>?_) fun h3=>?_ <;> (refine ev1 @h3 ?_;try with_reducible exact True.intro)
  ·obtain ⟨m,rfl⟩ : ∃ m,n = m + 1:=⟨n - 1,by omega⟩
   have e1 : ((m + 1 : Nat) : Int) - 1 = (m : Nat):=by omega
   refine ev1 @e1 ?_
   refine aG (fun h4=>?_) fun h4=>?_ <;> (refine iW @h4 @e1 ?_;try with_reducible exact True.intro)
   ·have:=IJ ha.1 hb.1 (i:=m) (by omega) (by omega) hd h4
    simp [EH,this]
   refine aG (fun h5=>?_) fun h5=>?_ <;> (refine iW @h5 @e1 ?_;try with_reducible exact True.intro)
   ·have:=IJ hb.1 ha.1 (i:=m) (by omega) (by omega) hd.symm h5
    have h6 : ¬ val a < val b:=by omega
    simp [EH,this,h6]
   have e : a.getD m 0 = b.getD m 0:=by omega
   refine ⟨m,by omega,⟨by omega,?_⟩,by (refine aI ?_;exact yB)⟩
   rw [IQ (by omega),IQ (l:=b) (by omega),e,hd]
  ·have : n = 0:=by omega
   subst this
   simp only [List.drop_zero] at hd
   subst hd
   simp [EH]
theorem yC {T : Tb} (h : tX T) {n : Nat} (hn : n < 1000000000000000000:=by exact dD) : PF T 137 [ints (mk n)] (iv (n : Nat)):=by
 have hl : (mk n).length ≤ 2:=aZ.2 (by omega)
 have hv:=val_mk n
 refine aT nR h.hT ?_
 simp only [tV,Lz]
 refine ev ?_
 refine aQ (fun _ _=>false) (α:=Nat) (fun k=>⟨bM [ints (mk n),.any,.any,iv (val ((mk n).drop k) : Nat),iv ((k : Int) - 1)],[],0,0,[],[]⟩) (fun k=>k ≤ (mk n).length) (fun k=>k) rfl (mk n).length ?_ ?_ ?_
 ·omega
 ·have e : val ((mk n).drop (mk n).length) = 0:=bW (Nat.le_refl _)
  simp only [e]
  (refine aI ?_;exact yB)
 ·intro k hk
  refine ev ?_
  refine aG (fun h3=>?_) fun h3=>?_ <;> (refine ev1 @h3 ?_;try with_reducible exact True.intro)
  ·obtain ⟨m,rfl⟩ : ∃ m,k = m + 1:=⟨k - 1,by omega⟩
   have e1 : ((m + 1 : Nat) : Int) - 1 = (m : Nat):=by omega
   have e2:=fZ (mk n) m
   have e3:=NT (l:=mk n) m
   have e4:=kJ (kH n) m
   refine ev1 @e1 ?_
   exact ⟨m,by omega,by omega,by (refine aI ?_;exact yB)⟩
  ·have : k = 0:=by omega
   subst this
   rw [List.drop_zero,hv]
theorem adY {T : Tb} (h : DV T) {m n : Nat} (la : (mk m).length ≤ 1000:=by exact dD) (lb : (mk n).length ≤ 1000:=by exact dD) : PF T 160 [ints (mk m),ints (mk n)] (ints (mk (m + n))):=by
 obtain ⟨a,hA⟩ : ∃ a,mk m = a:=⟨_,rfl⟩
 obtain ⟨b,hB⟩ : ∃ b,mk n = b:=⟨_,rfl⟩
 have hva : val a = m:=by rw [← hA,val_mk]
 have hvb : val b = n:=by rw [← hB,val_mk]
 have hba : Lb a:=hA ▸ kH m
 have hbb : Lb b:=hB ▸ kH n
 rw [hA] at la ⊢
 rw [hB] at lb ⊢
 refine aK nR h.hT ?_
 simp only [yS,Lz]
 refine ev ?_
 refine aQ (fun _ _=>false) (α:=Nat × Int × List Int) (fun q=>⟨bM [ints a,ints b,.any,.any,.any,slV q.2.2.length,iv q.2.1,iv (q.1 : Nat)],Yk 1 (aN q.2.2),0,0,[],[]⟩) (fun q=>q.2.2.length = q.1 ∧ Lb q.2.2 ∧ (0 ≤ q.2.1 ∧ q.2.1 ≤ 1) ∧ val q.2.2 + 1000000000 ^ q.1 * (q.2.1.toNat + val (a.drop q.1) + val (b.drop q.1)) = m + n ∧ (q.1 ≤ max a.length b.length ∨ (q.1 = max a.length b.length + 1 ∧ q.2.1 = 0 ∧ q.2.2.getLast? ≠ some 0))) (fun q=>max a.length b.length + 1 - q.1) rfl (0,0,[]) ?_ ?_ ?_
 ·exact ⟨rfl,YP,⟨by dsimp only;omega,by dsimp only;omega⟩,by simp [val,hva,hvb],by dsimp only;omega⟩
 ·exact JK
 ·rintro ⟨i,c,xs⟩ ⟨hl,hlb,hc,hv,hi⟩
  dsimp only at hl hlb hc hv hi
  have hi' : i ≤ max a.length b.length ∨ (i = max a.length b.length + 1 ∧ c = 0):=hi.imp id fun h=>⟨h.1,h.2.1⟩
  have hx : xs.length ≤ 1001:=by omega
  have ea:=fZ a i
  have eb:=fZ b i
  have ga:=kJ hba i
  have gb:=kJ hbb i
  have step:=WO hl hc.1 ga.1 gb.1 hv ea eb
  have za : a.length ≤ i → a.getD i 0 = 0:=FX
  have zb : b.length ≤ i → b.getD i 0 = 0:=FX
  have key : ∀ t : Int,t = c + a.getD i 0 + b.getD i 0 → ((i : Int) < a.length ∨ (i : Int) < b.length ∨ 0 < c) → ∃ a' : Nat × Int × List Int,a' = (i + 1,t.tdiv 1000000000,xs ++ [t.tmod 1000000000]) ∧
    max a.length b.length + 1 - a'.1 < max a.length b.length + 1 - i ∧ (a'.2.2.length = a'.1 ∧ Lb a'.2.2 ∧ (0 ≤ a'.2.1 ∧ a'.2.1 ≤ 1) ∧ val a'.2.2 + 1000000000 ^ a'.1 * (a'.2.1.toNat + val (a.drop a'.1) + val (b.drop a'.1)) = m + n ∧
     (a'.1 ≤ max a.length b.length ∨ (a'.1 = max a.length b.length + 1 ∧ a'.2.1 = 0 ∧ a'.2.2.getLast? ≠ some 0))):=by
   intro t ht hor
   have ht0 : 0 ≤ t:=by omega
   refine ⟨_,rfl,?_⟩
   dsimp only
   rw [JI ht0,JJ ht0]
   refine ⟨by omega,by simp [hl],Uz (by omega) (by omega) hlb,⟨by omega,by omega⟩,by rw [ht];exact step,?_⟩
   by_cases hlt : i < max a.length b.length
   ·left;omega
   ·right
    have h1:=za (by omega)
    have h2:=zb (by omega)
    refine ⟨by omega,by omega,?_⟩
    intro hlast
    rw [List.getLast?_concat] at hlast
    have:=Option.some.inj hlast
    omega
  have fin : ¬ ((i : Int) < a.length ∨ (i : Int) < b.length ∨ 0 < c) → xs = mk (m + n):=by
   intro hno
   have e1 : val (a.drop i) = 0:=bW (by omega)
   have e2 : val (b.drop i) = 0:=bW (by omega)
   rw [e1,e2,show c.toNat = 0 by omega] at hv
   simp only [Nat.add_zero,Nat.mul_zero] at hv
   refine (aai hv hlb ?_).symm
   rw [hA,hB]
   rcases hi with k | k
   ·left;omega
   ·right;exact k.2.2
  by_cases ca : (i : Int) < (a.length : Nat) <;> by_cases cb : (i : Int) < (b.length : Nat) <;> by_cases cc : 0 < c
  ·obtain ⟨_,rfl,k1,k2⟩:=key (c + a.getD i 0 + b.getD i 0) (by omega) (by omega)
   clear key step fin ea eb hi hv hlb hba hbb za zb
   (rcases xs with _ | ⟨x,xs⟩ <;> simp only [List.length_nil,List.length_cons,kT,jW,gI,dW] at hx ⊢)
   ·refine uO @ca @cb @cc ?_
    exact ⟨by omega,_,k1,k2,by exact EN⟩
   ·refine uO @ca @cb @cc ?_
    exact ⟨by omega,_,k1,k2,by exact EO⟩
  ·obtain ⟨_,rfl,k1,k2⟩:=key (c + a.getD i 0 + b.getD i 0) (by omega) (by omega)
   clear key step fin ea eb hi hv hlb hba hbb za zb
   (rcases xs with _ | ⟨x,xs⟩ <;> simp only [List.length_nil,List.length_cons,kT,jW,gI,dW] at hx ⊢)
   ·refine uO @ca @cb @cc ?_
    exact ⟨by omega,_,k1,k2,by exact EN⟩
   ·refine uO @ca @cb @cc ?_
    exact ⟨by omega,_,k1,k2,by exact EO⟩
  ·obtain ⟨_,rfl,k1,k2⟩:=key (c + a.getD i 0) (by omega) (by omega)
   clear key step fin ea eb hi hv hlb hba hbb za zb
   (rcases xs with _ | ⟨x,xs⟩ <;> simp only [List.length_nil,List.length_cons,kT,jW,gI,dW] at hx ⊢)
   ·refine uO @ca @cb @cc ?_
    exact ⟨by omega,_,k1,k2,by exact EN⟩
   ·refine uO @ca @cb @cc ?_
    exact ⟨by omega,_,k1,k2,by exact EO⟩
  ·obtain ⟨_,rfl,k1,k2⟩:=key (c + a.getD i 0) (by omega) (by omega)
   clear key step fin ea eb hi hv hlb hba hbb za zb
   (rcases xs with _ | ⟨x,xs⟩ <;> simp only [List.length_nil,List.length_cons,kT,jW,gI,dW] at hx ⊢)
   ·refine uO @ca @cb @cc ?_
    exact ⟨by omega,_,k1,k2,by exact EN⟩
   ·refine uO @ca @cb @cc ?_
    exact ⟨by omega,_,k1,k2,by exact EO⟩
  ·obtain ⟨_,rfl,k1,k2⟩:=key (c + b.getD i 0) (by omega) (by omega)
   clear key step fin ea eb hi hv hlb hba hbb za zb
   (rcases xs with _ | ⟨x,xs⟩ <;> simp only [List.length_nil,List.length_cons,kT,jW,gI,dW] at hx ⊢)
   ·refine uO @ca @cb @cc ?_
    exact ⟨by omega,_,k1,k2,by exact EN⟩
   ·refine uO @ca @cb @cc ?_
    exact ⟨by omega,_,k1,k2,by exact EO⟩
  ·obtain ⟨_,rfl,k1,k2⟩:=key (c + b.getD i 0) (by omega) (by omega)
   clear key step fin ea eb hi hv hlb hba hbb za zb
   (rcases xs with _ | ⟨x,xs⟩ <;> simp only [List.length_nil,List.length_cons,kT,jW,gI,dW] at hx ⊢)
   ·refine uO @ca @cb @cc ?_
    exact ⟨by omega,_,k1,k2,by exact EN⟩
   ·refine uO @ca @cb @cc ?_
    exact ⟨by omega,_,k1,k2,by exact EO⟩
  ·obtain ⟨_,rfl,k1,k2⟩:=key (c) (by omega) (by omega)
   clear key step fin ea eb hi hv hlb hba hbb za zb
   (rcases xs with _ | ⟨x,xs⟩ <;> simp only [List.length_nil,List.length_cons,kT,jW,gI,dW] at hx ⊢)
   ·refine uO @ca @cb @cc ?_
    exact ⟨by omega,_,k1,k2,by exact EN⟩
   ·refine uO @ca @cb @cc ?_
    exact ⟨by omega,_,k1,k2,by exact EO⟩
  ·have e:=fin (by omega)
   clear key step fin ea eb hi hv hlb hba hbb za zb
   (rcases xs with _ | ⟨x,xs⟩ <;> simp only [List.length_nil,List.length_cons,kT,jW,gI,dW] at hx ⊢)
   ·refine uO @ca @cb @cc ?_
    rw [← e];exact (gZ 1 ▸ trivial)
   ·refine uO @ca @cb @cc ?_
    rw [← e];exact aC _
theorem KH {T : Tb} (h : yU T) {m n : Nat} (hle : n ≤ m) (la : (mk m).length ≤ 1000:=by exact dD) (lb : (mk n).length ≤ 1000:=by exact dD) : PF T 154 [ints (mk m),ints (mk n)] (ints (mk (m - n))):=by
 obtain ⟨a,hA⟩ : ∃ a,mk m = a:=⟨_,rfl⟩
 obtain ⟨b,hB⟩ : ∃ b,mk n = b:=⟨_,rfl⟩
 have hva : val a = m:=by rw [← hA,val_mk]
 have hvb : val b = n:=by rw [← hB,val_mk]
 have hba : Lb a:=hA ▸ kH m
 have hbb : Lb b:=hB ▸ kH n
 have hlen : b.length ≤ a.length:=by
  rcases Nat.lt_or_ge a.length b.length with k | k
  ·have:=nX hba (hB ▸ lG n) k
   omega
  ·exact k
 rw [hA] at la ⊢
 rw [hB] at lb ⊢
 refine aT nR h.hT ?_
 simp only [yT,Lz]
 refine ev ?_
 refine ⟨by omega,?_⟩
 rw [FN]
 refine aQ (fun _ _=>false) (α:=Nat × Int × List Int) (fun q=>⟨bM [ints a,ints b,.any,.any,.any,.bC 0 0 a.length,iv q.2.1,.any,.any,.any,.any,.any,ints a,iv (a.length : Nat),iv (q.1 : Nat)],[some ⟨1,aN q.2.2⟩],0,0,[],[]⟩) (fun q=>q.1 ≤ a.length ∧ q.2.2.length = a.length ∧ Lb q.2.2 ∧ (q.2.1 = 0 ∨ q.2.1 = 1) ∧ val (q.2.2.take q.1) + val (b.take q.1) = val (a.take q.1) + q.2.1.toNat * 1000000000 ^ q.1) (fun q=>a.length - q.1) rfl (0,0,List.replicate a.length 0) ?_ ?_ ?_
 ·exact ⟨by omega,by simp,JE _,.inl rfl,by simp [val]⟩
 ·(refine aI ?_;exact yB)
 ·rintro ⟨i,bo,D⟩ ⟨hi,hD,JL,hbo,hv⟩
  dsimp only at hi hD JL hbo hv
  have ga:=kJ hba i
  have gb:=kJ hbb i
  have zb : b.length ≤ i → b.getD i 0 = 0:=FX
  by_cases c1 : (i : Int) < (a.length : Nat)
  ·have key : ∀ d WR : Int,d + b.getD i 0 + bo = a.getD i 0 + WR * 1000000000 → 0 ≤ d → d < 1000000000 → (WR = 0 ∨ WR = 1) → ∃ a' : Nat × Int × List Int,a' = (i + 1,WR,D.set i d) ∧
     a.length - a'.1 < a.length - i ∧ (a'.1 ≤ a.length ∧ a'.2.2.length = a.length ∧ Lb a'.2.2 ∧ (a'.2.1 = 0 ∨ a'.2.1 = 1) ∧ val (a'.2.2.take a'.1) + val (b.take a'.1) = val (a.take a'.1) + a'.2.1.toNat * 1000000000 ^ a'.1):=by
    intro d WR hd d0 d1 hb'
    refine ⟨_,rfl,by dsimp only;omega,by dsimp only;omega,by simp [hD],FT d0 d1 JL,hb',?_⟩
    dsimp only
    have e1 : (D.take i).length = i:=by simp;omega
    have e2 : (a.take i).length = i:=by simp;omega
    rw [RH (by omega),nO,e1,dP (l:=a) (by omega),nO,e2]
    have e3 : val (b.take (i + 1)) = val (b.take i) + 1000000000 ^ i * (b.getD i 0).toNat:=by
     by_cases hb2 : i < b.length
     ·rw [dP hb2,nO];congr 3;simp;omega
     ·rw [List.take_of_length_le (by omega),List.take_of_length_le (by omega),zb (by omega)];simp
    rw [e3,Nat.pow_succ]
    exact WQ hv (by omega)
   by_cases c2 : (i : Int) < (b.length : Nat)
   ·by_cases c3 : a.getD i 0 - bo - b.getD i 0 < 0
    ·obtain ⟨_,rfl,k1,k2⟩:=key (a.getD i 0 - bo - b.getD i 0 + 1000000000) 1 (by omega) (by omega) (by omega) (.inr rfl)
     clear key hv zb hba hbb JL
     refine ev4 @c1 @c2 @c3 @hD ?_
     exact ⟨_,k1,k2,by (refine aI ?_;exact yB)⟩
    ·obtain ⟨_,rfl,k1,k2⟩:=key (a.getD i 0 - bo - b.getD i 0) 0 (by omega) (by omega) (by omega) (.inl rfl)
     clear key hv zb hba hbb JL
     refine ev4 @c1 @c2 @c3 @hD ?_
     exact ⟨_,k1,k2,by (refine aI ?_;exact yB)⟩
   ·have z:=zb (by omega)
    by_cases c3 : a.getD i 0 - bo < 0
    ·obtain ⟨_,rfl,k1,k2⟩:=key (a.getD i 0 - bo + 1000000000) 1 (by omega) (by omega) (by omega) (.inr rfl)
     clear key hv zb hba hbb JL
     refine ev4 @c1 @c2 @c3 @hD ?_
     exact ⟨_,k1,k2,by (refine aI ?_;exact yB)⟩
    ·obtain ⟨_,rfl,k1,k2⟩:=key (a.getD i 0 - bo) 0 (by omega) (by omega) (by omega) (.inl rfl)
     clear key hv zb hba hbb JL
     refine ev4 @c1 @c2 @c3 @hD ?_
     exact ⟨_,k1,k2,by (refine aI ?_;exact yB)⟩
  ·have hi2 : i = a.length:=by omega
   subst hi2
   rw [← hD,List.take_length,hD,List.take_length,List.take_of_length_le (by omega)] at hv
   have hlt:=oP JL
   rw [hD] at hlt
   have hz : bo = 0:=by
    rcases hbo with h | h
    ·exact h
    ·rw [h] at hv
     simp at hv
     omega
   subst hz
   refine iW @c1 @hD ?_
   refine ah (EM h.jc (l:=D) (by omega)) ?_
   refine ev ?_
   rw [tN JL]
   congr 3
   simp at hv
   omega
theorem adZ {x y : Int} (hx : 0 ≤ x ∧ x < 1000000000) (hy : 0 ≤ y ∧ y < 1000000000) : 0 ≤ x * y ∧ x * y ≤ 999999998000000001:=by
 refine ⟨Int.mul_nonneg hx.1 hy.1,?_⟩
 have : x * y ≤ 999999999 * 999999999:=Int.mul_le_mul (by omega) (by omega) hy.1 (by omega)
 omega
theorem Qi {T : Tb} (h : yX T) {m n : Nat} (la : (mk m).length ≤ 1000:=by exact dD) (lb : (mk n).length ≤ 1000:=by exact dD) : PF T 155 [ints (mk m),ints (mk n)] (ints (mk (m * n))):=by
 obtain ⟨a,hA⟩ : ∃ a,mk m = a:=⟨_,rfl⟩
 obtain ⟨b,hB⟩ : ∃ b,mk n = b:=⟨_,rfl⟩
 have hva : val a = m:=by rw [← hA,val_mk]
 have hvb : val b = n:=by rw [← hB,val_mk]
 have hba : Lb a:=hA ▸ kH m
 have hbb : Lb b:=hB ▸ kH n
 rw [hA] at la ⊢
 rw [hB] at lb ⊢
 refine aK nR h.hT ?_
 simp only [yV,Lz]
 refine ev ?_
 by_cases h1 : a.length = 0
 ·have : a = []:=List.eq_nil_of_length_eq_zero h1
  have e : m = 0:=by rw [← hva,this];rfl
  have h1' : ((a.length : Nat) : Int) = 0:=by omega
  refine ev1 @h1' ?_
  rw [e,Nat.zero_mul,mk_zero];exact (gZ 1 ▸ trivial)
 by_cases h2 : b.length = 0
 ·have : b = []:=List.eq_nil_of_length_eq_zero h2
  have e : n = 0:=by rw [← hvb,this];rfl
  have h1' : ¬ ((a.length : Nat) : Int) = 0:=by omega
  have h2' : ((b.length : Nat) : Int) = 0:=by omega
  refine iW @h1' @h2' ?_
  rw [e,Nat.mul_zero,mk_zero];exact (gZ 1 ▸ trivial)
 have h1' : ¬ ((a.length : Nat) : Int) = 0:=by omega
 have h2' : ¬ ((b.length : Nat) : Int) = 0:=by omega
 refine iW @h1' @h2' ?_
 refine ⟨⟨by omega,by omega,by omega⟩,?_⟩
 have eL : ((a.length : Int) + (b.length : Int)).toNat = a.length + b.length:=by omega
 rw [eL,FN]
 refine aQ (fun _ _=>false) (α:=Nat × List Int) (fun q=>⟨bM [ints a,ints b,.any,.any,.any,.bC 0 0 (a.length + b.length),.any,.any,.any,.any,.any,.any,.any,.any,.any,.any,.any,.any,.any,.any,.any,.any,.any,ints a,iv (a.length : Nat),iv (q.1 : Nat)],[some ⟨1,aN q.2⟩],0,0,[],[]⟩) (fun q=>q.1 ≤ a.length ∧ q.2.length = a.length + b.length ∧ Lb q.2 ∧ val q.2 = val (a.take q.1) * n ∧ ∀ k,q.1 + b.length ≤ k → q.2.getD k 0 = 0) (fun q=>a.length - q.1) rfl (0,List.replicate (a.length + b.length) 0) ?_ ?_ ?_
 ·exact ⟨by omega,by simp,JE _,by rw [aag];simp [val],by intro k _;simp [List.getD_eq_getElem?_getD,List.getElem?_replicate];split <;> rfl⟩
 ·(refine aI ?_;exact yB)
 ·rintro ⟨i,P⟩ ⟨hi,hP,hPb,hv,hz⟩
  dsimp only at hi hP hPb hv hz
  refine ev ?_
  refine aG (fun c1=>?_) fun c1=>?_ <;> (refine ev1 @c1 ?_;try with_reducible exact True.intro)
  ·have ga:=kJ hba i
   have eA : val (a.take (i + 1)) = val (a.take i) + 1000000000 ^ i * (a.getD i 0).toNat:=by
    rw [dP (by omega),nO];congr 3;simp;omega
   refine aQ (fun _ _=>false) (α:=Nat × Int × List Int) (fun q=>⟨bM [ints a,ints b,.any,.any,.any,.bC 0 0 (a.length + b.length),iv (i : Nat),iv q.2.1,.any,.any,.any,.any,.any,.any,.any,.any,.any,.any,.any,.any,.any,.any,.any,ints a,iv (a.length : Nat),iv (i : Nat),.any,.any,ints b,iv (b.length : Nat),iv (q.1 : Nat)],[some ⟨1,aN q.2.2⟩],0,0,[],[]⟩) (fun q=>q.1 ≤ b.length ∧ q.2.2.length = a.length + b.length ∧ Lb q.2.2 ∧ (0 ≤ q.2.1 ∧ q.2.1 < 1000000000) ∧ val q.2.2 + q.2.1.toNat * (1000000000 ^ i * 1000000000 ^ q.1) = val P + (a.getD i 0).toNat * (1000000000 ^ i * val (b.take q.1)) ∧ ∀ k,i + b.length ≤ k → q.2.2.getD k 0 = 0) (fun q=>b.length - q.1) rfl (0,0,P) ?_ ?_ ?_
   ·exact ⟨by omega,hP,hPb,⟨by dsimp only;omega,by dsimp only;omega⟩,by simp [val],hz⟩
   ·(refine aI ?_;exact yB)
   ·rintro ⟨j,c,D⟩ ⟨hj,hD,JL,hc,hw,hzD⟩
    dsimp only at hj hD JL hc hw hzD
    have gb:=kJ hbb j
    have gd:=kJ JL (i + j)
    have hm:=adZ ga gb
    by_cases c2 : (j : Int) < (b.length : Nat)
    ·have k2 : (val (D.set (i + j) ((c + (D.getD (i + j) 0 + a.getD i 0 * b.getD j 0)) % 1000000000)) + ((c + (D.getD (i + j) 0 + a.getD i 0 * b.getD j 0)) / 1000000000).toNat * (1000000000 ^ i * 1000000000 ^ (j + 1))) = val P + (a.getD i 0).toNat * (1000000000 ^ i * val (b.take (j + 1))):=by
      have e1 : val (b.take (j + 1)) = val (b.take j) + 1000000000 ^ j * (b.getD j 0).toNat:=by
       rw [dP (by omega),nO];congr 3;simp;omega
      have e2:=OE (l:=D) (i:=i + j) (d:=(c + (D.getD (i + j) 0 + a.getD i 0 * b.getD j 0)) % 1000000000) (by omega)
      have e3 : (a.getD i 0 * b.getD j 0).toNat = (a.getD i 0).toNat * (b.getD j 0).toNat:=Int.toNat_mul ga.1 gb.1
      have e4 : (c + (D.getD (i + j) 0 + a.getD i 0 * b.getD j 0)).toNat = c.toNat + (D.getD (i + j) 0).toNat + (a.getD i 0).toNat * (b.getD j 0).toNat:=by
       rw [← e3];omega
      rw [e1,Nat.pow_succ]
      rw [Nat.pow_add] at e2
      have e5 : ((c + (D.getD (i + j) 0 + a.getD i 0 * b.getD j 0)) % 1000000000).toNat = (c + (D.getD (i + j) 0 + a.getD i 0 * b.getD j 0)).toNat % 1000000000:=by omega
      have e6 : ((c + (D.getD (i + j) 0 + a.getD i 0 * b.getD j 0)) / 1000000000).toNat = (c + (D.getD (i + j) 0 + a.getD i 0 * b.getD j 0)).toNat / 1000000000:=by omega
      rw [e5] at e2
      rw [e6]
      exact WS hw e2 e4
     have k3 : ∀ k,i + b.length ≤ k → (D.set (i + j) ((c + (D.getD (i + j) 0 + a.getD i 0 * b.getD j 0)) % 1000000000)).getD k 0 = 0:=by
      intro k hk
      rw [iP,if_neg (by omega)]
      exact hzD k hk
     have k4:=FT (l:=D) (i:=i + j) (d:=(c + (D.getD (i + j) 0 + a.getD i 0 * b.getD j 0)) % 1000000000) (by omega) (by omega) JL
     have t1 : (c + (D.getD (i + j) 0 + a.getD i 0 * b.getD j 0)).tmod 1000000000 = (c + (D.getD (i + j) 0 + a.getD i 0 * b.getD j 0)) % 1000000000:=JI (by omega)
     have t2 : (c + (D.getD (i + j) 0 + a.getD i 0 * b.getD j 0)).tdiv 1000000000 = (c + (D.getD (i + j) 0 + a.getD i 0 * b.getD j 0)) / 1000000000:=JJ (by omega)
     have t3 : ((i : Int) + (j : Int)).toNat = i + j:=by omega
     clear hv hz hPb JL eA hw hzD hba hbb
     refine ev5 @c2 @hD @t1 @t2 @t3 ?_
     refine ⟨(j + 1,(c + (D.getD (i + j) 0 + a.getD i 0 * b.getD j 0)) / 1000000000,D.set (i + j) ((c + (D.getD (i + j) 0 + a.getD i 0 * b.getD j 0)) % 1000000000)),by dsimp only;omega,⟨by dsimp only;omega,by simp [hD],k4,⟨by dsimp only;omega,by dsimp only;omega⟩,k2,k3⟩,by (refine aI ?_;exact yB)⟩
    ·have hj2 : j = b.length:=by omega
     subst hj2
     rw [List.take_length] at hw
     have e2:=OE (l:=D) (i:=i + b.length) (d:=c) (by omega)
     rw [hzD (i + b.length) (Nat.le_refl _),Nat.pow_add] at e2
     have k1 : val (D.set (i + b.length) c) = val (a.take (i + 1)) * n:=by
      rw [eA,Nat.add_mul,← hv,← hvb]
      have : 1000000000 ^ i * (a.getD i 0).toNat * val b = (a.getD i 0).toNat * (1000000000 ^ i * val b):=by rw [Nat.mul_comm (1000000000 ^ i),Nat.mul_assoc]
      rw [this]
      have : c.toNat * (1000000000 ^ i * 1000000000 ^ b.length) = 1000000000 ^ i * 1000000000 ^ b.length * c.toNat:=Nat.mul_comm _ _
      simp only [Int.toNat_zero,Nat.mul_zero,Nat.add_zero] at e2
      omega
     have k2 : ∀ k,(i + 1) + b.length ≤ k → (D.set (i + b.length) c).getD k 0 = 0:=by
      intro k hk
      rw [iP,if_neg (by omega)]
      exact hzD k (by omega)
     have k3:=FT (l:=D) (i:=i + b.length) hc.1 hc.2 JL
     have t3 : ((i : Int) + (b.length : Int)).toNat = i + b.length:=by omega
     clear hv hz hPb JL eA hw hzD hba hbb e2
     refine uO @c2 @hD @t3 ?_
     exact ⟨(i + 1,D.set (i + b.length) c),by dsimp only;omega,⟨by dsimp only;omega,by simp [hD],k3,k1,k2⟩,by (refine aI ?_;exact yB)⟩
  ·have hi2 : i = a.length:=by omega
   subst hi2
   rw [List.take_length,hva] at hv
   refine ev1 @hP ?_
   refine ah (EM h.jc (l:=P) (by omega)) ?_
   refine ev ?_
   rw [tN hPb,hv]
   exact aC _
def vO : Fn:=⟨1,21,[.tmp 2],(sr [oN 2 mN] (sr [oW 4 0,oN 5 (ln 4),oW 3 5] (.seq (.block 0 (.loop (.seq (sr [oW 6 3,oN 7 (bc .gtr 6 0),oW 8 7,oG 8 true 9 (oV 0),oG 8 true 10 (oV 3),oG 8 true 11 (bc .sub 10 1),oG 8 true 12 (ix 1 9 11),oG 8 true 13 (lF 1 12),oG 8 true 14 (bc .eql 13 0),oN 15 (.pick (.t 8) (.t 14) (.c (.bool false)))] (cd 15 .skip (.exit 0))) (.block 1 (rg [oW 16 3,oN 17 (bc .sub 16 1),oW 3 17]))))) (sr [oW 18 0,oW 19 3,oN 20 (.slice 1 (.t 18) none (some (.t 19))),oW 2 20] .ret))))⟩
structure jd (T : Tb) : Prop where
 hT : T 71 = some vO
def yY : Fn:=⟨2,41,[.tmp 4],(sr [oN 4 (.bZ (cI 0))] (.seq (sr [oW 6 0,oN 7 (ln 6),oW 8 1,oN 9 (ln 8),oN 10 (bt .neq 7 9)] (cd 10 (.seq (sr [oW 11 0,oN 12 (ln 11),oW 13 1,oN 14 (ln 13),oN 15 (bt .lss 12 14)] (cd 15 (sr [oN 4 (.bZ (cI (-1)))] .ret) .skip)) (sr [oN 4 (.bZ (cI 1))] .ret)) .skip)) (.seq (sr [oW 16 0,oN 17 (ln 16),oN 18 (bc .sub 17 1),oW 5 18] (.block 0 (.loop (.seq (sr [oW 19 5,oN 20 (bc .geq 19 0)] (cd 20 .skip (.exit 0))) (.seq (.block 1 (.seq (.seq (rt 0 [oW 23 0,oW 24 5,oA 25 0 (ix 1 23 24) [0,1],oA 26 0 (lF 1 25) [2],oW 27 1,oW 28 5,oA 29 0 (ix 1 27 28) [4,5],oA 30 0 (lF 1 29) [6],oA 31 0 (bt .lss 26 30) [3,7]]) (cd 31 (sr [oN 4 (.bZ (cI (-1)))] .ret) .skip)) (.seq (rt 0 [oW 32 0,oW 33 5,oA 34 0 (ix 1 32 33) [0,1],oA 35 0 (lF 1 34) [2],oW 36 1,oW 37 5,oA 38 0 (ix 1 36 37) [4,5],oA 39 0 (lF 1 38) [6],oA 40 0 (bt .gtr 35 39) [3,7]]) (cd 40 (sr [oN 4 (.bZ (cI 1))] .ret) .skip)))) (rg [oW 21 5,oN 22 (bc .sub 21 1),oW 5 22])))))) (sr [oN 4 (.bZ (cI 0))] .ret))))⟩
structure nY (T : Tb) : Prop where
 hT : T 146 = some yY
def yZ : Fn:=⟨2,55,[.tmp 4],(sr [oN 4 mN] (.seq (rf 1 [oN 9 (.eG 1 FU 0 []),oK 5 1 (oV 9)]) (sr [oN 6 (.bZ (cI 0))] (.seq (sr [oN 7 (.bZ (cI 0))] (.block 0 (.loop (.seq (sr [oW 10 7,oW 11 0,oN 12 (ln 11),oN 13 (bt .lss 10 12),oW 14 13,oG 14 false 15 (oV 7),oG 14 false 16 (oV 1),oG 14 false 17 (ln 16),oG 14 false 18 (bt .lss 15 17),oN 19 (.pick (.t 14) (.c (.bool true)) (.t 18)),oW 20 19,oG 20 false 21 (oV 6),oG 20 false 22 (bc .gtr 21 0),oN 23 (.pick (.t 20) (.c (.bool true)) (.t 22))] (cd 23 .skip (.exit 0))) (.seq (.block 1 (sr [oW 26 6,oW 8 26] (.seq (sr [oW 27 7,oW 28 0,oN 29 (ln 28),oN 30 (bt .lss 27 29)] (cd 30 (rg [oW 31 8,oW 32 0,oW 33 7,oN 34 (ix 1 32 33),oN 35 (lF 1 34),oN 36 (bt .add 31 35),oW 8 36]) .skip)) (.seq (sr [oW 37 7,oW 38 1,oN 39 (ln 38),oN 40 (bt .lss 37 39)] (cd 40 (rg [oW 41 8,oW 42 1,oW 43 7,oN 44 (ix 1 42 43),oN 45 (lF 1 44),oN 46 (bt .add 41 45),oW 8 46]) .skip)) (.seq (rf 2 [oK 47 2 (oV 5),oK 48 2 (oV 8),oK 49 2 (bc .rem 48 1000000000),oN 50 (.eG 1 FU 1 [(0,(.t 49))]),oK 51 1 (.app 1 8 (.t 47) (.t 50)),oK 5 2 (oV 51)]) (rg [oW 52 8,oN 53 (bc .quo 52 1000000000),oW 6 53])))))) (rg [oW 24 7,oN 25 (bc .add 24 1),oW 7 25])))))) (sr [oW 54 5,oW 4 54] .ret)))))⟩
structure DW (T : Tb) : Prop where
 hT : T 209 = some yZ
def y7 : Fn:=⟨2,42,[.tmp 4],(sr [oN 4 mN] (.seq (rf 1 [oN 9 (.eG 1 FU 0 []),oK 5 1 (oV 9)]) (sr [oN 6 (.bZ (cI 0))] (.seq (sr [oW 10 0,oN 11 (ln 10),oN 12 (.bZ (cI 0))] (.block 0 (.loop (sr [oN 13 (bt .lss 12 11)] (.seq (cd 13 .skip (.exit 0)) (.seq (.block 1 (sr [oW 14 12,oW 7 14] (sr [oW 15 0,oW 16 7,oN 17 (ix 1 15 16),oN 18 (lF 1 17),oW 19 6,oN 20 (bt .sub 18 19),oW 8 20] (.seq (sr [oW 21 7,oW 22 1,oN 23 (ln 22),oN 24 (bt .lss 21 23)] (cd 24 (rg [oW 25 8,oW 26 1,oW 27 7,oN 28 (ix 1 26 27),oN 29 (lF 1 28),oN 30 (bt .sub 25 29),oW 8 30]) .skip)) (sr [oN 6 (.bZ (cI 0))] (.seq (sr [oW 31 8,oN 32 (bc .lss 31 0)] (cd 32 (sr [oW 33 8,oN 34 (bc .add 33 1000000000),oW 8 34] (rg [oN 6 (.bZ (cI 1))])) .skip)) (rf 2 [oK 35 2 (oV 5),oK 36 2 (oV 8),oN 37 (.eG 1 FU 1 [(0,(.t 36))]),oK 38 1 (.app 1 8 (.t 35) (.t 37)),oK 5 2 (oV 38)]))))))) (rg [oN 39 (bc .add 12 1),oW 12 39]))))))) (sr [oW 40 5,oN 41 (cl 71 [40]),oW 4 41] .ret)))))⟩
structure y8 (T : Tb) : Prop where
 hT : T 149 = some y7
 dF : jd T
def y9 : Fn:=⟨2,72,[.tmp 4],(sr [oN 4 mN] (.seq (sr [oW 12 0,oN 13 (ln 12),oN 14 (bc .eql 13 0),oW 15 14,oG 15 false 16 (oV 1),oG 15 false 17 (ln 16),oG 15 false 18 (bc .eql 17 0),oN 19 (.pick (.t 15) (.c (.bool true)) (.t 18))] (cd 19 (sr [oN 4 mN] .ret) .skip)) (.seq (rf 1 [oK 20 1 (oV 0),oK 21 1 (ln 20),oK 22 1 (oV 1),oK 23 1 (ln 22),oK 24 1 (bt .add 21 23),oN 25 (.make FU 8 (.t 24)),oK 5 1 (oV 25)]) (.seq (sr [oW 26 0,oN 27 (ln 26),oN 28 (.bZ (cI 0))] (.block 0 (.loop (sr [oN 29 (bt .lss 28 27)] (.seq (cd 29 .skip (.exit 0)) (.seq (.block 1 (sr [oW 30 28,oN 31 (ix 1 26 28),oN 32 (lF 1 31),oW 6 30,oW 7 32] (sr [oN 8 (.bZ (cI 0))] (.seq (sr [oW 33 1,oN 34 (ln 33),oN 35 (.bZ (cI 0))] (.block 2 (.loop (sr [oN 36 (bt .lss 35 34)] (.seq (cd 36 .skip (.exit 2)) (.seq (.block 3 (sr [oW 37 35,oN 38 (ix 1 33 35),oN 39 (lF 1 38),oW 9 37,oW 10 39] (sr [oW 40 5,oW 41 6,oW 42 9,oN 43 (bt .add 41 42),oN 44 (ix 1 40 43),oN 45 (lF 1 44),oW 46 7,oW 47 10,oN 48 (bt .mul 46 47),oN 49 (bt .add 45 48),oW 50 8,oN 51 (bt .add 49 50),oW 11 51] (sr [oW 52 5,oW 53 6,oW 54 9,oN 55 (bt .add 53 54),oW 56 11,oN 57 (bc .rem 56 1000000000),oN 58 (ix 1 52 55),oS (.store 1 (.t 58) (.t 57))] (rg [oW 59 11,oN 60 (bc .quo 59 1000000000),oW 8 60]))))) (rg [oN 61 (bc .add 35 1),oW 35 61]))))))) (rg [oW 62 5,oW 63 6,oW 64 1,oN 65 (ln 64),oN 66 (bt .add 63 65),oW 67 8,oN 68 (ix 1 62 66),oS (.store 1 (.t 68) (.t 67))]))))) (rg [oN 69 (bc .add 28 1),oW 28 69]))))))) (sr [oW 70 5,oN 71 (cl 71 [70]),oW 4 71] .ret)))))⟩
structure lI (T : Tb) : Prop where
 hT : T 150 = some y9
 dF : jd T
def Bq : Fn:=⟨1,15,[.tmp 2],(sr [oN 2 mN] (.seq (rf 1 [oN 4 (.eG 1 FU 0 []),oK 3 1 (oV 4)]) (.seq (.block 0 (.loop (.seq (sr [oW 5 0,oN 6 (bc .gtr 5 0)] (cd 6 .skip (.exit 0))) (.block 1 (.seq (rf 2 [oK 7 2 (oV 3),oK 8 2 (oV 0),oK 9 2 (bc .rem 8 1000000000),oN 10 (.eG 1 FU 1 [(0,(.t 9))]),oK 11 1 (.app 1 8 (.t 7) (.t 10)),oK 3 2 (oV 11)]) (rg [oW 12 0,oN 13 (bc .quo 12 1000000000),oW 0 13])))))) (sr [oW 14 3,oW 2 14] .ret))))⟩
structure qG (T : Tb) : Prop where
 hT : T 67 = some Bq
def Bv : Fn:=⟨3,15,[.tmp 6],(sr [oN 6 mF] (sr [oW 7 0,oW 8 1,oN 9 (bt .geq 7 8),oW 10 9,oG 10 true 11 (oV 0),oG 10 true 12 (oV 2),oG 10 true 13 (bt .leq 11 12),oN 14 (.pick (.t 10) (.t 13) (.c (.bool false))),oW 6 14] .ret))⟩
structure qH (T : Tb) : Prop where
 hT : T 35 = some Bv
def Bz : Fn:=⟨1,32,[.tmp 2],(sr [oN 2 mF] (.seq (sr [oW 5 0,oN 6 (ln 5),oN 7 (.bZ (cI 0))] (.block 0 (.loop (sr [oN 8 (bt .lss 7 6)] (.seq (cd 8 .skip (.exit 0)) (.seq (.block 1 (sr [oN 9 (ix 1 5 7),oN 10 (lF 1 9),oW 4 10] (sr [oW 11 4,oN 12 (.call 35 [(.t 11),(cI 0),(cI 999999999)]),oN 13 (nt 12)] (cd 13 (sr [oN 2 mF] .ret) .skip)))) (rg [oN 14 (bc .add 7 1),oW 7 14]))))))) (sr [oW 15 0,oN 16 (ln 15),oN 17 (bc .leq 16 60),oW 18 17,oG 18 true 19 (oV 0),oG 18 true 20 (ln 19),oG 18 true 21 (bc .eql 20 0),oG 18 true 22 (oV 21),oG 22 false 23 (oV 0),oG 22 false 24 (oV 0),oG 22 false 25 (ln 24),oG 22 false 26 (bc .sub 25 1),oG 22 false 27 (ix 1 23 26),oG 22 false 28 (lF 1 27),oG 22 false 29 (bc .neq 28 0),oG 18 true 30 (.pick (.t 22) (.c (.bool true)) (.t 29)),oN 31 (.pick (.t 18) (.t 30) (.c (.bool false))),oW 2 31] .ret)))⟩
structure vP (T : Tb) : Prop where
 hT : T 121 = some Bz
 mW : qH T
def zf : Fn:=⟨1,10,[.tmp 2],(sr [oN 2 mN] (sr [oW 4 0,oN 5 (cl 71 [4]),oW 3 5] (.seq (sr [oW 6 3,oN 7 (ln 6),oN 8 (bc .gtr 7 60)] (cd 8 (sr [oN 2 mN] .ret) .skip)) (sr [oW 9 3,oW 2 9] .ret))))⟩
structure DX (T : Tb) : Prop where
 hT : T 70 = some zf
 dF : jd T
theorem vF {T : Tb} (h : jd T) {l : List Int} (hl : l.length ≤ 1048576:=by exact dD) : PF T 71 [ints l] (ints (trim l)):=by
 refine aT nR h.hT ?_
 simp only [vO,Lz]
 refine ev ?_
 refine aQ (fun _ _=>false) (α:=Nat) (fun n=>⟨bM [ints l,.any,.any,iv (n : Nat)],[],0,0,[],[]⟩) (fun n=>n ≤ l.length ∧ mP l l.length = mP l n) (fun n=>n) rfl l.length ?_ ?_ ?_
 ·exact ⟨by omega,rfl⟩
 ·(refine aI ?_;exact yB)
 ·rintro n ⟨hn,ht⟩
  refine ev ?_
  refine aG (fun hb=>?_) fun hb=>?_ <;> (refine ev1 @hb ?_;try with_reducible exact True.intro)
  ·obtain ⟨m,rfl⟩ : ∃ m,n = m + 1:=⟨n - 1,by omega⟩
   have e1 : ((m + 1 : Nat) : Int) - 1 = (m : Nat):=by omega
   refine ev1 @e1 ?_
   refine aG (fun hc=>?_) fun hc=>?_ <;> (refine ev1 @hc ?_;try with_reducible exact True.intro)
   ·refine ⟨m,by omega,⟨by omega,?_⟩,by (refine aI ?_;exact yB)⟩
    rw [ht];simp only [mP,hc,if_true]
   ·rw [trim,ht];simp only [mP,hc,if_false]
  ·have : n = 0:=by omega
   subst this
   rw [trim,ht]
   simp [mP,aN]
theorem ad1 {T : Tb} (h : DX T) {n : Nat} (hl : (mk n).length ≤ 60:=by exact dD) : PF T 70 [ints (mk n)] (ints (mk n)):=by
 have ct:=vF h.dF (l:=mk n) (by omega)
 rw [PW (lG n)] at ct
 have c1 : ¬ (60 : Int) < ((mk n).length : Nat):=by omega
 refine aT nR h.hT ?_
 simp only [zf,Lz]
 refine ev ?_
 refine ah ct ?_
 (refine ev1 @c1 ?_;try with_reducible exact True.intro)
theorem KI {T : Tb} (h : nY T) {a b : List Int} (ha : Can a) (hb : Can b) (la : a.length ≤ 1048576:=by exact dD) (lb : b.length ≤ 1048576:=by exact dD) : PF T 146 [ints a,ints b] (iv (EH (val a) (val b))):=by
 refine aT nR h.hT ?_
 simp only [yY,Lz]
 refine ev ?_
 by_cases h1 : ((a.length : Nat) : Int) < (b.length : Nat)
 ·have:=nX ha.1 hb (by omega)
  have h0 : ¬ ((a.length : Nat) : Int) = (b.length : Nat):=by omega
  refine iW @h0 @h1 ?_
  simp [EH,this]
 by_cases h2 : ((b.length : Nat) : Int) < (a.length : Nat)
 ·have:=nX hb.1 ha (by omega)
  have h3 : ¬ val a < val b:=by omega
  have h0 : ¬ ((a.length : Nat) : Int) = (b.length : Nat):=by omega
  refine iW @h0 @h1 ?_
  simp [EH,this,h3]
 have hl : a.length = b.length:=by omega
 have h0:=iff_true_intro (show ((a.length : Nat) : Int) = (b.length : Nat) by omega)
 refine ev1 @h0 ?_
 refine aQ (fun _ _=>false) (α:=Nat) (fun n=>⟨bM [ints a,ints b,.any,.any,.any,iv ((n : Int) - 1)],[],0,0,[],[]⟩) (fun n=>n ≤ a.length ∧ a.drop n = b.drop n) (fun n=>n) rfl a.length ?_ ?_ ?_
 ·exact ⟨by omega,by rw [List.drop_eq_nil_of_le (by omega),List.drop_eq_nil_of_le (by omega)]⟩
 ·(refine aI ?_;exact yB)
 ·rintro n ⟨hn,hd⟩
  refine ev ?_
  refine aG (fun h3=>?_) fun h3=>?_ <;> (refine ev1 @h3 ?_;try with_reducible exact True.intro)
  ·obtain ⟨m,rfl⟩ : ∃ m,n = m + 1:=⟨n - 1,by omega⟩
   have e1 : ((m + 1 : Nat) : Int) - 1 = (m : Nat):=by omega
   refine ev1 @e1 ?_
   refine aG (fun h4=>?_) fun h4=>?_ <;> (refine iW @h4 @e1 ?_;try with_reducible exact True.intro)
   ·have:=IJ ha.1 hb.1 (i:=m) (by omega) (by omega) hd h4
    simp [EH,this]
   refine aG (fun h5=>?_) fun h5=>?_ <;> (refine iW @h5 @e1 ?_;try with_reducible exact True.intro)
   ·have:=IJ hb.1 ha.1 (i:=m) (by omega) (by omega) hd.symm h5
    have h6 : ¬ val a < val b:=by omega
    simp [EH,this,h6]
   have e : a.getD m 0 = b.getD m 0:=by omega
   refine ⟨m,by omega,⟨by omega,?_⟩,by (refine aI ?_;exact yB)⟩
   rw [IQ (by omega),IQ (l:=b) (by omega),e,hd]
  ·have : n = 0:=by omega
   subst this
   simp only [List.drop_zero] at hd
   subst hd
   simp [EH]
theorem ad2 {T : Tb} (h : DW T) {m n : Nat} (la : (mk m).length ≤ 1000:=by exact dD) (lb : (mk n).length ≤ 1000:=by exact dD) : PF T 209 [ints (mk m),ints (mk n)] (ints (mk (m + n))):=by
 obtain ⟨a,hA⟩ : ∃ a,mk m = a:=⟨_,rfl⟩
 obtain ⟨b,hB⟩ : ∃ b,mk n = b:=⟨_,rfl⟩
 have hva : val a = m:=by rw [← hA,val_mk]
 have hvb : val b = n:=by rw [← hB,val_mk]
 have hba : Lb a:=hA ▸ kH m
 have hbb : Lb b:=hB ▸ kH n
 rw [hA] at la ⊢
 rw [hB] at lb ⊢
 refine aK nR h.hT ?_
 simp only [yZ,Lz]
 refine ev ?_
 refine aQ (fun _ _=>false) (α:=Nat × Int × List Int) (fun q=>⟨bM [ints a,ints b,.any,.any,.any,slV q.2.2.length,iv q.2.1,iv (q.1 : Nat)],Yk 1 (aN q.2.2),0,0,[],[]⟩) (fun q=>q.2.2.length = q.1 ∧ Lb q.2.2 ∧ (0 ≤ q.2.1 ∧ q.2.1 ≤ 1) ∧ val q.2.2 + 1000000000 ^ q.1 * (q.2.1.toNat + val (a.drop q.1) + val (b.drop q.1)) = m + n ∧ (q.1 ≤ max a.length b.length ∨ (q.1 = max a.length b.length + 1 ∧ q.2.1 = 0 ∧ q.2.2.getLast? ≠ some 0))) (fun q=>max a.length b.length + 1 - q.1) rfl (0,0,[]) ?_ ?_ ?_
 ·exact ⟨rfl,YP,⟨by dsimp only;omega,by dsimp only;omega⟩,by simp [val,hva,hvb],by dsimp only;omega⟩
 ·exact JK
 ·rintro ⟨i,c,xs⟩ ⟨hl,hlb,hc,hv,hi⟩
  dsimp only at hl hlb hc hv hi
  have hi' : i ≤ max a.length b.length ∨ (i = max a.length b.length + 1 ∧ c = 0):=hi.imp id fun h=>⟨h.1,h.2.1⟩
  have hx : xs.length ≤ 1001:=by omega
  have ea:=fZ a i
  have eb:=fZ b i
  have ga:=kJ hba i
  have gb:=kJ hbb i
  have step:=WO hl hc.1 ga.1 gb.1 hv ea eb
  have za : a.length ≤ i → a.getD i 0 = 0:=FX
  have zb : b.length ≤ i → b.getD i 0 = 0:=FX
  have key : ∀ t : Int,t = c + a.getD i 0 + b.getD i 0 → ((i : Int) < a.length ∨ (i : Int) < b.length ∨ 0 < c) → ∃ a' : Nat × Int × List Int,a' = (i + 1,t.tdiv 1000000000,xs ++ [t.tmod 1000000000]) ∧
    max a.length b.length + 1 - a'.1 < max a.length b.length + 1 - i ∧ (a'.2.2.length = a'.1 ∧ Lb a'.2.2 ∧ (0 ≤ a'.2.1 ∧ a'.2.1 ≤ 1) ∧ val a'.2.2 + 1000000000 ^ a'.1 * (a'.2.1.toNat + val (a.drop a'.1) + val (b.drop a'.1)) = m + n ∧
     (a'.1 ≤ max a.length b.length ∨ (a'.1 = max a.length b.length + 1 ∧ a'.2.1 = 0 ∧ a'.2.2.getLast? ≠ some 0))):=by
   intro t ht hor
   have ht0 : 0 ≤ t:=by omega
   refine ⟨_,rfl,?_⟩
   dsimp only
   rw [JI ht0,JJ ht0]
   refine ⟨by omega,by simp [hl],Uz (by omega) (by omega) hlb,⟨by omega,by omega⟩,by rw [ht];exact step,?_⟩
   by_cases hlt : i < max a.length b.length
   ·left;omega
   ·right
    have h1:=za (by omega)
    have h2:=zb (by omega)
    refine ⟨by omega,by omega,?_⟩
    intro hlast
    rw [List.getLast?_concat] at hlast
    have:=Option.some.inj hlast
    omega
  have fin : ¬ ((i : Int) < a.length ∨ (i : Int) < b.length ∨ 0 < c) → xs = mk (m + n):=by
   intro hno
   have e1 : val (a.drop i) = 0:=bW (by omega)
   have e2 : val (b.drop i) = 0:=bW (by omega)
   rw [e1,e2,show c.toNat = 0 by omega] at hv
   simp only [Nat.add_zero,Nat.mul_zero] at hv
   refine (aai hv hlb ?_).symm
   rw [hA,hB]
   rcases hi with k | k
   ·left;omega
   ·right;exact k.2.2
  by_cases ca : (i : Int) < (a.length : Nat) <;> by_cases cb : (i : Int) < (b.length : Nat) <;> by_cases cc : 0 < c
  ·obtain ⟨_,rfl,k1,k2⟩:=key (c + a.getD i 0 + b.getD i 0) (by omega) (by omega)
   clear key step fin ea eb hi hv hlb hba hbb za zb
   (rcases xs with _ | ⟨x,xs⟩ <;> simp only [List.length_nil,List.length_cons,kT,jW,gI,dW] at hx ⊢)
   ·refine uO @ca @cb @cc ?_
    exact ⟨by omega,_,k1,k2,by exact EN⟩
   ·refine uO @ca @cb @cc ?_
    exact ⟨by omega,_,k1,k2,by exact EO⟩
  ·obtain ⟨_,rfl,k1,k2⟩:=key (c + a.getD i 0 + b.getD i 0) (by omega) (by omega)
   clear key step fin ea eb hi hv hlb hba hbb za zb
   (rcases xs with _ | ⟨x,xs⟩ <;> simp only [List.length_nil,List.length_cons,kT,jW,gI,dW] at hx ⊢)
   ·refine uO @ca @cb @cc ?_
    exact ⟨by omega,_,k1,k2,by exact EN⟩
   ·refine uO @ca @cb @cc ?_
    exact ⟨by omega,_,k1,k2,by exact EO⟩
  ·obtain ⟨_,rfl,k1,k2⟩:=key (c + a.getD i 0) (by omega) (by omega)
   clear key step fin ea eb hi hv hlb hba hbb za zb
   (rcases xs with _ | ⟨x,xs⟩ <;> simp only [List.length_nil,List.length_cons,kT,jW,gI,dW] at hx ⊢)
   ·refine uO @ca @cb @cc ?_
    exact ⟨by omega,_,k1,k2,by exact EN⟩
   ·refine uO @ca @cb @cc ?_
    exact ⟨by omega,_,k1,k2,by exact EO⟩
  ·obtain ⟨_,rfl,k1,k2⟩:=key (c + a.getD i 0) (by omega) (by omega)
   clear key step fin ea eb hi hv hlb hba hbb za zb
   (rcases xs with _ | ⟨x,xs⟩ <;> simp only [List.length_nil,List.length_cons,kT,jW,gI,dW] at hx ⊢)
   ·refine uO @ca @cb @cc ?_
    exact ⟨by omega,_,k1,k2,by exact EN⟩
   ·refine uO @ca @cb @cc ?_
    exact ⟨by omega,_,k1,k2,by exact EO⟩
  ·obtain ⟨_,rfl,k1,k2⟩:=key (c + b.getD i 0) (by omega) (by omega)
   clear key step fin ea eb hi hv hlb hba hbb za zb
   (rcases xs with _ | ⟨x,xs⟩ <;> simp only [List.length_nil,List.length_cons,kT,jW,gI,dW] at hx ⊢)
   ·refine uO @ca @cb @cc ?_
    exact ⟨by omega,_,k1,k2,by exact EN⟩
   ·refine uO @ca @cb @cc ?_
    exact ⟨by omega,_,k1,k2,by exact EO⟩
  ·obtain ⟨_,rfl,k1,k2⟩:=key (c + b.getD i 0) (by omega) (by omega)
   clear key step fin ea eb hi hv hlb hba hbb za zb
   (rcases xs with _ | ⟨x,xs⟩ <;> simp only [List.length_nil,List.length_cons,kT,jW,gI,dW] at hx ⊢)
   ·refine uO @ca @cb @cc ?_
    exact ⟨by omega,_,k1,k2,by exact EN⟩
   ·refine uO @ca @cb @cc ?_
    exact ⟨by omega,_,k1,k2,by exact EO⟩
  ·obtain ⟨_,rfl,k1,k2⟩:=key (c) (by omega) (by omega)
   clear key step fin ea eb hi hv hlb hba hbb za zb
   (rcases xs with _ | ⟨x,xs⟩ <;> simp only [List.length_nil,List.length_cons,kT,jW,gI,dW] at hx ⊢)
   ·refine uO @ca @cb @cc ?_
    exact ⟨by omega,_,k1,k2,by exact EN⟩
   ·refine uO @ca @cb @cc ?_
    exact ⟨by omega,_,k1,k2,by exact EO⟩
  ·have e:=fin (by omega)
   clear key step fin ea eb hi hv hlb hba hbb za zb
   (rcases xs with _ | ⟨x,xs⟩ <;> simp only [List.length_nil,List.length_cons,kT,jW,gI,dW] at hx ⊢)
   ·refine uO @ca @cb @cc ?_
    rw [← e];exact (gZ 1 ▸ trivial)
   ·refine uO @ca @cb @cc ?_
    rw [← e];exact aC _
theorem vS {T : Tb} (h : lI T) {m n : Nat} (la : (mk m).length ≤ 1000:=by exact dD) (lb : (mk n).length ≤ 1000:=by exact dD) : PF T 150 [ints (mk m),ints (mk n)] (ints (mk (m * n))):=by
 obtain ⟨a,hA⟩ : ∃ a,mk m = a:=⟨_,rfl⟩
 obtain ⟨b,hB⟩ : ∃ b,mk n = b:=⟨_,rfl⟩
 have hva : val a = m:=by rw [← hA,val_mk]
 have hvb : val b = n:=by rw [← hB,val_mk]
 have hba : Lb a:=hA ▸ kH m
 have hbb : Lb b:=hB ▸ kH n
 rw [hA] at la ⊢
 rw [hB] at lb ⊢
 refine aK nR h.hT ?_
 simp only [y9,Lz]
 refine ev ?_
 by_cases h1 : a.length = 0
 ·have : a = []:=List.eq_nil_of_length_eq_zero h1
  have e : m = 0:=by rw [← hva,this];rfl
  have h1' : ((a.length : Nat) : Int) = 0:=by omega
  refine ev1 @h1' ?_
  rw [e,Nat.zero_mul,mk_zero];exact (gZ 1 ▸ trivial)
 by_cases h2 : b.length = 0
 ·have : b = []:=List.eq_nil_of_length_eq_zero h2
  have e : n = 0:=by rw [← hvb,this];rfl
  have h1' : ¬ ((a.length : Nat) : Int) = 0:=by omega
  have h2' : ((b.length : Nat) : Int) = 0:=by omega
  refine iW @h1' @h2' ?_
  rw [e,Nat.mul_zero,mk_zero];exact (gZ 1 ▸ trivial)
 have h1' : ¬ ((a.length : Nat) : Int) = 0:=by omega
 have h2' : ¬ ((b.length : Nat) : Int) = 0:=by omega
 refine iW @h1' @h2' ?_
 refine ⟨⟨by omega,by omega,by omega⟩,?_⟩
 have eL : ((a.length : Int) + (b.length : Int)).toNat = a.length + b.length:=by omega
 rw [eL,FN]
 refine aQ (fun _ _=>false) (α:=Nat × List Int) (fun q=>⟨bM [ints a,ints b,.any,.any,.any,.bC 0 0 (a.length + b.length),.any,.any,.any,.any,.any,.any,.any,.any,.any,.any,.any,.any,.any,.any,.any,.any,.any,.any,.any,.any,ints a,iv (a.length : Nat),iv (q.1 : Nat)],[some ⟨1,aN q.2⟩],0,0,[],[]⟩) (fun q=>q.1 ≤ a.length ∧ q.2.length = a.length + b.length ∧ Lb q.2 ∧ val q.2 = val (a.take q.1) * n ∧ ∀ k,q.1 + b.length ≤ k → q.2.getD k 0 = 0) (fun q=>a.length - q.1) rfl (0,List.replicate (a.length + b.length) 0) ?_ ?_ ?_
 ·exact ⟨by omega,by simp,JE _,by rw [aag];simp [val],by intro k _;simp [List.getD_eq_getElem?_getD,List.getElem?_replicate];split <;> rfl⟩
 ·(refine aI ?_;exact yB)
 ·rintro ⟨i,P⟩ ⟨hi,hP,hPb,hv,hz⟩
  dsimp only at hi hP hPb hv hz
  refine ev ?_
  refine aG (fun c1=>?_) fun c1=>?_ <;> (refine ev1 @c1 ?_;try with_reducible exact True.intro)
  ·have ga:=kJ hba i
   have eA : val (a.take (i + 1)) = val (a.take i) + 1000000000 ^ i * (a.getD i 0).toNat:=by
    rw [dP (by omega),nO];congr 3;simp;omega
   refine aQ (fun _ _=>false) (α:=Nat × Int × List Int) (fun q=>⟨bM [ints a,ints b,.any,.any,.any,.bC 0 0 (a.length + b.length),iv (i : Nat),iv (a.getD i 0),iv q.2.1,.any,.any,.any,.any,.any,.any,.any,.any,.any,.any,.any,.any,.any,.any,.any,.any,.any,ints a,iv (a.length : Nat),iv (i : Nat),.any,.any,.any,.any,ints b,iv (b.length : Nat),iv (q.1 : Nat)],[some ⟨1,aN q.2.2⟩],0,0,[],[]⟩) (fun q=>q.1 ≤ b.length ∧ q.2.2.length = a.length + b.length ∧ Lb q.2.2 ∧ (0 ≤ q.2.1 ∧ q.2.1 < 1000000000) ∧ val q.2.2 + q.2.1.toNat * (1000000000 ^ i * 1000000000 ^ q.1) = val P + (a.getD i 0).toNat * (1000000000 ^ i * val (b.take q.1)) ∧ ∀ k,i + b.length ≤ k → q.2.2.getD k 0 = 0) (fun q=>b.length - q.1) rfl (0,0,P) ?_ ?_ ?_
   ·exact ⟨by omega,hP,hPb,⟨by dsimp only;omega,by dsimp only;omega⟩,by simp [val],hz⟩
   ·(refine aI ?_;exact yB)
   ·rintro ⟨j,c,D⟩ ⟨hj,hD,JL,hc,hw,hzD⟩
    dsimp only at hj hD JL hc hw hzD
    have gb:=kJ hbb j
    have gd:=kJ JL (i + j)
    have hm:=adZ ga gb
    by_cases c2 : (j : Int) < (b.length : Nat)
    ·have k2 : (val (D.set (i + j) ((D.getD (i + j) 0 + a.getD i 0 * b.getD j 0 + c) % 1000000000)) + ((D.getD (i + j) 0 + a.getD i 0 * b.getD j 0 + c) / 1000000000).toNat * (1000000000 ^ i * 1000000000 ^ (j + 1))) = val P + (a.getD i 0).toNat * (1000000000 ^ i * val (b.take (j + 1))):=by
      have e1 : val (b.take (j + 1)) = val (b.take j) + 1000000000 ^ j * (b.getD j 0).toNat:=by
       rw [dP (by omega),nO];congr 3;simp;omega
      have e2:=OE (l:=D) (i:=i + j) (d:=(D.getD (i + j) 0 + a.getD i 0 * b.getD j 0 + c) % 1000000000) (by omega)
      have e3 : (a.getD i 0 * b.getD j 0).toNat = (a.getD i 0).toNat * (b.getD j 0).toNat:=Int.toNat_mul ga.1 gb.1
      have e4 : (D.getD (i + j) 0 + a.getD i 0 * b.getD j 0 + c).toNat = c.toNat + (D.getD (i + j) 0).toNat + (a.getD i 0).toNat * (b.getD j 0).toNat:=by
       rw [← e3];omega
      rw [e1,Nat.pow_succ]
      rw [Nat.pow_add] at e2
      have e5 : ((D.getD (i + j) 0 + a.getD i 0 * b.getD j 0 + c) % 1000000000).toNat = (D.getD (i + j) 0 + a.getD i 0 * b.getD j 0 + c).toNat % 1000000000:=by omega
      have e6 : ((D.getD (i + j) 0 + a.getD i 0 * b.getD j 0 + c) / 1000000000).toNat = (D.getD (i + j) 0 + a.getD i 0 * b.getD j 0 + c).toNat / 1000000000:=by omega
      rw [e5] at e2
      rw [e6]
      exact WS hw e2 e4
     have k3 : ∀ k,i + b.length ≤ k → (D.set (i + j) ((D.getD (i + j) 0 + a.getD i 0 * b.getD j 0 + c) % 1000000000)).getD k 0 = 0:=by
      intro k hk
      rw [iP,if_neg (by omega)]
      exact hzD k hk
     have k4:=FT (l:=D) (i:=i + j) (d:=(D.getD (i + j) 0 + a.getD i 0 * b.getD j 0 + c) % 1000000000) (by omega) (by omega) JL
     have t1 : (D.getD (i + j) 0 + a.getD i 0 * b.getD j 0 + c).tmod 1000000000 = (D.getD (i + j) 0 + a.getD i 0 * b.getD j 0 + c) % 1000000000:=JI (by omega)
     have t2 : (D.getD (i + j) 0 + a.getD i 0 * b.getD j 0 + c).tdiv 1000000000 = (D.getD (i + j) 0 + a.getD i 0 * b.getD j 0 + c) / 1000000000:=JJ (by omega)
     have t3 : ((i : Int) + (j : Int)).toNat = i + j:=by omega
     clear hv hz hPb JL eA hw hzD hba hbb
     refine ev5 @c2 @hD @t1 @t2 @t3 ?_
     refine ⟨(j + 1,(D.getD (i + j) 0 + a.getD i 0 * b.getD j 0 + c) / 1000000000,D.set (i + j) ((D.getD (i + j) 0 + a.getD i 0 * b.getD j 0 + c) % 1000000000)),by dsimp only;omega,⟨by dsimp only;omega,by simp [hD],k4,⟨by dsimp only;omega,by dsimp only;omega⟩,k2,k3⟩,by (refine aI ?_;exact yB)⟩
    ·have hj2 : j = b.length:=by omega
     subst hj2
     rw [List.take_length] at hw
     have e2:=OE (l:=D) (i:=i + b.length) (d:=c) (by omega)
     rw [hzD (i + b.length) (Nat.le_refl _),Nat.pow_add] at e2
     have k1 : val (D.set (i + b.length) c) = val (a.take (i + 1)) * n:=by
      rw [eA,Nat.add_mul,← hv,← hvb]
      have : 1000000000 ^ i * (a.getD i 0).toNat * val b = (a.getD i 0).toNat * (1000000000 ^ i * val b):=by rw [Nat.mul_comm (1000000000 ^ i),Nat.mul_assoc]
      rw [this]
      have : c.toNat * (1000000000 ^ i * 1000000000 ^ b.length) = 1000000000 ^ i * 1000000000 ^ b.length * c.toNat:=Nat.mul_comm _ _
      simp only [Int.toNat_zero,Nat.mul_zero,Nat.add_zero] at e2
      omega
     have k2 : ∀ k,(i + 1) + b.length ≤ k → (D.set (i + b.length) c).getD k 0 = 0:=by
      intro k hk
      rw [iP,if_neg (by omega)]
      exact hzD k (by omega)
     have k3:=FT (l:=D) (i:=i + b.length) hc.1 hc.2 JL
     have t3 : ((i : Int) + (b.length : Int)).toNat = i + b.length:=by omega
     clear hv hz hPb JL eA hw hzD hba hbb e2
     refine uO @c2 @hD @t3 ?_
     exact ⟨(i + 1,D.set (i + b.length) c),by dsimp only;omega,⟨by dsimp only;omega,by simp [hD],k3,k1,k2⟩,by (refine aI ?_;exact yB)⟩
  ·have hi2 : i = a.length:=by omega
   subst hi2
   rw [List.take_length,hva] at hv
   refine ev1 @hP ?_
   refine ah (vF h.dF (l:=P) (by omega)) ?_
   refine ev ?_
   rw [tN hPb,hv]
   exact aC _
theorem OH {T : Tb} (h : qH T) {a b c : Int} : PF T 35 [iv a,iv b,iv c] (.bool (decide (b ≤ a) && decide (a ≤ c))):=by
 refine aT nR h.hT ?_
 simp only [Bv,Lz]
 refine ev ?_
 by_cases h1 : b ≤ a
 ·(refine ev1 @h1 ?_;try with_reducible exact True.intro)
 ·(refine ev1 @h1 ?_;try with_reducible exact True.intro)
theorem Qj {T : Tb} (h : vP T) {l : List Int} (hl : l.length ≤ 9223372036854775807:=by exact dD) : PF T 121 [ints l] (.bool (nP l)):=by
 refine aT nR h.hT ?_
 simp only [Bz,Lz]
 refine ev ?_
 refine aQ (fun _ _=>false) (α:=Nat) (fun i=>⟨bM [ints l,.any,.any,.any,.any,ints l,iv (l.length : Nat),iv (i : Nat)],[],0,0,[],[]⟩) (fun i=>i ≤ l.length ∧ ∀ j,j < i → 0 ≤ l.getD j 0 ∧ l.getD j 0 < 1000000000) (fun i=>l.length - i) rfl 0 ?_ ?_ ?_
 ·exact ⟨by omega,by intro j hj;omega⟩
 ·(refine aI ?_;exact yB)
 ·rintro i ⟨hi,hj⟩
  refine ev ?_
  refine aG (fun h2=>?_) fun h2=>?_ <;> (refine ev1 @h2 ?_;try with_reducible exact True.intro)
  ·have bad : ¬ (0 ≤ l.getD i 0 ∧ l.getD i 0 < 1000000000) → nP l = false:=fun hn=>by
    have : ¬ nP l = true:=fun e=>by
     have hc:=(IK.1 e).2.1
     exact hn (kJ hc i)
    simpa using this
   refine ah (OH h.mW) ?_
   by_cases g : 0 ≤ l.getD i 0 ∧ l.getD i 0 < 1000000000
   ·have g1 : 0 ≤ l.getD i 0:=g.1
    have g2 : l.getD i 0 ≤ 999999999:=by omega
    refine iW @g1 @g2 ?_
    refine ⟨i + 1,by omega,⟨by omega,fun j hj'=>?_⟩,by (refine aI ?_;exact yB)⟩
    by_cases e : j = i
    ·subst e;omega
    ·exact hj j (by omega)
   ·rw [bad g]
    have g2 : (decide (0 ≤ l.getD i 0) && decide (l.getD i 0 ≤ 999999999)) = false:=by
     simp only [Bool.and_eq_false_iff,decide_eq_false_iff_not];omega
    (refine ev1 @g2 ?_;try with_reducible exact True.intro)
  ·have hi2 : i = l.length:=by omega
   subst hi2
   have hall : l.all (fun d=>decide (0 ≤ d) && decide (d < 1000000000)) = true:=by
    rw [List.all_eq_true]
    intro d hd
    obtain ⟨j,hj1,rfl⟩:=List.mem_iff_getElem.1 hd
    have:=hj j hj1
    rw [List.getD_eq_getElem?_getD,List.getElem?_eq_getElem hj1] at this
    simpa using this
   unfold nP
   rw [hall]
   by_cases q1 : ((l.length : Nat) : Int) ≤ 60
   ·have q1' : decide (l.length ≤ 60) = true:=by simp;omega
    rw [q1']
    by_cases q2 : ((l.length : Nat) : Int) = 0
    ·have q2':=iff_true_intro q2
     refine iW @q1 @q2' ?_
     have : l = []:=List.eq_nil_of_length_eq_zero (by omega)
     subst this;rfl
    ·refine iW @q1 @q2 ?_
     have e1 : ((l.length : Nat) : Int) - 1 = ((l.length - 1 : Nat) : Int):=by omega
     have e2 : ((l.length : Int) - 1).toNat = l.length - 1:=by omega
     have e3 : l.isEmpty = false:=by cases l <;> simp_all
     rw [e3,e2];simp
   ·have q1' : decide (l.length ≤ 60) = false:=by simp;omega
    rw [q1']
    (refine ev1 @q1 ?_;try with_reducible exact True.intro)
theorem IU {T : Tb} (h : qG T) {n : Int} (hn : 0 ≤ n ∧ n ≤ 9223372036854775807:=by exact dD) : PF T 67 [iv n] (ints (mk n.toNat)):=by
 have hlen : (mk n.toNat).length ≤ 3:=aZ.2 (by omega)
 refine aK nR h.hT ?_
 simp only [Bq,Lz]
 refine ev ?_
 refine aQ (fun _ _=>false) (α:=Nat × List Int) (fun q=>⟨bM [iv (q.1 : Nat),.any,.any,slV q.2.length],Yk 1 (aN q.2),0,0,[],[]⟩) (fun q=>q.2 ++ mk q.1 = mk n.toNat ∧ q.1 ≤ n.toNat) (fun q=>q.1) rfl (n.toNat,[]) ?_ ?_ ?_
 ·exact ⟨rfl,Nat.le_refl _⟩
 ·exact JK
 ·rintro ⟨m,xs⟩ ⟨hm,hle⟩
  dsimp only at hm hle
  have hx : xs.length ≤ 3:=by
   have:=congrArg List.length hm
   simp at this;omega
  have e1 : ((m : Int).tmod 1000000000) = ((m % 1000000000 : Nat) : Int):=by rw [JI (by omega)];omega
  have e2 : ((m : Int).tdiv 1000000000) = ((m / 1000000000 : Nat) : Int):=by rw [JJ (by omega)];omega
  have key : 0 < m → (xs ++ [((m % 1000000000 : Nat) : Int)]) ++ mk (m / 1000000000) = mk n.toNat:=fun h=>by
   rw [← hm,mk_pos (n:=m) (by omega)];simp
  (rcases xs with _ | ⟨x,xs⟩ <;> simp only [List.length_nil,List.length_cons,kT,jW,gI,dW] at hx ⊢)
  ·refine ev ?_
   refine aG (fun hb=>?_) fun hb=>?_ <;> (refine uO @hb @e1 @e2 ?_;try with_reducible exact True.intro)
   ·exact ⟨by omega,(m / 1000000000,[] ++ [((m % 1000000000 : Nat) : Int)]),by dsimp only;omega,⟨key (by omega),by dsimp only;omega⟩,by exact EN⟩
   ·have e : mk n.toNat = []:=by rw [← hm,show m = 0 by omega,mk_zero];rfl
    rw [e];exact (gZ 1 ▸ trivial)
  ·refine ev ?_
   refine aG (fun hb=>?_) fun hb=>?_ <;> (refine uO @hb @e1 @e2 ?_;try with_reducible exact True.intro)
   ·refine ⟨by omega,(m / 1000000000,(x :: xs) ++ [((m % 1000000000 : Nat) : Int)]),by dsimp only;omega,⟨key (by omega),by dsimp only;omega⟩,by exact EO⟩
   ·have e : x :: xs = mk n.toNat:=by rw [← hm,show m = 0 by omega,mk_zero];simp
    rw [← e];exact aC _
def jA : Fn:=⟨2,44,[.tmp 4],(sr [oN 4 (.bZ (cI 0))] (sr [oW 8 1,oN 9 (ln 8),oW 5 9] (sr [oW 10 0,oW 11 5,oN 12 (bc .sub 11 1),oN 13 (ix 1 10 12),oN 14 (lF 1 13),oW 6 14] (.seq (sr [oW 15 0,oN 16 (ln 15),oW 17 5,oN 18 (bt .gtr 16 17)] (cd 18 (rg [oW 19 6,oW 20 0,oW 21 5,oN 22 (ix 1 20 21),oN 23 (lF 1 22),oN 24 (bc .mul 23 1000000000),oN 25 (bt .add 19 24),oW 6 25]) .skip)) (.seq (sr [oW 26 5,oN 27 (bc .eql 26 1)] (cd 27 (sr [oW 28 6,oW 29 1,oN 30 (.idx 1 (.t 29) (cI 0)),oN 31 (lF 1 30),oN 32 (bt .quo 28 31),oW 4 32] .ret) .skip)) (sr [oW 33 6,oW 34 1,oW 35 5,oN 36 (bc .sub 35 1),oN 37 (ix 1 34 36),oN 38 (lF 1 37),oN 39 (bc .add 38 1),oN 40 (bt .quo 33 39),oW 7 40] (.seq (sr [oW 41 7,oN 42 (bc .eql 41 0)] (cd 42 (sr [oN 4 (.bZ (cI 1))] .ret) .skip)) (sr [oW 43 7,oW 4 43] .ret))))))))⟩
structure Ar (T : Tb) : Prop where
 hT : T 153 = some jA
def rM : Fn:=⟨2,76,[.tmp 4,.tmp 5],(sr [oN 4 mN,oN 5 mN] (.seq (sr [oW 12 0,oN 13 (ln 12),oN 14 (bc .leq 13 2),oW 15 14,oG 15 true 16 (oV 1),oG 15 true 17 (ln 16),oG 15 true 18 (bc .leq 17 2),oN 19 (.pick (.t 15) (.t 18) (.c (.bool false)))] (cd 19 (sr [oW 20 0,oN 21 (cl 137 [20]),oW 22 1,oN 23 (cl 137 [22]),oW 6 21,oW 7 23] (.seq (rt 0 [oW 24 6,oW 25 7,oA 26 0 (bt .quo 24 25) [0,1],oA 27 0 (.conv .u64 (.t 26)) [2],oA 28 0 (cl 69 [27]) [3],oW 29 6,oW 30 7,oA 31 0 (bt .rem 29 30) [5,6],oA 32 0 (.conv .u64 (.t 31)) [7],oA 33 0 (cl 69 [32]) [8,4],oA 4 0 (oV 28) [4,9,0,1,2,3,4],oA 5 0 (oV 33) [9,10,0,1,2,3,4,5,6,7,8,9,10]]) .ret)) .skip)) (.seq (rf 1 [oK 34 1 (oV 0),oK 35 1 (ln 34),oN 36 (.make FU 8 (.t 35)),oK 8 1 (oV 36)]) (.seq (rf 1 [oN 37 (.eG 1 FU 0 []),oK 9 1 (oV 37)]) (.seq (sr [oW 38 0,oN 39 (ln 38),oN 40 (bc .sub 39 1),oW 10 40] (.block 0 (.loop (.seq (sr [oW 41 10,oN 42 (bc .geq 41 0)] (cd 42 .skip (.exit 0))) (.seq (.block 1 (.seq (rf 2 [oK 45 2 (oV 0),oK 46 2 (oV 10),oK 47 2 (ix 1 45 46),oK 48 2 (lF 1 47),oN 49 (.eG 1 FU 1 [(0,(.t 48))]),oK 50 2 (oV 9),oK 51 1 (.app 1 8 (.t 49) (.t 50)),oK 52 2 (cl 151 [51]),oK 9 2 (oV 52)]) (.block 2 (.loop (.seq (sr [oW 53 9,oW 54 1,oN 55 (cl 152 [53,54]),oN 56 (bc .geq 55 0)] (cd 56 .skip (.exit 2))) (.block 3 (sr [oW 57 9,oW 58 1,oN 59 (cl 153 [57,58]),oW 11 59] (.seq (rf 1 [oK 60 1 (oV 9),oK 61 1 (oV 1),oK 62 1 (oV 11),oN 63 (.eG 1 FU 1 [(0,(.t 62))]),oK 64 1 (cl 155 [61,63]),oK 65 1 (cl 154 [60,64]),oK 9 1 (oV 65)]) (rg [oW 66 8,oW 67 10,oN 68 (ix 1 66 67),oN 69 (lF 1 68),oW 70 11,oN 71 (bt .add 69 70),oN 72 (ix 1 66 67),oS (.store 1 (.t 72) (.t 71))]))))))))) (rg [oW 43 10,oN 44 (bc .sub 43 1),oW 10 44])))))) (sr [oW 73 8,oN 74 (cl 151 [73]),oW 75 9,oW 4 74,oW 5 75] .ret))))))⟩
structure rO (T : Tb) : Prop where
 hT : T 138 = some rM
 cO : jS T
 jB : tX T
 jc : lZ T
 zh : yR T
 GI : Ar T
 rP : yU T
 zi : yX T
theorem Qk {T : Tb} (h : Ar T) {r b : Nat} (hb : 0 < b) (hle : b ≤ r) (hlt : r < b * 1000000000) (lr : (mk r).length ≤ 1000:=by exact dD) (lb : (mk b).length ≤ 1000:=by exact dD) :
  ∃ d : Nat,PF T 153 [ints (mk r),ints (mk b)] (iv (d : Nat)) ∧ 0 < d ∧ d < 1000000000 ∧ d * b ≤ r:=by
 obtain ⟨h1,h2,h3,h4,h5⟩:=adX hb hle hlt
 obtain ⟨A,hA⟩ : ∃ A,mk r = A:=⟨_,rfl⟩
 obtain ⟨B,hB⟩ : ∃ B,mk b = B:=⟨_,rfl⟩
 have hbA : Lb A:=hA ▸ kH r
 have hbB : Lb B:=hB ▸ kH b
 rw [hA] at h1 h2 h4 h5 lr ⊢
 rw [hB] at h1 h2 h3 h4 h5 lb ⊢
 obtain ⟨k,hk⟩ : ∃ k,B.length = k + 1:=⟨B.length - 1,by omega⟩
 have g1:=kJ hbA k
 have g2:=kJ hbA (k + 1)
 have g3:=kJ hbB k
 have g4:=kJ hbB 0
 have eT : (val (A.drop k) : Int) = A.getD k 0 + (if k + 1 < A.length then A.getD (k + 1) 0 * 1000000000 else 0):=by
  rw [fZ A k]
  split
  ·rw [fZ A (k + 1),bW (l:=A) (i:=k + 1 + 1) (by omega)];omega
  ·rw [bW (l:=A) (i:=k + 1) (by omega)];omega
 have e1 : ((B.length : Nat) : Int) - 1 = (k : Nat):=by omega
 have ebk : B.length - 1 = k:=by omega
 rw [ebk] at h5
 by_cases hk0 : k = 0
 ·subst hk0
  obtain ⟨d1,d2,d3,d4⟩:=h4 (by omega)
  refine ⟨_,?_,d1,d2,d3⟩
  have c0 : ((B.length : Nat) : Int) = 1:=by omega
  have e2 : ((val (A.drop 0) / (B.getD 0 0).toNat : Nat) : Int) = (val (A.drop 0) : Int).tdiv (B.getD 0 0):=by
   rw [Int.tdiv_eq_ediv_of_nonneg (by omega)]
   have : ((B.getD 0 0).toNat : Int) = B.getD 0 0:=by omega
   rw [← this];simp
  have d5 : 0 ≤ (val (A.drop 0) : Int).tdiv (B.getD 0 0) ∧ (val (A.drop 0) : Int).tdiv (B.getD 0 0) < 1000000000:=by rw [← e2];omega
  rw [eT] at e2 d5
  rw [e2]
  clear h4 h5 eT hbA hbB e2 d1 d2 d3 hlt hle hb hA hB h2
  have c0':=iff_true_intro c0
  have nb : ¬ B.getD 0 0 = 0:=by omega
  clear d4
  have e3 : ((0 : Nat) : Int).toNat = 0:=rfl
  have e4 : (((0 : Nat) : Int) + 1).toNat = 0 + 1:=rfl
  by_cases c1 : (1 : Int) < (A.length : Nat)
  ·have c2 : 0 + 1 < A.length:=by omega
   have c3:=iff_true_intro (show ((B.length : Nat) : Int) < (A.length : Nat) by omega)
   rw [if_pos c2] at d5 ⊢
   refine aT nR h.hT ?_
   simp only [jA,Lz]
   refine ev ?_
   refine ev5 @c0' @c3 @e1 @e3 @nb ?_
   rw [hk,w64 (n:=A.getD (0 + 1) 0 * 1000000000) (by omega),w64 (n:=A.getD 0 0 + _) (by omega),w64 (by omega)]
  ·have c2 : ¬ 0 + 1 < A.length:=by omega
   have c3 : ¬ ((B.length : Nat) : Int) < (A.length : Nat):=by omega
   rw [if_neg c2] at d5 ⊢
   refine aT nR h.hT ?_
   simp only [jA,Lz]
   refine ev ?_
   refine ev5 @c0' @c3 @e1 @e3 @nb ?_
   simp only [Int.add_zero] at d5 ⊢
 ·have c0 : ¬ ((B.length : Nat) : Int) = 1:=by omega
  have e4 : (((k : Nat) : Int) + 1).toNat = k + 1:=by omega
  obtain ⟨d2,d3⟩:=h5
  have e2 : ((val (A.drop k) / ((B.getD k 0).toNat + 1) : Nat) : Int) = (val (A.drop k) : Int).tdiv (B.getD k 0 + 1):=by
   rw [Int.tdiv_eq_ediv_of_nonneg (by omega)]
   have : (((B.getD k 0).toNat + 1 : Nat) : Int) = B.getD k 0 + 1:=by omega
   rw [← this,Int.natCast_ediv]
  have d5 : 0 ≤ (val (A.drop k) : Int).tdiv (B.getD k 0 + 1) ∧ (val (A.drop k) : Int).tdiv (B.getD k 0 + 1) < 1000000000:=⟨by rw [← e2];exact Int.natCast_nonneg _,by rw [← e2];exact Int.ofNat_lt.mpr d2⟩
  generalize hd : val (A.drop k) / ((B.getD k 0).toNat + 1) = d at d2 d3 e2
  rw [eT] at e2 d5
  have fin : ∀ t : Int,t = (if k + 1 < A.length then A.getD (k + 1) 0 * 1000000000 else 0) → ∃ d : Nat,(if (A.getD k 0 + t).tdiv (B.getD k 0 + 1) = 0 then iv 1 else iv ((A.getD k 0 + t).tdiv (B.getD k 0 + 1))) = iv (d : Nat) ∧ 0 < d ∧ d < 1000000000 ∧ d * b ≤ r:=by
   intro t ht
   rw [← ht] at e2
   rw [← e2]
   by_cases z : d = 0
   ·exact ⟨1,by simp [z],by omega,by omega,by omega⟩
   ·exact ⟨d,by rw [if_neg (by omega)],by omega,d2,d3⟩
  clear h4 eT hbA hbB e2 d2 d3 hlt hle hb hA hB hd h2
  by_cases c1 : ((k : Nat) : Int) + 1 < (A.length : Nat)
  ·have c2 : k + 1 < A.length:=by omega
   have c3 : ((B.length : Nat) : Int) < (A.length : Nat):=by omega
   rw [if_pos c2] at d5 fin
   obtain ⟨u,f1,f2⟩:=fin _ rfl
   refine ⟨u,?_,f2⟩
   clear f2 fin
   rw [← f1]
   have nb : ¬ B.getD k 0 + 1 = 0:=by omega
   refine aT nR h.hT ?_
   simp only [jA,Lz]
   refine ev ?_
   refine ev5 @c0 @c3 @e1 @e4 @nb ?_
   rw [hk,w64 (n:=A.getD (k + 1) 0 * 1000000000) (by omega),w64 (n:=A.getD k 0 + _) (by omega),w64 (by omega)]
   refine aG (fun z=>?_) fun z=>?_ <;> (refine ev1 @z ?_;try with_reducible exact True.intro)
  ·have c2 : ¬ k + 1 < A.length:=by omega
   have c3 : ¬ ((B.length : Nat) : Int) < (A.length : Nat):=by omega
   rw [if_neg c2] at d5 fin
   obtain ⟨u,f1,f2⟩:=fin _ rfl
   refine ⟨u,?_,f2⟩
   clear f2 fin
   rw [← f1]
   have nb : ¬ B.getD k 0 + 1 = 0:=by omega
   refine aT nR h.hT ?_
   simp only [jA,Lz]
   refine ev ?_
   refine ev5 @c0 @c3 @e1 @e4 @nb ?_
   simp only [Int.add_zero] at d5 ⊢
   refine aG (fun z=>?_) fun z=>?_ <;> (refine ev1 @z ?_;try with_reducible exact True.intro)
theorem Y1 {a b : St} (h : Fg a b:=by
 (refine PU [(0,_)] (by simp) (by intro p hp;simp only [List.mem_cons,List.not_mem_nil,or_false] at hp;rcases hp with rfl <;> refine ⟨rfl,?_⟩ <;> first | exact nN _ | simp [dO,V.still]) rfl ?_) <;> (try (refine ev ?_;try with_reducible exact True.intro)) <;> (repeat' (first | exact True.intro | omega | exact fV rfl (by simp) | refine ⟨?_,?_⟩ | exact of_eq_true (Ag _ _ _) | exact jm rfl (by simp;done) | exact jm rfl rfl | (refine kS rfl ?_ rfl;simp [aN];done) | (refine kS rfl ?_ rfl;simp [aN];omega) | (refine Cb ?_ ?_;(focus ((refine ev ?_;try with_reducible exact True.intro);done));(intro q hq k s0 l0;simp;done))))) : Fg a b:=h
theorem Ql {T : Tb} (h : rO T) {m n : Nat} (hn : 0 < n) (la : (mk m).length ≤ 900:=by exact dD) (lb : (mk n).length ≤ 900:=by exact dD) :
  PF T 138 [ints (mk m),ints (mk n)] (.eF [ints (mk (m / n)),ints (mk (m % n))]):=by
 obtain ⟨A,hA⟩ : ∃ A,mk m = A:=⟨_,rfl⟩
 obtain ⟨B,hB⟩ : ∃ B,mk n = B:=⟨_,rfl⟩
 have hva : val A = m:=by rw [← hA,val_mk]
 have hbA : Lb A:=hA ▸ kH m
 have hbB : Lb B:=hB ▸ kH n
 rw [hA] at la ⊢
 rw [hB] at lb ⊢
 refine aK nR h.hT ?_
 simp only [rM,Lz]
 refine ev ?_
 have cas : (((A.length : Nat) : Int) ≤ 2 ∧ ((B.length : Nat) : Int) ≤ 2) ∨ ((((A.length : Nat) : Int) ≤ 2 ∧ ¬ ((B.length : Nat) : Int) ≤ 2) ∨ ¬ ((A.length : Nat) : Int) ≤ 2):=by omega
 rcases cas with ⟨c1,c2⟩ | big
 ·have sm : m < 1000000000000000000:=by
   have:=oP hbA
   rw [hva] at this
   exact Nat.lt_of_lt_of_le this (Nat.le_trans (Nat.pow_le_pow_right (by omega) (show A.length ≤ 2 by omega)) (by omega))
  have sn : n < 1000000000000000000:=by
   have:=oP hbB
   rw [← hB,val_mk] at this
   exact Nat.lt_of_lt_of_le this (Nat.le_trans (Nat.pow_le_pow_right (by omega) (show (mk n).length ≤ 2 by rw [hB];omega)) (by omega))
  have cs:=yC h.jB sm
  have ct:=yC h.jB sn
  rw [hA] at cs
  rw [hB] at ct
  have e1 : ((m : Nat) : Int).tdiv (n : Nat) = ((m / n : Nat) : Int):=by rw [Int.tdiv_eq_ediv_of_nonneg (by omega),Int.natCast_ediv]
  have e2 : ((m : Nat) : Int).tmod (n : Nat) = ((m % n : Nat) : Int):=by rw [Int.tmod_eq_emod_of_nonneg (by omega),Int.natCast_emod]
  have d1 : m / n ≤ m:=Nat.div_le_self ..
  have d2 : m % n ≤ m:=Nat.mod_le ..
  have nz : ¬ ((n : Nat) : Int) = 0:=by omega
  generalize m / n = q at *
  generalize m % n = r at *
  have c3:=pX h.cO (n:=((q : Nat) : Int)) (by omega)
  have c4:=pX h.cO (n:=((r : Nat) : Int)) (by omega)
  rw [Int.toNat_natCast] at c3 c4
  refine iW @c1 @c2 ?_
  refine ah cs ?_
  refine ev ?_
  refine ah ct ?_
  refine uO @nz @e1 @e2 ?_
  refine ah c3 ?_
  refine uO @nz @e1 @e2 ?_
  refine ah c4 ?_
  refine ev ?_
  exact aC _
 rcases big with ⟨c1,c2⟩ | c1
 case' inl=>(refine iW @c1 @c2 ?_;try with_reducible exact True.intro)
 case' inr=>(refine ev1 @c1 ?_;try with_reducible exact True.intro)
 all_goals
  refine ⟨by omega,?_⟩
  rw [FN]
  refine aQ (fun _ _=>false) (α:=Nat × List Int × Nat) (fun q=>⟨bM [ints A,ints B,.any,.any,.any,.any,.any,.any,.bC 0 0 A.length,ints (mk q.2.2),iv ((q.1 : Nat) - 1)],[some ⟨1,aN q.2.1⟩],0,0,[],[]⟩) (fun q=>q.1 ≤ A.length ∧ q.2.1.length = A.length ∧ Lb q.2.1 ∧ (∀ j,j < q.1 → q.2.1.getD j 0 = 0) ∧ q.2.2 < n ∧ val (A.drop q.1) = val (q.2.1.drop q.1) * n + q.2.2) (fun q=>q.1) rfl (A.length,List.replicate A.length 0,0) ?_ ?_ ?_
  ·exact ⟨by omega,by simp,JE _,by intro j _;simp [List.getD_eq_getElem?_getD,List.getElem?_replicate];split <;> rfl,hn,by dsimp only;rw [bW (Nat.le_refl _),bW (by simp)];simp⟩
  ·rw [mk_zero]
   exact Y1
  ·rintro ⟨k,Q,x⟩ ⟨hk,hQ,hQb,hz,hx,hv⟩
   dsimp only at hk hQ hQb hz hx hv
   by_cases k0 : k = 0
   ·subst k0
    rw [List.drop_zero,List.drop_zero,hva] at hv
    obtain ⟨q1,q2⟩:=FW hv hx
    have e0 : ¬ (0 : Int) ≤ ((0 : Nat) : Int) - 1:=by omega
    refine ev1 @e0 ?_
    refine ah (EM h.jc (l:=Q) (by omega)) ?_
    refine ev ?_
    rw [tN hQb,← q1,← q2]
    exact aC _
   ·obtain ⟨i,rfl⟩ : ∃ i,k = i + 1:=⟨k - 1,by omega⟩
    have e0 : (((i + 1 : Nat) : Int) - 1) = (i : Nat):=by omega
    have e1 : ((i : Nat) : Int) < (A.length : Nat):=by omega
    have e2 : (0 : Int) ≤ (i : Nat):=by omega
    rw [e0]
    have ga:=kJ hbA i
    have hvi:=fZ A i
    obtain ⟨t,ht⟩ : ∃ t,(A.getD i 0).toNat + 1000000000 * x = t:=⟨_,rfl⟩
    have htn : t < n * 1000000000:=by omega
    have lt' : (A.getD i 0 :: mk x).length ≤ 1048576:=by
     have : (mk x).length ≤ B.length:=by rw [aZ];exact Nat.lt_trans hx (by have:=oP hbB;rw [← hB,val_mk,hB] at this;exact this)
     simp only [List.length_cons];omega
    have tr : trim (A.getD i 0 :: mk x) = mk t:=by
     rw [tN (by intro y hy;rcases List.mem_cons.1 hy with rfl | hy;exact ga;exact kH x y hy),← ht,val,val_mk]
    have ct:=EM h.jc (l:=A.getD i 0 :: mk x) lt'
    rw [tr] at ct
    have ely : ∀ y,y ≤ t → (mk y).length ≤ 901:=by
     intro y hy
     have : (mk y).length ≤ B.length + 1:=by
      rw [aZ,Nat.pow_succ]
      have:=oP hbB
      rw [← hB,val_mk,hB] at this
      exact Nat.lt_of_lt_of_le (Nat.lt_of_le_of_lt hy htn) (Nat.mul_le_mul_right _ (Nat.le_of_lt this))
     omega
    have lx:=ely
    refine iW @e2 @e1 ?_
    refine ⟨fun e3=>?_,fun e3=>?_⟩
    case' refine_1 =>
     have x0 : mk x = []:=by cases hm : mk x with | nil=>rfl | cons a l=>rw [hm] at e3;cases e3
     rw [x0] at ct
     rw [show [[V.int IntKind.i64 (A.getD i 0)]] = aN [A.getD i 0] from rfl]
     (refine ev ?_;try with_reducible exact True.intro)
    case' refine_2 =>
     refine ev1 @e3 ?_
     rw [show [V.int IntKind.i64 (A.getD i 0)] :: aN (mk x) = aN (A.getD i 0 :: mk x) from rfl]
     refine ev ?_
     have lm:=lt'
     simp only [List.length_cons] at lm
     refine ⟨by omega,?_⟩
    all_goals
     clear lt'
     refine ah ct ?_
     refine ev ?_
     refine aQ (fun _ _=>false) (α:=List Int × Nat) (fun q=>⟨bM [ints A,ints B,.any,.any,.any,.any,.any,.any,.bC 0 0 A.length,ints (mk q.2),iv (i : Nat)],[some ⟨1,aN q.1⟩],0,0,[],[]⟩) (fun q=>q.1.length = A.length ∧ Lb q.1 ∧ (∀ j,j < i → q.1.getD j 0 = 0) ∧ q.1.drop (i + 1) = Q.drop (i + 1) ∧ q.2 + (q.1.getD i 0).toNat * n = t) (fun q=>q.2) rfl (Q,t) ?_ ?_ ?_
     ·exact ⟨hQ,hQb,fun j hj=>hz j (by omega),rfl,by dsimp only;rw [hz i (by omega)];simp⟩
     ·exact Y1
     ·rintro ⟨P,y⟩ ⟨hP,hPb,hzP,hd,hy⟩
      dsimp only at hP hPb hzP hd hy
      have yt : y ≤ t:=by omega
      have ly:=ely y yt
      have cc:=Qh h.zh (lG y) (lG n) (by omega) (by rw [hB];omega)
      rw [val_mk,val_mk,hB] at cc
      refine ev ?_
      refine ah cc ?_
      refine ev ?_
      refine aG (fun c3=>?_) fun c3=>?_ <;> (refine ev1 @c3 ?_;try with_reducible exact True.intro)
      ·have hny : n ≤ y:=mQ.1 c3
       obtain ⟨d,pg,d0,d1,d2⟩:=Qk h.GI hn hny (by omega) (by omega) (by rw [hB];omega)
       rw [hB] at pg
       have pm:=Qi h.zi (m:=n) (n:=d) (by rw [hB];omega) (by rw [mk_one d0 d1];simp)
       have dn : n * d ≤ y:=by rw [Nat.mul_comm];exact d2
       have lnd:=ely (n * d) (by omega)
       have ps:=KH h.rP dn (by omega) (by omega)
       rw [hB,mk_one d0 d1] at pm
       have gp:=kJ hPb i
       have y2 : y - n * d + ((P.getD i 0).toNat + d) * n = t:=by rw [Nat.add_mul,Nat.mul_comm d n];omega
       have gp2 : P.getD i 0 + d < 1000000000:=by
        have : ((P.getD i 0).toNat + d) * n < 1000000000 * n:=by rw [Nat.mul_comm 1000000000];omega
        have:=Nat.lt_of_mul_lt_mul_right this
        omega
       have d0' : 0 < n * d:=Nat.mul_pos hn d0
       have k1:=FT (l:=P) (i:=i) (d:=P.getD i 0 + d) (by omega) gp2 hPb
       have k2 : ∀ j,j < i → (P.set i (P.getD i 0 + d)).getD j 0 = 0:=by
        intro j hj
        rw [iP,if_neg (by omega)]
        exact hzP j hj
       have k3 : (P.set i (P.getD i 0 + d)).drop (i + 1) = Q.drop (i + 1):=by rw [List.drop_set_of_lt (by omega),hd]
       have k4 : ((P.set i (P.getD i 0 + d)).getD i 0) = P.getD i 0 + d:=by rw [iP,if_pos ⟨rfl,by omega⟩]
       have k5 : y - n * d + ((P.set i (P.getD i 0 + d)).getD i 0).toNat * n = t:=by
        rw [k4,show (P.getD i 0 + (d : Int)).toNat = (P.getD i 0).toNat + d by omega];exact y2
       have k6 : y - n * d < y:=by omega
       clear y2 hy htn ht hvi k4 hzP hd d2 lx ely hv hz hx
       refine ah pg ?_
       refine ev ?_
       rw [show [[V.int IntKind.i64 (d : Int)]] = aN [(d : Int)] from rfl]
       refine ev ?_
       refine ah pm ?_
       refine ev ?_
       refine ah ps ?_
       refine iW @e1 @hP ?_
       exact ⟨(P.set i (P.getD i 0 + d),y - n * d),k6,⟨by simp [hP],k1,k2,k3,k5⟩,by exact Y1⟩
      ·have hny : y < n:=by
        have:=@mQ y n
        omega
       have k1:=fZ P i
       rw [hd] at k1
       have k2 : val (A.drop i) = val (P.drop i) * n + y:=by
        rw [hvi,hv,k1,Nat.add_mul,Nat.mul_add,← Nat.mul_assoc];omega
       exact ⟨(i,P,y),by dsimp only;omega,⟨by dsimp only;omega,hP,hPb,hzP,hny,k2⟩,by (refine aI ?_;exact yB)⟩
end Go.Ml
end
