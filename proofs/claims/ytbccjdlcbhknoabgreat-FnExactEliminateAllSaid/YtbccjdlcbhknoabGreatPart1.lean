/- A small language for the functions of this claim, its soundness, contracts. -/
import Derived.Test.YtbccjdlcbhknoabGreatPart0
set_option linter.unusedSimpArgs false
set_option linter.unusedVariables false
set_option maxRecDepth 100000
set_option maxHeartbeats 16000000
section
namespace Go.Ml
def pz (n : Nat) (v : V) (k : Nat → Prop) : Prop:=match v with
 | .int _ i=>(0 ≤ i ∧ i < n) ∧ k i.toNat
 | _=>False
def jA (n : Nat) (v : V) (k : Nat → Prop) : Prop:=match v with
 | .int _ i=>(0 ≤ i ∧ i ≤ n) ∧ k i.toNat
 | _=>False
theorem vO {n : Nat} {v : V} {k : Nat → Prop} (h : pz n v k) : ∃ j,KR n v = some j ∧ k j:=by
 cases v <;> simp only [pz] at h <;> first | exact h.elim | skip
 exact ⟨_,by simp only [KR];rw [if_pos h.1],h.2⟩
theorem Jy {n : Nat} {v : V} {k : Nat → Prop} (h : jA n v k) : ∃ j,DR n v = some j ∧ k j:=by
 cases v <;> simp only [jA] at h <;> first | exact h.elim | skip
 exact ⟨_,by simp only [DR];rw [if_pos h.1],h.2⟩
def dK {α : Type} (o : Option α) (k : α → Prop) : Prop:=match o with
 | some a=>k a
 | none=>False
theorem bG {α : Type} {o : Option α} {k : α → Prop} (h : dK o k) : ∃ a,o = some a ∧ k a:=by
 cases o with
 | none=>exact h.elim
 | some a=>exact ⟨a,rfl,h⟩
def qg (op : BinOp) (x y : V) (k : V → Prop) : Prop:=match op,x,y with
 | .add,.int q a,.int q' b=>q = q' ∧ k (.int q (q.wrap (a + b)))
 | .sub,.int q a,.int q' b=>q = q' ∧ k (.int q (q.wrap (a - b)))
 | .mul,.int q a,.int q' b=>q = q' ∧ k (.int q (q.wrap (a * b)))
 | .quo,.int q a,.int q' b=>(q = q' ∧ b ≠ 0) ∧ k (.int q (q.wrap (a.tdiv b)))
 | .rem,.int q a,.int q' b=>(q = q' ∧ b ≠ 0) ∧ k (.int q (a.tmod b))
 | .eql,.int q a,.int q' b=>q = q' ∧ k (.bool (a == b))
 | .neq,.int q a,.int q' b=>q = q' ∧ k (.bool (a != b))
 | .lss,.int q a,.int q' b=>q = q' ∧ k (.bool (decide (a < b)))
 | .leq,.int q a,.int q' b=>q = q' ∧ k (.bool (decide (a ≤ b)))
 | .gtr,.int q a,.int q' b=>q = q' ∧ k (.bool (decide (b < a)))
 | .geq,.int q a,.int q' b=>q = q' ∧ k (.bool (decide (b ≤ a)))
 | .eql,.str a,.str b=>k (.bool (a == b))
 | .neq,.str a,.str b=>k (.bool (!(a == b)))
 | .add,.str a,.str b=>a.length + b.length < 2 ^ 62 ∧ k (.str (a ++ b))
 | .shr,.int q a,.int _ b=>0 ≤ b ∧ k (.int q (a.fdiv (2 ^ (min b.toNat q.bits))))
 | .and,.int q a,.int q' b=>q = q' ∧ k (.int q (O5 q a b))
 | .xor,.int q a,.int q' b=>q = q' ∧ k (.int q (O6 q a b))
 | _,_,_=>False
theorem ace {op : BinOp} {x y : V} {k : V → Prop} (h : qg op x y k) : ∃ v,TM op x y = some v ∧ k v:=by
 unfold qg at h
 split at h <;> first | exact h.elim | skip
 all_goals first
  | exact ⟨_,by simp only [TM];rw [if_pos h.1],h.2⟩
  | exact ⟨_,by simp only [TM],h⟩
def I.dV (env : Nat → V) (σ : Store) (i : I) (k : Eff → Prop) : Prop:=match i with
 | .bY x=>k (.val (x.ev env))
 |
  .pick c a b=>match c.ev env with
  | .bool t=>k (.val (if t then a.ev env else b.ev env))
  | _=>False
 | .alloc zero=>k (.newP ⟨zero.length,[zero]⟩)
 |
  .box x=>match (x.ev env).cells? with
  | some (c :: cs)=>k (.newP ⟨(c :: cs).length,[c :: cs]⟩)
  | _=>False
 | .build zero parts=>dK (uy env zero parts) fun cs=>k (.val (.agg cs))
 | .dS sz zero ln parts=>dK (jV env sz (List.replicate ln zero) parts) fun rows=>if ln = 0 then k (.val .ak) else k (.newS ⟨sz,rows⟩ ln)
 |
  .make zero bytes x=>match x.ev env with
  | .int .i64 n=>(0 ≤ n ∧ n ≤ 2 ^ 47 ∧ n * bytes ≤ 2 ^ 47) ∧ k (.newS ⟨zero.length,List.replicate n.toNat zero⟩ n.toNat)
  | _=>False
 | .load n isAgg a=>dK (rowAt σ (a.ev env)) fun p =>
   if isAgg then (p.2 + n ≤ p.1.length ∧ k (.val (.agg ((p.1.drop p.2).take n)))) else dK p.1[p.2]? fun v=>k (.val v)
 |
  .store n a x=>match a.ev env with
  | .ptr o r off=>dK (x.ev env).cells? fun cs=>dK (aj σ o) fun ob=>dK ob.rows[r]? fun row =>
    (cs.length = n ∧ off + n ≤ row.length) ∧ k (.upd o ⟨ob.sz,ob.rows.set r (splice row off cs)⟩)
  | _=>False
 |
  .fld d a=>match a.ev env with
  | .ptr o r off=>dK (aj σ o) fun _=>k (.val (.ptr o r (off + d)))
  | .fB row off=>k (.val (.fB row (off + d)))
  | _=>False
 |
  .idx sz x i=>match x.ev env with
  | .bC o s l=>dK (aj σ o) fun ob=>pz l (i.ev env) fun j=>ob.sz = sz ∧ k (.val (.ptr o (s + j) 0))
  | .sl sz' rows=>pz rows.length (i.ev env) fun j=>sz' = sz ∧ k (.val (.fB (rows.getD j []) 0))
  | _=>False
 |
  .UO cnt sz x i=>match x.ev env with
  | .ptr o r off=>pz cnt (i.ev env) fun j=>dK (aj σ o) fun _=>k (.val (.ptr o r (off + j * sz)))
  | .fB row off=>pz cnt (i.ev env) fun j=>k (.val (.fB row (off + j * sz)))
  | _=>False
 |
  .WJ x i=>match x.ev env with
  | .str s=>pz s.length (i.ev env) fun j=>k (.val (.int .u8 (s.getD j 0).toNat))
  | _=>False
 | .len x=>dK (lenOf σ (x.ev env)) fun n=>k (.val (.int .i64 n))
 |
  .WL x=>match x.ev env with
  | .str s=>k (.val (.int .i64 s.length))
  | _=>False
 | .bin op x y=>qg op (x.ev env) (y.ev env) fun v=>k (.val v)
 |
  .beq ne x y=>match x.ev env,y.ev env with
  | .bool a,.bool b=>k (.val (.bool (if ne then !(a == b) else a == b)))
  | _,_=>False
 |
  .un op x=>match op,x.ev env with
  | .neg,.int q n=>k (.val (.int q (q.wrap (0 - n))))
  | .not,.bool b=>k (.val (.bool (!b)))
  | _,_=>False
 |
  .conv q x=>match x.ev env with
  | .int _ n=>k (.val (.int q (q.wrap n)))
  | _=>False
 | .app sz bytes x y=>dK (rowsOf σ (x.ev env)) fun old=>dK (rowsOf σ (y.ev env)) fun new =>
   (new.2 = [] → k (.val (x.ev env))) ∧ (new.2 ≠ [] → (new.1 = sz ∧ (old.2.length + new.2.length) * bytes ≤ 2 ^ 40 ∧ old.2.length + new.2.length ≤ 2 ^ 40) ∧
    match x.ev env with
    | .ak=>k (.newS ⟨sz,new.2⟩ new.2.length)
    | .bC o _ _=>dK (aj σ o) fun ob=>ob.sz = sz ∧ k (.bY o ⟨sz,old.2 ++ new.2⟩ (old.2.length + new.2.length))
    | _=>False)
 |
  .max x y=>match x.ev env,y.ev env with
  | .int q a,.int q' b=>q = q' ∧ k (.val (.int q (if b > a then b else a)))
  | _,_=>False
 |
  .SH i x=>match x.ev env with
  | .eu vs=>dK vs[i]? fun v=>k (.val v)
  | _=>False
 |
  .chk x=>match x.ev env with
  | .ptr o r off=>dK (aj σ o) fun _=>k (.val (.ptr o r off))
  | .fB row off=>k (.val (.fB row off))
  | _=>False
 |
  .JI x lo hi=>match x.ev env with
  | .str s=>(match hi with | some h=>jA s.length (h.ev env) | none=>fun k=>k s.length) fun h =>
    (match lo with | some l=>jA h (l.ev env) | none=>fun k=>k 0) fun l=>k (.val (.str ((s.take h).drop l)))
  | _=>False
 | .slice sz x lo hi=>dK (lenOf σ (x.ev env)) fun n=>(match hi with | some h=>jA n (h.ev env) | none=>fun k=>k n) fun h =>
   (match lo with | some l=>jA h (l.ev env) | none=>fun k=>k 0) fun l=>match x.ev env with
    | .ak=>k (.val .ak)
    | .sl sz' rows=>sz' = sz ∧ k (.val (.sl sz' ((rows.take h).drop l)))
    | .bC o s _=>dK (aj σ o) fun ob=>ob.sz = sz ∧ k (.val (.bC o (s + l) (h - l)))
    | _=>False
 |
  .WM cnt x i=>match x.ev env with
  | .agg cs=>pz cnt (i.ev env) fun j=>dK cs[j]? fun v=>k (.val v)
  | _=>False
 | i=>dK (i.eff env σ) k
theorem Xf {env : Nat → V} {n : Nat} {hi : Option Src} {k : Nat → Prop} (h : (match hi with | some h=>jA n (h.ev env) | none=>fun k=>k n) k) : ∃ j,hiB env n hi = some j ∧ k j:=by
 cases hi with
 | none=>exact ⟨n,rfl,h⟩
 | some x=>exact Jy h
theorem Xg {env : Nat → V} {n : Nat} {lo : Option Src} {k : Nat → Prop} (h : (match lo with | some h=>jA n (h.ev env) | none=>fun k=>k 0) k) : ∃ j,loB env n lo = some j ∧ k j:=by
 cases lo with
 | none=>exact ⟨0,rfl,h⟩
 | some x=>exact Jy h
theorem Nh {env : Nat → V} {σ : Store} {i : I} {k : Eff → Prop} (h : i.dV env σ k) : ∃ ef,i.eff env σ = some ef ∧ k ef:=by
 cases i with
 | bY x=>exact ⟨_,rfl,h⟩
 |
  pick c a b =>
  simp only [I.dV] at h
  split at h <;> first | exact h.elim | skip
  rename_i t e
  exact ⟨_,by simp only [I.eff,e],h⟩
 | alloc z=>exact ⟨_,rfl,h⟩
 |
  box x =>
  simp only [I.dV] at h
  split at h <;> first | exact h.elim | skip
  rename_i c cs e
  exact ⟨_,by simp only [I.eff,e],h⟩
 |
  build z ps =>
  obtain ⟨cs,e,h⟩:=bG h
  exact ⟨_,by simp only [I.eff,e],h⟩
 |
  dS sz z ln ps =>
  obtain ⟨rows,e,h⟩:=bG h
  split at h
  ·rename_i h0;exact ⟨_,by simp only [I.eff,e];rw [if_pos h0],h⟩
  ·rename_i h0;exact ⟨_,by simp only [I.eff,e];rw [if_neg h0],h⟩
 |
  make z b x =>
  simp only [I.dV] at h
  split at h <;> first | exact h.elim | skip
  rename_i n e
  exact ⟨_,by simp only [I.eff,e];rw [if_pos h.1],h.2⟩
 |
  load n g a =>
  obtain ⟨p,e,h⟩:=bG h
  obtain ⟨row,off⟩:=p
  simp only [] at h
  cases g with
  |
   true =>
   simp only [if_true] at h
   exact ⟨_,by simp only [I.eff,e,if_true];rw [if_pos h.1],h.2⟩
  |
   false =>
   simp only [Bool.false_eq_true,if_false] at h
   obtain ⟨v,e2,h⟩:=bG h
   exact ⟨_,by simp only [I.eff,e,Bool.false_eq_true,if_false,e2],h⟩
 |
  store n a x =>
  simp only [I.dV] at h
  split at h <;> first | exact h.elim | skip
  rename_i o r off e
  obtain ⟨cs,e1,h⟩:=bG h
  obtain ⟨ob,e2,h⟩:=bG h
  obtain ⟨row,e3,h⟩:=bG h
  exact ⟨_,by simp only [I.eff,e,e1,e2,e3];rw [if_pos h.1],h.2⟩
 |
  fld d a =>
  simp only [I.dV] at h
  split at h <;> first | exact h.elim | skip
  ·rename_i o r off e
   obtain ⟨ob,e2,h⟩:=bG h
   exact ⟨_,by simp only [I.eff,e,e2],h⟩
  ·rename_i row off e
   exact ⟨_,by simp only [I.eff,e],h⟩
 |
  idx sz x i =>
  simp only [I.dV] at h
  split at h <;> first | exact h.elim | skip
  ·rename_i o s l e
   obtain ⟨ob,e2,h⟩:=bG h
   obtain ⟨j,e3,h⟩:=vO h
   exact ⟨_,by simp only [I.eff,e,e2,e3];rw [if_pos h.1],h.2⟩
  ·rename_i sz' rows e
   obtain ⟨j,e3,h⟩:=vO h
   exact ⟨_,by simp only [I.eff,e,e3];rw [if_pos h.1],h.2⟩
 |
  UO c sz x i =>
  simp only [I.dV] at h
  split at h <;> first | exact h.elim | skip
  ·rename_i o r off e
   obtain ⟨j,e3,h⟩:=vO h
   obtain ⟨ob,e2,h⟩:=bG h
   exact ⟨_,by simp only [I.eff,e,e2,e3],h⟩
  ·rename_i row off e
   obtain ⟨j,e3,h⟩:=vO h
   exact ⟨_,by simp only [I.eff,e,e3],h⟩
 |
  WJ x i =>
  simp only [I.dV] at h
  split at h <;> first | exact h.elim | skip
  rename_i s e
  obtain ⟨j,e3,h⟩:=vO h
  exact ⟨_,by simp only [I.eff,e,e3],h⟩
 |
  len x =>
  obtain ⟨n,e,h⟩:=bG h
  exact ⟨_,by simp only [I.eff,e],h⟩
 |
  WL x =>
  simp only [I.dV] at h
  split at h <;> first | exact h.elim | skip
  rename_i s e
  exact ⟨_,by simp only [I.eff,e],h⟩
 |
  bin op x y =>
  simp only [I.dV] at h
  obtain ⟨v,e,h⟩:=ace h
  exact ⟨_,by simp only [I.eff,e],h⟩
 |
  beq ne x y =>
  simp only [I.dV] at h
  split at h <;> first | exact h.elim | skip
  rename_i p q e1 e2
  exact ⟨_,by simp only [I.eff,e1,e2],h⟩
 |
  un op x =>
  simp only [I.dV] at h
  split at h <;> first | exact h.elim | skip
  ·rename_i q n e
   exact ⟨_,by simp only [I.eff,e,adx],h⟩
  ·rename_i b e
   exact ⟨_,by simp only [I.eff,e,adx],h⟩
 |
  conv q x =>
  simp only [I.dV] at h
  split at h <;> first | exact h.elim | skip
  rename_i q' n e
  exact ⟨_,by simp only [I.eff,e],h⟩
 |
  app sz b x y =>
  obtain ⟨old,e1,h⟩:=bG h
  obtain ⟨new,e2,h⟩:=bG h
  obtain ⟨so,old⟩:=old
  obtain ⟨sn,new⟩:=new
  simp only [] at h
  by_cases hn : new = []
  ·exact ⟨_,by simp only [I.eff,e1,e2];rw [if_pos hn],h.1 hn⟩
  ·obtain ⟨hc,h⟩:=h.2 hn
   split at h <;> first | exact h.elim | skip
   ·rename_i e
    rw [e] at e1
    refine ⟨_,?_,h⟩
    simp only [I.eff,e,e1,e2];rw [if_neg hn,if_pos hc]
   ·rename_i o s l e
    obtain ⟨ob,e3,h⟩:=bG h
    rw [e] at e1
    refine ⟨_,?_,h.2⟩
    simp only [I.eff,e,e1,e2,e3];rw [if_neg hn,if_pos hc,if_pos h.1]
 |
  max x y =>
  simp only [I.dV] at h
  split at h <;> first | exact h.elim | skip
  rename_i q p q' r e1 e2
  exact ⟨_,by simp only [I.eff,e1,e2];rw [if_pos h.1],h.2⟩
 |
  SH i x =>
  simp only [I.dV] at h
  split at h <;> first | exact h.elim | skip
  rename_i vs e
  obtain ⟨v,e2,h⟩:=bG h
  exact ⟨_,by simp only [I.eff,e,e2],h⟩
 |
  chk x =>
  simp only [I.dV] at h
  split at h <;> first | exact h.elim | skip
  ·rename_i o r off e
   obtain ⟨ob,e2,h⟩:=bG h
   exact ⟨_,by simp only [I.eff,e,e2],h⟩
  ·rename_i row off e
   exact ⟨_,by simp only [I.eff,e],h⟩
 |
  JI x lo hi =>
  simp only [I.dV] at h
  split at h <;> first | exact h.elim | skip
  rename_i s e
  obtain ⟨hh,e1,h⟩:=Xf h
  obtain ⟨l,e2,h⟩:=Xg h
  exact ⟨_,by simp only [I.eff,e,e1,e2],h⟩
 |
  slice sz x lo hi =>
  obtain ⟨n,e0,h⟩:=bG h
  obtain ⟨hh,e1,h⟩:=Xf h
  obtain ⟨l,e2,h⟩:=Xg h
  split at h <;> first | exact h.elim | skip
  ·rename_i e
   rw [e] at e0
   exact ⟨_,by simp only [I.eff,e,e0,e1,e2],h⟩
  ·rename_i sz' rows e
   rw [e] at e0
   exact ⟨_,by simp only [I.eff,e,e0,e1,e2];rw [if_pos h.1],h.2⟩
  ·rename_i o s q e
   obtain ⟨ob,e3,h⟩:=bG h
   rw [e] at e0
   exact ⟨_,by simp only [I.eff,e,e0,e1,e2,e3];rw [if_pos h.1],h.2⟩
 |
  WM cnt x i =>
  simp only [I.dV] at h
  split at h <;> first | exact h.elim | skip
  rename_i cs e
  obtain ⟨j,e2,h⟩:=vO h
  obtain ⟨v,e3,h⟩:=bG h
  exact ⟨_,by simp only [I.eff,e,e2,e3],h⟩
 | _=>exact bG h
def PF (T : Tb) (f : Nat) (args : List V) (r : V) : Prop:=Run T (.fn f args []) (.fn r [])
def Ig (v : V) (k : Bool → Prop) : Prop:=match v with
 | .bool b=>k b
 | _=>False
theorem Zg {v : V} {k : Bool → Prop} (h : Ig v k) : ∃ b,v = .bool b ∧ k b:=by
 cases v <;> first | exact h.elim | exact ⟨_,rfl,h⟩
def gdK (want : Bool) (v : V) (k : Bool → Prop) : Prop:=match v with
 | .bool b=>k b
 | .eu []=>k (!want)
 | _=>False
theorem Xh {want : Bool} {v : V} {k : Bool → Prop} (h : gdK want v k) : (v = .bool want ∧ k want) ∨ (abY want v ∧ k (!want)):=by
 unfold gdK at h
 split at h
 ·rename_i b
  by_cases e : b = want
  ·subst e;exact .inl ⟨rfl,h⟩
  ·have : b = !want:=by cases b <;> cases want <;> simp_all
   subst this
   exact .inr ⟨.inr ⟨_,rfl,e⟩,h⟩
 ·exact .inr ⟨.inl rfl,h⟩
 ·exact h.elim
def gK (g : Option (Nat × Bool)) (env : Nat → V) (on off : Prop) : Prop:=match g with
 | none=>on
 | some (t,true)=>gdK true (env t) fun b=>if b = true then on else off
 | some (t,false)=>gdK false (env t) fun b=>if b = true then off else on
theorem U2 {g : Option (Nat × Bool)} {env : Nat → V} {on off : Prop} (h : gK g env on off) :
  ((∀ t want,g = some (t,want) → env t = .bool want) ∧ on) ∨ (∃ t want,g = some (t,want) ∧ abY want (env t) ∧ off):=by
 cases g with
 | none=>exact .inl ⟨fun _ _ h=>(by cases h),h⟩
 |
  some p =>
  obtain ⟨t,want⟩:=p
  cases want with
  |
   true =>
   rcases Xh h with ⟨e,h⟩ | ⟨e,h⟩
   ·exact .inl ⟨fun _ _ h=>(by cases h;exact e),(by simpa using h)⟩
   ·exact .inr ⟨t,true,rfl,e,by simpa using h⟩
  |
   false =>
   rcases Xh h with ⟨e,h⟩ | ⟨e,h⟩
   ·exact .inl ⟨fun _ _ h=>(by cases h;exact e),(by simpa using h)⟩
   ·exact .inr ⟨t,false,rfl,e,by simpa using h⟩
def E5 (env : Nat → V) (σ : Store) : List Src → (List V → Prop) → Prop
 | [],k=>k []
 | s :: as,k=>dK (resolve σ FD (s.ev env)) fun v=>E5 env σ as fun vs=>k (v :: vs)
theorem qR {env : Nat → V} {σ : Store} : ∀ {as : List Src} {k : List V → Prop},E5 env σ as k → ∃ vs,as.mapM (fun s=>resolve σ FD (s.ev env)) = some vs ∧ k vs
 | [],k,h=>⟨[],rfl,h⟩
 |
  s :: as,k,h=>by
  obtain ⟨v,e,h⟩:=bG h
  obtain ⟨vs,e2,h⟩:=qR h
  exact ⟨v :: vs,by simp [List.mapM_cons,e,e2],h⟩
def dB (env : Nat → V) (σ : Store) (as : List Src) : List Nat:=as.flatMap fun s=>reach σ FD (s.ev env)
def PFK (T : Tb) (f : Nat) (as : List V) (k : V → Prop) : Prop:=∃ r,PF T f as r ∧ k r
inductive KY (T : Tb) (f : Nat) (as : List Src) (dst : Option Nat) (st : St) : St → Prop
 | ref (ρ : List Nat) {r : V} {σ' : Store} (hn : ρ.Nodup) (hρ : ∀ o,o ∈ ρ → (aj st.objs o).isSome = true) (h : Run T (.fn f (as.map fun s=>aY (place ρ) (s.ev st.env)) (EW ρ st.objs)) (.fn r σ')) :
   KY T f as dst st { st with env:=dZ st.env dst (aY (back ρ st.objs.length) r),objs:=kR ρ st.objs σ' }
 | own {as' : List V} {r : V} {σ' : Store} {R : List Nat} (ha : as.mapM (fun s=>resolve st.objs FD (s.ev st.env)) = some as') (h : Run T (.fn f as' []) (.fn r σ'))
   (hR : R = if dH r && yj σ' then [] else as.flatMap fun s=>reach st.objs FD (s.ev st.env)) :
   KY T f as dst st { st with env:=dZ st.env dst (aY (bT st.objs.length) r),objs:=rV (dw st.objs R) σ' }
 | idn {r : V} {σ' : Store} (h : Run T (.fn f (as.map fun s=>s.ev st.env) st.objs) (.fn r σ')) (hl : st.objs.length ≤ σ'.length) (hb : st.objs.length ≤ st.base) :
   KY T f as dst st { st with env:=dZ st.env dst r,objs:=σ' }
 | frz {as' : List V} {r : V} {R : List Nat} (ha : as.mapM (fun s=>resolve st.objs FD (s.ev st.env)) = some as') (h : Run T (.fn f as' []) (.fn r []))
   (hR : R = if scalar SD r then [] else as.flatMap fun s=>reach st.objs FD (s.ev st.env)) :
   KY T f as dst st { st with env:=dZ st.env dst r,objs:=dw st.objs R }
def JR (T : Tb) (f : Nat) (as : List Src) (dst : Option Nat) (st : St) (k : St → Prop) : Prop:=∃ st',KY T f as dst st st' ∧ k st'
def dN : Option Nat → Nat
 | some n=>n
 | none=>0
theorem Ih (n : Nat) : dN (some n) = n:=by have h : dN (some n) = n:=rfl;exact h
def opK (T : Tb) (rf : Nat → Nat → Bool) (o : fQ) (st : St) (k : St → Prop) : Prop :=
 gK o.g st.env (match o.i with
  | .call f as=>if rf f (dN o.dst) = true then JR T f as o.dst st k else E5 st.env st.objs as fun as'=>PFK T f as' fun r =>
    k { st with env:=dZ st.env o.dst r,objs:=dw st.objs (if scalar SD r then [] else dB st.env st.objs as) }
  | i=>i.dV st.env st.objs fun ef=>k (ef.go st o.dst (st.base + o.k)))
  (k { st with env:=dZ st.env o.dst (.eu []) })
theorem aea {T : Tb} {rf : Nat → Nat → Bool} {o : fQ} {st : St} {k : St → Prop} (h : opK T rf o st k) : ∃ st',Run T (.op o st) (.code .normal st') ∧ k st':=by
 rcases U2 h with ⟨hg,h⟩ | ⟨t,want,hg,he,h⟩
 ·split at h
  ·rename_i f as hi
   split at h
   ·obtain ⟨st',h1,h4⟩:=h
    refine ⟨st',?_,h4⟩
    cases h1 with
    | ref ρ h1 h2 h3=>exact .adB ρ h1 h2 hg hi h3
    | own h1 h2 h3=>exact .adC hg hi h1 h2 h3
    | idn h1 h2 h3=>exact .adD hg hi h1 h2 h3
    | frz h1 h2 h3=>exact .WR hg hi h1 h2 h3
   ·obtain ⟨vs,e,h⟩:=qR h
    obtain ⟨r,h1,h⟩:=h
    exact ⟨_,.WR hg hi e h1 rfl,h⟩
  ·obtain ⟨ef,e,h⟩:=Nh h
   exact ⟨_,.op hg e,h⟩
 ·exact ⟨_,.off hg he,h⟩
def Zh (T : Tb) (rf : Nat → Nat → Bool) : List fQ → St → (St → Prop) → Prop
 | [],st,k=>k st
 | o :: l,st,k=>opK T rf o st fun st=>Zh T rf l st k
theorem TY {T : Tb} {rf : Nat → Nat → Bool} : ∀ {l : List fQ} {st : St} {k : St → Prop},Zh T rf l st k → ∃ st',Run T (.ops l st) (.code .normal st') ∧ k st'
 | [],st,k,h=>⟨st,.nil st,h⟩
 |
  o :: l,st,k,h=>by
  obtain ⟨st1,h1,h⟩:=aea h
  obtain ⟨st2,h2,h⟩:=TY h
  exact ⟨st2,.cons h1 h2,h⟩
def uni (a b : List Nat) : List Nat:=b.foldl (fun s x=>if s.contains x then s else x :: s) a
def an5 : List fQ → List (List Nat) → List (List Nat)
 | [],acc=>acc
 | o :: l,acc=>an5 l (acc ++ [o.aft.foldl (fun s e=>uni s (acc.getD e [])) o.aft])
def okB (B : Nat → List Nat) (l : List fQ) : Nat → Bool
 |
  i=>match l with
  | []=>true
  | o :: l=>(B i).all (fun j=>o.aft.contains j || o.aft.any fun e=>(B e).contains j) && o.aft.all (fun e=>decide (e < i)) && okB B l (i + 1)
theorem Qi {B : Nat → List Nat} : ∀ {l : List fQ} {n : Nat},okB B l n = true → ∀ i o,l[i]? = some o → (∀ j,j ∈ B (n + i) → j ∈ o.aft ∨ ∃ e ∈ o.aft,j ∈ B e) ∧ ∀ e ∈ o.aft,e < n + i
 | [],n,_,i,o,h=>by simp at h
 |
  x :: l,n,hk,i,o,h=>by
  unfold okB at hk
  simp only [Bool.and_eq_true,List.all_eq_true] at hk
  obtain ⟨⟨h1,h2⟩,h3⟩:=hk
  cases i with
  |
   zero =>
   simp only [List.getElem?_cons_zero,Option.some.injEq] at h
   subst h
   refine ⟨fun j hj=>?_,fun e he=>by simpa using h2 e he⟩
   have:=h1 j hj
   simpa using this
  |
   succ i =>
   simp only [List.getElem?_cons_succ] at h
   have:=Qi h3 i o h
   rw [show n + (i + 1) = n + 1 + i by omega]
   exact this
def SX (l : List fQ) : Nat → List Nat:=let b:=an5 l [];fun i=>b.getD i []
structure Acc where
 i : Nat
 R : List Nat
 W : List Nat
 n : Bool:=false
def rW (L : Nat) (a b : Acc) : Bool:=!a.n || (!b.n && b.R.all (fun o=>decide (o < L)) && b.W.all fun p=>decide (p < L))
def lC (L : Nat) (d e : fQ) (a b : Acc) : Bool :=
 !GV d.dst e.looks && !GV e.dst d.looks && !(d.dst.isSome && d.dst == e.dst) &&
  a.W.all (fun p=>!b.R.contains p && b.W.all fun q=>q != p) && b.W.all (fun q=>!a.R.contains q) && rW L a b && rW L b a
def Ii (l : List fQ) (i : Nat) : fQ:=l.getD i ⟨none,none,0,.alloc [],[]⟩
def okA (L : Nat) (B : Nat → List Nat) (ops : List fQ) : List Acc → Bool
 | []=>true
 | a :: l=>l.all (fun b=>(B b.i).contains a.i || lC L (Ii ops a.i) (Ii ops b.i) a b) && okA L B ops l
def iW (L : Nat) (ops : List fQ) (l : List Acc) : Prop:=okA L (SX ops) ops l.reverse = true
def Zi (T : Tb) (f : Nat) (as : List Src) (dst : Option Nat) (st : St) (k : List Nat → List Nat → Bool → St → Prop) : Prop :=
 (∃ as' r σ',as.mapM (fun s=>resolve st.objs FD (s.ev st.env)) = some as' ∧ Run T (.fn f as' []) (.fn r σ') ∧ (dH r && yj σ') = true ∧
  k (dB st.env st.objs as) [] true { st with env:=dZ st.env dst (aY (bT st.objs.length) r),objs:=rV st.objs σ' }) ∨
 (∃ as' r,as.mapM (fun s=>resolve st.objs FD (s.ev st.env)) = some as' ∧ Run T (.fn f as' []) (.fn r []) ∧ scalar SD r = false ∧
  k (dB st.env st.objs as) (dB st.env st.objs as) false { st with env:=dZ st.env dst r,objs:=dw st.objs (dB st.env st.objs as) }) ∨
 (∃ r σ',Run T (.fn f (as.map fun s=>s.ev st.env) st.objs) (.fn r σ') ∧ st.objs.length ≤ σ'.length ∧ st.objs.length ≤ st.base ∧
  k (List.range st.objs.length) (List.range st.objs.length) true { st with env:=dZ st.env dst r,objs:=σ' }) ∨
 ∃
  ρ r v,ρ.Nodup ∧ (∀ o,o ∈ ρ → ∃ ob,aj st.objs o = some ob ∧ ∀ g,iI g ob = ob) ∧ Run T (.fn f (as.map fun s=>aY (place ρ) (s.ev st.env)) (EW ρ st.objs)) (.fn r (EW ρ st.objs)) ∧ (∀ n,aY (back ρ n) r = v) ∧
  k ρ [] false { st with env:=dZ st.env dst v }
def KZ (l : List Nat) (k : List Nat → Prop) : Prop:=k l
def Eff.wr (id : Nat) : Eff → List Nat
 | .val _=>[]
 | .newP _=>[id]
 | .newS _ _=>[id]
 | .upd o _=>[o]
 | .bY o _ _=>[o,id]
def JU (T : Tb) (rf : Nat → Nat → Bool) (L : Nat) (ops : List fQ) : List fQ → Nat → List Acc → St → (St → Prop) → Prop
 | [],_,acc,st,k=>iW L ops acc ∧ k st
 |
  o :: l,i,acc,st,k=>gK o.g st.env (match o.i with
  | .call f as=>if rf f (dN o.dst) = true then Zi T f as o.dst st fun R W n st=>JU T rf L ops l (i + 1) (⟨i,R,W,n⟩ :: acc) st k
    else E5 st.env st.objs as fun as'=>PFK T f as' fun r=>KZ (dB st.env st.objs as) fun R =>
    (R = [] ∨ scalar SD r = true) ∧ JU T rf L ops l (i + 1) (⟨i,R,[],false⟩ :: acc) { st with env:=dZ st.env o.dst r } k
  | x
    => KZ (x.reads st.env) fun R=>x.dV st.env st.objs fun ef=>KZ (ef.wr (st.base + o.k)) fun W =>
    JU T rf L ops l (i + 1) (⟨i,R,W,false⟩ :: acc) (ef.go st o.dst (st.base + o.k)) k)
  (JU T rf L ops l (i + 1) (⟨i,[],[],false⟩ :: acc) { st with env:=dZ st.env o.dst (.eu []) } k)
def Ua (ops : List fQ) (p : Nat × Dat) (a : Acc) : Prop:=a.i = p.1 ∧ Ii ops a.i = p.2.x ∧ a.R = p.2.R ∧ a.W = p.2.W.map (·.1) ∧ a.n = p.2.N.isSome
theorem Ub {L : Nat} {ops : List fQ} {p q : Nat × Dat} {a b : Acc} (h : Ua ops p a) (k : Ua ops q b) : rW L a b = below L p.2 q.2:=by
 obtain ⟨h1,h2,h3,h4,h5⟩:=h
 obtain ⟨k1,k2,k3,k4,k5⟩:=k
 unfold rW below
 rw [h5,k5,k3,k4,List.all_map]
 simp only [Option.not_isSome]
 rfl
theorem acf {L : Nat} {ops : List fQ} {p q : Nat × Dat} {a b : Acc} (h : Ua ops p a) (k : Ua ops q b) : lC L (Ii ops a.i) (Ii ops b.i) a b = apart L p.2 q.2:=by
 have e1:=Ub (L:=L) h k
 have e2:=Ub (L:=L) k h
 obtain ⟨h1,h2,h3,h4,h5⟩:=h
 obtain ⟨k1,k2,k3,k4,k5⟩:=k
 unfold lC apart
 rw [e1,e2,h2,k2,h3,k3,h4,k4]
 simp only [List.all_map]
 rfl
inductive pF (ops : List fQ) : List (Nat × Dat) → List Acc → Prop
 | nil : pF ops [] []
 | cons {p a l m} (h : Ua ops p a) (t : pF ops l m) : pF ops (p :: l) (a :: m)
theorem pF.all {ops : List fQ} {f : Nat × Dat → Bool} {g : Acc → Bool} : ∀ {l m},pF ops l m → (∀ p a,Ua ops p a → f p = g a) → l.all f = m.all g
 | _,_,.nil,_=>rfl
 | _,_,.cons h t,hfg=>by simp only [List.all_cons];rw [hfg _ _ h,t.all hfg]
theorem Zj {L : Nat} {B : Nat → List Nat} {ops : List fQ} : ∀ {l m},pF ops l m → okA L B ops m = true → okD L B l = true
 | _,_,.nil,_=>rfl
 |
  _,_,.cons (p:=p) (a:=a) h t,hk=>by
  simp only [okA,Bool.and_eq_true] at hk
  obtain ⟨i,d⟩:=p
  simp only [okD,Bool.and_eq_true]
  refine ⟨?_,Zj t hk.2⟩
  rw [t.all fun q b hq=>?_]
  ·exact hk.1
  ·rw [acf h hq,hq.1,h.1]
theorem pF.append {ops : List fQ} : ∀ {l m l' m'},pF ops l m → pF ops l' m' → pF ops (l ++ l') (m ++ m')
 | _,_,_,_,.nil,h=>h
 | _,_,_,_,.cons h t,k=>.cons h (t.append k)
theorem an6 (ef : Eff) (id : Nat) : ef.wr id = (ef.writes id).map (·.1):=by cases ef <;> rfl
theorem JV {T : Tb} {d : Dat} : ∀ (l : List Dat) (st : St),Chain T l st → Fp T d (xZ l st) → Chain T (l ++ [d]) st
 | [],_,_,h=>⟨h,trivial⟩
 | _ :: l,_,h,k=>⟨h.1,JV l _ h.2 k⟩
theorem JW {d : Dat} : ∀ (l : List Dat) (st : St),xZ (l ++ [d]) st = d.go (xZ l st)
 | [],_=>rfl
 | _ :: l,_=>JW l _
theorem Uc {T : Tb} {rf : Nat → Nat → Bool} {L : Nat} {ops : List fQ} {st0 : St} : ∀ {l : List fQ} {i : Nat} {acc : List Acc} {st : St} {k : St → Prop} (ds : List (Nat × Dat)),JU T rf L ops l i acc st k →
  i ≤ ops.length → ops.drop i = l → ds.length = i → ds.map (·.1) = List.range i → pF ops ds acc.reverse → Chain T (ds.map (·.2)) st0 → xZ (ds.map (·.2)) st0 = st →
  ∃ ds',ds'.map (·.1) = List.range ops.length ∧ (∃ acc',pF ops ds' acc' ∧ okA L (SX ops) ops acc' = true) ∧ Chain T (ds'.map (·.2)) st0 ∧ k (xZ (ds'.map (·.2)) st0)
 |
  [],i,acc,st,k,ds,h,hil,hd,hi,hr,hf,hc,hg=>by
  have hl : ops.length = i:=by
   have:=congrArg List.length hd
   simp at this;omega
  exact ⟨ds,by rw [hr,hl],⟨_,hf,h.1⟩,hc,by rw [hg];exact h.2⟩
 |
  o :: l,i,acc,st,k,ds,h,_,hd,hi,hr,hf,hc,hg=>by
  have hio : ops[i]? = some o:=by
   have:=congrArg (·[0]?) hd
   simpa using this
  have hd' : ops.drop (i + 1) = l:=by
   rw [← List.drop_drop,hd];rfl
  have hgo : Ii ops i = o:=by simp [Ii,List.getD_eq_getElem?_getD,hio]
  have step : ∀ (d : Dat),d.x = o → ∀ (a : Acc),a.i = i → a.R = d.R → a.W = d.W.map (·.1) → a.n = d.N.isSome → Fp T d st → JU T rf L ops l (i + 1) (a :: acc) (d.go st) k → _:=fun d hdx a ha hR hW hN hfp hk =>
   Uc (ds ++ [(i,d)]) hk (List.getElem?_eq_some_iff.1 hio).1 hd' (by simp [hi]) (by simp [hr,List.range_succ]) (by
    rw [List.reverse_cons]
    exact hf.append (.cons ⟨ha,by rw [ha,hgo,hdx],hR,hW,hN⟩ .nil)) (by
    rw [List.map_append];exact JV _ _ hc (by rw [hg];exact hfp)) (by rw [List.map_append,List.map_cons,List.map_nil,JW,hg])
  rcases U2 h with ⟨hgd,h⟩ | ⟨t,want,hgd,he,h⟩
  ·split at h
   ·rename_i f as hi2
    split at h
    ·rcases h with ⟨vs,r,σ',e,h1,h2,h⟩ | ⟨vs,r,e,h1,h2,h⟩ | ⟨r,σ',h1,h2,h3,h⟩ | ⟨ρ,r,v,h1,h2,h3,h4,h⟩
     rotate_right
     ·refine step ⟨o,ρ,v,[],none⟩ rfl ⟨i,ρ,[],false⟩ rfl rfl rfl rfl (ad7 hgd hi2 h1 h2 h3 h4) ?_
      have e2 : (⟨o,ρ,v,[],none⟩ : Dat).go st = { st with env:=dZ st.env o.dst v }:=by
       simp only [Dat.go,lY,List.foldl_nil,Option.getD_none,List.append_nil]
      rw [e2];exact h
     rotate_right
     ·refine step ⟨o,_,r,(List.range st.objs.length).map fun o=>(o,aj σ' o),some (σ'.drop st.objs.length)⟩ rfl ⟨i,_,List.range st.objs.length,true⟩ rfl rfl (by rw [List.map_map];exact (List.map_id _).symm) rfl (ad8 hgd hi2 h1 h2 h3) ?_
      have e2 : (⟨o,List.range st.objs.length,r,(List.range st.objs.length).map fun o=>(o,aj σ' o),some (σ'.drop st.objs.length)⟩ : Dat).go st = { st with env:=dZ st.env o.dst r,objs:=σ' }:=by
       simp only [Dat.go,Option.getD_some]
       congr 1
       exact Xe h2
      rw [e2];exact h
     rotate_left
     ·refine step ⟨o,_,r,(as.flatMap fun s=>reach st.objs FD (s.ev st.env)).map fun o=>(o,none),none⟩ rfl ⟨i,_,as.flatMap fun s=>reach st.objs FD (s.ev st.env),false⟩ rfl rfl (by rw [List.map_map];exact (List.map_id _).symm) rfl (ad5 hgd hi2 e h1 h2) ?_
      have e2 : (⟨o,as.flatMap fun s=>reach st.objs FD (s.ev st.env),r,(as.flatMap fun s=>reach st.objs FD (s.ev st.env)).map fun o=>(o,none),none⟩ : Dat).go st =
        { st with env:=dZ st.env o.dst r,objs:=dw st.objs (as.flatMap fun s=>reach st.objs FD (s.ev st.env)) }:=by
       simp only [Dat.go,Nc,Option.getD_none,List.append_nil]
      rw [e2];exact h
     refine step ⟨o,_,_,[],some _⟩ rfl ⟨i,_,[],true⟩ rfl rfl rfl rfl (ad6 hgd hi2 e h1 h2) ?_
     have e2 : (⟨o,as.flatMap fun s=>reach st.objs FD (s.ev st.env),aY (bT st.objs.length) r,[],some (σ'.map (Option.map (iI (bT st.objs.length))))⟩ : Dat).go st =
       { st with env:=dZ st.env o.dst (aY (bT st.objs.length) r),objs:=rV st.objs σ' }:=by
      simp only [Dat.go,lY,List.foldl_nil,rV,Option.getD_some]
     rw [e2];exact h
    ·obtain ⟨vs,e,h⟩:=qR h
     obtain ⟨r,h1,h⟩:=h
     obtain ⟨hR,h⟩:=h
     refine step ⟨o,_,r,[],none⟩ rfl ⟨i,_,[],false⟩ rfl rfl rfl rfl (Xd hgd hi2 e h1 hR.symm) ?_
     have e2 : (⟨o,as.flatMap fun s=>reach st.objs FD (s.ev st.env),r,[],none⟩ : Dat).go st = { st with env:=dZ st.env o.dst r }:=by
      simp only [Dat.go,lY,List.foldl_nil,Option.getD_none,List.append_nil]
     rw [e2];exact h
   ·unfold KZ at h
    obtain ⟨ef,e,h⟩:=Nh h
    refine step ⟨o,o.i.reads st.env,ef.dv (st.base + o.k),ef.writes (st.base + o.k),none⟩ rfl ⟨i,_,_,false⟩ rfl rfl (an6 _ _) rfl (adU hgd e) ?_
    have e2 : (⟨o,o.i.reads st.env,ef.dv (st.base + o.k),ef.writes (st.base + o.k),none⟩ : Dat).go st = ef.go st o.dst (st.base + o.k):=by
     simp only [Dat.go,Eff.go,Xa,Option.getD_none,List.append_nil]
    rw [e2];exact h
  ·refine step ⟨o,[],.eu [],[],none⟩ rfl ⟨i,[],[],false⟩ rfl rfl rfl rfl (adW hgd he) ?_
   have e2 : (⟨o,[],.eu [],[],none⟩ : Dat).go st = { st with env:=dZ st.env o.dst (.eu []) }:=by
    simp only [Dat.go,lY,List.foldl_nil,Option.getD_none,List.append_nil]
   rw [e2];exact h
theorem aeb {T : Tb} {rf : Nat → Nat → Bool} {ops : List fQ} {st : St} {k : St → Prop} (hb : okB (SX ops) ops 0 = true) (h : JU T rf st.objs.length ops ops 0 [] st k) : ∃ st',Run T (.any ops [] st) (.code .normal st') ∧ k st':=by
 obtain ⟨ds,h1,⟨acc,h2,h3⟩,h4,h5⟩:=Uc (ops:=ops) (st0:=st) [] h (Nat.zero_le _) rfl rfl rfl .nil trivial rfl
 have hB:=Qi hb
 simp only [Nat.zero_add] at hB
 have hfit : ∀ {l m},pF ops l m → ∀ p ∈ l,Ii ops p.1 = p.2.x:=by
  intro l m hf
  induction hf with
  | nil=>intro p hp;cases hp
  |
   cons h t ih =>
   intro p hp
   rcases List.mem_cons.1 hp with rfl | hp
   ·rw [← h.1];exact h.2.1
   ·exact ih p hp
 have hlt : ∀ p ∈ ds,p.1 < ops.length:=by
  intro p hp
  have : p.1 ∈ ds.map (·.1):=List.mem_map_of_mem hp
  rw [h1] at this;exact List.mem_range.1 this
 refine ⟨_,run_any (B:=SX ops) (fun i o j ho hj=>(hB i o ho).1 j hj) ds.length ds [] st (Nat.le_refl _) rfl (Zj h2 h3) (fun e he=>by cases he) h4 ?_ ?_ ?_,h5⟩
 ·rw [h1];exact List.pairwise_lt_range
 ·intro p hp
  have hp2 : ops[p.1]? = some p.2.x:=by
   have:=hfit h2 p hp
   unfold Ii at this
   rw [List.getD_eq_getElem?_getD] at this
   rw [List.getElem?_eq_getElem (hlt p hp)] at this ⊢
   exact congrArg some this
  exact ⟨hp2,by simp,(hB p.1 p.2.x hp2).2⟩
 ·intro i hi _
  have : i ∈ ds.map (·.1):=by rw [h1];exact List.mem_range.2 hi
  obtain ⟨p,hp,e⟩:=List.mem_map.1 this
  exact ⟨p.2,by rw [← e];exact hp⟩
def agV (ef : Eff) (k : V → Prop) : Prop:=match ef with
 | .val v=>k v
 | _=>False
theorem acg {ef : Eff} {k : V → Prop} (h : agV ef k) : ∃ v,ef = .val v ∧ k v:=by
 cases ef <;> first | exact h.elim | exact ⟨_,rfl,h⟩
def E8 (T : Tb) : List fQ → St → (St → Prop) → Prop
 | [],st,k=>k st
 |
  o :: l,st,k=>gK o.g st.env (match o.i with
  | .call f as=>E5 st.env st.objs as fun as'=>PFK T f as' fun r=>KZ (dB st.env st.objs as) fun R =>
    (R = [] ∨ scalar SD r = true) ∧ E8 T l { st with env:=dZ st.env o.dst r } k
  | x=>x.dV st.env st.objs fun ef=>agV ef fun v=>E8 T l { st with env:=dZ st.env o.dst v } k)
  (E8 T l { st with env:=dZ st.env o.dst (.eu []) } k)
def Gg (rf : Nat → Nat → Bool) (l : List fQ) : Bool:=l.all fun o=>match o.i with
 | .call f _=>!rf f (dN o.dst)
 | _=>true
theorem Qj {T : Tb} {ops : List fQ} {st0 : St} : ∀ {l : List fQ} {i : Nat} {acc : List Acc} {st : St} {k : St → Prop} (ds : List (Nat × Dat)),E8 T l st k →
  i ≤ ops.length → ops.drop i = l → ds.length = i → ds.map (·.1) = List.range i → pF ops ds acc.reverse → (∀ a ∈ acc,a.W = [] ∧ a.n = false) → Chain T (ds.map (·.2)) st0 → xZ (ds.map (·.2)) st0 = st →
  ∃ ds',ds'.map (·.1) = List.range ops.length ∧ (∃ acc',pF ops ds' acc' ∧ ∀ a ∈ acc',a.W = [] ∧ a.n = false) ∧ Chain T (ds'.map (·.2)) st0 ∧ k (xZ (ds'.map (·.2)) st0)
 |
  [],i,acc,st,k,ds,h,hil,hd,hi,hr,hf,hw,hc,hg=>by
  have hl : ops.length = i:=by
   have:=congrArg List.length hd
   simp at this;omega
  exact ⟨ds,by rw [hr,hl],⟨_,hf,by simpa using hw⟩,hc,by rw [hg];exact h⟩
 |
  o :: l,i,acc,st,k,ds,h,_,hd,hi,hr,hf,hw,hc,hg=>by
  have hio : ops[i]? = some o:=by
   have:=congrArg (·[0]?) hd
   simpa using this
  have hd' : ops.drop (i + 1) = l:=by
   rw [← List.drop_drop,hd];rfl
  have hgo : Ii ops i = o:=by simp [Ii,List.getD_eq_getElem?_getD,hio]
  have step : ∀ (R : List Nat) (v : V),Fp T ⟨o,R,v,[],none⟩ st → E8 T l { st with env:=dZ st.env o.dst v } k → _:=fun R v hfp hk =>
   Qj (acc:=⟨i,R,[],false⟩ :: acc) (ds ++ [(i,⟨o,R,v,[],none⟩)]) hk (List.getElem?_eq_some_iff.1 hio).1 hd' (by simp [hi]) (by simp [hr,List.range_succ]) (by
    rw [List.reverse_cons]
    exact hf.append (.cons ⟨rfl,hgo,rfl,rfl,rfl⟩ .nil)) (by
    intro a ha
    rcases List.mem_cons.1 ha with rfl | ha
    ·exact ⟨rfl,rfl⟩
    ·exact hw a ha) (by
    rw [List.map_append];exact JV _ _ hc (by rw [hg];exact hfp)) (by rw [List.map_append,List.map_cons,List.map_nil,JW,hg,go_val])
  rcases U2 h with ⟨hgd,h⟩ | ⟨t,want,hgd,he,h⟩
  ·split at h
   ·rename_i f as hi2
    obtain ⟨vs,e,h⟩:=qR h
    obtain ⟨r,h1,h⟩:=h
    obtain ⟨hR,h⟩:=h
    exact step _ r (Xd hgd hi2 e h1 hR.symm) h
   ·obtain ⟨ef,e,h⟩:=Nh h
    obtain ⟨v,rfl,h⟩:=acg h
    exact step _ v (adU hgd e) h
  ·exact step [] (.eu []) (adW hgd he) h
def an7 (ops : List fQ) : Bool:=okA 0 (SX ops) ops ((List.range ops.length).map fun i=>⟨i,[],[],false⟩)
theorem Ud {L : Nat} {B : Nat → List Nat} {ops : List fQ} : ∀ {l : List Acc},(∀ a ∈ l,a.W = [] ∧ a.n = false) → okA 0 B ops (l.map fun a=>⟨a.i,[],[],false⟩) = okA L B ops l
 | [],_=>rfl
 |
  a :: l,h=>by
  simp only [List.map_cons,okA]
  rw [Ud fun b hb=>h b (by simp [hb])]
  congr 1
  rw [List.all_map]
  have hall : ∀ (m : List Acc),(∀ b ∈ m,b.W = [] ∧ b.n = false) → (m.all ((fun b : Acc=>(B b.i).contains a.i || lC 0 (Ii ops a.i) (Ii ops b.i) ⟨a.i,[],[],false⟩ b) ∘ fun b=>⟨b.i,[],[],false⟩)) =
    m.all fun b=>(B b.i).contains a.i || lC L (Ii ops a.i) (Ii ops b.i) a b:=by
   intro m
   induction m with
   | nil=>intro _;rfl
   |
    cons b m ih =>
    intro hm
    simp only [List.all_cons]
    rw [ih fun c hc=>hm c (by simp [hc])]
    congr 1
    simp only [Function.comp,lC,rW,(h a (by simp)).1,(hm b (by simp)).1,(h a (by simp)).2,(hm b (by simp)).2,List.all_nil,Bool.not_false,Bool.true_or]
  exact hall l fun b hb=>h b (by simp [hb])
theorem ach {T : Tb} {ops : List fQ} {st : St} {k : St → Prop} (L : Nat) (h0 : an7 ops = true) (h : E8 T ops st k) :
  ∃ ds : List (Nat × Dat),ds.map (·.1) = List.range ops.length ∧ (∃ acc',pF ops ds acc' ∧ okA L (SX ops) ops acc' = true) ∧ Chain T (ds.map (·.2)) st ∧ k (xZ (ds.map (·.2)) st):=by
 obtain ⟨ds,h1,⟨acc,h2,h3⟩,h4,h5⟩:=Qj (ops:=ops) (acc:=[]) (st0:=st) [] h (Nat.zero_le _) rfl rfl rfl .nil (by simp) trivial rfl
 refine ⟨ds,h1,⟨acc,h2,?_⟩,h4,h5⟩
 rw [← Ud h3]
 have : (acc.map fun a=>(⟨a.i,[],[],false⟩ : Acc)) = (List.range ops.length).map fun i=>⟨i,[],[],false⟩:=by
  rw [← h1,List.map_map]
  clear h1 h3 h4 h5 h h0
  induction h2 with
  | nil=>rfl
  | cons h t ih=>simp only [List.map_cons,Function.comp,h.1,ih]
 rw [this];exact h0
theorem ajZ {T : Tb} {ops : List fQ} {st : St} (hb : okB (SX ops) ops 0 = true) {ds : List (Nat × Dat)} (h1 : ds.map (·.1) = List.range ops.length)
  {acc : List Acc} (h2 : pF ops ds acc) (h3 : okA st.objs.length (SX ops) ops acc = true) (h4 : Chain T (ds.map (·.2)) st) : Run T (.any ops [] st) (.code .normal (xZ (ds.map (·.2)) st)):=by
 have hB:=Qi hb
 simp only [Nat.zero_add] at hB
 have hfit : ∀ {l m},pF ops l m → ∀ p ∈ l,Ii ops p.1 = p.2.x:=by
  intro l m hf
  induction hf with
  | nil=>intro p hp;cases hp
  |
   cons h t ih =>
   intro p hp
   rcases List.mem_cons.1 hp with rfl | hp
   ·rw [← h.1];exact h.2.1
   ·exact ih p hp
 have hlt : ∀ p ∈ ds,p.1 < ops.length:=by
  intro p hp
  have : p.1 ∈ ds.map (·.1):=List.mem_map_of_mem hp
  rw [h1] at this;exact List.mem_range.1 this
 refine run_any (B:=SX ops) (fun i o j ho hj=>(hB i o ho).1 j hj) ds.length ds [] st (Nat.le_refl _) rfl (Zj h2 h3) (fun e he=>by cases he) h4 ?_ ?_ ?_
 ·rw [h1];exact List.pairwise_lt_range
 ·intro p hp
  have hp2 : ops[p.1]? = some p.2.x:=by
   have:=hfit h2 p hp
   unfold Ii at this
   rw [List.getD_eq_getElem?_getD] at this
   rw [List.getElem?_eq_getElem (hlt p hp)] at this ⊢
   exact congrArg some this
  exact ⟨hp2,by simp,(hB p.1 p.2.x hp2).2⟩
 ·intro i hi _
  have : i ∈ ds.map (·.1):=by rw [h1];exact List.mem_range.2 hi
  obtain ⟨p,hp,e⟩:=List.mem_map.1 this
  exact ⟨p.2,by rw [← e];exact hp⟩
def Fa (l : List fQ) : Bool:=l.all fun o=>match o.i with
 | .store .. | .alloc _ | .box _ | .dS .. | .make .. | .app ..=>false
 | _=>true
def C.WC : C → Bool
 | .reg d m l=>WB m l && (!d || (okB (SX l) l 0 && (!Fa l || an7 l)))
 | .seq a b=>a.WC && b.WC
 | .cond _ a b=>a.WC && b.WC
 | .block _ c=>c.WC
 | .loop c=>c.WC
 | _=>true
def Xi (σ : Store) (m : Nat) : Store:=σ ++ List.replicate m none
def St.in (st : St) (m : Nat) : St:={ st with objs:=Xi st.objs m,base:=st.objs.length,rds:=[],muts:=[] }
def U3 (e : Ex) (k q : Prop) : Prop:=match e with
 | .normal=>k
 | _=>q
def Ol (T : Tb) (c : C) (Q : Ex → St → Prop) (st : St) : Prop:=∃ e st',Run T (.code (.loop c) st) (.code e st') ∧ Q e st'
def wp (T : Tb) (rf : Nat → Nat → Bool) : C → (Ex → St → Prop) → St → Prop
 | .skip,Q,st=>Q .normal st
 | .reg d m l,Q,st=>if d then (if Fa l && Gg rf l then E8 T l (st.in m) (Q .normal) else JU T rf (st.in m).objs.length l l 0 [] (st.in m) (Q .normal)) else Zh T rf l (st.in m) (Q .normal)
 | .seq a b,Q,st=>wp T rf a (fun e st=>U3 e (wp T rf b Q st) (Q e st)) st
 | .cond x a b,Q,st=>Ig (x.ev st.env) fun t=>if t = true then wp T rf a Q st else wp T rf b Q st
 | .block id c,Q,st=>wp T rf c (fun e st=>Q (WO id e) st) st
 | .loop c,Q,st=>Ol T c Q st
 | .exit id,Q,st=>Q (.exit id) st
 | .ret,Q,st=>Q .ret st
 | .lib _,_,_=>False
theorem sK {T : Tb} {rf : Nat → Nat → Bool} : ∀ {c : C} {Q : Ex → St → Prop} {st : St},c.WC = true → wp T rf c Q st → ∃ e st',Run T (.code c st) (.code e st') ∧ Q e st'
 | .skip,Q,st,_,h=>⟨_,_,.skip st,h⟩
 |
  .reg d m l,Q,st,hk,h=>by
  simp only [C.WC,Bool.and_eq_true,Bool.or_eq_true,Bool.not_eq_true'] at hk
  obtain ⟨hk,hk2⟩:=hk
  unfold wp at h
  cases d with
  |
   false =>
   obtain ⟨st',h1,h2⟩:=TY (by simpa using h)
   exact ⟨_,_,.reg hk h1,h2⟩
  |
   true =>
   simp only [Bool.true_eq_false,false_or] at hk2
   simp only [if_true] at h
   split at h
   ·rename_i hw
    simp only [Bool.and_eq_true] at hw
    rcases hk2.2 with h' | h'
    ·rw [h'] at hw;cases hw.1
    obtain ⟨ds,h1,⟨acc,h2,h3⟩,h4,h5⟩:=ach (st.in m).objs.length h' h
    exact ⟨_,_,.ajR hk (ajZ hk2.1 h1 h2 h3 h4),h5⟩
   ·obtain ⟨st',h1,h2⟩:=aeb hk2.1 h
    exact ⟨_,_,.ajR hk h1,h2⟩
 |
  .seq a b,Q,st,hk,h=>by
  simp only [C.WC,Bool.and_eq_true] at hk
  obtain ⟨e,st1,h1,h2⟩:=sK hk.1 (Q:=fun e st=>U3 e (wp T rf b Q st) (Q e st)) h
  cases e with
  |
   normal =>
   obtain ⟨e,st2,h3,h4⟩:=sK hk.2 (Q:=Q) h2
   exact ⟨e,st2,.anP h1 h3,h4⟩
  | exit id=>exact ⟨_,_,.ajS (by simp) h1,h2⟩
  | ret=>exact ⟨_,_,.ajS (by simp) h1,h2⟩
 |
  .cond x a b,Q,st,hk,h=>by
  simp only [C.WC,Bool.and_eq_true] at hk
  obtain ⟨t,e,h⟩:=Zg h
  cases t with
  |
   true =>
   obtain ⟨e2,st2,h1,h2⟩:=sK hk.1 (Q:=Q) (by simpa using h)
   exact ⟨e2,st2,.cond e h1,h2⟩
  |
   false =>
   obtain ⟨e2,st2,h1,h2⟩:=sK hk.2 (Q:=Q) (by simpa using h)
   exact ⟨e2,st2,.cond e h1,h2⟩
 |
  .block id c,Q,st,hk,h=>by
  obtain ⟨e,st1,h1,h2⟩:=sK (c:=c) (Q:=fun e st=>Q (WO id e) st) hk h
  exact ⟨_,_,.block h1,h2⟩
 | .loop c,Q,st,_,h=>h
 | .exit id,Q,st,_,h=>⟨_,_,.exit id st,h⟩
 | .ret,Q,st,_,h=>⟨_,_,.ret st,h⟩
 | .lib _,_,_,_,h=>by simp [wp] at h
def wr {α : Sort _} (a : α) : α:=a
theorem nr {α : Sort _} {a b : α} (h : a = b) : a = b:=h
theorem gZ {α : Sort _} (a : α) : wr a = a:=nr rfl
def Nj (σ : Store) (k : Store → Prop) : Prop:=k σ
theorem aj0 (k : Store → Prop) : Nj [] k = k []:=nr rfl
theorem aj1 (a : Option Obj) (σ : Store) (k : Store → Prop) : Nj (a :: σ) k = k (a :: σ):=nr rfl
@[congr] theorem arz {v v' : Store} {k : Store → Prop} (h : wr v = v') : Nj v k = Nj v' k:=by rw [← h,gZ]
def JX (n : Nat) (k : Nat → Prop) : Prop:=k n
theorem agW (n : Nat) (k : Nat → Prop) : JX n k = k n:=nr rfl
@[congr] theorem arA {v v' : Nat} {k : Nat → Prop} (h : wr v = v') : JX v k = JX v' k:=by rw [← h,gZ]
def Y0 (t : Bool) (a b : Prop) : Prop:=if t = true then a else b
@[congr] theorem att {t t' : Bool} {a b : Prop} (h : wr t = t') : Y0 t a b = Y0 t' a b:=by rw [← h,gZ]
theorem ajo (a b : Prop) : Y0 true a b = a:=by simp [Y0]
theorem ajp (a b : Prop) : Y0 false a b = b:=by simp [Y0]
theorem agX (t : Bool) (a b : Prop) : Y0 (!t) a b = Y0 t b a:=by cases t <;> simp [Y0]
theorem aG {c : Prop} [Decidable c] {a b : Prop} (h1 : c → a) (h2 : ¬ c → b) : Y0 (decide c) a b:=by
 unfold Y0
 by_cases h : c
 ·rw [if_pos (decide_eq_true h)];exact h1 h
 ·rw [if_neg (by simpa using h)];exact h2 h
def yc (v : V) (k : V → Prop) : Prop:=k v
theorem aj2 (v : V) (k : V → Prop) : yc v k = k v:=nr rfl
@[congr] theorem atu {v v' : V} {k : V → Prop} (h : wr v = v') : yc v k = yc v' k:=by rw [← h,gZ]
@[congr] theorem arB {α : Type} {v v' : Option α} {k : α → Prop} (h : wr v = v') : dK v k = dK v' k:=by rw [← h,gZ]
@[congr] theorem an8 {v v' : V} {k : Bool → Prop} (h : wr v = v') : Ig v k = Ig v' k:=by rw [← h,gZ]
@[congr] theorem atv {w : Bool} {v v' : V} {k : Bool → Prop} (h : wr v = v') : gdK w v k = gdK w v' k:=by rw [← h,gZ]
@[congr] theorem arC {v v' : List Nat} {k : List Nat → Prop} (h : wr v = v') : KZ v k = KZ v' k:=by rw [← h,gZ]
@[congr] theorem anC {n n' : Nat} {v v' : V} {k : Nat → Prop} (h0 : wr n = n') (h : wr v = v') : pz n v k = pz n' v' k:=by rw [← h0,← h,gZ,gZ]
@[congr] theorem ajq {n n' : Nat} {v v' : V} {k : Nat → Prop} (h0 : wr n = n') (h : wr v = v') : jA n v k = jA n' v' k:=by rw [← h0,← h,gZ,gZ]
@[congr] theorem arD {op : BinOp} {x x' y y' : V} {k : V → Prop} (h0 : wr x = x') (h : wr y = y') : qg op x y k = qg op x' y' k:=by rw [← h0,← h,gZ,gZ]
@[congr] theorem atw {T : Tb} {f : Nat} {as as' : List V} {k : V → Prop} (h : wr as = as') : PFK T f as k = PFK T f as' k:=by rw [← h,gZ]
@[congr] theorem arE {T : Tb} {f f' : Nat} {as : List Src} {d : Option Nat} {st : St} {k : St → Prop} (h : wr f = f') : JR T f as d st k = JR T f' as d st k:=by rw [← h,gZ]
@[congr] theorem an9 {T T' : Tb} {c : C} {Q : Ex → St → Prop} {st : St} (h : wr T = T') : Ol T c Q st = Ol T' c Q st:=by rw [← h,gZ]
@[congr] theorem atx {L : Nat} {ops : List fQ} {l l' : List Acc} (h : wr l = l') : iW L ops l = iW L ops l':=by rw [← h,gZ]
@[congr] theorem arF {T : Tb} {f f' : Nat} {as : List Src} {d : Option Nat} {st : St} {k : List Nat → List Nat → Bool → St → Prop} (h : wr f = f') : Zi T f as d st k = Zi T f' as d st k:=by rw [← h,gZ]
theorem aci {α : Type} (a : α) (k : α → Prop) : dK (some a) k = k a:=nr rfl
theorem aoa (want b : Bool) (k : Bool → Prop) : gdK want (.bool b) k = k b:=nr rfl
theorem aob (want : Bool) (k : Bool → Prop) : gdK want (.eu []) k = k (!want):=nr rfl
theorem agY (b : Bool) (k : Bool → Prop) : Ig (.bool b) k = k b:=nr rfl
theorem aec (k : List Nat → Prop) : KZ [] k = k []:=nr rfl
theorem acj (a : Nat) (l : List Nat) (k : List Nat → Prop) : KZ (a :: l) k = k (a :: l):=nr rfl
theorem acn {n : Nat} {q : IntKind} {i : Int} {k : Nat → Prop} (h : 0 ≤ i ∧ i < n) : pz n (.int q i) k = k i.toNat:=by
 simp [pz,h]
theorem Xj {n : Nat} {q : IntKind} {i : Int} {k : Nat → Prop} (h : 0 ≤ i ∧ i ≤ n) : jA n (.int q i) k = k i.toNat:=by
 simp [jA,h]
theorem w64 {n : Int} (h : -9223372036854775808 ≤ n ∧ n ≤ 9223372036854775807) : IntKind.i64.wrap n = n:=IntWalk.i64_in n h
theorem aty {n : Int} (h : 0 ≤ n ∧ n ≤ 4294967295) : IntKind.u32.wrap n = n:=IntWalk.u32_in n h
theorem atz {n : Int} (h : 0 ≤ n ∧ n ≤ 18446744073709551615) : IntKind.u64.wrap n = n:=IntWalk.u64_in n h
theorem w8u {n : Int} (h : 0 ≤ n ∧ n ≤ 255) : IntKind.u8.wrap n = n:=IntWalk.u8_in n h
theorem atA (n : Nat) (env : Nat → V) : Src.ev env (.t n) = env n:=nr rfl
theorem atB (v : V) (env : Nat → V) : Src.ev env (.c v) = v:=nr rfl
theorem aco (env : Nat → V) (v : V) : dZ env none v = env:=nr rfl
theorem agZ (env : Nat → V) (t : Nat) (v : V) (s : Nat) : dZ env (some t) v s = if s = t then v else env s:=nr rfl
theorem aj3 (env : Nat → V) (t : Nat) (v : V) (s : Nat) : upd env t v s = if s = t then v else env s:=nr rfl
theorem aj6 (a : V) (l : List V) : bF (a :: l) 0 = a:=nr rfl
theorem aj7 (a : V) (l : List V) (n : Nat) : bF (a :: l) (n + 1) = bF l n:=nr rfl
theorem aj8 (n : Nat) : bF [] n = .any:=nr rfl
theorem ag0 (a : Option Obj) (l : Store) : aj (a :: l) 0 = a:=nr rfl
theorem ag1 (a : Option Obj) (l : Store) (n : Nat) : aj (a :: l) (n + 1) = aj l n:=nr rfl
theorem ag2 (n : Nat) : aj [] n = none:=nr rfl
theorem aoc (a : Option Obj) (l : Store) (x : Option Obj) : List.set (a :: l) 0 x = x :: l:=nr rfl
theorem aod (a : Option Obj) (l : Store) (n : Nat) (x : Option Obj) : List.set (a :: l) (n + 1) x = a :: List.set l n x:=nr rfl
theorem aj9 (σ : Store) : Xi σ 0 = σ:=by simp [Xi]
theorem akb (σ : Store) (n : Nat) : Xi σ (n + 1) = Xi (σ ++ [none]) n:=by simp [Xi,List.replicate_succ]
theorem aed (args : List V) (σ : Store) : St.enter args σ = ⟨bF args,σ,σ.length,0,[],[]⟩:=nr rfl
theorem aee (σ : Store) : dw σ [] = σ:=nr rfl
theorem acp (σ : Store) (o : Nat) (l : List Nat) : dw σ (o :: l) = dw (σ.set o none) l:=nr rfl
section
variable (T : Tb) (rf : Nat → Nat → Bool) (Q : Ex → St → Prop) (st : St) (k : St → Prop) (env : Nat → V) (σ : Store) (kp bs : Nat) (rs ms : List Nat)
def goK (st : St) (d : Option Nat) (id : Nat) (ef : Eff) (k : St → Prop) : Prop:=k (ef.go st d id)
@[congr] theorem atC {st : St} {d : Option Nat} {id id' : Nat} {ef : Eff} {k : St → Prop} (h : wr id = id') : goK st d id ef k = goK st d id' ef k:=by rw [← h,gZ]
theorem aoe (t id : Nat) (v : V) : goK ⟨env,σ,kp,bs,rs,ms⟩ (some t) id (.val v) k = k ⟨upd env t v,σ,kp,bs,rs,ms⟩:=nr rfl
theorem akc (id : Nat) (v : V) : goK ⟨env,σ,kp,bs,rs,ms⟩ none id (.val v) k = k ⟨env,σ,kp,bs,rs,ms⟩:=nr rfl
theorem aof (t id : Nat) (ob : Obj) : goK ⟨env,σ,kp,bs,rs,ms⟩ (some t) id (.newP ob) k = Nj (σ.set id (some ob)) fun σ=>k ⟨upd env t (.ptr id 0 0),σ,kp,bs,rs,ms⟩:=nr rfl
theorem aog (t id : Nat) (ob : Obj) (n : Nat) : goK ⟨env,σ,kp,bs,rs,ms⟩ (some t) id (.newS ob n) k = Nj (σ.set id (some ob)) fun σ=>k ⟨upd env t (.bC id 0 n),σ,kp,bs,rs,ms⟩:=nr rfl
theorem aoh (id o : Nat) (ob : Obj) : goK ⟨env,σ,kp,bs,rs,ms⟩ none id (.upd o ob) k = Nj (σ.set o (some ob)) fun σ=>k ⟨env,σ,kp,bs,rs,ms⟩:=nr rfl
theorem aoi (t id o : Nat) (ob : Obj) (n : Nat) : goK ⟨env,σ,kp,bs,rs,ms⟩ (some t) id (.bY o ob n) k = Nj ((σ.set o none).set id (some ob)) fun σ=>k ⟨upd env t (.bC id 0 n),σ,kp,bs,rs,ms⟩:=nr rfl
theorem wp_skip : wp T rf .skip Q st = Q .normal st:=nr rfl
theorem ag3 (m : Nat) (l : List fQ) : wp T rf (.reg false m l) Q ⟨env,σ,kp,bs,rs,ms⟩ = JX σ.length fun b=>Nj (Xi σ m) fun σ=>Zh T rf l ⟨env,σ,kp,b,[],[]⟩ (Q .normal):=nr rfl
theorem ag4 (m : Nat) (l : List fQ) : wp T rf (.reg true m l) Q ⟨env,σ,kp,bs,rs,ms⟩ = JX σ.length fun b=>Nj (Xi σ m) fun σ=>if (Fa l && Gg rf l) = true then E8 T l ⟨env,σ,kp,b,[],[]⟩ (Q .normal) else JX σ.length fun L=>JU T rf L l l 0 [] ⟨env,σ,kp,b,[],[]⟩ (Q .normal):=nr rfl
theorem wp_seq (a b : C) : wp T rf (.seq a b) Q st = wp T rf a (fun e st=>U3 e (wp T rf b Q st) (Q e st)) st:=nr rfl
theorem wp_cond (x : Src) (a b : C) : wp T rf (.cond x a b) Q st = Ig (x.ev st.env) fun t=>if t = true then wp T rf a Q st else wp T rf b Q st:=nr rfl
theorem aef (x : Src) (a b : C) : wp T rf (.cond x a b) Q ⟨env,σ,kp,bs,rs,ms⟩ = Ig (x.ev env) fun t=>Y0 t (wp T rf a Q ⟨env,σ,kp,bs,rs,ms⟩) (wp T rf b Q ⟨env,σ,kp,bs,rs,ms⟩):=nr rfl
theorem wp_block (id : Nat) (c : C) : wp T rf (.block id c) Q st = wp T rf c (fun e st=>Q (WO id e) st) st:=nr rfl
theorem wp_loop (c : C) : wp T rf (.loop c) Q st = Ol T c Q st:=nr rfl
theorem wp_exit (id : Nat) : wp T rf (.exit id) Q st = Q (.exit id) st:=nr rfl
theorem wp_ret : wp T rf .ret Q st = Q .ret st:=nr rfl
theorem akd (a b : Prop) : U3 .normal a b = a:=nr rfl
theorem ake (id : Nat) (a b : Prop) : U3 (.exit id) a b = b:=nr rfl
theorem akf (a b : Prop) : U3 .ret a b = b:=nr rfl
theorem akg (id : Nat) : WO id .normal = .normal:=nr rfl
theorem akh (id : Nat) : WO id .ret = .ret:=nr rfl
theorem aki (id j : Nat) : WO id (.exit j) = if j = id then .normal else .exit j:=nr rfl
theorem akj : Zh T rf [] st k = k st:=nr rfl
theorem akk (o : fQ) (l : List fQ) : Zh T rf (o :: l) st k = opK T rf o st fun st=>Zh T rf l st k:=nr rfl
theorem akl (g : Option (Nat × Bool)) (d : Option Nat) (n : Nat) (i : I) (a : List Nat) : opK T rf ⟨g,d,n,i,a⟩ ⟨env,σ,kp,bs,rs,ms⟩ k = gK g env (match i with
  | .call f as=>if rf f (dN d) = true then JR T f as d ⟨env,σ,kp,bs,rs,ms⟩ k else E5 env σ as fun as'=>PFK T f as' fun r =>
    Nj (dw σ (if scalar SD r then [] else dB env σ as)) fun σ=>k ⟨dZ env d r,σ,kp,bs,rs,ms⟩
  | i=>JX (bs + n) fun id=>i.dV env σ fun ef=>goK ⟨env,σ,kp,bs,rs,ms⟩ d id ef k)
  (k ⟨dZ env d (.eu []),σ,kp,bs,rs,ms⟩):=by cases i <;> rfl
theorem ag5 : E8 T [] st k = k st:=nr rfl
theorem ag6 (g : Option (Nat × Bool)) (d : Option Nat) (n : Nat) (i : I) (a : List Nat) (l : List fQ) : E8 T (⟨g,d,n,i,a⟩ :: l) ⟨env,σ,kp,bs,rs,ms⟩ k = gK g env (match i with
  | .call f as=>E5 env σ as fun as'=>PFK T f as' fun r=>KZ (dB env σ as) fun R =>
    (R = [] ∨ scalar SD r = true) ∧ E8 T l ⟨dZ env d r,σ,kp,bs,rs,ms⟩ k
  | x=>x.dV env σ fun ef=>agV ef fun v=>E8 T l ⟨dZ env d v,σ,kp,bs,rs,ms⟩ k)
  (E8 T l ⟨dZ env d (.eu []),σ,kp,bs,rs,ms⟩ k):=by cases i <;> rfl
theorem akm (L : Nat) (ops : List fQ) (i : Nat) (acc : List Acc) : JU T rf L ops [] i acc st k = (iW L ops acc ∧ k st):=nr rfl
theorem akn (L : Nat) (ops : List fQ) (g : Option (Nat × Bool)) (d : Option Nat) (n : Nat) (x : I) (a : List Nat) (l : List fQ) (i : Nat) (acc : List Acc) : JU T rf L ops (⟨g,d,n,x,a⟩ :: l) i acc ⟨env,σ,kp,bs,rs,ms⟩ k = gK g env (match x with
  | .call f as=>if rf f (dN d) = true then Zi T f as d ⟨env,σ,kp,bs,rs,ms⟩ fun R W n st=>JX (i + 1) fun j=>JU T rf L ops l j (⟨i,R,W,n⟩ :: acc) st k
    else E5 env σ as fun as'=>PFK T f as' fun r=>KZ (dB env σ as) fun R =>
    (R = [] ∨ scalar SD r = true) ∧ JX (i + 1) fun j=>JU T rf L ops l j (⟨i,R,[],false⟩ :: acc) ⟨dZ env d r,σ,kp,bs,rs,ms⟩ k
  | x
    => KZ (x.reads env) fun R=>JX (bs + n) fun id=>x.dV env σ fun ef=>KZ (ef.wr id) fun W=>JX (i + 1) fun j =>
    goK ⟨env,σ,kp,bs,rs,ms⟩ d id ef fun st=>JU T rf L ops l j (⟨i,R,W,false⟩ :: acc) st k)
  (JX (i + 1) fun j=>JU T rf L ops l j (⟨i,[],[],false⟩ :: acc) ⟨dZ env d (.eu []),σ,kp,bs,rs,ms⟩ k):=by cases x <;> rfl
end
theorem atD (env : Nat → V) (a b : Prop) : gK none env a b = a:=nr rfl
theorem atE (t : Nat) (env : Nat → V) (on off : Prop) : gK (some (t,true)) env on off = gdK true (env t) fun b=>Y0 b on off:=nr rfl
theorem atF (t : Nat) (env : Nat → V) (on off : Prop) : gK (some (t,false)) env on off = gdK false (env t) fun b=>Y0 b off on:=nr rfl
theorem ako (v : V) (k : V → Prop) : agV (.val v) k = k v:=nr rfl
theorem atG (v : V) (id : Nat) : Eff.wr id (.val v) = []:=nr rfl
theorem atH (ob : Obj) (id : Nat) : Eff.wr id (.newP ob) = [id]:=nr rfl
theorem atI (ob : Obj) (n : Nat) (id : Nat) : Eff.wr id (.newS ob n) = [id]:=nr rfl
theorem atJ (ob : Obj) (o : Nat) (id : Nat) : Eff.wr id (.upd o ob) = [o]:=nr rfl
theorem atK (ob : Obj) (o n : Nat) (id : Nat) : Eff.wr id (.bY o ob n) = [o,id]:=nr rfl
def iZ (v : V) (k : List V → Prop) : Prop:=dK v.cells? k
@[congr] theorem anD {v v' : V} {k : List V → Prop} (h : wr v = v') : iZ v k = iZ v' k:=by rw [← h,gZ]
theorem Zk (q : IntKind) (n : Int) (k : List V → Prop) : iZ (.int q n) k = k [.int q n]:=nr rfl
theorem Xk (b : Bool) (k : List V → Prop) : iZ (.bool b) k = k [.bool b]:=nr rfl
theorem Zl (s : List UInt8) (k : List V → Prop) : iZ (.str s) k = k [.str s]:=nr rfl
theorem Xl (k : List V → Prop) : iZ .ak k = k [.ak]:=nr rfl
theorem Zm (k : List V → Prop) : iZ .one k = k [.one]:=nr rfl
theorem acr (sz : Nat) (r : List (List V)) (k : List V → Prop) : iZ (.sl sz r) k = k [.sl sz r]:=nr rfl
theorem Zn (o s l : Nat) (k : List V → Prop) : iZ (.bC o s l) k = k [.bC o s l]:=nr rfl
theorem Zo (o s l : Nat) (k : List V → Prop) : iZ (.ptr o s l) k = k [.ptr o s l]:=nr rfl
theorem Xm (r : List V) (o : Nat) (k : List V → Prop) : iZ (.fB r o) k = k [.fB r o]:=nr rfl
theorem Zp (cs : List V) (k : List V → Prop) : iZ (.agg cs) k = if cs.all V.leaf = true then k cs else False:=by
 simp only [iZ,V.cells?];split <;> rfl
def Xn (σ : Store) (v : V) (k : Nat → Nat → Nat → Prop) (kf : List V → Nat → Prop) : Prop:=match v with
 | .ptr o r off=>k o r off
 | .fB row off=>kf row off
 | _=>False
@[congr] theorem arG {σ : Store} {v v' : V} {k : Nat → Nat → Nat → Prop} {kf : List V → Nat → Prop} (h : wr v = v') : Xn σ v k kf = Xn σ v' k kf:=by rw [← h,gZ]
theorem akp (σ : Store) (o r off : Nat) (k : Nat → Nat → Nat → Prop) (kf : List V → Nat → Prop) : Xn σ (.ptr o r off) k kf = k o r off:=nr rfl
theorem akq (σ : Store) (r : List V) (off : Nat) (k : Nat → Nat → Nat → Prop) (kf : List V → Nat → Prop) : Xn σ (.fB r off) k kf = kf r off:=nr rfl
def slK (v : V) (kn : Prop) (kf : Nat → List (List V) → Prop) (km : Nat → Nat → Nat → Prop) : Prop:=match v with
 | .ak=>kn
 | .sl sz rows=>kf sz rows
 | .bC o s l=>km o s l
 | _=>False
@[congr] theorem atL {v v' : V} {kn : Prop} {kf : Nat → List (List V) → Prop} {km : Nat → Nat → Nat → Prop} (h : wr v = v') : slK v kn kf km = slK v' kn kf km:=by rw [← h,gZ]
theorem aoj (kn : Prop) (kf : Nat → List (List V) → Prop) (km : Nat → Nat → Nat → Prop) : slK .ak kn kf km = kn:=nr rfl
theorem aok (sz : Nat) (r : List (List V)) (kn : Prop) (kf : Nat → List (List V) → Prop) (km : Nat → Nat → Nat → Prop) : slK (.sl sz r) kn kf km = kf sz r:=nr rfl
theorem aol (o s l : Nat) (kn : Prop) (kf : Nat → List (List V) → Prop) (km : Nat → Nat → Nat → Prop) : slK (.bC o s l) kn kf km = km o s l:=nr rfl
def Xo (v : V) (k : IntKind → Int → Prop) : Prop:=match v with
 | .int q n=>k q n
 | _=>False
@[congr] theorem arH {v v' : V} {k : IntKind → Int → Prop} (h : wr v = v') : Xo v k = Xo v' k:=by rw [← h,gZ]
theorem akr (q : IntKind) (n : Int) (k : IntKind → Int → Prop) : Xo (.int q n) k = k q n:=nr rfl
def acs (v : V) (k : List UInt8 → Prop) : Prop:=match v with
 | .str s=>k s
 | _=>False
@[congr] theorem arI {v v' : V} {k : List UInt8 → Prop} (h : wr v = v') : acs v k = acs v' k:=by rw [← h,gZ]
theorem aks (s : List UInt8) (k : List UInt8 → Prop) : acs (.str s) k = k s:=nr rfl
def ag7 (v : V) (k : List V → Prop) : Prop:=match v with
 | .eu s=>k s
 | _=>False
@[congr] theorem arJ {v v' : V} {k : List V → Prop} (h : wr v = v') : ag7 v k = ag7 v' k:=by rw [← h,gZ]
def ag8 (v : V) (k : List V → Prop) : Prop:=match v with
 | .agg s=>k s
 | _=>False
@[congr] theorem arK {v v' : V} {k : List V → Prop} (h : wr v = v') : ag8 v k = ag8 v' k:=by rw [← h,gZ]
theorem akt (s : List V) (k : List V → Prop) : ag8 (.agg s) k = k s:=nr rfl
theorem aku (s : List V) (k : List V → Prop) : ag7 (.eu s) k = k s:=nr rfl
section
variable (env : Nat → V) (σ : Store) (k : Eff → Prop)
theorem aom (x : Src) : I.dV env σ (.bY x) k = yc (x.ev env) fun v=>k (.val v):=nr rfl
theorem akv (c a b : Src) : I.dV env σ (.pick c a b) k = Ig (c.ev env) fun t=>Y0 t (yc (a.ev env) fun v=>k (.val v)) (yc (b.ev env) fun v=>k (.val v)):=by
 simp only [I.dV];cases c.ev env with | bool t=>cases t <;> rfl | _=>rfl
theorem ag9 (z : List V) : I.dV env σ (.alloc z) k = k (.newP ⟨z.length,[z]⟩):=nr rfl
theorem aon (x : Src) : I.dV env σ (.box x) k = iZ (x.ev env) fun cs=>match cs with | c :: cs=>k (.newP ⟨(c :: cs).length,[c :: cs]⟩) | []=>False:=by
 simp only [I.dV,iZ];cases (x.ev env).cells? with | none=>rfl | some cs=>cases cs <;> rfl
theorem aha (z : List V) (ps : List (Nat × Nat × Src)) : I.dV env σ (.build z ps) k = dK (uy env z ps) fun cs=>k (.val (.agg cs)):=nr rfl
theorem akw (sz : Nat) (z : List V) (ln : Nat) (ps : List (Nat × Src)) : I.dV env σ (.dS sz z ln ps) k =
  dK (jV env sz (List.replicate ln z) ps) fun rows=>if ln = 0 then k (.val .ak) else k (.newS ⟨sz,rows⟩ ln):=nr rfl
theorem akx (z : List V) (b : Nat) (x : Src) : I.dV env σ (.make z b x) k = Xo (x.ev env) fun q n=>match q with
  | .i64=>(0 ≤ n ∧ n ≤ 2 ^ 47 ∧ n * b ≤ 2 ^ 47) ∧ k (.newS ⟨z.length,List.replicate n.toNat z⟩ n.toNat) | _=>False:=by
 simp only [I.dV];cases x.ev env with | int q n=>cases q <;> rfl | _=>rfl
theorem ahb (n : Nat) (a : Src) : I.dV env σ (.load n false a) k = dK (rowAt σ (a.ev env)) fun p=>dK p.1[p.2]? fun v=>yc v fun v=>k (.val v):=nr rfl
theorem ahc (n : Nat) (a : Src) : I.dV env σ (.load n true a) k = dK (rowAt σ (a.ev env)) fun p=>p.2 + n ≤ p.1.length ∧ yc (.agg ((p.1.drop p.2).take n)) fun v=>k (.val v):=nr rfl
theorem
    ahd (n : Nat) (a x : Src) : I.dV env σ (.store n a x) k = Xn σ (a.ev env) (fun o r off=>iZ (x.ev env) fun cs=>dK (aj σ o) fun ob=>dK ob.rows[r]? fun row =>
    (cs.length = n ∧ off + n ≤ row.length) ∧ k (.upd o ⟨ob.sz,ob.rows.set r (splice row off cs)⟩)) fun _ _=>False:=by
 simp only [I.dV];cases a.ev env <;> rfl
theorem aoo (d : Nat) (a : Src) : I.dV env σ (.fld d a) k = Xn σ (a.ev env) (fun o r off=>dK (aj σ o) fun _=>yc (.ptr o r (off + d)) fun v=>k (.val v)) fun row off=>yc (.fB row (off + d)) fun v=>k (.val v):=by
 simp only [I.dV];cases a.ev env <;> rfl
theorem aop (sz : Nat) (x i : Src) : I.dV env σ (.idx sz x i) k = slK (x.ev env) False (fun sz' rows=>pz rows.length (i.ev env) fun j=>sz' = sz ∧ yc (.fB (rows.getD j []) 0) fun v=>k (.val v))
  (fun o s l=>dK (aj σ o) fun ob=>pz l (i.ev env) fun j=>ob.sz = sz ∧ yc (.ptr o (s + j) 0) fun v=>k (.val v)):=by
 simp only [I.dV];cases x.ev env <;> rfl
theorem aky (c sz : Nat) (x i : Src) : I.dV env σ (.UO c sz x i) k = Xn σ (x.ev env) (fun o r off=>pz c (i.ev env) fun j=>dK (aj σ o) fun _=>yc (.ptr o r (off + j * sz)) fun v=>k (.val v))
  fun row off=>pz c (i.ev env) fun j=>yc (.fB row (off + j * sz)) fun v=>k (.val v):=by
 simp only [I.dV];cases x.ev env <;> rfl
theorem akz (x i : Src) : I.dV env σ (.WJ x i) k = acs (x.ev env) fun s=>pz s.length (i.ev env) fun j=>yc (.int .u8 (s.getD j 0).toNat) fun v=>k (.val v):=by
 simp only [I.dV];cases x.ev env <;> rfl
theorem akA (c : Nat) (x i : Src) : I.dV env σ (.WM c x i) k = ag8 (x.ev env) fun cs=>pz c (i.ev env) fun j=>dK cs[j]? fun v=>yc v fun v=>k (.val v):=by
 simp only [I.dV];cases x.ev env <;> rfl
theorem aoq (x : Src) : I.dV env σ (.len x) k = dK (lenOf σ (x.ev env)) fun n=>yc (.int .i64 n) fun v=>k (.val v):=nr rfl
theorem akB (x : Src) : I.dV env σ (.WL x) k = acs (x.ev env) fun s=>yc (.int .i64 s.length) fun v=>k (.val v):=by
 simp only [I.dV];cases x.ev env <;> rfl
theorem aor (op : BinOp) (x y : Src) : I.dV env σ (.bin op x y) k = qg op (x.ev env) (y.ev env) fun v=>yc v fun v=>k (.val v):=nr rfl
theorem aos (ne : Bool) (x y : Src) : I.dV env σ (.beq ne x y) k = Ig (x.ev env) fun a=>Ig (y.ev env) fun b=>yc (.bool (if ne = true then !(a == b) else a == b)) fun v=>k (.val v):=by
 simp only [I.dV];cases x.ev env <;> first | rfl | (cases y.ev env <;> rfl)
theorem aot (x : Src) : I.dV env σ (.un .not x) k = Ig (x.ev env) fun a=>yc (.bool (!a)) fun v=>k (.val v):=by
 simp only [I.dV];cases x.ev env <;> rfl
theorem aou (x : Src) : I.dV env σ (.un .neg x) k = Xo (x.ev env) fun q n=>yc (.int q (q.wrap (0 - n))) fun v=>k (.val v):=by
 simp only [I.dV];cases x.ev env <;> rfl
theorem akC (q : IntKind) (x : Src) : I.dV env σ (.conv q x) k = Xo (x.ev env) fun _ n=>yc (.int q (q.wrap n)) fun v=>k (.val v):=by
 simp only [I.dV];cases x.ev env <;> rfl
theorem aov (x y : Src) : I.dV env σ (.max x y) k = Xo (x.ev env) fun q a=>Xo (y.ev env) fun q' b=>q = q' ∧ yc (.int q (if b > a then b else a)) fun v=>k (.val v):=by
 simp only [I.dV];cases x.ev env <;> first | rfl | (cases y.ev env <;> rfl)
theorem akD (i : Nat) (x : Src) : I.dV env σ (.SH i x) k = ag7 (x.ev env) fun vs=>dK vs[i]? fun v=>yc v fun v=>k (.val v):=by
 simp only [I.dV];cases x.ev env <;> rfl
theorem aow (x : Src) : I.dV env σ (.chk x) k = Xn σ (x.ev env) (fun o r off=>dK (aj σ o) fun _=>k (.val (.ptr o r off))) fun row off=>k (.val (.fB row off)):=by
 simp only [I.dV];cases x.ev env <;> rfl
theorem aox (sz b : Nat) (x y : Src) : I.dV env σ (.app sz b x y) k = yc (x.ev env) fun xv=>dK (rowsOf σ xv) fun old=>dK (rowsOf σ (y.ev env)) fun new =>
  (new.2 = [] → k (.val xv)) ∧ (new.2 ≠ [] → (new.1 = sz ∧ (old.2.length + new.2.length) * b ≤ 2 ^ 40 ∧ old.2.length + new.2.length ≤ 2 ^ 40) ∧
   slK xv (k (.newS ⟨sz,new.2⟩ new.2.length)) (fun _ _=>False) fun o _ _=>dK (aj σ o) fun ob=>ob.sz = sz ∧ k (.bY o ⟨sz,old.2 ++ new.2⟩ (old.2.length + new.2.length))):=by
 simp only [I.dV,yc];cases x.ev env <;> rfl
end
section
variable (k : V → Prop) (q : IntKind) (a b : Int)
theorem aoy : qg .add (.int q a) (.int q b) k = k (.int q (q.wrap (a + b))):=by simp [qg]
theorem aoz : qg .sub (.int q a) (.int q b) k = k (.int q (q.wrap (a - b))):=by simp [qg]
theorem aoA : qg .mul (.int q a) (.int q b) k = k (.int q (q.wrap (a * b))):=by simp [qg]
theorem aoB {b : Int} (h : b ≠ 0) : qg .quo (.int q a) (.int q b) k = k (.int q (q.wrap (a.tdiv b))):=by simp [qg,h]
theorem aoC {b : Int} (h : b ≠ 0) : qg .rem (.int q a) (.int q b) k = k (.int q (a.tmod b)):=by simp [qg,h]
theorem aoD : qg .eql (.int q a) (.int q b) k = k (.bool (decide (a = b))):=by simp [qg];rfl
theorem aoE : qg .neq (.int q a) (.int q b) k = k (.bool (!decide (a = b))):=by simp [qg,bne];rfl
theorem aoF : qg .lss (.int q a) (.int q b) k = k (.bool (decide (a < b))):=by simp [qg]
theorem aoG : qg .leq (.int q a) (.int q b) k = k (.bool (decide (a ≤ b))):=by simp [qg]
theorem aoH : qg .gtr (.int q a) (.int q b) k = k (.bool (decide (b < a))):=by simp [qg]
theorem aoI : qg .geq (.int q a) (.int q b) k = k (.bool (decide (b ≤ a))):=by simp [qg]
theorem aoJ (q' : IntKind) (h : 0 ≤ b) : qg .shr (.int q a) (.int q' b) k = k (.int q (a.fdiv (2 ^ (min b.toNat q.bits)))):=by simp [qg,h]
theorem aoK : qg .and (.int q a) (.int q b) k = k (.int q (O5 q a b)):=by simp [qg]
theorem aoL : qg .xor (.int q a) (.int q b) k = k (.int q (O6 q a b)):=by simp [qg]
theorem akE (s t : List UInt8) : qg .eql (.str s) (.str t) k = k (.bool (s == t)):=nr rfl
theorem akF (s t : List UInt8) : qg .neq (.str s) (.str t) k = k (.bool (!(s == t))):=nr rfl
end
theorem ahe (σ : Store) (row : List V) (off : Nat) : rowAt σ (.fB row off) = some (row,off):=nr rfl
theorem ahf (σ : Store) (o r off : Nat) : rowAt σ (.ptr o r off) = match aj σ o with | some ob=>(ob.rows[r]?).map (·,off) | none=>none:=nr rfl
theorem ahg (σ : Store) : lenOf σ .ak = some 0:=nr rfl
theorem ahh (σ : Store) (sz : Nat) (rows : List (List V)) : lenOf σ (.sl sz rows) = some rows.length:=nr rfl
theorem ahi (σ : Store) (o s l : Nat) : lenOf σ (.bC o s l) = (aj σ o).map fun _=>l:=nr rfl
theorem aeg (σ : Store) : rowsOf σ .ak = some (0,[]):=nr rfl
theorem aeh (σ : Store) (sz : Nat) (rows : List (List V)) : rowsOf σ (.sl sz rows) = some (sz,rows):=nr rfl
theorem aei (σ : Store) (o s l : Nat) : rowsOf σ (.bC o s l) = match aj σ o with
  | some ob=>if s + l ≤ ob.rows.length then some (ob.sz,(ob.rows.drop s).take l) else none
  | none=>none:=nr rfl
theorem akG (env : Nat → V) (σ : Store) (k : List V → Prop) : E5 env σ [] k = k []:=nr rfl
theorem akH (env : Nat → V) (σ : Store) (s : Src) (as : List Src) (k : List V → Prop) : E5 env σ (s :: as) k = yc (s.ev env) fun v=>dK (resolve σ FD v) fun v=>E5 env σ as fun vs=>k (v :: vs):=nr rfl
def OC (σ : Store) : List V → Option (List V)
 | []=>some []
 |
  c :: cs=>match resolve σ 11 c with
  |
   some d=>match OC σ cs with
   | some ds=>some (d :: ds)
   | none=>none
  | none=>none
theorem U4 (σ : Store) : ∀ cs,cs.mapM (resolve σ 11) = OC σ cs
 | []=>rfl
 |
  c :: cs=>by
  simp only [List.mapM_cons,OC,U4 σ cs]
  cases resolve σ 11 c with
  | none=>rfl
  | some d=>cases OC σ cs <;> rfl
theorem aoM (σ : Store) (q : IntKind) (n : Int) : resolve σ FD (.int q n) = some (.int q n):=nr rfl
theorem akI (σ : Store) (b : Bool) : resolve σ FD (.bool b) = some (.bool b):=nr rfl
theorem aoN (σ : Store) (s : List UInt8) : resolve σ FD (.str s) = some (.str s):=nr rfl
theorem akJ (σ : Store) : resolve σ FD .ak = some .ak:=nr rfl
theorem aoO (σ : Store) : resolve σ FD .one = some .one:=nr rfl
theorem atM (σ : Store) (sz : Nat) (r : List (List V)) : resolve σ FD (.sl sz r) = some (.sl sz r):=nr rfl
theorem akK (σ : Store) (r : List V) (o : Nat) : resolve σ FD (.fB r o) = some (.fB r o):=nr rfl
theorem aoP (σ : Store) (cs : List V) : resolve σ FD (.agg cs) = (OC σ cs).map .agg:=by rw [← U4];rfl
theorem aoQ (σ : Store) (cs : List V) : resolve σ FD (.eu cs) = (OC σ cs).map .eu:=by rw [← U4];rfl
theorem akL (σ : Store) : OC σ [] = some []:=nr rfl
theorem akM (σ : Store) (c : V) (cs : List V) : OC σ (c :: cs) = match resolve σ 11 c with
  |
   some d=>match OC σ cs with
   | some ds=>some (d :: ds)
   | none=>none
  | none=>none:=nr rfl
theorem akN (σ : Store) (q : IntKind) (n : Int) : resolve σ 11 (.int q n) = some (.int q n):=nr rfl
theorem ahj (σ : Store) (b : Bool) : resolve σ 11 (.bool b) = some (.bool b):=nr rfl
theorem akO (σ : Store) (s : List UInt8) : resolve σ 11 (.str s) = some (.str s):=nr rfl
theorem ahk (σ : Store) : resolve σ 11 .ak = some .ak:=nr rfl
theorem akP (σ : Store) : resolve σ 11 .one = some .one:=nr rfl
theorem aoR (σ : Store) (sz : Nat) (r : List (List V)) : resolve σ 11 (.sl sz r) = some (.sl sz r):=nr rfl
theorem ahl (σ : Store) (r : List V) (o : Nat) : resolve σ 11 (.fB r o) = some (.fB r o):=nr rfl
def V.still : V → Bool
 | .one | .int .. | .bool _ | .str _ | .ak | .sl .. | .fB ..=>true
 | _=>false
def dR (rows : List (List V)) : Prop:=∀ r ∈ rows,∀ v ∈ r,v.still = true
theorem Nk {σ : Store} {n : Nat} {v : V} (h : v.still = true) : resolve σ (n + 1) v = some v:=by
 cases v <;> first | rfl | cases h
theorem qo {σ : Store} {n : Nat} : ∀ {r : List V},(∀ v ∈ r,v.still = true) → r.mapM (resolve σ (n + 1)) = some r
 | [],_=>rfl
 |
  v :: r,h=>by
  rw [List.mapM_cons,Nk (h v (by simp)),qo fun x hx=>h x (by simp [hx])];rfl
theorem qp {σ : Store} {n : Nat} : ∀ {rows : List (List V)},dR rows → (rows.mapM fun (r : List V)=>r.mapM (resolve σ (n + 1))) = some rows
 | [],_=>rfl
 |
  r :: rows,h=>by
  rw [List.mapM_cons,qo (h r (by simp)),qp fun x hx=>h x (by simp [hx])];rfl
theorem dR.part {rows : List (List V)} (h : dR rows) (s l : Nat) : dR ((rows.drop s).take l):=fun r hr=>h r (List.mem_of_mem_drop (List.mem_of_mem_take hr))
theorem atN (env : Nat → V) (σ : Store) : dB env σ [] = []:=nr rfl
theorem atO (env : Nat → V) (σ : Store) (s : Src) (as : List Src) : dB env σ (s :: as) = reach σ FD (s.ev env) ++ dB env σ as:=nr rfl
theorem DV {σ : Store} {n : Nat} {v : V} (h : v.still = true) : reach σ (n + 1) v = []:=by
 cases v <;> first | rfl | cases h
theorem aoS (σ : Store) (q : IntKind) (n : Int) : reach σ FD (.int q n) = []:=nr rfl
theorem akQ (σ : Store) (b : Bool) : reach σ FD (.bool b) = []:=nr rfl
theorem aoT (σ : Store) (s : List UInt8) : reach σ FD (.str s) = []:=nr rfl
theorem akR (σ : Store) : reach σ FD .ak = []:=nr rfl
theorem atP (σ : Store) (sz : Nat) (r : List (List V)) : reach σ FD (.sl sz r) = []:=nr rfl
theorem akS (σ : Store) (r : List V) (o : Nat) : reach σ FD (.fB r o) = []:=nr rfl
def U5 (σ : Store) (cs : List V) : List Nat:=cs.flatMap (reach σ 11)
theorem aoU (σ : Store) (cs : List V) : reach σ FD (.agg cs) = U5 σ cs:=nr rfl
theorem atQ (σ : Store) : U5 σ [] = []:=nr rfl
theorem atS (σ : Store) (c : V) (cs : List V) : U5 σ (c :: cs) = reach σ 11 c ++ U5 σ cs:=nr rfl
theorem akT (σ : Store) (q : IntKind) (n : Int) : reach σ 11 (.int q n) = []:=nr rfl
theorem ahm (σ : Store) (b : Bool) : reach σ 11 (.bool b) = []:=nr rfl
theorem akU (σ : Store) (s : List UInt8) : reach σ 11 (.str s) = []:=nr rfl
theorem ahn (σ : Store) : reach σ 11 .ak = []:=nr rfl
theorem aoV (σ : Store) (sz : Nat) (r : List (List V)) : reach σ 11 (.sl sz r) = []:=nr rfl
theorem aho (σ : Store) (r : List V) (o : Nat) : reach σ 11 (.fB r o) = []:=nr rfl
theorem aoW (q : IntKind) (n : Int) : scalar SD (.int q n) = true:=nr rfl
theorem akV (b : Bool) : scalar SD (.bool b) = true:=nr rfl
theorem aoX (s : List UInt8) : scalar SD (.str s) = true:=nr rfl
def Hl : List Hg → List V → St → (V → Prop) → Prop
 | [],acc,st,k=>yc (jG acc.reverse) fun v=>dK (resolve st.objs FD v) k
 | r :: rs,acc,st,k=>dK (r.get st) fun v=>yc v fun v=>Hl rs (v :: acc) st k
theorem Nl {st : St} {k : V → Prop} : ∀ (rs : List Hg) (acc : List V),Hl rs acc st k → dK (rs.mapM (Hg.get st)) fun vs=>dK (resolve st.objs FD (jG (acc.reverse ++ vs))) k
 | [],acc,h=>by simpa [dK,Hl,yc] using h
 |
  r :: rs,acc,h=>by
  obtain ⟨v,e,h⟩:=bG h
  have:=Nl rs (v :: acc) h
  obtain ⟨vs,e2,h⟩:=bG this
  simp only [List.mapM_cons,e,e2]
  simpa [dK,wr] using h
def ahp (rs : List Hg) (e : Ex) (k : V → Prop) (st : St) : Prop:=match e with
 | .normal=>Hl rs [] st k
 | .ret=>Hl rs [] st k
 | .exit _=>False
theorem akW (rs : List Hg) (k : V → Prop) (st : St) : ahp rs .normal k st = Hl rs [] st k:=nr rfl
theorem akX (rs : List Hg) (k : V → Prop) (st : St) : ahp rs .ret k st = Hl rs [] st k:=nr rfl
theorem akY (acc : List V) (st : St) (k : V → Prop) : Hl [] acc st k = yc (jG acc.reverse) fun v=>dK (resolve st.objs FD v) k:=nr rfl
theorem akZ (t : Nat) (rs : List Hg) (acc : List V) (st : St) (k : V → Prop) : Hl (.tmp t :: rs) acc st k = yc (st.env t) fun v=>Hl rs (v :: acc) st k:=nr rfl
theorem ahq (t n : Nat) (rs : List Hg) (acc : List V) (st : St) (k : V → Prop) : Hl (.cell t n false :: rs) acc st k = dK (rowAt st.objs (st.env t)) fun p=>dK p.1[p.2]? fun v=>yc v fun v=>Hl rs (v :: acc) st k:=by
 simp only [Hl,Hg.get]
 cases rowAt st.objs (st.env t) <;> rfl
theorem aoY (v : V) : jG [v] = v:=nr rfl
theorem aoZ (v w : V) : jG [v,w] = .eu [v,w]:=nr rfl
theorem ao0 (v w x : V) : jG [v,w,x] = .eu [v,w,x]:=nr rfl
theorem aT {T : Tb} {f : Nat} {F : Fn} {args : List V} {r : V} (rf : Nat → Nat → Bool) (hT : T f = some F)
  (h : wp T rf F.body (fun e st=>ahp F.res e (· = r) st) (St.enter args [])) (hl : args.length = F.nargs:=by rfl) (hk : F.body.WC = true:=by rfl) : PF T f args r:=by
 obtain ⟨e,st',h1,h2⟩:=sK hk h
 have h3 : (e = .normal ∨ e = .ret) ∧ Hl F.res [] st' (· = r):=by
  cases e with
  | normal=>exact ⟨.inl rfl,h2⟩
  | ret=>exact ⟨.inr rfl,h2⟩
  | exit id=>exact h2.elim
 obtain ⟨he,h3⟩:=h3
 have:=Nl _ _ h3
 obtain ⟨rs,e1,h4⟩:=bG this
 obtain ⟨r',e2,h5⟩:=bG h4
 subst h5
 exact .frz (.fn hT hl h1 he e1) e2
theorem ah {T : Tb} {f : Nat} {as : List V} {k : V → Prop} {r : V} (h : PF T f as r) (hk : k r) : PFK T f as k:=⟨r,h,hk⟩
def aN (l : List Int) : List (List V):=l.map fun x=>[.int .i64 x]
abbrev ints (l : List Int) : V:=.sl 1 (aN l)
theorem AA (l : List Int) : (aN l).length = l.length:=by simp [aN]
theorem ahr {l : List Int} {j : Nat} (h : j < l.length) : (aN l).getD j [] = [.int .i64 (l.getD j 0)]:=by
 simp [aN,List.getD_eq_getElem?_getD,List.getElem?_eq_getElem h]
theorem ak0 {l : List Int} {j : Nat} (h : j < l.length) : (aN l)[j]? = some [.int .i64 (l.getD j 0)]:=by
 simp [aN,List.getD_eq_getElem?_getD,List.getElem?_eq_getElem h]
theorem ak1 (l : List Int) (j : Nat) (x : Int) : (aN l).set j [.int .i64 x] = aN (l.set j x):=by
 simp only [aN,List.map_set]
theorem Gh (n : Nat) (x : Int) : List.replicate n [V.int .i64 x] = aN (List.replicate n x):=by simp [aN]
theorem U6 (l : List Int) (n : Nat) : (aN l).drop n = aN (l.drop n):=by simp [aN]
theorem U7 (l : List Int) (n : Nat) : (aN l).take n = aN (l.take n):=by simp [aN]
theorem nU (l : List Int) : dR (aN l):=by
 intro r hr v hv
 obtain ⟨x,_,rfl⟩:=List.mem_map.1 hr
 simp at hv;subst hv;rfl
theorem ahs (a b : V) : splice [a] 0 [b] = [b]:=nr rfl
end Go.Ml
end
section
namespace Go.Ml
theorem Qk : ∀ {x y : V},bM x y → y.leaf = true → x.leaf = true:=by
 intro x y h hl
 cases x <;> first | rfl | skip
 ·simp only [bM] at h;subst h;exact hl
 ·simp only [bM] at h;obtain ⟨_,rfl,_⟩:=h;exact hl
 ·simp only [bM] at h;obtain ⟨_,rfl,_⟩:=h;exact hl
theorem Xp : ∀ {xs ys : List V},lW xs ys → xs.length = ys.length
 | [],ys,h=>by simp only [lW] at h;subst h;rfl
 |
  x :: xs,ys,h=>by
  simp only [lW] at h
  obtain ⟨y,ys',rfl,_,h2⟩:=h
  simp [Xp h2]
theorem Xq : ∀ {xs ys : List (List V)},SI xs ys → xs.length = ys.length
 | [],ys,h=>by simp only [SI] at h;subst h;rfl
 |
  x :: xs,ys,h=>by
  simp only [SI] at h
  obtain ⟨y,ys',rfl,_,h2⟩:=h
  simp [Xq h2]
mutual
theorem Np {w : World} : ∀ (D : DM) (X : Nat → Prop) (x y : V) (v : Value),bM x y → rd w D X y v → rd w D X x v
 |
  D,X,.sl sz rows,y,v,h,hr=>by
  simp only [bM] at h
  rcases h with ⟨rfl,rfl | ⟨sz',rfl⟩⟩ | ⟨rows',rfl,h⟩
  ·simp only [rd] at hr ⊢
   obtain ⟨a,rfl⟩:=hr
   exact ⟨a,0,rfl,Nat.le_refl _,.inl (by trivial)⟩
  ·simp only [rd] at hr ⊢
   obtain ⟨a,cap,rfl,h2,_⟩:=hr
   exact ⟨a,cap,rfl,h2,.inl (by trivial)⟩
  ·simp only [rd] at hr ⊢
   obtain ⟨a,cap,rfl,h2,h3⟩:=hr
   have hl:=Xq h
   refine ⟨a,cap,by rw [hl],by rw [hl];exact h2,?_⟩
   rcases h3 with h3 | ⟨b,off,h3,h4,h5,h6⟩
   ·left;subst h3;exact List.eq_nil_of_length_eq_zero hl
   ·exact .inr ⟨b,off,h3,h4,h5,Ql DM.none X b sz off rows rows' h h6⟩
 |
  D,X,.agg cs,y,v,h,hr=>by
  simp only [bM] at h
  obtain ⟨cs',rfl,h⟩:=h
  simp only [rd] at hr ⊢
  obtain ⟨a,rfl,hr⟩:=hr
  exact ⟨a,rfl,La D X cs cs' _ h hr⟩
 |
  D,X,.eu cs,y,v,h,hr=>by
  simp only [bM] at h
  obtain ⟨cs',rfl,h⟩:=h
  simp only [rd] at hr ⊢
  obtain ⟨a,rfl,hr⟩:=hr
  exact ⟨a,rfl,La D X cs cs' _ h hr⟩
 |
  D,X,.fB row off,y,v,h,hr=>by
  simp only [bM] at h
  obtain ⟨row',rfl,h⟩:=h
  simp only [rd] at hr ⊢
  obtain ⟨b,o,rfl,h1,h2,h3⟩:=hr
  exact ⟨b,o,rfl,h1,h2,Ij DM.none X b o row row' h h3⟩
 | _,_,.any,y,v,h,hr=>by simp [rd]
 | _,_,.one,y,v,h,hr=>by simp only [bM] at h;subst h;exact hr
 | _,_,.int ..,y,v,h,hr=>by simp only [bM] at h;subst h;exact hr
 | _,_,.bool _,y,v,h,hr=>by simp only [bM] at h;subst h;exact hr
 | _,_,.str _,y,v,h,hr=>by simp only [bM] at h;subst h;exact hr
 | _,_,.ak,y,v,h,hr=>by simp only [bM] at h;subst h;exact hr
 | _,_,.bC ..,y,v,h,hr=>by simp only [bM] at h;subst h;exact hr
 | _,_,.ptr ..,y,v,h,hr=>by simp only [bM] at h;subst h;exact hr
termination_by structural _ _ x=>x
theorem La {w : World} : ∀ (D : DM) (X : Nat → Prop) (xs ys : List V) (vs : List Value),lW xs ys → fJ w D X ys vs → fJ w D X xs vs
 | D,X,[],ys,vs,h,hr=>by simp only [lW] at h;subst h;exact hr
 |
  D,X,x :: xs,ys,vs,h,hr=>by
  simp only [lW] at h
  obtain ⟨y,ys',rfl,h1,h2⟩:=h
  simp only [fJ] at hr ⊢
  obtain ⟨v,vs',rfl,k1,k2⟩:=hr
  exact ⟨v,vs',rfl,Np D X x y v h1 k1,La D X xs ys' vs' h2 k2⟩
termination_by structural _ _ x=>x
theorem Ij {w : World} : ∀ (D : DM) (X : Nat → Prop) (b off : Nat) (xs ys : List V),lW xs ys → dY w D X b off ys → dY w D X b off xs
 | D,X,b,off,[],ys,h,hr=>by simp [dY]
 |
  D,X,b,off,x :: xs,ys,h,hr=>by
  simp only [lW] at h
  obtain ⟨y,ys',rfl,h1,h2⟩:=h
  simp only [dY] at hr ⊢
  obtain ⟨k0,⟨c,k1,k2⟩,k3⟩:=hr
  exact ⟨Qk h1 k0,⟨c,k1,Np D X x y c h1 k2⟩,Ij D X b (off + 1) xs ys' h2 k3⟩
termination_by structural _ _ _ _ x=>x
theorem Ql {w : World} : ∀ (D : DM) (X : Nat → Prop) (b sz off : Nat) (xs ys : List (List V)),SI xs ys → iE w D X b sz off ys → iE w D X b sz off xs
 | D,X,b,sz,off,[],ys,h,hr=>by simp [iE]
 |
  D,X,b,sz,off,x :: xs,ys,h,hr=>by
  simp only [SI] at h
  obtain ⟨y,ys',rfl,h1,h2⟩:=h
  simp only [iE] at hr ⊢
  exact ⟨(Xp h1).trans hr.1,Ij D X b off x y h1 hr.2.1,Ql D X b sz (off + sz) xs ys' h2 hr.2.2⟩
termination_by structural _ _ _ _ _ x=>x
end
mutual
theorem aC : ∀ (x : V),bM x x
 | .sl sz rows=>by simp only [bM];exact .inr ⟨rows,rfl,Ue rows⟩
 | .agg cs=>by simp only [bM];exact ⟨cs,rfl,qU cs⟩
 | .eu cs=>by simp only [bM];exact ⟨cs,rfl,qU cs⟩
 | .fB row off=>by simp only [bM];exact ⟨row,rfl,qU row⟩
 | .any=>by simp [bM]
 | .one=>by simp [bM]
 | .int ..=>by simp [bM]
 | .bool _=>by simp [bM]
 | .str _=>by simp [bM]
 | .ak=>by simp [bM]
 | .bC ..=>by simp [bM]
 | .ptr ..=>by simp [bM]
theorem qU : ∀ (xs : List V),lW xs xs
 | []=>by simp [lW]
 | x :: xs=>by simp only [lW];exact ⟨x,xs,rfl,aC x,qU xs⟩
theorem Ue : ∀ (xs : List (List V)),SI xs xs
 | []=>by simp [SI]
 | x :: xs=>by simp only [SI];exact ⟨x,xs,rfl,qU x,Ue xs⟩
end
def DM.win (D : DM) (W : Jm) (kp : Nat) : DM:=fun k=>match W[k]? with
 |
  some (some (o,s,l))=>(match D o with
  | .live d=>.live ⟨d.blk,d.EU + s * d.sz,d.sz,l,d.cap⟩
  | x=>x)
 | some Option.none=>if k < kp then (match D k with | .live _=>.dO | x=>x) else .dO
 | Option.none=>.dO
section
variable {w : World} {D : DM} {M : Nat → Prop} {σ σ2 : Store} {W : Jm} {kp : Nat}
theorem CJ {k : Nat} {d : abW} (h : D.win W kp k = .live d) : ∃ o s l d0,W[k]? = some (some (o,s,l)) ∧ D o = .live d0 ∧ d = ⟨d0.blk,d0.EU + s * d0.sz,d0.sz,l,d0.cap⟩:=by
 unfold DM.win at h
 split at h
 ·rename_i o s l e
  split at h
  ·rename_i d0 e2
   cases h
   exact ⟨o,s,l,d0,e,e2,rfl⟩
  ·rename_i hx;rw [h] at hx;exact absurd rfl (hx d)
 ·split at h
  ·split at h
   ·cases h
   ·rename_i hx;rw [h] at hx;exact absurd rfl (hx d)
  ·cases h
 ·cases h
theorem aej : ∀ b,XS M (D.win W kp) b → XS M D b:=by
 rintro b (h | ⟨k,d,hk,rfl⟩)
 ·exact .inl h
 ·obtain ⟨o,s,l,d0,_,h2,rfl⟩:=CJ hk
  exact .inr ⟨o,d0,h2,rfl⟩
theorem aek : ∀ {x y : V},qh W σ x y → x.leaf = true → y.leaf = true:=by
 intro x y h hl
 cases x <;> simp only [V.leaf] at hl <;> first | (cases hl;done) | skip
 all_goals simp only [qh] at h
 case one=>subst h;rfl
 case int=>subst h;rfl
 case bool=>subst h;rfl
 case str=>subst h;rfl
 case ak=>rcases h with rfl | ⟨_,rfl⟩ <;> rfl
 case sl=>exact Qk h rfl
 case bC =>
  rcases h with ⟨k,s0,l0,_,_,_,rfl⟩ | ⟨_,_,sz,rfl⟩ | ⟨h,_⟩
  ·rfl
  ·rfl
  ·exact Bv h rfl
 case ptr =>
  rcases h with ⟨k,s0,l0,_,_,_,rfl⟩ | ⟨h,_⟩
  ·rfl
  ·exact Bv h rfl
 case fB=>exact Qk h rfl
theorem Xr : ∀ {xs ys : List V},Ef W σ xs ys → ys.length = xs.length
 | [],ys,h=>by simp only [Ef] at h;subst h;rfl
 |
  x :: xs,ys,h=>by
  simp only [Ef] at h
  obtain ⟨y,ys',rfl,_,h2⟩:=h
  simp [Xr h2]
theorem Xt : ∀ {xs ys : List V},Ef W σ xs ys → ∀ (i : Nat) (y : V),ys[i]? = some y → ∃ x,xs[i]? = some x ∧ qh W σ x y
 | [],ys,h,i,y,hi=>by simp only [Ef] at h;subst h;simp at hi
 |
  x :: xs,ys,h,i,y,hi=>by
  simp only [Ef] at h
  obtain ⟨z,zs,rfl,h1,h2⟩:=h
  cases i with
  | zero=>simp at hi;subst hi;exact ⟨x,rfl,h1⟩
  | succ i=>simpa using Xt h2 i y (by simpa using hi)
theorem Zq {D D' : DM} {X X' : Nat → Prop} (hX : ∀ b,X' b → X b) {x : V} {v : Value} (hx : (∃ sz rows,x = .sl sz rows) ∨ ∃ row off,x = .fB row off) (h : rd w D X x v) : rd w D' X' x v:=by
 have E : Ext w DM.none X w DM.none X':=⟨Nat.le_refl _,fun _ _ _=>rfl,fun b _=>hX b,fun _=>jW.refl _⟩
 rcases hx with ⟨sz,rows,rfl⟩ | ⟨row,off,rfl⟩
 ·have h' : rd w DM.none X (.sl sz rows) v:=by simpa only [rd] using h
  have:=dP _ _ E h'
  simpa only [rd] using this
 ·have h' : rd w DM.none X (.fB row off) v:=by simpa only [rd] using h
  have:=dP _ _ E h'
  simpa only [rd] using this
theorem aht {o s l n : Nat} {y : V} (h : resolve σ (n + 1) (.bC o s l) = some y) : ∃ sz rows,y = .sl sz rows:=by
 simp only [resolve] at h
 split at h <;> first | (cases h;done) | skip
 split at h <;> first | (cases h;done) | skip
 simp only [Option.map_eq_some_iff] at h
 obtain ⟨_,_,rfl⟩:=h
 exact ⟨_,_,rfl⟩
theorem aa8 {o r f n : Nat} {y : V} (h : resolve σ (n + 1) (.ptr o r f) = some y) : ∃ row off,y = .fB row off:=by
 simp only [resolve] at h
 split at h <;> first | (cases h;done) | skip
 split at h <;> first | (cases h;done) | skip
 simp only [Option.map_eq_some_iff] at h
 obtain ⟨_,_,rfl⟩:=h
 exact ⟨_,_,rfl⟩
theorem Uf (hS : jH w D M σ) {x y : V} {v : Value} (h : resolve σ FD x = some y) (hq : ∀ q,q ∈ reach σ FD x → ∀ (k s0 l0 : Nat),W[k]? ≠ some (some (q,s0,l0)))
  (hy : (∃ sz rows,y = .sl sz rows) ∨ ∃ row off,y = .fB row off) (hr : rd w D (XS M D) x v) : rd w (D.win W kp) (XS M (D.win W kp)) y v:=by
 have h1:=yx hS (R:=reach σ FD x) FD x y v h (fun _ ho=>ho) hr
 refine Zq (fun b hb=>?_) hy h1
 rcases hb with hb | ⟨k,d,hk,rfl⟩
 ·exact .inl hb
 ·obtain ⟨o,s,l,d0,e1,e2,rfl⟩:=CJ hk
  exact .inr ⟨o,d0,e2,rfl,fun ho=>hq o ho k s l e1⟩
mutual
theorem U8 (hS : jH w D M σ) (hW : ∀ (k o s l : Nat),W[k]? = some (some (o,s,l)) → (aj σ o).isSome = true) : ∀ (x y : V) (v : Value),qh W σ x y → rd w D (XS M D) x v →
  rd w (D.win W kp) (XS M (D.win W kp)) y v
 |
  .bC o s l,y,v,h,hr=>by
  simp only [qh] at h
  rcases h with ⟨k,s0,l0,h1,h2,h3,rfl⟩ | ⟨rfl,ho,sz,rfl⟩ | ⟨h1,h2⟩
  ·obtain ⟨ob,hob⟩:=Option.isSome_iff_exists.1 (hW k o s0 l0 h1)
   obtain ⟨d,hd⟩:=hS.alive o ob hob
   simp only [rd,hd] at hr
   obtain ⟨e1,a,cap,rfl,e2,e3⟩:=hr
   simp only [rd,DM.win,h1,hd]
   refine ⟨by omega,a,cap,rfl,e2,e3.imp ?_ id⟩
   rintro ⟨rfl,e4⟩
   have hm : s * d.sz = s0 * d.sz + (s - s0) * d.sz:=by rw [← Nat.add_mul];congr 1;omega
   refine ⟨by congr 2;omega,?_⟩
   have : (s + cap) * d.sz = s0 * d.sz + (s - s0 + cap) * d.sz:=by rw [← Nat.add_mul];congr 1;omega
   omega
  ·obtain ⟨ob,hob⟩:=Option.isSome_iff_exists.1 ho
   obtain ⟨d,hd⟩:=hS.alive o ob hob
   simp only [rd,hd] at hr ⊢
   obtain ⟨e1,a,cap,rfl,e2,e3⟩:=hr
   exact ⟨a,cap,rfl,Nat.zero_le _,.inl (by trivial)⟩
  ·exact Uf hS h1 h2 (.inl (aht (n:=11) h1)) hr
 |
  .ptr o r off,y,v,h,hr=>by
  simp only [qh] at h
  rcases h with ⟨k,s0,l0,h1,h2,h3,rfl⟩ | ⟨h1,h2⟩
  rotate_left
  ·exact Uf hS h1 h2 (.inr (aa8 (n:=11) h1)) hr
  obtain ⟨ob,hob⟩:=Option.isSome_iff_exists.1 (hW k o s0 l0 h1)
  obtain ⟨d,hd⟩:=hS.alive o ob hob
  simp only [rd,hd] at hr
  subst hr
  simp only [rd,DM.win,h1,hd]
  have hm : r * d.sz = s0 * d.sz + (r - s0) * d.sz:=by rw [← Nat.add_mul];congr 1;omega
  congr 3;omega
 |
  .agg cs,y,v,h,hr=>by
  simp only [qh] at h
  obtain ⟨ds,rfl,h⟩:=h
  simp only [rd] at hr ⊢
  obtain ⟨a,rfl,hr⟩:=hr
  exact ⟨a,rfl,U9 hS hW cs ds _ h hr⟩
 |
  .eu cs,y,v,h,hr=>by
  simp only [qh] at h
  obtain ⟨ds,rfl,h⟩:=h
  simp only [rd] at hr ⊢
  obtain ⟨a,rfl,hr⟩:=hr
  exact ⟨a,rfl,U9 hS hW cs ds _ h hr⟩
 |
  .ak,y,v,h,hr=>by
  simp only [qh] at h
  simp only [rd] at hr
  obtain ⟨a,rfl⟩:=hr
  rcases h with rfl | ⟨sz,rfl⟩
  ·simp only [rd];exact ⟨a,rfl⟩
  ·simp only [rd];exact ⟨a,0,rfl,Nat.le_refl _,.inl (by trivial)⟩
 |
  .sl sz rows,y,v,h,hr=>by
  simp only [qh] at h
  exact Np _ _ _ _ _ h (Zq aej (.inl ⟨sz,rows,rfl⟩) hr)
 |
  .fB row off,y,v,h,hr=>by
  simp only [qh] at h
  exact Np _ _ _ _ _ h (Zq aej (.inr ⟨row,off,rfl⟩) hr)
 | .any,y,v,h,hr=>by simp only [qh] at h;subst h;simp [rd]
 | .one,y,v,h,hr=>by simp only [qh] at h;subst h;simpa only [rd] using hr
 | .int ..,y,v,h,hr=>by simp only [qh] at h;subst h;simpa only [rd] using hr
 | .bool _,y,v,h,hr=>by simp only [qh] at h;subst h;simpa only [rd] using hr
 | .str _,y,v,h,hr=>by simp only [qh] at h;subst h;simpa only [rd] using hr
theorem U9 (hS : jH w D M σ) (hW : ∀ (k o s l : Nat),W[k]? = some (some (o,s,l)) → (aj σ o).isSome = true) : ∀ (xs ys : List V) (vs : List Value),Ef W σ xs ys → fJ w D (XS M D) xs vs →
  fJ w (D.win W kp) (XS M (D.win W kp)) ys vs
 | [],ys,vs,h,hr=>by simp only [Ef] at h;subst h;simpa only [fJ] using hr
 |
  x :: xs,ys,vs,h,hr=>by
  simp only [Ef] at h
  obtain ⟨y,ys',rfl,h1,h2⟩:=h
  simp only [fJ] at hr ⊢
  obtain ⟨v,vs',rfl,k1,k2⟩:=hr
  exact ⟨v,vs',rfl,U8 hS hW x y v h1 k1,U9 hS hW xs ys' vs' h2 k2⟩
end
theorem jH.re (hS : jH w D M σ) (h : ReS W σ σ2) (hkp : kp ≤ W.length) : jH w (D.win W kp) M σ2:=by
 have hW : ∀ (k o s l : Nat),W[k]? = some (some (o,s,l)) → (aj σ o).isSome = true:=fun k o s l hk=>by
  obtain ⟨ob,_,h1,_⟩:=h.win k o s l hk
  rw [h1];rfl
 refine ⟨?_,?_,?_,?_,hS.mlt⟩
 ·intro k d hk
  obtain ⟨o,s,l,d0,e1,e2,rfl⟩:=CJ hk
  obtain ⟨ob,Y4,w1,w2,w3,w4,w5,w6⟩:=h.win k o s l e1
  obtain ⟨ob',c,e,h1,h2,h3,h4,h5,h6,h7,h8,h9,h10,h11⟩:=hS.live o d0 e2
  rw [w1] at h1;cases h1
  have hrow : ∀ i r2,Y4.rows[i]? = some r2 → ∃ r,ob.rows[s + i]? = some r ∧ Ef W σ r r2:=by
   intro i r2 hi
   have hlt : s + i < ob.rows.length:=by have:=(List.getElem?_eq_some_iff.1 hi).1;omega
   exact ⟨ob.rows[s + i],List.getElem?_eq_getElem hlt,w6 i _ r2 (List.getElem?_eq_getElem hlt) hi⟩
  have hlen2 : ∀ r ∈ Y4.rows,r.length = Y4.sz:=by
   intro r2 hr2
   obtain ⟨i,hi⟩:=List.mem_iff_getElem?.1 hr2
   obtain ⟨r,hr,hc⟩:=hrow i r2 hi
   rw [Xr hc,w4];exact h10 r (List.mem_of_getElem? hr)
  refine ⟨Y4,c,e,w3,by simp only [];rw [w4];exact h2,by simp only [];exact w5.symm,h4,h5,h6,h7,h8,?_,hlen2,?_⟩
  ·simp only []
   have : d0.EU + s * d0.sz + l * d0.sz = d0.EU + (s + l) * d0.sz:=by rw [Nat.add_mul];omega
   rw [this]
   refine Nat.le_trans (Nat.add_le_add_left (Nat.mul_le_mul_right _ ?_) _) h9
   omega
  ·intro i z hz
   have hpos : 0 < ob.sz:=by rw [← h2];exact h4
   have hilt:=(List.getElem?_eq_some_iff.1 hz).1
   have hfl:=qm hlen2
   have hq : i / ob.sz < Y4.rows.length:=Nat.div_lt_of_lt_mul (by rw [Nat.mul_comm,← w4];omega)
   have hmod : i % ob.sz < Y4.rows[i / ob.sz].length:=by rw [hlen2 _ (by simp),w4];exact Nat.mod_lt _ hpos
   have hz':=vN hlen2 (i:=i / ob.sz) (j:=i % ob.sz) (r:=Y4.rows[i / ob.sz]) (x:=Y4.rows[i / ob.sz][i % ob.sz]) (by simp [hq]) (by simp [hmod])
   have hi : i / ob.sz * Y4.sz + i % ob.sz = i:=by rw [w4,Nat.mul_comm];exact Nat.div_add_mod i ob.sz
   rw [hi,hz] at hz'
   obtain ⟨r,hr,hc⟩:=hrow (i / ob.sz) Y4.rows[i / ob.sz] (by simp [hq])
   obtain ⟨x,hx,hcx⟩:=Xt hc (i % ob.sz) z (by rw [Option.some.inj hz'];simp [hmod])
   obtain ⟨hlf,cv,k1,k2⟩:=h11 _ x (vN h10 hr hx)
   refine ⟨aek hcx hlf,cv,?_,U8 hS hW x z cv hcx k2⟩
   rw [← k1]
   simp only []
   congr 1
   have hi2 : i = i / ob.sz * ob.sz + i % ob.sz:=by rw [← w4];rw [w4];rw [w4] at hi;exact hi.symm
   rw [h2,Nat.add_mul]
   omega
 ·intro k ob hk
  have hlt : k < W.length:=by
   rw [← h.len]
   rcases Nat.lt_or_ge k σ2.length with h' | h'
   ·exact h'
   ·rw [aj,List.getElem?_eq_none h'] at hk;cases hk
  cases hw : W[k] with
  |
   none =>
   have:=h.hole k (by rw [List.getElem?_eq_getElem hlt,hw])
   rw [this] at hk;cases hk
  |
   some p =>
   obtain ⟨o,s,l⟩:=p
   have hk' : W[k]? = some (some (o,s,l)):=by rw [List.getElem?_eq_getElem hlt,hw]
   obtain ⟨ob0,_,w1,_⟩:=h.win k o s l hk'
   obtain ⟨d,hd⟩:=hS.alive o ob0 w1
   exact ⟨⟨d.blk,d.EU + s * d.sz,d.sz,l,d.cap⟩,by simp only [DM.win,hk',hd]⟩
 ·intro k k' d d' hk hk' hb
  obtain ⟨o,s,l,d0,e1,e2,rfl⟩:=CJ hk
  obtain ⟨o',s',l',d0',e1',e2',rfl⟩:=CJ hk'
  have:=hS.inj o o' d0 d0' e2 e2' hb
  subst this
  exact h.nd k k' o s l s' l' e1 e1'
 ·intro k hk
  rw [h.len] at hk
  simp only [DM.win,List.getElem?_eq_none hk]
end
section
variable {P : Program} {ν : Nat → Option Nat} {nt : Nat} {M : Nat → Prop} {w0 : World} {D0 : DM} {st st2 : St} {D : DM} {a : Act} {w : World} {W : Jm}
theorem ReS.some {σ σ2 : Store} (h : ReS W σ σ2) : ∀ (k o s l : Nat),W[k]? = some (some (o,s,l)) → (aj σ o).isSome = true:=fun k o s l hk=>by
 obtain ⟨ob,_,h1,_⟩:=h.win k o s l hk
 rw [h1];rfl
theorem SR.re (h : SR nt M w0 D0 st D a w) (hr : ajQ W st st2) : SR nt M w0 D0 st2 (D.win W st.keep) a w:=by
 have hkp : st.keep ≤ W.length:=by
  rcases Nat.lt_or_ge W.length st.keep with h' | h'
  ·have : W[W.length]? = Option.none:=by simp
   rcases hr.kp W.length h' with ⟨ob,_,h2⟩ | ⟨_,h2⟩ <;> rw [this] at h2 <;> cases h2
  ·exact h'
 refine ⟨fun t=>?_,h.tm,h.df,h.store.re hr.objs hkp,h.gr,?_,?_⟩
 ·rcases hr.env t with e | e
  ·rw [e];simp [rd]
  ·exact U8 h.store hr.objs.some _ _ _ e (h.env t)
 ·intro k d hk
  obtain ⟨o,s,l,d0,_,e2,rfl⟩:=CJ hk
  exact h.fr o d0 e2
 ·intro k hk
  rw [hr.keep] at hk
  have hle:=h.kp k hk
  rcases hr.kp k hk with ⟨ob,h1,h2⟩ | ⟨h1,h2⟩
  ·obtain ⟨d,hd⟩:=h.store.alive k ob h1
   obtain ⟨ob',c,e,g1,g2,g3,_⟩:=h.store.live k d hd
   rw [h1] at g1;cases g1
   have : D.win W st.keep k = D k:=by
    simp only [DM.win,h2,hd,Nat.zero_mul,Nat.add_zero,← g3]
   rw [this];exact hle
  ·have : D.win W st.keep k = D k:=by
    simp only [DM.win,h2,if_pos hk]
    cases hd : D k with
    |
     live d =>
     obtain ⟨ob',c,e,g1,_⟩:=h.store.live k d hd
     rw [h1] at g1;cases g1
    | _=>rfl
   rw [this];exact hle
theorem SR.forget (h : SR nt M w0 D0 st D a w) (he : ∀ t,st2.env t = .any ∨ bM (st2.env t) (st.env t)) (ho : st2.objs = st.objs) (hk : st2.keep = st.keep) : SR nt M w0 D0 st2 D a w:=by
 refine ⟨fun t=>?_,h.tm,h.df,by rw [ho];exact h.store,h.gr,h.fr,by rw [hk];exact h.kp⟩
 rcases he t with e | e
 ·rw [e];simp [rd]
 ·exact Np _ _ _ _ _ e (h.env t)
end
end Go.Ml
end
section
namespace Go.Ml
inductive Fg : St → St → Prop
 | env {st2 st : St} (he : ∀ t,st2.env t = .any ∨ bM (st2.env t) (st.env t)) (ho : st2.objs = st.objs) (hk : st2.keep = st.keep) : Fg st2 st
 | re {st2 st : St} (W : Jm) (h : ajQ W st st2) : Fg st2 st
theorem Fg.run {T : Tb} {c : C} {st2 st : St} {o : Out} (h : Fg st2 st) (k : Run T (.code c st2) o) : Run T (.code c st) o:=by
 cases h with
 | env he ho hk=>exact .forget he ho hk k
 | re W h=>exact .re W h k
theorem Qm {T : Tb} {rf : Nat → Nat → Bool} {c : C} {Q : Ex → St → Prop} {α : Type} (I : α → St) (P : α → Prop) (m : α → Nat) (hk : c.WC = true)
  (step : ∀ a,P a → wp T rf c (fun e st'=>U3 e (∃ a',m a' < m a ∧ P a' ∧ Fg (I a') st') (Q e st')) (I a)) :
  ∀ (n : Nat) (a : α) (st : St),m a < n → P a → Fg (I a) st → Ol T c Q st
 | 0,_,_,hn,_,_=>absurd hn (Nat.not_lt_zero _)
 |
  n + 1,a,st,hn,h,hf=>by
  obtain ⟨e,st1,h1,h2⟩:=sK hk (step a h)
  cases e with
  |
   normal =>
   obtain ⟨a',hlt,h3,h3'⟩:=h2
   obtain ⟨e,st2,h4,h5⟩:=Qm I P m hk step n a' _ (by omega) h3 h3'
   exact ⟨e,st2,hf.run (.adA h1 h4),h5⟩
  | exit id=>exact ⟨_,_,hf.run (.WQ (by simp) h1),h2⟩
  | ret=>exact ⟨_,_,hf.run (.WQ (by simp) h1),h2⟩
theorem aO {T : Tb} (rf : Nat → Nat → Bool) {c : C} {Q : Ex → St → Prop} {α : Type} (I : α → St) (P : α → Prop) (m : α → Nat) (hk : c.WC = true) (a : α) {st : St} (h0 : P a) (hf : Fg (I a) st)
  (step : ∀ a,P a → wp T rf c (fun e st'=>U3 e (∃ a',m a' < m a ∧ P a' ∧ Fg (I a') st') (Q e st')) (I a)) :
  Ol T c Q st:=Qm I P m hk step (m a + 1) a st (by omega) h0 hf
def EvV (v y : V) : Prop:=v = .any ∨ bM v y
theorem ahu (y : V) : EvV .any y = True:=eq_true (.inl rfl)
theorem ael (y : V) : EvV y y = True:=eq_true (.inr (aC y))
theorem lZ {v y : V} (h : v = y) : EvV v y:=h ▸ .inr (aC v)
theorem jI {q : IntKind} {a b : Int} (h : a = b) : EvV (.int q a) (.int q b):=lZ (by rw [h])
theorem jJ (sz : Nat) : EvV (.sl sz []) .ak:=.inr (by simp [bM])
def Fb : List V → Nat → (Nat → V) → Prop
 | [],_,_=>True
 | v :: vs,i,env=>EvV v (env i) ∧ Fb vs (i + 1) env
theorem ahv (i : Nat) (env : Nat → V) : Fb [] i env = True:=nr rfl
theorem ahw (v : V) (vs : List V) (i : Nat) (env : Nat → V) : Fb (v :: vs) i env = (EvV v (env i) ∧ Fb vs (i + 1) env):=nr rfl
theorem Fb.at_ : ∀ {l : List V} {i : Nat} {env : Nat → V},Fb l i env → ∀ t,bF l t = .any ∨ bM (bF l t) (env (i + t))
 | [],_,_,_,t=>.inl rfl
 | v :: vs,i,env,h,0=>h.1
 |
  v :: vs,i,env,h,t + 1=>by
  have:=Fb.at_ h.2 t
  rw [show i + 1 + t = i + (t + 1) by omega] at this
  exact this
theorem aH {l : List V} {env : Nat → V} {objs : Store} {kp b1 b2 : Nat} {r1 r2 m1 m2 : List Nat} (h : Fb l 0 env) : Fg ⟨bF l,objs,kp,b1,r1,m1⟩ ⟨env,objs,kp,b2,r2,m2⟩ :=
 .env (fun t=>by have:=h.at_ t;rwa [Nat.zero_add] at this) rfl rfl
theorem ahx {l : List V} {env : Nat → V} {objs aju : Store} {kp b1 b2 : Nat} {r1 r2 m1 m2 : List Nat} (h : Fb l 0 env) (ho : aju = objs) : Fg ⟨bF l,aju,kp,b1,r1,m1⟩ ⟨env,objs,kp,b2,r2,m2⟩:=by
 subst ho;exact aH h
theorem vk {W : Jm} {σ : Store} {v : V} (h : v.still = true) : qh W σ v v:=by
 cases v <;> simp only [V.still] at h <;> first | (cases h;done) | skip
 all_goals simp only [qh]
 ·exact .inl (by trivial)
 ·exact aC _
 ·exact aC _
theorem CO {W : Jm} {σ : Store} : ∀ {r : List V},(∀ v ∈ r,v.still = true) → Ef W σ r r
 | [],_=>by simp [Ef]
 |
  v :: r,h=>by
  simp only [Ef]
  exact ⟨v,r,rfl,vk (h v (by simp)),CO fun x hx=>h x (by simp [hx])⟩
theorem aem {σ : Store} (l : List (Nat × Obj)) (hn : (l.map (·.1)).Nodup) (h : ∀ p ∈ l,aj σ p.1 = some p.2 ∧ dR p.2.rows) :
  ReS (l.map fun p=>some (p.1,0,p.2.rows.length)) σ (l.map fun p=>some p.2):=by
 have hget : ∀ (k o s n : Nat),(l.map fun p=>some (p.1,0,p.2.rows.length))[k]? = some (some (o,s,n)) → ∃ p,l[k]? = some p ∧ o = p.1 ∧ s = 0 ∧ n = p.2.rows.length:=by
  intro k o s n hk
  rw [List.getElem?_map,Option.map_eq_some_iff] at hk
  obtain ⟨p,h1,h2⟩:=hk
  simp only [Option.some.injEq,Prod.mk.injEq] at h2
  exact ⟨p,h1,h2.1.symm,h2.2.1.symm,h2.2.2.symm⟩
 refine ⟨by simp,?_,?_,?_⟩
 ·intro i j o s n s' n' hi hj
  obtain ⟨p,p1,p2,_⟩:=hget i o s n hi
  obtain ⟨q,q1,q2,_⟩:=hget j o s' n' hj
  have hi':=(List.getElem?_eq_some_iff.1 p1).1
  have hj':=(List.getElem?_eq_some_iff.1 q1).1
  have e1:=(List.getElem?_eq_some_iff.1 p1).2
  have e2:=(List.getElem?_eq_some_iff.1 q1).2
  refine (List.getElem_inj (h₀:=by simpa using hi') (h₁:=by simpa using hj') hn).1 ?_
  simp [e1,e2,← p2,← q2]
 ·intro k o s n hk
  obtain ⟨p,p1,rfl,rfl,rfl⟩:=hget k o s n hk
  obtain ⟨h1,h2⟩:=h p (List.mem_of_getElem? p1)
  refine ⟨p.2,p.2,h1,by omega,by unfold aj;rw [List.getElem?_map,p1];rfl,rfl,rfl,fun i r r2 hr hr2=>?_⟩
  rw [Nat.zero_add,hr2] at hr
  cases hr
  exact CO (h2 _ (List.mem_of_getElem? hr2))
 ·intro k hk
  rw [List.getElem?_map,Option.map_eq_some_iff] at hk
  obtain ⟨p,_,h⟩:=hk
  cases h
def Ho (W : Jm) (σ : Store) (v y : V) : Prop:=v = .any ∨ qh W σ y v
theorem aen (W : Jm) (σ : Store) (y : V) : Ho W σ .any y = True:=eq_true (.inl rfl)
theorem aeo (W : Jm) (σ : Store) (q : IntKind) (a b : Int) : Ho W σ (.int q a) (.int q b) = (a = b):=by simp [Ho,qh]
theorem acu (W : Jm) (σ : Store) (a b : Bool) : Ho W σ (.bool a) (.bool b) = (a = b):=by simp [Ho,qh]
theorem Gi (W : Jm) (σ : Store) {y : V} (h : y.still = true) : Ho W σ y y:=.inr (vk h)
theorem ahy (W : Jm) (σ : Store) (sz : Nat) (rows : List (List V)) : Ho W σ (.sl sz rows) (.sl sz rows) = True:=eq_true (Gi W σ rfl)
theorem aep (W : Jm) (σ : Store) (a : List UInt8) : Ho W σ (.str a) (.str a) = True:=eq_true (Gi W σ rfl)
theorem Ap (W : Jm) (σ : Store) (sz : Nat) : Ho W σ (.sl sz []) .ak = True:=eq_true (.inr (by simp only [qh];exact .inr ⟨sz,rfl⟩))
theorem acv (W : Jm) (σ : Store) : Ho W σ .ak .ak = True:=eq_true (Gi W σ rfl)
theorem kS {W : Jm} {σ : Store} {k o l l' n : Nat} (h : W[k]? = some (some (o,0,n))) (hl : l ≤ n) (e : l' = l) : Ho W σ (.bC k 0 l') (.bC o 0 l) :=
 .inr (by simp only [qh];exact .inl ⟨k,0,n,h,Nat.le_refl _,by omega,by rw [e]⟩)
theorem fZ {W : Jm} {σ : Store} {k o r off n : Nat} (h : W[k]? = some (some (o,0,n))) (hl : r < n) : Ho W σ (.ptr k r off) (.ptr o r off) :=
 .inr (by simp only [qh];exact .inl ⟨k,0,n,h,Nat.zero_le _,by omega,by simp⟩)
theorem CP {W : Jm} {σ : Store} {o s l : Nat} {y : V} (h : resolve σ FD (.bC o s l) = some y) (hq : ∀ q,q ∈ reach σ FD (.bC o s l) → ∀ (k s0 l0 : Nat),W[k]? ≠ some (some (q,s0,l0))) : Ho W σ y (.bC o s l) :=
 .inr (by simp only [qh];exact .inr (.inr ⟨h,hq⟩))
theorem iQ {W : Jm} {σ : Store} {x y : V} (h : y.still = true) (e : x = y) : Ho W σ x y:=e ▸ Gi W σ (e ▸ h)
def AB (W : Jm) (σ : Store) : List V → Nat → (Nat → V) → Prop
 | [],_,_=>True
 | v :: vs,i,env=>Ho W σ v (env i) ∧ AB W σ vs (i + 1) env
theorem aer (W : Jm) (σ : Store) (i : Nat) (env : Nat → V) : AB W σ [] i env = True:=nr rfl
theorem aes (W : Jm) (σ : Store) (v : V) (vs : List V) (i : Nat) (env : Nat → V) : AB W σ (v :: vs) i env = (Ho W σ v (env i) ∧ AB W σ vs (i + 1) env):=nr rfl
theorem AB.at_ {W : Jm} {σ : Store} : ∀ {l : List V} {i : Nat} {env : Nat → V},AB W σ l i env → ∀ t,bF l t = .any ∨ qh W σ (env (i + t)) (bF l t)
 | [],_,_,_,t=>.inl rfl
 | v :: vs,i,env,h,0=>h.1
 |
  v :: vs,i,env,h,t + 1=>by
  have:=AB.at_ h.2 t
  rw [show i + 1 + t = i + (t + 1) by omega] at this
  exact this
theorem Qn (l : List (Nat × Obj)) {vs : List V} {env : Nat → V} {σ σ2 : Store} {b1 b2 : Nat} {r1 r2 m1 m2 : List Nat} (hn : (l.map (·.1)).Nodup)
  (h : ∀ p ∈ l,aj σ p.1 = some p.2 ∧ dR p.2.rows) (ho : σ2 = l.map fun p=>some p.2)
  (he : AB (l.map fun p=>some (p.1,0,p.2.rows.length)) σ vs 0 env) : Fg ⟨bF vs,σ2,0,b1,r1,m1⟩ ⟨env,σ,0,b2,r2,m2⟩:=by
 subst ho
 exact .re _ ⟨aem l hn h,rfl,fun i hi=>absurd hi (Nat.not_lt_zero _),fun t=>by have:=he.at_ t;rwa [Nat.zero_add] at this⟩
theorem ahz (t n : Nat) (rs : List Hg) (acc : List V) (st : St) (k : V → Prop) : Hl (.cell t n true :: rs) acc st k = dK (rowAt st.objs (st.env t)) fun p=>if p.2 + n ≤ p.1.length then yc (.agg ((p.1.drop p.2).take n)) fun v=>Hl rs (v :: acc) st k else False:=by
 simp only [Hl,Hg.get]
 cases e : rowAt st.objs (st.env t) with
 | none=>rfl
 |
  some p =>
  by_cases h : p.2 + n ≤ p.1.length
  ·simp only [dK,if_true,yc,gZ,if_pos h]
  ·simp only [dK,if_true,yc,gZ,if_neg h]
theorem ahA {c : Prop} [Decidable c] {α : Type} {a b : Option α} (h : c) : (if c then a else b) = a:=by rw [if_pos h]
def Gj (env : Nat → V) (sz : Nat) : List (List V) → List (Nat × Src) → (List (List V) → Prop) → Prop
 | rows,[],k=>k rows
 | rows,(i,s) :: rest,k=>iZ (s.ev env) fun cs=>(cs.length = sz ∧ i < rows.length) ∧ Gj env sz (rows.set i cs) rest k
@[congr] theorem anE {env : Nat → V} {sz : Nat} {r r' : List (List V)} {ps : List (Nat × Src)} {k : List (List V) → Prop} (h : wr r = r') : Gj env sz r ps k = Gj env sz r' ps k:=by rw [← h,gZ]
theorem aeu (env : Nat → V) (sz : Nat) (rows : List (List V)) (k : List (List V) → Prop) : Gj env sz rows [] k = k rows:=nr rfl
theorem aev (env : Nat → V) (sz : Nat) (r : List V) (rows : List (List V)) (i : Nat) (s : Src) (rest : List (Nat × Src)) (k : List (List V) → Prop) :
  Gj env sz (r :: rows) ((i,s) :: rest) k = iZ (s.ev env) fun cs=>(cs.length = sz ∧ i < (r :: rows).length) ∧ Gj env sz ((r :: rows).set i cs) rest k:=nr rfl
theorem Ug {env : Nat → V} {sz : Nat} : ∀ {ps : List (Nat × Src)} {rows : List (List V)} {k : List (List V) → Prop},dK (jV env sz rows ps) k = Gj env sz rows ps k
 | [],rows,k=>rfl
 |
  (i,s) :: rest,rows,k=>by
  simp only [jV,Gj,iZ]
  cases h : (s.ev env).cells? with
  | none=>rfl
  |
   some cs =>
   simp only [dK]
   by_cases hc : cs.length = sz ∧ i < rows.length
   ·rw [if_pos hc]
    simp only [hc,and_self,true_and]
    exact Ug
   ·rw [if_neg hc]
    simp only [hc,false_and]
theorem ahB (env : Nat → V) (σ : Store) (k : Eff → Prop) (sz : Nat) (z : List V) (n : Nat) (ps : List (Nat × Src)) : I.dV env σ (.dS sz z (n + 1) ps) k = Gj env sz (List.replicate (n + 1) z) ps fun rows=>k (.newS ⟨sz,rows⟩ (n + 1)):=by
 rw [akw,Ug]
 congr 1
theorem ahC (env : Nat → V) (σ : Store) (k : Eff → Prop) (sz : Nat) (z : List V) : I.dV env σ (.dS sz z 0 []) k = k (.val .ak):=nr rfl
def Lc (env : Nat → V) : List V → List (Nat × Nat × Src) → (List V → Prop) → Prop
 | row,[],k=>k row
 | row,(off,n,s) :: rest,k=>iZ (s.ev env) fun cs=>(cs.length = n ∧ off + n ≤ row.length) ∧ Lc env (splice row off cs) rest k
@[congr] theorem ao1 {env : Nat → V} {r r' : List V} {ps : List (Nat × Nat × Src)} {k : List V → Prop} (h : wr r = r') : Lc env r ps k = Lc env r' ps k:=by rw [← h,gZ]
theorem ahD (env : Nat → V) (row : List V) (k : List V → Prop) : Lc env row [] k = k row:=nr rfl
theorem ahE (env : Nat → V) (c : V) (row : List V) (off n : Nat) (s : Src) (rest : List (Nat × Nat × Src)) (k : List V → Prop) :
  Lc env (c :: row) ((off,n,s) :: rest) k = iZ (s.ev env) fun cs=>(cs.length = n ∧ off + n ≤ (c :: row).length) ∧ Lc env (splice (c :: row) off cs) rest k:=nr rfl
theorem Xu {env : Nat → V} : ∀ {ps : List (Nat × Nat × Src)} {row : List V} {k : List V → Prop},dK (uy env row ps) k = Lc env row ps k
 | [],row,k=>rfl
 |
  (off,n,s) :: rest,row,k=>by
  simp only [uy,Lc,iZ]
  cases h : (s.ev env).cells? with
  | none=>rfl
  |
   some cs =>
   simp only [dK]
   by_cases hc : cs.length = n ∧ off + n ≤ row.length
   ·rw [if_pos hc]
    simp only [hc,and_self,true_and]
    exact Xu
   ·rw [if_neg hc]
    simp only [hc,false_and]
theorem aew (env : Nat → V) (σ : Store) (k : Eff → Prop) (z : List V) (ps : List (Nat × Nat × Src)) : I.dV env σ (.build z ps) k = Lc env z ps fun cs=>yc (.agg cs) fun v=>k (.val v):=by
 rw [aha,Xu];rfl
def Zr : Option Src → (Nat → V) → Nat → (Nat → Prop) → Prop
 | none,_,n,k=>JX n k
 | some h,env,n,k=>jA n (h.ev env) k
def Zt : Option Src → (Nat → V) → Nat → (Nat → Prop) → Prop
 | none,_,_,k=>k 0
 | some h,env,n,k=>jA n (h.ev env) k
theorem ak2 (env : Nat → V) (n : Nat) (k : Nat → Prop) : Zr none env n k = JX n k:=nr rfl
theorem ak3 (h : Src) (env : Nat → V) (n : Nat) (k : Nat → Prop) : Zr (some h) env n k = jA n (h.ev env) k:=nr rfl
theorem ak4 (env : Nat → V) (n : Nat) (k : Nat → Prop) : Zt none env n k = k 0:=nr rfl
theorem ak5 (h : Src) (env : Nat → V) (n : Nat) (k : Nat → Prop) : Zt (some h) env n k = jA n (h.ev env) k:=nr rfl
@[congr] theorem arL {o : Option Src} {env : Nat → V} {n n' : Nat} {k : Nat → Prop} (h : wr n = n') : Zr o env n k = Zr o env n' k:=by rw [← h,gZ]
@[congr] theorem arM {o : Option Src} {env : Nat → V} {n n' : Nat} {k : Nat → Prop} (h : wr n = n') : Zt o env n k = Zt o env n' k:=by rw [← h,gZ]
theorem ahF (env : Nat → V) (σ : Store) (k : Eff → Prop) (sz : Nat) (x : Src) (lo hi : Option Src) : I.dV env σ (.slice sz x lo hi) k =
  dK (lenOf σ (x.ev env)) fun n=>Zr hi env n fun h=>Zt lo env h fun l=>slK (x.ev env) (yc .ak fun v=>k (.val v)) (fun sz' rows=>sz' = sz ∧ yc (.sl sz' ((rows.take h).drop l)) fun v=>k (.val v))
   (fun o s _=>dK (aj σ o) fun ob=>ob.sz = sz ∧ yc (.bC o (s + l) (h - l)) fun v=>k (.val v)):=by
 simp only [I.dV]
 congr 1
 funext n
 cases hi <;> cases lo <;> simp only [Zr,Zt,JX,yc] <;> (cases x.ev env <;> rfl)
theorem aex (env : Nat → V) (σ : Store) (k : Eff → Prop) (x : Src) (lo hi : Option Src) : I.dV env σ (.JI x lo hi) k =
  acs (x.ev env) fun s=>Zr hi env s.length fun h=>Zt lo env h fun l=>yc (.str ((s.take h).drop l)) fun v=>k (.val v):=by
 simp only [I.dV]
 cases x.ev env <;> first | rfl | (cases hi <;> cases lo <;> rfl)
theorem PF.lax {T : Tb} {f : Nat} {as as' : List V} {r r' : V} (h : PF T f as r) (ha : lW as as') (hr : bM r' r) : PF T f as' r':=Run.Y5 ha h hr
theorem ahG {T : Tb} {f : Nat} {as as' : List V} {k : V → Prop} {r : V} (h : PF T f as r) (ha : lW as as') (hk : k r) : PFK T f as' k:=⟨r,h.lax ha (aC r),hk⟩
def val : List Int → Nat
 | []=>0
 | d :: l=>d.toNat + 1000000000 * val l
def mk (n : Nat) : List Int:=if h : n = 0 then [] else ((n % 1000000000 : Nat) : Int) :: mk (n / 1000000000)
termination_by n
decreasing_by omega
def Lb (l : List Int) : Prop:=∀ d ∈ l,0 ≤ d ∧ d < 1000000000
theorem mk_zero : mk 0 = []:=by rw [mk];rfl
theorem mk_pos {n : Nat} (h : n ≠ 0) : mk n = ((n % 1000000000 : Nat) : Int) :: mk (n / 1000000000):=by rw [mk];rw [dif_neg h]
theorem val_mk (n : Nat) : val (mk n) = n:=by
 induction n using Nat.strongRecOn with
 |
  ind n ih =>
  by_cases h : n = 0
  ·subst h;rw [mk_zero];rfl
  ·rw [mk_pos h]
   simp only [val]
   rw [ih _ (by omega),Int.toNat_natCast]
   omega
theorem kH (n : Nat) : Lb (mk n):=by
 induction n using Nat.strongRecOn with
 |
  ind n ih =>
  by_cases h : n = 0
  ·subst h;rw [mk_zero];intro d hd;cases hd
  ·rw [mk_pos h]
   intro d hd
   rcases List.mem_cons.1 hd with rfl | hd
   ·omega
   ·exact ih _ (by omega) d hd
theorem val_append (a b : List Int) : val (a ++ b) = val a + 1000000000 ^ a.length * val b:=by
 induction a with
 | nil=>simp [val]
 |
  cons d a ih =>
  simp only [List.cons_append,val,ih,List.length_cons,Nat.pow_succ,Nat.mul_add]
  rw [Nat.mul_comm (1000000000 ^ a.length) 1000000000,Nat.mul_assoc]
  omega
theorem pG {l : List Int} (h : Lb l) : val l < 1000000000 ^ l.length:=by
 induction l with
 | nil=>simp [val]
 |
  cons d l ih =>
  have h1:=h d (by simp)
  have h2:=ih fun x hx=>h x (by simp [hx])
  simp only [val,List.length_cons,Nat.pow_succ]
  have : d.toNat < 1000000000:=by omega
  generalize 1000000000 ^ l.length = p at *
  omega
theorem Qo (n : Nat) : ∀ (l : List Int),Lb l → val l = n → n ≠ 0 → l.getLast? ≠ some 0 → mk n = l:=by
 induction n using Nat.strongRecOn with
 |
  ind n ih =>
  intro l hl hv hn ht
  cases l with
  | nil=>simp [val] at hv;omega
  |
   cons d l =>
   have hd:=hl d (by simp)
   have hl' : Lb l:=fun x hx=>hl x (by simp [hx])
   simp only [val] at hv
   rw [mk_pos hn]
   have e1 : ((n % 1000000000 : Nat) : Int) = d:=by omega
   have e2 : n / 1000000000 = val l:=by omega
   rw [e1,e2]
   congr 1
   by_cases h0 : val l = 0
   ·rw [h0,mk_zero]
    have hz : ∀ (l : List Int),Lb l → val l = 0 → ∀ x ∈ l,x = 0:=by
     intro l
     induction l with
     | nil=>intro _ _ x hx;cases hx
     |
      cons y l ih2 =>
      intro hl hv x hx
      simp only [val] at hv
      have hy:=hl y (by simp)
      rcases List.mem_cons.1 hx with rfl | hx
      ·omega
      ·exact ih2 (fun z hz=>hl z (by simp [hz])) (by omega) x hx
    cases l with
    | nil=>rfl
    |
     cons y l =>
     exfalso
     apply ht
     have hlast : (d :: y :: l).getLast? = some ((y :: l).getLast (by simp)):=by
      rw [List.getLast?_cons_cons,List.getLast?_eq_some_getLast (by simp)]
     rw [hlast]
     congr 1
     exact hz _ hl' h0 _ (List.getLast_mem _)
   ·refine ih (val l) (by omega) l hl' rfl h0 ?_
    cases l with
    | nil=>simp [val] at h0
    | cons y l=>rwa [List.getLast?_cons_cons] at ht
def Can (l : List Int) : Prop:=Lb l ∧ l.getLast? ≠ some 0
theorem mk_val {l : List Int} (h : Can l) : mk (val l) = l:=by
 by_cases h0 : val l = 0
 ·rw [h0,mk_zero]
  cases l with
  | nil=>rfl
  |
   cons d l =>
   exfalso
   apply h.2
   have hz : ∀ (l : List Int),Lb l → val l = 0 → ∀ x ∈ l,x = 0:=by
    intro l
    induction l with
    | nil=>intro _ _ x hx;cases hx
    |
     cons y l ih2 =>
     intro hl hv x hx
     simp only [val] at hv
     have hy:=hl y (by simp)
     rcases List.mem_cons.1 hx with rfl | hx
     ·omega
     ·exact ih2 (fun z hz=>hl z (by simp [hz])) (by omega) x hx
   rw [List.getLast?_eq_some_getLast (by simp)]
   congr 1
   exact hz _ h.1 h0 _ (List.getLast_mem _)
 ·exact Qo _ l h.1 rfl h0 h.2
theorem lD (n : Nat) : Can (mk n):=by
 refine ⟨kH n,?_⟩
 induction n using Nat.strongRecOn with
 |
  ind n ih =>
  by_cases h : n = 0
  ·subst h;rw [mk_zero];simp
  ·rw [mk_pos h]
   by_cases h1 : n / 1000000000 = 0
   ·rw [h1,mk_zero]
    simp
    omega
   ·rw [mk_pos h1,List.getLast?_cons_cons,← mk_pos h1]
    exact ih _ (by omega)
theorem aZ {n k : Nat} : (mk n).length ≤ k ↔ n < 1000000000 ^ k:=by
 constructor
 ·intro h
  have h1:=pG (kH n)
  rw [val_mk] at h1
  exact Nat.lt_of_lt_of_le h1 (Nat.pow_le_pow_right (by omega) h)
 ·induction k generalizing n with
  | zero =>
       intro h;have : n = 0:=by simpa using h
       subst this;rw [mk_zero];simp
  |
   succ k ih =>
   intro h
   by_cases h0 : n = 0
   ·subst h0;rw [mk_zero];simp
   ·rw [mk_pos h0,List.length_cons]
    have : n / 1000000000 < 1000000000 ^ k:=by
     rw [Nat.pow_succ,Nat.mul_comm] at h
     exact Nat.div_lt_of_lt_mul h
    have:=ih this
    omega
theorem Uh {n k : Nat} : k < (mk n).length ↔ 1000000000 ^ k ≤ n:=by
 have:=@aZ n k
 omega
theorem aey {n : Nat} : mk n = [] ↔ n = 0:=by
 constructor
 ·intro h;have:=val_mk n;rw [h] at this;simpa [val] using this.symm
 ·rintro rfl;exact mk_zero
theorem aez {n : Nat} (h : n ≠ 0) : 0 < (mk n).length:=by
 rw [mk_pos h];simp
theorem acw {l : List Int} (h : Lb l) (hv : l ≠ [] → 1000000000 ^ (l.length - 1) ≤ val l) : Can l:=by
 refine ⟨h,fun ht=>?_⟩
 cases hl : l with
 | nil=>rw [hl] at ht;simp at ht
 |
  cons d r =>
  have hne : l ≠ []:=by rw [hl];simp
  have h1:=hv hne
  have h2 : l = l.dropLast ++ [0]:=by
   have:=List.dropLast_concat_getLast hne
   rw [List.getLast?_eq_some_getLast hne] at ht
   rw [Option.some.inj ht] at this
   exact this.symm
  have h3 : Lb l.dropLast:=fun x hx=>h x (List.dropLast_subset _ hx)
  have h4:=pG h3
  rw [h2,val_append] at h1
  simp only [val,List.length_append,List.length_cons,List.length_nil,List.length_dropLast] at h1 h4
  simp at h1
  omega
def ni (l : List Int) : Nat → Nat
 | 0=>0
 | n + 1=>if l.getD n 0 = 0 then ni l n else n + 1
def trim (l : List Int) : List Int:=l.take (ni l l.length)
theorem Xv (l : List Int) : ∀ n,ni l n ≤ n
 | 0=>Nat.le_refl _
 | n + 1=>by simp only [ni];split;exact Nat.le_succ_of_le (Xv l n);exact Nat.le_refl _
theorem dU {l : List Int} {n : Nat} (h : n < l.length) : l.take (n + 1) = l.take n ++ [l.getD n 0]:=by
 rw [List.take_add_one]
 simp [List.getD_eq_getElem?_getD,h]
theorem Ui (l : List Int) : ∀ n,n ≤ l.length → val (l.take (ni l n)) = val (l.take n) ∧ (l.take (ni l n)).getLast? ≠ some 0
 | 0,_=>by simp [ni]
 |
  n + 1,h=>by
  simp only [ni]
  obtain ⟨h1,h2⟩:=Ui l n (by omega)
  split
  ·rename_i h0
   refine ⟨?_,h2⟩
   rw [h1,dU (by omega),h0,val_append]
   simp [val]
  ·rename_i h0
   refine ⟨rfl,?_⟩
   rw [dU (by omega)]
   simp only [List.getLast?_append,List.getLast?_singleton,Option.some_or,ne_eq,Option.some.injEq]
   exact h0
theorem Va {l : List Int} (h : Lb l) (n : Nat) : Lb (l.take n):=fun x hx=>h x (List.mem_of_mem_take hx)
theorem uz {l : List Int} (h : Lb l) : trim l = mk (val l):=by
 obtain ⟨h1,h2⟩:=Ui l l.length (Nat.le_refl _)
 rw [List.take_length] at h1
 have hc : Can (trim l):=⟨Va h _,h2⟩
 rw [← h1]
 exact (mk_val hc).symm
theorem Qp {l : List Int} (h : Can l) : trim l = l:=by rw [uz h.1,mk_val h]
theorem Zu : Lb []:=fun x hx=>by cases hx
theorem Vb {d : Int} {l : List Int} (h0 : 0 ≤ d) (h1 : d < 1000000000) (h : Lb l) : Lb (l ++ [d]):=by
 intro x hx
 rcases List.mem_append.1 hx with hx | hx
 ·exact h x hx
 ·simp at hx;subst hx;exact ⟨h0,h1⟩
theorem Gl {l : List Int} {d : Int} {i : Nat} (h0 : 0 ≤ d) (h1 : d < 1000000000) (h : Lb l) : Lb (l.set i d):=by
 intro x hx
 rcases List.mem_or_eq_of_mem_set hx with hx | rfl
 ·exact h x hx
 ·exact ⟨h0,h1⟩
theorem kJ {l : List Int} (h : Lb l) (i : Nat) : 0 ≤ l.getD i 0 ∧ l.getD i 0 < 1000000000:=by
 by_cases hi : i < l.length
 ·rw [List.getD_eq_getElem?_getD,List.getElem?_eq_getElem hi]
  exact h _ (List.getElem_mem _)
 ·rw [List.getD_eq_getElem?_getD,List.getElem?_eq_none (by omega)];simp
theorem JY (n : Nat) : Lb (List.replicate n 0):=by
 intro x hx
 have:=List.eq_of_mem_replicate hx
 subst this;omega
theorem nV (l : List Int) (d : Int) : val (l ++ [d]) = val l + 1000000000 ^ l.length * d.toNat:=by
 rw [val_append];simp [val]
theorem aeA {l : List Int} {i : Nat} (h : i < l.length) : val (l.drop i) = (l.getD i 0).toNat + 1000000000 * val (l.drop (i + 1)):=by
 rw [List.drop_eq_getElem_cons h]
 simp [val,List.getD_eq_getElem?_getD,h]
theorem bV {l : List Int} {i : Nat} (h : l.length ≤ i) : val (l.drop i) = 0:=by
 rw [List.drop_eq_nil_of_le h];rfl
theorem sN (l : List Int) (i : Nat) : val l = val (l.take i) + 1000000000 ^ (l.take i).length * val (l.drop i):=by
 rw [← val_append,List.take_append_drop]
theorem aa9 (n : Nat) : val (List.replicate n 0) = 0:=by
 induction n with
 | zero=>rfl
 | succ n ih=>simp [List.replicate_succ,val,ih]
theorem O8 {l : List Int} {i : Nat} {d : Int} (h : i < l.length) : val (l.set i d) + 1000000000 ^ i * (l.getD i 0).toNat = val l + 1000000000 ^ i * d.toNat:=by
 induction l generalizing i with
 | nil=>simp at h
 |
  cons x l ih =>
  cases i with
  | zero=>simp [val];omega
  |
   succ i =>
   have:=ih (i:=i) (by simpa using h)
   simp only [List.set_cons_succ,val,Nat.pow_succ]
   have e : (x :: l).getD (i + 1) 0 = l.getD i 0:=by simp
   rw [e]
   have e1 : ∀ z,1000000000 ^ i * 1000000000 * z = 1000000000 * (1000000000 ^ i * z):=fun z=>by rw [Nat.mul_comm (1000000000 ^ i) 1000000000,Nat.mul_assoc]
   rw [e1,e1]
   generalize 1000000000 ^ i * (l.getD i 0).toNat = p at *
   generalize 1000000000 ^ i * d.toNat = q at *
   omega
def Fe (a b : Nat) : Int:=if a < b then -1 else if b < a then 1 else 0
theorem val_last {l : List Int} {n : Nat} (h : n < l.length) : val (l.take (n + 1)) = val (l.take n) + 1000000000 ^ n * (l.getD n 0).toNat:=by
 have e : (l.take n).length = n:=by simp;omega
 rw [dU h,nV,e]
theorem Zv {l : List Int} (h : Can l) (hne : l ≠ []) : 1000000000 ^ (l.length - 1) ≤ val l:=by
 have h1:=@Uh (val l) (l.length - 1)
 rw [mk_val h] at h1
 apply h1.1
 have : l.length ≠ 0:=fun e=>hne (List.eq_nil_of_length_eq_zero e)
 omega
theorem oq {a b : List Int} (ha : Lb a) (hb : Can b) (h : a.length < b.length) : val a < val b:=by
 have h1:=pG ha
 have hne : b ≠ []:=by intro e;subst e;simp at h
 have h2:=Zv hb hne
 exact Nat.lt_of_lt_of_le h1 (Nat.le_trans (Nat.pow_le_pow_right (by omega) (by omega)) h2)
theorem I8 {a b : List Int} (ha : Lb a) (hb : Lb b) {i : Nat} (hia : i < a.length) (hib : i < b.length) (hd : a.drop (i + 1) = b.drop (i + 1)) (hlt : a.getD i 0 < b.getD i 0) : val a < val b:=by
 rw [sN a (i + 1),sN b (i + 1),hd,val_last hia,val_last hib]
 have h1:=pG (Va ha i)
 have e1 : (a.take (i + 1)).length = i + 1:=by simp;omega
 have e2 : (b.take (i + 1)).length = i + 1:=by simp;omega
 have e3 : (a.take i).length = i:=by simp;omega
 rw [e1,e2]
 rw [e3] at h1
 have h2:=kJ ha i
 have h3:=kJ hb i
 have : 1000000000 ^ i * (a.getD i 0).toNat + 1000000000 ^ i ≤ 1000000000 ^ i * (b.getD i 0).toNat:=by
  rw [← Nat.mul_succ]
  exact Nat.mul_le_mul_left _ (by omega)
 omega
structure R where
 neg : Bool
 mag : List Int
 den : List Int
 deriving DecidableEq
instance : Inhabited R:=⟨⟨false,[],[]⟩⟩
def fits (q : Rat) : Bool:=decide (q.num.natAbs < 1000000000 ^ 24) && decide (q.den < 1000000000 ^ 24)
abbrev Q:=Option Rat
def norm (q : Rat) : Q:=if fits q = true then some q else none
def Q.raw : Q → R
 | none=>⟨false,[],[]⟩
 | some q=>⟨decide (q.num < 0),mk q.num.natAbs,mk q.den⟩
def Q.ok : Q → Prop
 | none=>True
 | some q=>fits q = true
theorem Vd (q : Rat) : (norm q).ok:=by
 unfold norm
 split
 ·assumption
 ·trivial
theorem Uj {q : Rat} (h : fits q = true) : norm q = some q:=by unfold norm;rw [if_pos h]
theorem Uk {q : Rat} (h : fits q = false) : norm q = none:=by unfold norm;rw [if_neg (by simp [h])]
def negQ : Q → Q
 | some a=>some (-a)
 | none=>none
def JZ : Q → Q → Q
 | some a,some b=>norm (a + b)
 | _,_=>none
def aeB (a b : Q) : Q:=JZ a (negQ b)
def Qq : Q → Q → Q
 | some a,some b=>norm (a * b)
 | _,_=>none
def Qr : Q → Q → Q
 | some a,some b=>if b = 0 then none else norm (a / b)
 | _,_=>none
def KN (n d : Int) : Q:=if d = 0 then none else norm (Rat.divInt n d)
def sgn (n : Int) : Int:=if n < 0 then -1 else if n = 0 then 0 else 1
def l7 : Q → Int
 | some a=>sgn a.num
 | none=>0
def ao2 (n : Int) : Q:=some (n : Rat)
theorem Ve {a : Q} (h : a.ok) : (negQ a).ok:=by
 cases a with
 | none=>trivial
 |
  some a =>
  simp only [negQ,Q.ok,fits,Rat.neg_num,Rat.neg_den,Int.natAbs_neg] at h ⊢
  exact h
theorem Vf (a b : Q) : (JZ a b).ok:=by
 unfold JZ;split <;> first | exact Vd _ | trivial
theorem ahI (a b : Q) : (aeB a b).ok:=Vf _ _
theorem ahJ (a b : Q) : (Qq a b).ok:=by
 unfold Qq;split <;> first | exact Vd _ | trivial
theorem ahK (a b : Q) : (Qr a b).ok:=by
 unfold Qr;split <;> first | (split <;> first | exact Vd _ | trivial) | trivial
theorem ahL {n : Int} (h : n.natAbs < 1000000000 ^ 24) : (ao2 n).ok:=by
 have h1 : decide (n.natAbs < 1000000000 ^ 24) = true:=decide_eq_true h
 show (decide ((n : Rat).num.natAbs < 1000000000 ^ 24) && decide ((n : Rat).den < 1000000000 ^ 24)) = true
 rw [Rat.num_intCast,Rat.den_intCast,h1]
 rfl
theorem Vg (a b : Rat) : KN (a.num * b.den + b.num * a.den) (a.den * b.den) = norm (a + b):=by
 have ha:=a.den_nz
 have hb:=b.den_nz
 have h0 : (a.den : Int) * b.den ≠ 0:=by
  intro h
  rcases Int.mul_eq_zero.1 h with h | h <;> omega
 unfold KN
 rw [if_neg h0,Rat.add_def',← Rat.divInt_ofNat]
 simp
theorem Vh (a b : Rat) : KN (a.num * b.num) (a.den * b.den) = norm (a * b):=by
 have ha:=a.den_nz
 have hb:=b.den_nz
 have h0 : (a.den : Int) * b.den ≠ 0:=by
  intro h
  rcases Int.mul_eq_zero.1 h with h | h <;> omega
 unfold KN
 rw [if_neg h0,Rat.mul_def',← Rat.divInt_ofNat]
 simp
theorem Vj (a b : Rat) : KN (a.num * b.den) (b.num * a.den) = if b = 0 then none else norm (a / b):=by
 have ha:=a.den_nz
 have hb:=b.den_nz
 unfold KN
 by_cases h : b = 0
 ·subst h;simp
 ·have hn : b.num ≠ 0:=fun k=>h (Rat.num_eq_zero.1 k)
  have h0 : b.num * (a.den : Int) ≠ 0:=by
   intro h
   rcases Int.mul_eq_zero.1 h with h | h <;> omega
  rw [if_neg h0,if_neg h,Rat.div_def,Rat.inv_def]
  congr 1
  conv=>rhs;lhs;rw [← Rat.num_divInt_den a]
  rw [Rat.divInt_mul_divInt,Int.mul_comm b.num]
theorem Zw {n d : Int} (h : d ≠ 0) : (Rat.divInt n d).num.natAbs = n.natAbs / Nat.gcd n.natAbs d.natAbs ∧ (Rat.divInt n d).den = d.natAbs / Nat.gcd n.natAbs d.natAbs ∧
  (decide ((Rat.divInt n d).num < 0) = (decide (n ≠ 0) && (decide (n < 0) != decide (d < 0)))):=by
 have hg : d.gcd n = Nat.gcd n.natAbs d.natAbs:=by rw [Int.gcd_comm];rfl
 have ao3 : 0 < Nat.gcd n.natAbs d.natAbs:=Nat.gcd_pos_of_pos_right _ (by omega)
 have hdvd : ((Nat.gcd n.natAbs d.natAbs : Nat) : Int) ∣ d.sign * n:=by
  have : ((Nat.gcd n.natAbs d.natAbs : Nat) : Int) ∣ n:=Int.ofNat_dvd_left.2 (Nat.gcd_dvd_left _ _)
  exact Int.dvd_trans this (Int.dvd_mul_left _ _)
 rw [Rat.num_divInt,Rat.den_divInt,if_neg h,hg]
 obtain ⟨c,hc⟩:=hdvd
 have hsg : d.sign = 1 ∨ d.sign = -1:=by
  rcases Int.lt_trichotomy d 0 with h1 | h1 | h1
  ·right;exact Int.sign_eq_neg_one_of_neg h1
  ·exact absurd h1 h
  ·left;exact Int.sign_eq_one_of_pos h1
 refine ⟨?_,rfl,?_⟩
 ·rw [hc,Int.mul_ediv_cancel_left _ (by omega)]
  have h1 : (d.sign * n).natAbs = n.natAbs:=by
   rcases hsg with e | e <;> rw [e] <;> simp
  have h2 : n.natAbs = Nat.gcd n.natAbs d.natAbs * c.natAbs:=by
   have h3:=congrArg Int.natAbs hc
   rw [h1,Int.natAbs_mul,Int.natAbs_natCast] at h3
   exact h3
  generalize hG : Nat.gcd n.natAbs d.natAbs = G at *
  rw [h2,Nat.mul_div_cancel_left _ ao3]
 ·rw [hc,Int.mul_ediv_cancel_left _ (by omega)]
  have hcn : (c < 0) ↔ (d.sign * n < 0):=by
   rw [hc]
   constructor
   ·intro hlt;exact Int.mul_neg_of_pos_of_neg (by omega) hlt
   ·intro hlt
    by_cases k : c < 0
    ·exact k
    ·have k : 0 ≤ c:=by omega
     have:=Int.mul_nonneg (by omega : (0 : Int) ≤ ((Nat.gcd n.natAbs d.natAbs : Nat) : Int)) k
     omega
  rcases Int.lt_trichotomy d 0 with h1 | h1 | h1
  ·rw [Int.sign_eq_neg_one_of_neg h1] at hcn
   have e1 : decide (d < 0) = true:=by simpa using h1
   rw [e1]
   by_cases hn : n < 0
   ·have : ¬ c < 0:=by rw [hcn];omega
    simp [hn,this]
   ·by_cases hn0 : n = 0
    ·have : ¬ c < 0:=by rw [hcn];omega
     simp [hn0,this]
    ·have : c < 0:=by rw [hcn];omega
     simp [hn,hn0,this]
  ·exact absurd h1 h
  ·rw [Int.sign_eq_one_of_pos h1] at hcn
   have e1 : decide (d < 0) = false:=by simp;omega
   rw [e1]
   by_cases hn : n < 0
   ·have : c < 0:=by rw [hcn];omega
    have h2 : n ≠ 0:=by omega
    simp [hn,this,h2]
   ·have : ¬ c < 0:=by rw [hcn];omega
    simp [hn,this]
def nX (a : List Int) : Bool:=decide (a.length ≤ 60) && a.all (fun d=>decide (0 ≤ d) && decide (d < 1000000000)) && (a.isEmpty || decide (a.getD (a.length - 1) 0 ≠ 0))
theorem I9 {a : List Int} : nX a = true ↔ a.length ≤ 60 ∧ Can a:=by
 unfold nX Can Lb
 simp only [Bool.and_eq_true,decide_eq_true_eq,List.all_eq_true,Bool.or_eq_true,List.isEmpty_iff]
 have h : (a = [] ∨ a.getD (a.length - 1) 0 ≠ 0) ↔ a.getLast? ≠ some 0:=by
  cases a with
  | nil=>simp
  |
   cons d l =>
   rw [List.getLast?_eq_getElem?,List.getD_eq_getElem?_getD]
   simp
 rw [h,and_assoc]
theorem Fh {a : List Int} (h : nX a = true) : a = mk (val a):=(mk_val (I9.1 h).2).symm
theorem Qs {n : Nat} (h : n < 1000000000 ^ 60) : nX (mk n) = true:=I9.2 ⟨aZ.2 h,lD n⟩
def R.ok (r : R) : Bool:=nX r.mag && (!(r.neg && r.mag.isEmpty)) && nX r.den && !r.den.isEmpty && decide (r.mag.length ≤ 24) && decide (r.den.length ≤ 24) &&
 decide (Nat.gcd (val r.mag) (val r.den) = 1)
theorem ak6 {q : Rat} (h : fits q = true) : (Q.raw (some q)).ok = true:=by
 simp only [fits,Bool.and_eq_true,decide_eq_true_eq] at h
 obtain ⟨h1,h2⟩:=h
 have p : (1000000000 : Nat) ^ 24 ≤ 1000000000 ^ 60:=Nat.pow_le_pow_right (by omega) (by omega)
 unfold R.ok Q.raw
 simp only [Bool.and_eq_true,decide_eq_true_eq,Bool.not_eq_true',Bool.and_eq_false_iff,List.isEmpty_eq_false_iff,val_mk]
 refine ⟨⟨⟨⟨⟨⟨Qs (by omega),?_⟩,Qs (by omega)⟩,?_⟩,aZ.2 h1⟩,aZ.2 h2⟩,q.reduced⟩
 ·by_cases h0 : q.num < 0
  ·right;intro e;rw [aey] at e;omega
  ·left;exact decide_eq_false h0
 ·intro e;rw [aey] at e;exact q.den_nz e
theorem yD {r : R} (h : r.ok = true) : ∃ q : Rat,fits q = true ∧ r = Q.raw (some q):=by
 obtain ⟨neg,mag,den⟩:=r
 unfold R.ok at h
 simp only [Bool.and_eq_true,decide_eq_true_eq,Bool.not_eq_true',Bool.and_eq_false_iff,List.isEmpty_eq_false_iff] at h
 obtain ⟨⟨⟨⟨⟨⟨h1,h2⟩,h3⟩,h4⟩,h5⟩,h6⟩,h7⟩:=h
 have em:=Fh h1
 have ed:=Fh h3
 have hdn : val den ≠ 0:=by intro e;rw [e,mk_zero] at ed;exact h4 ed
 refine ⟨⟨if neg then -(val mag : Int) else val mag,val den,hdn,?_⟩,?_,?_⟩
 ·unfold Nat.Coprime
  cases neg <;> simpa using h7
 ·simp only [fits,Bool.and_eq_true,decide_eq_true_eq]
  rw [em] at h5
  rw [ed] at h6
  rw [aZ] at h5 h6
  refine ⟨?_,h6⟩
  cases neg <;> simpa using h5
 ·simp only [Q.raw,R.mk.injEq]
  refine ⟨?_,?_,ed⟩
  ·cases neg with
   | false=>simp
   |
    true =>
    simp only [if_true]
    rcases h2 with h2 | h2
    ·cases h2
    ·have : val mag ≠ 0:=by intro e;rw [e,mk_zero] at em;exact h2 em
     simp;omega
  ·have : (if neg = true then -(val mag : Int) else (val mag : Int)).natAbs = val mag:=by cases neg <;> simp
   rw [this];exact em
theorem Xw : (Q.raw none).ok = false:=by decide
def R.q (r : R) : Q:=if r.ok = true then some (mkRat (if r.neg then -(val r.mag : Int) else val r.mag) (val r.den)) else none
theorem CQ {q : Q} (h : q.ok) : (Q.raw q).q = q:=by
 cases q with
 | none=>unfold R.q;rw [Xw];rfl
 |
  some q =>
  have h' : fits q = true:=h
  unfold R.q
  rw [if_pos (ak6 h')]
  congr 1
  simp only [Q.raw,val_mk]
  have : (if decide (q.num < 0) = true then -(q.num.natAbs : Int) else (q.num.natAbs : Int)) = q.num:=by
   split
   ·rename_i h;have h:=of_decide_eq_true h;omega
   ·rename_i h;have h : ¬ q.num < 0:=fun k=>h (decide_eq_true k);omega
  rw [this,Rat.mkRat_self]
theorem Ik (r : R) : r.q.ok:=by
 by_cases h : r.ok = true
 ·obtain ⟨q,h1,rfl⟩:=yD h
  rw [CQ (q:=some q) h1];exact h1
 ·unfold R.q;rw [if_neg h];trivial
theorem ao4 {r : R} (h : r.ok = true) : Q.raw r.q = r:=by
 obtain ⟨q,h1,rfl⟩:=yD h
 rw [CQ (q:=some q) h1]
theorem Zx {r : R} : r.q.isSome = r.ok:=by
 unfold R.q;split <;> simp_all
abbrev iv (n : Int) : V:=.int .i64 n
structure Lk where
 a : Int
 b : Int
 w : R
 dx : R
 dy : R
 deriving Inhabited,DecidableEq
structure Pt where
 x : R
 y : R
 deriving Inhabited,DecidableEq
structure Pa where
 node : Int
 share : R
 dx : R
 dy : R
 deriving Inhabited,DecidableEq
structure Cd where
 node : Int
 total : R
 ps : List Pa
 deriving Inhabited,DecidableEq
structure Tn where
 node : Int
 up : Int
 own : List Lk
 cond : Cd
 msgs : List Lk
 AL : R
 deriving Inhabited,DecidableEq
structure Po where
 turn : Int
 x : Int
 y : Int
 deriving Inhabited,DecidableEq
structure Bi where
 neg : Bool
 mag : List Int
 deriving Inhabited,DecidableEq
abbrev R.num (r : R) : Bi:=⟨r.neg,r.mag⟩
abbrev Bi.cells (z : Bi) : List V:=[.bool z.neg,ints z.mag]
abbrev R.cells (r : R) : List V:=[.bool r.neg,ints r.mag,ints r.den]
abbrev Lk.cells (l : Lk) : List V:=[iv l.a,iv l.b,.bool l.w.neg,ints l.w.mag,ints l.w.den,.bool l.dx.neg,ints l.dx.mag,ints l.dx.den,.bool l.dy.neg,ints l.dy.mag,ints l.dy.den]
abbrev Pt.cells (p : Pt) : List V:=[.bool p.x.neg,ints p.x.mag,ints p.x.den,.bool p.y.neg,ints p.y.mag,ints p.y.den]
abbrev Pa.cells (p : Pa) : List V:=[iv p.node,.bool p.share.neg,ints p.share.mag,ints p.share.den,.bool p.dx.neg,ints p.dx.mag,ints p.dx.den,.bool p.dy.neg,ints p.dy.mag,ints p.dy.den]
abbrev kK (l : List Pa) : V:=.sl 10 (l.map Pa.cells)
abbrev bf (l : List Lk) : V:=.sl 11 (l.map Lk.cells)
abbrev CS (l : List R) : V:=.sl 3 (l.map R.cells)
abbrev Cd.cells (c : Cd) : List V:=[iv c.node,.bool c.total.neg,ints c.total.mag,ints c.total.den,kK c.ps]
abbrev Bz (l : List Cd) : V:=.sl 5 (l.map Cd.cells)
abbrev Tn.cells (t : Tn) : List V:=[iv t.node,iv t.up,bf t.own,iv t.cond.node,.bool t.cond.total.neg,ints t.cond.total.mag,ints t.cond.total.den,kK t.cond.ps,bf t.msgs,
 .bool t.AL.neg,ints t.AL.mag,ints t.AL.den]
abbrev atT (l : List Tn) : V:=.sl 12 (l.map Tn.cells)
abbrev J3 (l : List (List R)) : V:=.sl 1 (l.map fun r=>[CS r])
abbrev Po.cells (p : Po) : List V:=[iv p.turn,iv p.x,iv p.y]
abbrev aU (r : R) : V:=.agg r.cells
abbrev Il (z : Bi) : V:=.agg z.cells
abbrev KO (l : Lk) : V:=.agg l.cells
abbrev paV (p : Pa) : V:=.agg p.cells
abbrev KP (c : Cd) : V:=.agg c.cells
theorem mg {α : Type} [Inhabited α] {l : List α} {f : α → List V} {j : Nat} (h : j < l.length) : (l.map f).getD j [] = f (l.getD j default):=by
 simp [List.getD_eq_getElem?_getD,List.getElem?_eq_getElem h]
theorem mg? {α : Type} [Inhabited α] {l : List α} {f : α → List V} {j : Nat} (h : j < l.length) : (l.map f)[j]? = some (f (l.getD j default)):=by
 simp [List.getD_eq_getElem?_getD,List.getElem?_eq_getElem h]
theorem R.ext' {p q : R} (h1 : p.neg = q.neg) (h2 : p.mag = q.mag) (h3 : p.den = q.den) : p = q:=by cases p;cases q;simp_all
theorem Pt.ext' {p q : Pt} (h1 : p.x = q.x) (h2 : p.y = q.y) : p = q:=by cases p;cases q;simp_all
theorem Lk.ext' {p q : Lk} (h1 : p.a = q.a) (h2 : p.b = q.b) (h3 : p.w = q.w) (h4 : p.dx = q.dx) (h5 : p.dy = q.dy) : p = q:=by cases p;cases q;simp_all
theorem Pa.ext' {p q : Pa} (h1 : p.node = q.node) (h2 : p.share = q.share) (h3 : p.dx = q.dx) (h4 : p.dy = q.dy) : p = q:=by cases p;cases q;simp_all
theorem Cd.ext' {p q : Cd} (h1 : p.node = q.node) (h2 : p.total = q.total) (h3 : p.ps = q.ps) : p = q:=by cases p;cases q;simp_all
theorem Tn.ext' {p q : Tn} (h1 : p.node = q.node) (h2 : p.up = q.up) (h3 : p.own = q.own) (h4 : p.cond = q.cond) (h5 : p.msgs = q.msgs) (h6 : p.AL = q.AL) : p = q:=by cases p;cases q;simp_all
def szr (left : Int) (n : Nat) : Int:=if left < n then -1 else left - n
theorem O9 {left : Int} {n : Nat} (h : szr left n < 0) (h0 : 0 ≤ left) (m : Nat) : szr left (n + m) = -1:=by
 unfold szr at h ⊢
 split at h
 ·rw [if_pos (by omega)]
 ·omega
theorem Vk {left : Int} {n : Nat} (h : ¬ szr left n < 0) (m : Nat) : szr (szr left n) m = szr left (n + m):=by
 unfold szr at h ⊢
 split at h
 ·omega
 ·rename_i k
  rw [if_neg k]
  by_cases e : left < ((n + m : Nat) : Int)
  ·rw [if_pos (by omega),if_pos e]
  ·rw [if_neg (by omega),if_neg e];omega
theorem Qu {left : Int} {n : Nat} : szr left n ≤ left ∨ szr left n = -1:=by
 unfold szr;split <;> omega
def sumTo {α : Type} (f : α → Nat) (l : List α) (i : Nat) : Nat:=((l.take i).map f).sum
theorem Qv {α : Type} (f : α → Nat) (l : List α) : sumTo f l 0 = 0:=by simp [sumTo]
theorem J4 {α : Type} [Inhabited α] (f : α → Nat) {l : List α} {i : Nat} (h : i < l.length) : sumTo f l (i + 1) = sumTo f l i + f (l.getD i default):=by
 unfold sumTo
 rw [List.take_add_one,List.getElem?_eq_getElem h,List.getD_eq_getElem?_getD,List.getElem?_eq_getElem h]
 simp only [Option.toList,Option.getD,List.map_append,List.map_cons,List.map_nil,List.sum_append,List.sum_cons,List.sum_nil,Nat.add_zero]
theorem acy {α : Type} (f : α → Nat) (l : List α) : sumTo f l l.length = (l.map f).sum:=by simp [sumTo]
theorem sumTo_le {α : Type} (f : α → Nat) (l : List α) (i : Nat) : sumTo f l i ≤ (l.map f).sum:=by
 unfold sumTo
 conv=>rhs;rw [← List.take_append_drop i l]
 rw [List.map_append,List.sum_append]
 omega
theorem Qw {α : Type} [Inhabited α] (f : α → Nat) {l : List α} {i : Nat} (h : i < l.length) : sumTo f l i + f (l.getD i default) ≤ (l.map f).sum:=by
 rw [← J4 f h];exact sumTo_le f l _
def vY {α : Type} (f : α → Nat) (l : List α) : Nat:=l.length + (l.map f).sum
theorem qw {α : Type} (f : α → Nat) (l : List α) : vY f l = l.length + (l.map f).sum:=rfl
def R.sz (r : R) : Nat:=r.mag.length + r.den.length
def Lk.sz (l : Lk) : Nat:=l.w.sz + l.dx.sz + l.dy.sz
def Pt.sz (p : Pt) : Nat:=p.x.sz + p.y.sz
def Pa.sz (p : Pa) : Nat:=p.share.sz + p.dx.sz + p.dy.sz
def Cd.sz (c : Cd) : Nat:=c.total.sz + vY Pa.sz c.ps
def Tn.sz (t : Tn) : Nat:=vY Lk.sz t.own + t.cond.sz + vY Lk.sz t.msgs + t.AL.sz
def R.wf (r : R) : Prop:=r.mag.length ≤ 9223372036854775807 ∧ r.den.length ≤ 9223372036854775807
def Lk.wf (l : Lk) : Prop:=l.w.wf ∧ l.dx.wf ∧ l.dy.wf
def Pt.wf (p : Pt) : Prop:=p.x.wf ∧ p.y.wf
def Pa.wf (p : Pa) : Prop:=p.share.wf ∧ p.dx.wf ∧ p.dy.wf
def BU {α : Type} (f : α → Prop) (l : List α) : Prop:=l.length ≤ 9223372036854775807 ∧ ∀ x ∈ l,f x
def Cd.wf (c : Cd) : Prop:=c.total.wf ∧ BU Pa.wf c.ps
def Tn.wf (t : Tn) : Prop:=BU Lk.wf t.own ∧ t.cond.wf ∧ BU Lk.wf t.msgs ∧ t.AL.wf
theorem BU.at_ {α : Type} [Inhabited α] {f : α → Prop} {l : List α} (h : BU f l) {i : Nat} (hi : i < l.length) : f (l.getD i default):=by
 refine h.2 _ ?_
 simp [List.getD_eq_getElem?_getD,List.getElem?_eq_getElem hi]
theorem getD_mem {α : Type} [Inhabited α] {l : List α} {i : Nat} (hi : i < l.length) : l.getD i default ∈ l:=by
 simp [List.getD_eq_getElem?_getD,List.getElem?_eq_getElem hi]
def CU {α : Type} (l : List α) (z : α) (i : Nat) : List α:=l.take i ++ List.replicate (l.length - i) z
theorem Om {α : Type} (l : List α) (z : α) : CU l z 0 = List.replicate l.length z:=by simp [CU]
theorem Qx {α : Type} (l : List α) (z : α) : CU l z l.length = l:=by simp [CU]
theorem Qy {α : Type} (l : List α) (z : α) {i : Nat} (h : i ≤ l.length) : (CU l z i).length = l.length:=by simp [CU];omega
theorem Qz {α : Type} [Inhabited α] (l : List α) (z : α) {i : Nat} (h : i < l.length) : (CU l z i).set i (l.getD i default) = CU l z (i + 1):=by
 unfold CU
 have e : l.length - i = (l.length - (i + 1)) + 1:=by omega
 rw [List.set_append_right _ _ (by simp;omega),e,List.replicate_succ]
 have e2 : i - (l.take i).length = 0:=by simp;omega
 rw [e2,List.set_cons_zero,List.take_add_one,List.getElem?_eq_getElem h,List.getD_eq_getElem?_getD,List.getElem?_eq_getElem h]
 simp only [Option.toList,Option.getD,List.append_assoc,List.cons_append,List.nil_append]
theorem BX {α : Type} [Inhabited α] {a b : List α} (hl : a.length = b.length) (h : ∀ j,j < a.length → a.getD j default = b.getD j default) : a = b:=by
 refine List.ext_getElem hl fun i h1 h2=>?_
 have:=h i h1
 simpa [List.getD_eq_getElem?_getD,h1,h2] using this
theorem map_set {α : Type} (f : α → List V) (l : List α) (i : Nat) (z : α) : (l.map f).set i (f z) = (l.set i z).map f:=by simp [List.map_set]
theorem yE {α : Type} {f : α → List V} {l : List α} (h : ∀ x ∈ l,∀ v ∈ f x,v.still = true) : dR (l.map f):=by
 intro r hr v hv
 obtain ⟨x,hx,rfl⟩:=List.mem_map.1 hr
 exact h x hx v hv
end Go.Ml
namespace Go.Ml
theorem aeC {left : Int} {n : Nat} (h : szr left n < 0) (h0 : 0 ≤ left) : szr left n = -1:=O9 h h0 0
theorem aeD {left : Int} {n : Nat} (h : (n : Int) ≤ left) : szr left n = left - n:=by unfold szr;rw [if_neg (by omega)]
theorem aeE {left : Int} {n : Nat} (h : left < (n : Int)) : szr left n = -1:=by unfold szr;rw [if_pos h]
theorem ak7 {left : Int} {n : Nat} (h : szr left n < 0) (h0 : 0 ≤ left) : left < (n : Int):=by unfold szr at h;split at h <;> omega
theorem abb {left : Int} {n : Nat} (h : ¬ szr left n < 0) : (n : Int) ≤ left:=by unfold szr at h;split at h <;> omega
def GY {α : Type} (f : α → List V) (l : List α) (z : List V) (i : Nat) : List (List V):=(l.take i).map f ++ List.replicate (l.length - i) z
theorem Zy {α : Type} (f : α → List V) (l : List α) (z : List V) : GY f l z 0 = List.replicate l.length z:=by simp [GY]
theorem acz {α : Type} (f : α → List V) (l : List α) (z : List V) : GY f l z l.length = l.map f:=by simp [GY]
theorem acA {α : Type} (f : α → List V) (l : List α) (z : List V) {i : Nat} (h : i ≤ l.length) : (GY f l z i).length = l.length:=by simp [GY];omega
theorem acB {α : Type} [Inhabited α] (f : α → List V) (l : List α) (z : List V) {i : Nat} (h : i < l.length) : (GY f l z i).set i (f (l.getD i default)) = GY f l z (i + 1):=by
 unfold GY
 have e : l.length - i = (l.length - (i + 1)) + 1:=by omega
 rw [List.set_append_right _ _ (by simp;omega),e,List.replicate_succ]
 have e2 : i - ((l.take i).map f).length = 0:=by simp;omega
 rw [e2,List.set_cons_zero,List.take_add_one,List.getElem?_eq_getElem h,List.getD_eq_getElem?_getD,List.getElem?_eq_getElem h]
 simp only [Option.toList,Option.getD,List.map_append,List.map_cons,List.map_nil,List.append_assoc,List.cons_append,List.nil_append]
theorem acC {α : Type} (f : α → List V) (l : List α) (z : List V) {i : Nat} (h : i < l.length) : (GY f l z i)[i]? = some z:=by
 unfold GY
 rw [List.getElem?_append_right (by simp;omega)]
 have e2 : i - ((l.take i).map f).length = 0:=by simp;omega
 rw [e2,show l.length - i = (l.length - (i + 1)) + 1 by omega,List.replicate_succ]
 rfl
def Nq (σ : Store) (s l : Nat) (o : Option Obj) : Option V:=match o with
 | some ob=>if s + l ≤ ob.rows.length then (((ob.rows.drop s).take l).mapM fun (r : List V)=>r.mapM (resolve σ 11)).map (.sl ob.sz) else none
 | none=>none
def Ld (σ : Store) (s l : Nat) (o : Option Obj) : Option V:=match o with
 | some ob=>if s + l ≤ ob.rows.length then (((ob.rows.drop s).take l).mapM fun (r : List V)=>r.mapM (resolve σ 10)).map (.sl ob.sz) else none
 | none=>none
theorem ak8 (σ : Store) (o s l : Nat) : resolve σ FD (.bC o s l) = Nq σ s l (aj σ o):=nr rfl
theorem ahN (σ : Store) (o s l : Nat) : resolve σ 11 (.bC o s l) = Ld σ s l (aj σ o):=nr rfl
@[congr] theorem arN {σ : Store} {s l : Nat} {o o' : Option Obj} (h : wr o = o') : Nq σ s l o = Nq σ s l o':=by rw [← h,gZ]
@[congr] theorem ao5 {σ : Store} {s l : Nat} {o o' : Option Obj} (h : wr o = o') : Ld σ s l o = Ld σ s l o':=by rw [← h,gZ]
theorem BA {σ : Store} {s l n : Nat} {rows : List (List V)} (hs : dR rows) (h : s + l ≤ rows.length) : Nq σ s l (some ⟨n,rows⟩) = some (.sl n ((rows.drop s).take l)):=by
 unfold Nq
 simp only []
 rw [if_pos h,qp (n:=10) (hs.part s l)];rfl
theorem Le {σ : Store} {s l n : Nat} {rows : List (List V)} (hs : dR rows) (h : s + l ≤ rows.length) : Ld σ s l (some ⟨n,rows⟩) = some (.sl n ((rows.drop s).take l)):=by
 unfold Ld
 simp only []
 rw [if_pos h,qp (n:=9) (hs.part s l)];rfl
theorem ak9 {σ : Store} {s l n : Nat} {xs : List Int} (h : s + l ≤ xs.length) : Nq σ s l (some ⟨n,aN xs⟩) = some (.sl n (aN ((xs.drop s).take l))):=by
 rw [BA (nU xs) (by rw [AA];exact h),U6,U7]
theorem ahO {σ : Store} {s l n : Nat} {xs : List Int} (h : s + l ≤ xs.length) : Ld σ s l (some ⟨n,aN xs⟩) = some (.sl n (aN ((xs.drop s).take l))):=by
 rw [Le (nU xs) (by rw [AA];exact h),U6,U7]
theorem lG {α : Type} (f : α → List V) (L : List α) (s l : Nat) : ((L.map f).drop s).take l = ((L.drop s).take l).map f:=by simp [List.map_drop,List.map_take]
theorem Xx (L : List R) : dR (L.map R.cells):=yE (by intro x _ v hv;simp at hv;rcases hv with rfl | rfl | rfl <;> rfl)
theorem ajv (L : List Pt) : dR (L.map Pt.cells):=yE (by intro x _ v hv;simp at hv;rcases hv with rfl | rfl | rfl | rfl | rfl | rfl <;> rfl)
theorem vZ (L : List Lk) : dR (L.map Lk.cells):=yE (by intro x _ v hv;simp at hv;rcases hv with rfl | rfl | rfl | rfl | rfl | rfl | rfl | rfl | rfl | rfl | rfl <;> rfl)
theorem Io (L : List Pa) : dR (L.map Pa.cells):=yE (by intro x _ v hv;simp at hv;rcases hv with rfl | rfl | rfl | rfl | rfl | rfl | rfl | rfl | rfl | rfl <;> rfl)
theorem Jz (L : List Cd) : dR (L.map Cd.cells):=yE (by intro x _ v hv;simp at hv;rcases hv with rfl | rfl | rfl | rfl | rfl <;> rfl)
theorem ajw (L : List (List R)) : dR (L.map fun r=>[CS r]):=yE (by intro x _ v hv;simp at hv;subst hv;rfl)
theorem ala {σ : Store} {s l n : Nat} {L : List R} (h : s + l ≤ L.length) : Nq σ s l (some ⟨n,L.map R.cells⟩) = some (.sl n (((L.drop s).take l).map R.cells)):=by rw [BA (Xx L) (by simpa using h),lG]
theorem ahP {σ : Store} {s l n : Nat} {L : List Pt} (h : s + l ≤ L.length) : Nq σ s l (some ⟨n,L.map Pt.cells⟩) = some (.sl n (((L.drop s).take l).map Pt.cells)):=by rw [BA (ajv L) (by simpa using h),lG]
theorem ahQ {σ : Store} {s l n : Nat} {L : List Lk} (h : s + l ≤ L.length) : Nq σ s l (some ⟨n,L.map Lk.cells⟩) = some (.sl n (((L.drop s).take l).map Lk.cells)):=by rw [BA (vZ L) (by simpa using h),lG]
theorem ahR {σ : Store} {s l n : Nat} {L : List Pa} (h : s + l ≤ L.length) : Nq σ s l (some ⟨n,L.map Pa.cells⟩) = some (.sl n (((L.drop s).take l).map Pa.cells)):=by rw [BA (Io L) (by simpa using h),lG]
theorem aeF {σ : Store} {s l n : Nat} {L : List Pa} (h : s + l ≤ L.length) : Ld σ s l (some ⟨n,L.map Pa.cells⟩) = some (.sl n (((L.drop s).take l).map Pa.cells)):=by rw [Le (Io L) (by simpa using h),lG]
theorem ahS {σ : Store} {s l n : Nat} {L : List Cd} (h : s + l ≤ L.length) : Nq σ s l (some ⟨n,L.map Cd.cells⟩) = some (.sl n (((L.drop s).take l).map Cd.cells)):=by rw [BA (Jz L) (by simpa using h),lG]
theorem ahT {σ : Store} {s l n : Nat} {L : List (List R)} (h : s + l ≤ L.length) : Nq σ s l (some ⟨n,L.map fun r=>[CS r]⟩) = some (.sl n (((L.drop s).take l).map fun r=>[CS r])):=by rw [BA (ajw L) (by simpa using h),lG]
def wu (σ : Store) (rows : List (List V)) : List Nat:=rows.flatMap fun (r : List V)=>r.flatMap (reach σ 11)
def QA (σ : Store) (o : Option Obj) : List Nat:=match o with
 | some ob=>wu σ ob.rows
 | none=>[]
theorem alb (σ : Store) (o s l : Nat) : reach σ FD (.bC o s l) = o :: QA σ (aj σ o):=nr rfl
@[congr] theorem anF {σ : Store} {o o' : Option Obj} (h : wr o = o') : QA σ o = QA σ o':=by rw [← h,gZ]
theorem aeG (σ : Store) (n : Nat) (rows : List (List V)) : QA σ (some ⟨n,rows⟩) = wu σ rows:=nr rfl
theorem aeH (σ : Store) : QA σ none = []:=nr rfl
theorem vw {σ : Store} {rows : List (List V)} (h : dR rows) : wu σ rows = []:=by
 unfold wu
 rw [List.flatMap_eq_nil_iff]
 intro r hr
 rw [List.flatMap_eq_nil_iff]
 intro v hv
 exact DV (n:=10) (h r hr v hv)
theorem acD (σ : Store) (xs : List Int) : wu σ (aN xs) = []:=vw (nU xs)
theorem acE (σ : Store) (L : List R) : wu σ (L.map R.cells) = []:=vw (Xx L)
theorem Zz (σ : Store) (L : List Pt) : wu σ (L.map Pt.cells) = []:=vw (ajv L)
theorem ZA (σ : Store) (L : List Lk) : wu σ (L.map Lk.cells) = []:=vw (vZ L)
theorem ZB (σ : Store) (L : List Pa) : wu σ (L.map Pa.cells) = []:=vw (Io L)
theorem ZC (σ : Store) (L : List Cd) : wu σ (L.map Cd.cells) = []:=vw (Jz L)
theorem ZE (σ : Store) (L : List (List R)) : wu σ (L.map fun r=>[CS r]) = []:=vw (ajw L)
theorem atU (sz : Nat) (r : List (List V)) : scalar SD (.sl sz r) = false:=nr rfl
theorem alc : scalar SD .ak = true:=nr rfl
def Ul (n : Nat) (cs : List V) : Bool:=cs.all (scalar n)
theorem ao6 (cs : List V) : scalar SD (.agg cs) = Ul 3 cs:=nr rfl
theorem ao7 (cs : List V) : scalar SD (.eu cs) = Ul 3 cs:=nr rfl
theorem ahU (n : Nat) : Ul n [] = true:=nr rfl
theorem ahV (n : Nat) (c : V) (cs : List V) : Ul n (c :: cs) = (scalar n c && Ul n cs):=nr rfl
theorem ald (q : IntKind) (n : Int) : scalar 3 (.int q n) = true:=nr rfl
theorem ahW (b : Bool) : scalar 3 (.bool b) = true:=nr rfl
theorem ale (s : List UInt8) : scalar 3 (.str s) = true:=nr rfl
theorem ahX : scalar 3 .ak = true:=nr rfl
theorem ao8 (sz : Nat) (r : List (List V)) : scalar 3 (.sl sz r) = false:=nr rfl
theorem alf (cs : List V) : scalar 3 (.agg cs) = Ul 2 cs:=nr rfl
theorem alg (q : IntKind) (n : Int) : scalar 2 (.int q n) = true:=nr rfl
theorem ahY (b : Bool) : scalar 2 (.bool b) = true:=nr rfl
theorem alh (s : List UInt8) : scalar 2 (.str s) = true:=nr rfl
theorem ahZ : scalar 2 .ak = true:=nr rfl
theorem ao9 (sz : Nat) (r : List (List V)) : scalar 2 (.sl sz r) = false:=nr rfl
theorem atV {t b : Int} (h : 0 ≤ t ∧ t ≤ 9223372036854775807 ∧ 0 < b) : IntKind.i64.wrap (t.tdiv b) = t.tdiv b:=by
 rw [Int.tdiv_eq_ediv_of_nonneg h.1]
 have h1 : 0 ≤ t / b:=Int.ediv_nonneg h.1 (by omega)
 have h2 : t / b ≤ t:=Int.ediv_le_self _ h.1
 exact w64 (by omega)
theorem aeI {α : Type} {l : List α} {n : Nat} (h : l.length ≤ n) : l.take n = l:=List.take_of_length_le h
theorem ah0 (env : Nat → V) (x : Src) : I.reads env (.bY x) = []:=by simp [I.reads,I.mZ]
theorem ah1 (env : Nat → V) (x : Src) : I.reads env (.box x) = []:=by simp [I.reads,I.mZ]
theorem aeJ (env : Nat → V) (x : Src) : I.reads env (.WL x) = []:=by simp [I.reads,I.mZ]
theorem ah2 (env : Nat → V) (x : Src) : I.reads env (.len x) = iJ (x.ev env):=by simp [I.reads,I.mZ]
theorem ah3 (env : Nat → V) (x : Src) : I.reads env (.chk x) = iJ (x.ev env):=by simp [I.reads,I.mZ]
theorem ah4 (env : Nat → V) (d : Nat) (x : Src) : I.reads env (.fld d x) = iJ (x.ev env):=by simp [I.reads,I.mZ]
theorem ali (env : Nat → V) (d : UnOp) (x : Src) : I.reads env (.un d x) = []:=by simp [I.reads,I.mZ]
theorem aeK (env : Nat → V) (d : IntKind) (x : Src) : I.reads env (.conv d x) = []:=by simp [I.reads,I.mZ]
theorem aeL (env : Nat → V) (d : Nat) (x : Src) : I.reads env (.SH d x) = []:=by simp [I.reads,I.mZ]
theorem aeM (env : Nat → V) (n : Nat) (b : Bool) (x : Src) : I.reads env (.load n b x) = iJ (x.ev env):=by simp [I.reads,I.mZ]
theorem aeN (env : Nat → V) (z : List V) (n : Nat) (x : Src) : I.reads env (.make z n x) = []:=by simp [I.reads,I.mZ]
theorem acF (env : Nat → V) (z : List V) : I.reads env (.alloc z) = []:=by simp [I.reads,I.mZ]
theorem aeO (env : Nat → V) (x y z : Src) : I.reads env (.pick x y z) = []:=by simp [I.reads,I.mZ]
theorem acG (env : Nat → V) (n : Nat) (x y : Src) : I.reads env (.store n x y) = iJ (x.ev env):=by simp [I.reads,I.mZ]
theorem ah5 (env : Nat → V) (n : Nat) (x y : Src) : I.reads env (.idx n x y) = iJ (x.ev env):=by simp [I.reads,I.mZ]
theorem aeP (env : Nat → V) (m n : Nat) (x y : Src) : I.reads env (.UO m n x y) = iJ (x.ev env):=by simp [I.reads,I.mZ]
theorem aeQ (env : Nat → V) (x y : Src) : I.reads env (.WJ x y) = []:=by simp [I.reads,I.mZ]
theorem aeR (env : Nat → V) (m : Nat) (x y : Src) : I.reads env (.WM m x y) = []:=by simp [I.reads,I.mZ]
theorem ah6 (env : Nat → V) (n : BinOp) (x y : Src) : I.reads env (.bin n x y) = []:=by simp [I.reads,I.mZ]
theorem ah7 (env : Nat → V) (n : Bool) (x y : Src) : I.reads env (.beq n x y) = []:=by simp [I.reads,I.mZ]
theorem ah8 (env : Nat → V) (m n : Nat) (x y : Src) : I.reads env (.app m n x y) = iJ (x.ev env) ++ iJ (y.ev env):=by simp [I.reads,I.mZ]
theorem ah9 (env : Nat → V) (x y : Src) : I.reads env (.max x y) = []:=by simp [I.reads,I.mZ]
theorem alj (env : Nat → V) (z : List V) : I.reads env (.build z []) = []:=by simp [I.reads,I.mZ]
theorem alk (env : Nat → V) (z : List V) (a b : Nat) (x : Src) (l : List (Nat × Nat × Src)) : I.reads env (.build z ((a,b,x) :: l)) = []:=by simp [I.reads,I.mZ]
theorem alm (env : Nat → V) (sz : Nat) (z : List V) (n : Nat) : I.reads env (.dS sz z n []) = []:=by simp [I.reads,I.mZ]
theorem aln (env : Nat → V) (sz : Nat) (z : List V) (n a : Nat) (x : Src) (l : List (Nat × Src)) : I.reads env (.dS sz z n ((a,x) :: l)) = []:=by simp [I.reads,I.mZ]
theorem aia (q : IntKind) (n : Int) : iJ (.int q n) = []:=nr rfl
theorem aeS (b : Bool) : iJ (.bool b) = []:=nr rfl
theorem aib (b : List UInt8) : iJ (.str b) = []:=nr rfl
theorem aeT  : iJ .ak = []:=nr rfl
theorem aic  : iJ .one = []:=nr rfl
theorem aie  : iJ .any = []:=nr rfl
theorem alo (n : Nat) (r : List (List V)) : iJ (.sl n r) = []:=nr rfl
theorem aeU (r : List V) (n : Nat) : iJ (.fB r n) = []:=nr rfl
theorem aif (r : List V) : iJ (.agg r) = []:=nr rfl
theorem aii (r : List V) : iJ (.eu r) = []:=nr rfl
theorem aij (o r k : Nat) : iJ (.ptr o r k) = [o]:=nr rfl
theorem aik (o r k : Nat) : iJ (.bC o r k) = [o]:=nr rfl
end Go.Ml
end
section
set_option linter.defProp false
namespace Go.Ml
def Xy:=(And.intro (And.intro (And.intro (And.intro (And.intro (And.intro @Go.Ml.gZ.{1} @Go.Ml.ajo) (And.intro @Go.Ml.ajp (And.intro @Go.Ml.wp_skip 
 @Go.Ml.ag3))) (And.intro (And.intro @Go.Ml.ag4 @Go.Ml.wp_seq) (And.intro @Go.Ml.aef (And.intro @Go.Ml.wp_block @Go.Ml.wp_loop)))) (And.intro 
 (And.intro (And.intro @Go.Ml.wp_exit @Go.Ml.wp_ret) (And.intro @Go.Ml.akd (And.intro @Go.Ml.ake @Go.Ml.akf))) (And.intro (And.intro @Go.Ml.akj 
 (And.intro @Go.Ml.akk @Go.Ml.akl)) (And.intro @Go.Ml.ag5 (And.intro @Go.Ml.ag6 @Go.Ml.akm))))) (And.intro (And.intro (And.intro (And.intro 
 @Go.Ml.akn @Go.Ml.atD) (And.intro @Go.Ml.atE (And.intro @Go.Ml.atF @Go.Ml.ako))) (And.intro (And.intro @Go.Ml.aoe (And.intro @Go.Ml.akc 
 @Go.Ml.aof)) (And.intro @Go.Ml.aog (And.intro @Go.Ml.aoh @Go.Ml.aoi)))) (And.intro (And.intro (And.intro @Go.Ml.aed @Go.Ml.aom) (And.intro 
 @Go.Ml.akv (And.intro @Go.Ml.ag9 @Go.Ml.aon))) (And.intro (And.intro @Go.Ml.aew (And.intro @Go.Ml.ahB @Go.Ml.ahC)) (And.intro 
 @Go.Ml.aeu (And.intro @Go.Ml.aev @Go.Ml.ahD)))))) (And.intro (And.intro (And.intro (And.intro (And.intro @Go.Ml.ahE @Go.Ml.akx) (And.intro 
 @Go.Ml.ahb (And.intro @Go.Ml.ahc @Go.Ml.ahd))) (And.intro (And.intro @Go.Ml.aoo @Go.Ml.aop) (And.intro @Go.Ml.aky (And.intro @Go.Ml.akz 
 @Go.Ml.akA)))) (And.intro (And.intro (And.intro @Go.Ml.aoq @Go.Ml.akB) (And.intro @Go.Ml.aor (And.intro @Go.Ml.aos @Go.Ml.aot))) (And.intro 
 (And.intro @Go.Ml.aou (And.intro @Go.Ml.akC @Go.Ml.aov)) (And.intro @Go.Ml.akD (And.intro @Go.Ml.aow @Go.Ml.ahF))))) (And.intro (And.intro 
 (And.intro (And.intro @Go.Ml.aex @Go.Ml.ak2) (And.intro @Go.Ml.ak3 (And.intro @Go.Ml.ak4 @Go.Ml.ak5))) (And.intro (And.intro @Go.Ml.aox 
 (And.intro @Go.Ml.akG @Go.Ml.akH)) (And.intro @Go.Ml.akW (And.intro @Go.Ml.akX @Go.Ml.akY)))) (And.intro (And.intro (And.intro @Go.Ml.akZ 
 @Go.Ml.ahq) (And.intro @Go.Ml.ahz (And.intro @Go.Ml.atA @Go.Ml.atB))) (And.intro (And.intro @Go.Ml.agZ (And.intro @Go.Ml.aco @Go.Ml.aj3)) 
 (And.intro @Go.Ml.aj6 (And.intro @Go.Ml.aj7 @Go.Ml.aj8)))))))
def Xz:=(And.intro (And.intro (And.intro (And.intro (And.intro (And.intro (And.intro (And.intro @Go.Ml.agX @Go.Ml.ajo) (And.intro @Go.Ml.ajp @Go.Ml.aj0)) 
 (And.intro (And.intro @Go.Ml.aj1 @Go.Ml.agW) (And.intro @Go.Ml.aj2 @Go.Ml.aci))) (And.intro (And.intro (And.intro @Go.Ml.agY @Go.Ml.aoa) 
 (And.intro @Go.Ml.aob @Go.Ml.aec)) (And.intro (And.intro @Go.Ml.acj @Go.Ml.acn) (And.intro @Go.Ml.Xj (And.intro @Go.Ml.Zk 
 @Go.Ml.Xk))))) (And.intro (And.intro (And.intro (And.intro @Go.Ml.Zl @Go.Ml.Xl) (And.intro @Go.Ml.Zm @Go.Ml.acr)) 
 (And.intro (And.intro @Go.Ml.Zn @Go.Ml.Zo) (And.intro @Go.Ml.Xm (And.intro @Go.Ml.Zp @Go.Ml.akp)))) (And.intro (And.intro 
 (And.intro @Go.Ml.akq @Go.Ml.aoj) (And.intro @Go.Ml.aok @Go.Ml.aol)) (And.intro (And.intro @Go.Ml.akr @Go.Ml.aks) (And.intro @Go.Ml.aku 
 (And.intro @Go.Ml.akt @Go.Ml.aoJ)))))) (And.intro (And.intro (And.intro (And.intro (And.intro @Go.Ml.aoK @Go.Ml.aoL) (And.intro @Go.Ml.aoy 
 @Go.Ml.aoz)) (And.intro (And.intro @Go.Ml.aoA @Go.Ml.aoB) (And.intro @Go.Ml.aoC (And.intro @Go.Ml.aoD @Go.Ml.aoE)))) (And.intro (And.intro 
 (And.intro @Go.Ml.aoF @Go.Ml.aoG) (And.intro @Go.Ml.aoH @Go.Ml.aoI)) (And.intro (And.intro @Go.Ml.akE @Go.Ml.akF) (And.intro @Go.Ml.w64 (And.intro 
 @Go.Ml.ahe @Go.Ml.ahf))))) (And.intro (And.intro (And.intro (And.intro @Go.Ml.ahg @Go.Ml.ahh) (And.intro @Go.Ml.ahi @Go.Ml.aeg)) 
 (And.intro (And.intro @Go.Ml.aeh @Go.Ml.aei) (And.intro @Go.Ml.aoM (And.intro @Go.Ml.akI @Go.Ml.aoN)))) (And.intro (And.intro (And.intro 
 @Go.Ml.akJ @Go.Ml.aoO) (And.intro @Go.Ml.atM @Go.Ml.akK)) (And.intro (And.intro @Go.Ml.aoP @Go.Ml.aoQ) (And.intro @Go.Ml.akL (And.intro 
 @Go.Ml.akM @Go.Ml.akN))))))) (And.intro (And.intro (And.intro (And.intro (And.intro (And.intro @Go.Ml.ahj @Go.Ml.akO) (And.intro @Go.Ml.ahk 
 @Go.Ml.akP)) (And.intro (And.intro @Go.Ml.aoR @Go.Ml.ahl) (And.intro @Go.Ml.atN (And.intro @Go.Ml.atO @Go.Ml.aoS)))) (And.intro (And.intro 
 (And.intro @Go.Ml.akQ @Go.Ml.aoT) (And.intro @Go.Ml.akR @Go.Ml.atP)) (And.intro (And.intro @Go.Ml.akS @Go.Ml.aoU) (And.intro @Go.Ml.atQ 
 (And.intro @Go.Ml.atS @Go.Ml.akT))))) (And.intro (And.intro (And.intro (And.intro @Go.Ml.ahm @Go.Ml.akU) (And.intro @Go.Ml.ahn @Go.Ml.aoV)) 
 (And.intro (And.intro @Go.Ml.aho @Go.Ml.aoW) (And.intro @Go.Ml.akV (And.intro @Go.Ml.aoX @Go.Ml.aoY)))) (And.intro (And.intro (And.intro 
 @Go.Ml.aoZ @Go.Ml.ao0) (And.intro @Go.Ml.ag0 @Go.Ml.ag1)) (And.intro (And.intro @Go.Ml.ag2 @Go.Ml.aoc) (And.intro @Go.Ml.aod (And.intro 
 @Go.Ml.aj9 @Go.Ml.akb)))))) (And.intro (And.intro (And.intro (And.intro (And.intro @Go.Ml.aee @Go.Ml.acp) (And.intro @Go.Ml.akg 
 @Go.Ml.akh)) (And.intro (And.intro @Go.Ml.aki @Go.Ml.atG) (And.intro @Go.Ml.atH (And.intro @Go.Ml.atI @Go.Ml.atJ)))) (And.intro (And.intro (And.intro 
 @Go.Ml.atK @Go.Ml.AA) (And.intro @Go.Ml.ahr @Go.Ml.ak0)) (And.intro (And.intro @Go.Ml.ak1 @Go.Ml.ahs) (And.intro @Go.Ml.ah0 (And.intro 
 @Go.Ml.ah1 @Go.Ml.aeJ))))) (And.intro (And.intro (And.intro (And.intro @Go.Ml.ah2 @Go.Ml.ah3) (And.intro @Go.Ml.ah4 @Go.Ml.ali)) 
 (And.intro (And.intro @Go.Ml.aeK @Go.Ml.aeL) (And.intro @Go.Ml.aeM (And.intro @Go.Ml.aeN @Go.Ml.acF)))) (And.intro (And.intro 
 (And.intro @Go.Ml.aeO @Go.Ml.acG) (And.intro @Go.Ml.ah5 @Go.Ml.aeP)) (And.intro (And.intro @Go.Ml.aeQ @Go.Ml.aeR) (And.intro 
 @Go.Ml.ah6 (And.intro @Go.Ml.ah7 @Go.Ml.ah8)))))))) (And.intro (And.intro (And.intro (And.intro (And.intro (And.intro (And.intro @Go.Ml.ah9 
 @Go.Ml.alj) (And.intro @Go.Ml.alk @Go.Ml.alm)) (And.intro (And.intro @Go.Ml.aln @Go.Ml.aia) (And.intro @Go.Ml.aeS @Go.Ml.aib))) 
 (And.intro (And.intro (And.intro @Go.Ml.aeT @Go.Ml.aic) (And.intro @Go.Ml.aie @Go.Ml.alo)) (And.intro (And.intro @Go.Ml.aeU @Go.Ml.aif) 
 (And.intro @Go.Ml.aii (And.intro @Go.Ml.aij @Go.Ml.aik))))) (And.intro (And.intro (And.intro (And.intro @Int.toNat_zero @Int.toNat_one) (And.intro 
 @Go.Ml.atV @Bool.false_and)) (And.intro (And.intro @Bool.true_and @Bool.and_false) (And.intro @Go.Ml.ak8 (And.intro @Go.Ml.ahN @Go.Ml.ak9)))) 
 (And.intro (And.intro (And.intro @Go.Ml.ahO @Go.Ml.ala) (And.intro @Go.Ml.ahP @Go.Ml.ahQ)) (And.intro (And.intro @Go.Ml.ahR @Go.Ml.aeF) 
 (And.intro @Go.Ml.ahS (And.intro @Go.Ml.ahT @Go.Ml.alb)))))) (And.intro (And.intro (And.intro (And.intro (And.intro @Go.Ml.aeG @Go.Ml.aeH) 
 (And.intro @Go.Ml.acD @Go.Ml.acE)) (And.intro (And.intro @Go.Ml.Zz @Go.Ml.ZA) (And.intro @Go.Ml.ZB (And.intro 
 @Go.Ml.ZC @Go.Ml.ZE)))) (And.intro (And.intro (And.intro @Go.Ml.atU @Go.Ml.alc) (And.intro @Go.Ml.ao6 @Go.Ml.ao7)) (And.intro (And.intro 
 @Go.Ml.ahU @Go.Ml.ahV) (And.intro @Go.Ml.ald (And.intro @Go.Ml.ahW @Go.Ml.ale))))) (And.intro (And.intro (And.intro (And.intro @Go.Ml.ahX 
 @Go.Ml.ao8) (And.intro @Go.Ml.alf @Go.Ml.alg)) (And.intro (And.intro @Go.Ml.ahY @Go.Ml.alh) (And.intro @Go.Ml.ahZ (And.intro @Go.Ml.ao9 
 @Go.Ml.aeI)))) (And.intro (And.intro (And.intro @Go.Ml.ahA @Nat.le_refl) (And.intro @List.replicate_succ.{0} @List.replicate_zero.{0})) (And.intro 
 (And.intro @List.take_length.{0} @Go.Ml.atz) (And.intro @Go.Ml.w8u (And.intro @Go.Ml.aty @Go.Ml.U7))))))) (And.intro (And.intro (And.intro (And.intro 
 (And.intro (And.intro @Go.Ml.U6 @Nat.sub_zero) (And.intro @implies_true.{0} @false_implies)) (And.intro (And.intro @true_implies @List.length_map.{0,0}) 
 (And.intro @true_or (And.intro @or_true @Bool.beq_eq_decide_eq.{0})))) (And.intro (And.intro (And.intro @List.set_cons_zero.{0} @List.set_cons_succ.{0}) 
 (And.intro @Go.Ml.ahv @Go.Ml.ahw)) (And.intro (And.intro @Go.Ml.ahu @Go.Ml.ael) (And.intro @Go.Ml.aer (And.intro @Go.Ml.aes 
 @Go.Ml.aen))))) (And.intro (And.intro (And.intro (And.intro @Go.Ml.ahy @Go.Ml.aeo) (And.intro @Go.Ml.acu @Go.Ml.aep)) (And.intro 
 (And.intro @Go.Ml.Ap @Go.Ml.acv) (And.intro @List.reverse_cons.{0} (And.intro @List.reverse_nil.{0} @List.nil_append.{0})))) (And.intro (And.intro 
 (And.intro @List.cons_append.{0} @List.append_nil.{0}) (And.intro @List.length_cons.{0} @List.length_nil.{0})) (And.intro (And.intro 
 @List.getElem?_cons_zero.{0} @List.getElem?_cons_succ.{0}) (And.intro @Nat.zero_add (And.intro @Nat.add_zero @ite_self.{1})))))) (And.intro (And.intro 
 (And.intro (And.intro (And.intro @ite_true.{1} @ite_false.{1}) (And.intro @if_true.{1} @if_false.{1})) (And.intro (And.intro @eq_self.{1} @and_true) (And.intro 
 @true_and (And.intro @and_self @Bool.not_true)))) (And.intro (And.intro (And.intro @Bool.not_false @Bool.true_eq_false) (And.intro @Bool.false_eq_true 
 @Bool.not_eq_true')) (And.intro (And.intro @decide_eq_true_eq @decide_eq_false_iff_not) (And.intro @Bool.not_eq_eq_eq_not (And.intro @Option.map_some.{0,0} 
 @Option.map_none.{0,0}))))) (And.intro (And.intro (And.intro (And.intro @Int.toNat_natCast @List.drop_zero.{0}) (And.intro @List.drop_succ_cons.{0} 
 @List.take_succ_cons.{0})) (And.intro (And.intro @List.take_zero.{0} @List.all_cons.{0}) (And.intro @List.all_nil.{0} (And.intro @Bool.and_true 
 @Bool.and_self)))) (And.intro (And.intro (And.intro @Go.Ml.Ex.exit.injEq @not_false_eq_true) (And.intro @not_true_eq_false @decide_true)) (And.intro (And.intro 
 @decide_false @ite_not.{1}) (And.intro @decide_not (And.intro @Bool.not_not @ne_eq.{1})))))))))
theorem ev {P Q : Prop} (h : Q) (e : P = Q:=by conv=>lhs;simp (maxSteps:=1000000) (disch:=first | omega | assumption | (simp;done) | (simp;omega)) only [↓Xy,Xz,splice,Nat.reduceAdd,Nat.reduceEqDiff,Nat.reduceMul,Nat.reduceLT,Nat.reduceLeDiff,reduceIte,V.leaf,Fa,Gg,Ih,Bool.true_and,Bool.false_and,Bool.or_false,Bool.false_or,Bool.true_or,reduceCtorEq]) : P:=Eq.mpr (e) h
theorem ev1 {P Q A1 : Prop} (x1 : A1) (h : Q) (e : A1 → P = Q:=by intro x1;conv=>lhs;simp (maxSteps:=1000000) (disch:=first | omega | assumption | (simp;done) | (simp;omega)) only [↓Xy,Xz,splice,Nat.reduceAdd,Nat.reduceEqDiff,Nat.reduceMul,Nat.reduceLT,Nat.reduceLeDiff,reduceIte,V.leaf,Fa,Gg,Ih,Bool.true_and,Bool.false_and,Bool.or_false,Bool.false_or,Bool.true_or,reduceCtorEq,x1]) : P:=Eq.mpr (e x1) h
theorem iP {P Q A1 A2 : Prop} (x1 : A1) (x2 : A2) (h : Q) (e : A1 → A2 → P = Q:=by intro x1 x2;conv=>lhs;simp (maxSteps:=1000000) (disch:=first | omega | assumption | (simp;done) | (simp;omega)) only [↓Xy,Xz,splice,Nat.reduceAdd,Nat.reduceEqDiff,Nat.reduceMul,Nat.reduceLT,Nat.reduceLeDiff,reduceIte,V.leaf,Fa,Gg,Ih,Bool.true_and,Bool.false_and,Bool.or_false,Bool.false_or,Bool.true_or,reduceCtorEq,x1,x2]) : P:=Eq.mpr (e x1 x2) h
theorem vC {P Q A1 A2 A3 : Prop} (x1 : A1) (x2 : A2) (x3 : A3) (h : Q) (e : A1 → A2 → A3 → P = Q:=by intro x1 x2 x3;conv=>lhs;simp (maxSteps:=1000000) (disch:=first | omega | assumption | (simp;done) | (simp;omega)) only [↓Xy,Xz,splice,Nat.reduceAdd,Nat.reduceEqDiff,Nat.reduceMul,Nat.reduceLT,Nat.reduceLeDiff,reduceIte,V.leaf,Fa,Gg,Ih,Bool.true_and,Bool.false_and,Bool.or_false,Bool.false_or,Bool.true_or,reduceCtorEq,x1,x2,x3]) : P:=Eq.mpr (e x1 x2 x3) h
theorem ev4 {P Q A1 A2 A3 A4 : Prop} (x1 : A1) (x2 : A2) (x3 : A3) (x4 : A4) (h : Q) (e : A1 → A2 → A3 → A4 → P = Q:=by intro x1 x2 x3 x4;conv=>lhs;simp (maxSteps:=1000000) (disch:=first | omega | assumption | (simp;done) | (simp;omega)) only [↓Xy,Xz,splice,Nat.reduceAdd,Nat.reduceEqDiff,Nat.reduceMul,Nat.reduceLT,Nat.reduceLeDiff,reduceIte,V.leaf,Fa,Gg,Ih,Bool.true_and,Bool.false_and,Bool.or_false,Bool.false_or,Bool.true_or,reduceCtorEq,x1,x2,x3,x4]) : P:=Eq.mpr (e x1 x2 x3 x4) h
theorem ev5 {P Q A1 A2 A3 A4 A5 : Prop} (x1 : A1) (x2 : A2) (x3 : A3) (x4 : A4) (x5 : A5) (h : Q) (e : A1 → A2 → A3 → A4 → A5 → P = Q:=by intro x1 x2 x3 x4 x5;conv=>lhs;simp (maxSteps:=1000000) (disch:=first | omega | assumption | (simp;done) | (simp;omega)) only [↓Xy,Xz,splice,Nat.reduceAdd,Nat.reduceEqDiff,Nat.reduceMul,Nat.reduceLT,Nat.reduceLeDiff,reduceIte,V.leaf,Fa,Gg,Ih,Bool.true_and,Bool.false_and,Bool.or_false,Bool.false_or,Bool.true_or,reduceCtorEq,x1,x2,x3,x4,x5]) : P:=Eq.mpr (e x1 x2 x3 x4 x5) h
theorem ev6 {P Q A1 A2 A3 A4 A5 A6 : Prop} (x1 : A1) (x2 : A2) (x3 : A3) (x4 : A4) (x5 : A5) (x6 : A6) (h : Q) (e : A1 → A2 → A3 → A4 → A5 → A6 → P = Q:=by intro x1 x2 x3 x4 x5 x6;conv=>lhs;simp (maxSteps:=1000000) (disch:=first | omega | assumption | (simp;done) | (simp;omega)) only [↓Xy,Xz,splice,Nat.reduceAdd,Nat.reduceEqDiff,Nat.reduceMul,Nat.reduceLT,Nat.reduceLeDiff,reduceIte,V.leaf,Fa,Gg,Ih,Bool.true_and,Bool.false_and,Bool.or_false,Bool.false_or,Bool.true_or,reduceCtorEq,x1,x2,x3,x4,x5,x6]) : P:=Eq.mpr (e x1 x2 x3 x4 x5 x6) h
abbrev oN (d : Nat) (i : I) : fQ:=⟨none,some d,0,i,[]⟩
abbrev oS (i : I) : fQ:=⟨none,none,0,i,[]⟩
abbrev oG (g : Nat) (b : Bool) (d : Nat) (i : I) : fQ:=⟨some (g,b),some d,0,i,[]⟩
abbrev oK (d k : Nat) (i : I) : fQ:=⟨none,some d,k,i,[]⟩
abbrev oA (d k : Nat) (i : I) (a : List Nat) : fQ:=⟨none,some d,k,i,a⟩
abbrev oH (g : Nat) (b : Bool) (d k : Nat) (i : I) (a : List Nat) : fQ:=⟨some (g,b),some d,k,i,a⟩
abbrev oV (n : Nat) : I:=.bY (.t n)
abbrev cI (n : Int) : Src:=.c (.int .i64 n)
end Go.Ml
end
namespace Go.Ml
abbrev nR : Nat → Nat → Bool:=fun _ _=>false
def oW (d n : Nat) : fQ:=⟨none,some d,0,.bY (.t n),[]⟩
def mF : I:=.bY (.c (.bool false))
def mT : I:=.bY (.c (.bool true))
def mN : I:=.bY (.c .ak)
def lT (n a : Nat) : I:=.load n true (.t a)
def lF (n a : Nat) : I:=.load n false (.t a)
def ix (n a b : Nat) : I:=.idx n (.t a) (.t b)
def ln (a : Nat) : I:=.len (.t a)
def fd (n a : Nat) : I:=.fld n (.t a)
def ex (n a : Nat) : I:=.SH n (.t a)
def nt (a : Nat) : I:=.un .not (.t a)
def bt (o : BinOp) (a b : Nat) : I:=.bin o (.t a) (.t b)
def bc (o : BinOp) (a : Nat) (n : Int) : I:=.bin o (.t a) (.c (.int .i64 n))
def cd (a : Nat) (c e : C) : C:=.cond (.t a) c e
def rf (n : Nat) (l : List fQ) : C:=.reg false n l
def rt (n : Nat) (l : List fQ) : C:=.reg true n l
def rg (l : List fQ) : C:=.reg false 0 l
def sr (l : List fQ) (c : C) : C:=.seq (.reg false 0 l) c
def jK : List V:=[.bool false,.ak,.ak]
def Aq : List V:=[.int .i64 0,.int .i64 0,.bool false,.ak,.ak,.bool false,.ak,.ak,.bool false,.ak,.ak]
def DW : List V:=[.int .i64 0]
def Lh : List V:=[.int .i64 0,.bool false,.ak,.ak,.ak]
def QB : List V:=[.int .i64 0,.bool false,.ak,.ak,.bool false,.ak,.ak,.bool false,.ak,.ak]
def SC : List V:=[.bool false,.ak]
def cl (f : Nat) (l : List Nat) : I:=.call f (l.map .t)
theorem Lz : (∀ (d : Nat),∀ (i : I),oN d i = (⟨none,some d,0,i,[]⟩ : fQ)) ∧ (∀ (i : I),oS i = (⟨none,none,0,i,[]⟩ : fQ)) ∧ (∀ (g : Nat),∀ (b : Bool),∀ (d : Nat),∀ (i : I),oG g b d i = (⟨some (g,b),some d,0,i,[]⟩ : fQ)) ∧ (∀ (d k : Nat),∀ (i : I),oK d k i = (⟨none,some d,k,i,[]⟩ : fQ)) ∧ (∀ (d k : Nat),∀ (i : I),∀ (a : List Nat),oA d k i a = (⟨none,some d,k,i,a⟩ : fQ)) ∧ (∀ (g : Nat),∀ (b : Bool),∀ (d k : Nat),∀ (i : I),∀ (a : List Nat),oH g b d k i a = (⟨some (g,b),some d,k,i,a⟩ : fQ)) ∧ (∀ (n : Nat),oV n = (.bY (.t n) : I)) ∧ (∀ (n : Int),cI n = (.c (.int .i64 n) : Src)) ∧ (∀ (d n : Nat),oW d n = (⟨none,some d,0,.bY (.t n),[]⟩ : fQ)) ∧ (mF = (.bY (.c (.bool false)) : I)) ∧ (mT = (.bY (.c (.bool true)) : I)) ∧ (mN = (.bY (.c .ak) : I)) ∧ (∀ (n a : Nat),lT n a = (.load n true (.t a) : I)) ∧ (∀ (n a : Nat),lF n a = (.load n false (.t a) : I)) ∧ (∀ (n a b : Nat),ix n a b = (.idx n (.t a) (.t b) : I)) ∧ (∀ (a : Nat),ln a = (.len (.t a) : I)) ∧ (∀ (n a : Nat),fd n a = (.fld n (.t a) : I)) ∧ (∀ (n a : Nat),ex n a = (.SH n (.t a) : I)) ∧ (∀ (a : Nat),nt a = (.un .not (.t a) : I)) ∧ (∀ (o : BinOp),∀ (a b : Nat),bt o a b = (.bin o (.t a) (.t b) : I)) ∧ (∀ (o : BinOp),∀ (a : Nat),∀ (n : Int),bc o a n = (.bin o (.t a) (.c (.int .i64 n)) : I)) ∧ (∀ (a : Nat),∀ (c e : C),cd a c e = (.cond (.t a) c e : C)) ∧ (∀ (n : Nat),∀ (l : List fQ),rf n l = (.reg false n l : C)) ∧ (∀ (n : Nat),∀ (l : List fQ),rt n l = (.reg true n l : C)) ∧ (∀ (l : List fQ),rg l = (.reg false 0 l : C)) ∧ (∀ (l : List fQ),∀ (c : C),sr l c = (.seq (.reg false 0 l) c : C)) ∧ (jK = ([.bool false,.ak,.ak] : List V)) ∧ (Aq = ([.int .i64 0,.int .i64 0,.bool false,.ak,.ak,.bool false,.ak,.ak,.bool false,.ak,.ak] : List V)) ∧ (DW = ([.int .i64 0] : List V)) ∧ (Lh = ([.int .i64 0,.bool false,.ak,.ak,.ak] : List V)) ∧ (QB = ([.int .i64 0,.bool false,.ak,.ak,.bool false,.ak,.ak,.bool false,.ak,.ak] : List V)) ∧ (SC = ([.bool false,.ak] : List V)) ∧ (nR = fun _ _=>false) ∧ (∀ f : Nat,cl f [] = .call f []) ∧ (∀ f a : Nat,cl f [a] = .call f [.t a]) ∧ (∀ f a b : Nat,cl f [a,b] = .call f [.t a,.t b]) ∧ (∀ f a b c : Nat,cl f [a,b,c] = .call f [.t a,.t b,.t c]) ∧ (∀ f a b c d : Nat,cl f [a,b,c,d] = .call f [.t a,.t b,.t c,.t d]) ∧ (∀ f a b c d e : Nat,cl f [a,b,c,d,e] = .call f [.t a,.t b,.t c,.t d,.t e]) ∧ (∀ f a b c d e f : Nat,cl f [a,b,c,d,e,f] = .call f [.t a,.t b,.t c,.t d,.t e,.t f]) ∧ (∀ f a b c d e f g : Nat,cl f [a,b,c,d,e,f,g] = .call f [.t a,.t b,.t c,.t d,.t e,.t f,.t g]) ∧ (∀ f a b c d e f g h : Nat,cl f [a,b,c,d,e,f,g,h] = .call f [.t a,.t b,.t c,.t d,.t e,.t f,.t g,.t h]) :=
 ⟨fun _ _=>rfl,fun _=>rfl,fun _ _ _ _=>rfl,fun _ _ _=>rfl,fun _ _ _ _=>rfl,fun _ _ _ _ _ _=>rfl,fun _=>rfl,fun _=>rfl,fun _ _=>rfl,rfl,rfl,rfl,fun _ _=>rfl,fun _ _=>rfl,fun _ _ _=>rfl,fun _=>rfl,fun _ _=>rfl,fun _ _=>rfl,fun _=>rfl,fun _ _ _=>rfl,fun _ _ _=>rfl,fun _ _ _=>rfl,fun _ _=>rfl,fun _ _=>rfl,fun _=>rfl,fun _ _=>rfl,rfl,rfl,rfl,rfl,rfl,rfl,rfl,fun _=>rfl,fun _ _=>rfl,fun _ _ _=>rfl,fun _ _ _ _=>rfl,fun _ _ _ _ _=>rfl,fun _ _ _ _ _ _=>rfl,fun _ _ _ _ _ _ _=>rfl,fun _ _ _ _ _ _ _ _=>rfl,fun _ _ _ _ _ _ _ _ _=>rfl⟩
end Go.Ml
namespace Go.Ml
theorem wz {l : List V} {env : Nat → V} (h : Fb l 0 env:=by (try (refine ev ?_;try with_reducible exact True.intro)) <;> (repeat' (first | refine ⟨?_,?_⟩ | exact jI (by omega) | exact lZ (by simp) | exact jJ _))) : Fb l 0 env:=h
end Go.Ml
section
namespace Go.Ml
def ZF : Nat → V
 | 0=>.ak
 | n + 1=>.bC 0 0 (n + 1)
def WE (n : Nat) : List (List V) → Store
 | []=>[]
 | r :: rs=>[some ⟨n,r :: rs⟩]
theorem jX : ZF 0 = .ak:=nr rfl
theorem jB (n : Nat) : ZF (n + 1) = .bC 0 0 (n + 1):=nr rfl
theorem XA (n : Nat) : WE n [] = []:=nr rfl
theorem Um (n : Nat) (r : List V) (rs : List (List V)) : WE n (r :: rs) = [some ⟨n,r :: rs⟩]:=nr rfl
theorem aeV (n : Nat) (rows : List (List V)) (r : List V) : WE n (rows ++ [r]) = [some ⟨n,rows ++ [r]⟩]:=by cases rows <;> rfl
theorem BD {vs : List V} {env : Nat → V} {σ : Store} {b1 b2 n k : Nat} {r1 r2 m1 m2 : List Nat} {rows : List (List V)} {r : List V} (hs : dR (rows ++ [r]))
  (h : aj σ k = some ⟨n,rows ++ [r]⟩) (he : AB [some (k,0,rows.length + 1)] σ vs 0 env) : Fg ⟨bF vs,WE n (rows ++ [r]),0,b1,r1,m1⟩ ⟨env,σ,0,b2,r2,m2⟩:=by
 rw [aeV]
 refine Qn [(k,⟨n,rows ++ [r]⟩)] (by simp) ?_ rfl (by simpa using he)
 intro p hp
 simp only [List.mem_cons,List.not_mem_nil,or_false] at hp
 subst hp
 exact ⟨h,hs⟩
theorem qV {σ : Store} {k l n m : Nat} (hl : l ≤ m) (e : n = l) (h0 : 0 < n) : Ho [some (k,0,m)] σ (ZF n) (.bC k 0 l):=by
 subst e
 obtain ⟨j,rfl⟩ : ∃ j,n = j + 1:=⟨n - 1,by omega⟩
 rw [jB]
 exact kS rfl hl rfl
theorem aK {T : Tb} {f : Nat} {F : Fn} {args : List V} {r : V} (rf : Nat → Nat → Bool) (hT : T f = some F)
  (h : wp T rf F.body (fun e st=>ahp F.res e (bM r) st) (St.enter args [])) (hl : args.length = F.nargs:=by rfl) (hk : F.body.WC = true:=by rfl) : PF T f args r:=by
 obtain ⟨e,st',h1,h2⟩:=sK hk h
 have h3 : (e = .normal ∨ e = .ret) ∧ Hl F.res [] st' (bM r):=by
  cases e with
  | normal=>exact ⟨.inl rfl,h2⟩
  | ret=>exact ⟨.inr rfl,h2⟩
  | exit id=>exact h2.elim
 obtain ⟨he,h3⟩:=h3
 have:=Nl _ _ h3
 obtain ⟨rs,e1,h4⟩:=bG this
 obtain ⟨r',e2,h5⟩:=bG h4
 exact .Y5 (qU _) (.frz (.fn hT hl h1 he e1) e2) h5
theorem aeW (q : IntKind) (a b : Int) : bM (.int q a) (.int q b) = (b = a):=by simp [bM]
theorem Fj (a b : Bool) : bM (.bool a) (.bool b) = (b = a):=by simp [bM]
theorem fK (sz : Nat) : bM (.sl sz []) .ak = True:=by simp [bM]
theorem Ip (xs ys : List V) : bM (.agg xs) (.agg ys) = lW xs ys:=by simp [bM]
theorem Nr : lW [] [] = True:=by simp [lW]
theorem Ns (x y : V) (xs ys : List V) : lW (x :: xs) (y :: ys) = (bM x y ∧ lW xs ys):=by
 simp only [lW,List.cons.injEq]
 exact propext ⟨fun ⟨_,_,⟨e1,e2⟩,h1,h2⟩=>by subst e1;subst e2;exact ⟨h1,h2⟩,fun ⟨h1,h2⟩=>⟨y,ys,⟨rfl,rfl⟩,h1,h2⟩⟩
theorem abd {T : Tb} {f : Nat} {as as' : List V} {k : V → Prop} {r : V} (h : PF T f as' r) (ha : lW as' as) (hk : k r) : PFK T f as k:=⟨r,h.lax ha (aC r),hk⟩
theorem yF (l : List Int) (d : Int) : aN l ++ [[V.int .i64 d]] = aN (l ++ [d]):=by simp [aN]
theorem EVi : (∀ x : Int,[[V.int .i64 x]] = aN [x]) ∧ (∀ (x : Int) (l : List Int),[V.int .i64 x] :: aN l = aN (x :: l)) ∧ (∀ (l : List Int) (x : Int),aN l ++ [[V.int .i64 x]] = aN (l ++ [x])) ∧
  (∀ l m : List Int,aN l ++ aN m = aN (l ++ m)) :=
 ⟨fun _=>rfl,fun _ _=>rfl,fun l x=>by simp [aN],fun l m=>by simp [aN]⟩
theorem Gm {l : List Int} : aN l = [] ↔ l = []:=by simp [aN]
theorem fD : WE 1 (aN []) = []:=rfl
theorem dL (x : Int) (l : List Int) : WE 1 (aN (x :: l)) = [some ⟨1,aN (x :: l)⟩]:=rfl
theorem Ar (l : List Int) (d : Int) : dR (aN l ++ [[V.int .i64 d]]):=by rw [yF];exact nU _
theorem acH : aN [] = []:=rfl
theorem QC (x : Int) (l : List Int) : aN (x :: l) = [V.int .i64 x] :: aN l:=rfl
theorem J5 {t : Int} (h : 0 ≤ t) : t.tmod 1000000000 = t % 1000000000:=Int.tmod_eq_emod_of_nonneg h
theorem J6 {t : Int} (h : 0 ≤ t) : t.tdiv 1000000000 = t / 1000000000:=Int.tdiv_eq_ediv_of_nonneg h
theorem XB {N i va vb va' vb' : Nat} {xs : List Int} {c x y : Int} (hl : xs.length = i) (hc : 0 ≤ c) (hx : 0 ≤ x) (hy : 0 ≤ y)
  (h : val xs + 1000000000 ^ i * (c.toNat + va + vb) = N) (ha : va = x.toNat + 1000000000 * va') (hb : vb = y.toNat + 1000000000 * vb') :
  val (xs ++ [(c + x + y) % 1000000000]) + 1000000000 ^ (i + 1) * (((c + x + y) / 1000000000).toNat + va' + vb') = N:=by
 rw [nV,hl,Nat.pow_succ]
 have e : c.toNat + va + vb = ((c + x + y) % 1000000000).toNat + 1000000000 * (((c + x + y) / 1000000000).toNat + va' + vb'):=by omega
 rw [e,Nat.mul_add,← Nat.mul_assoc] at h
 omega
theorem XC {vx va vb p x y d bo XD : Nat} (h : vx + vb = va + bo * p) (hd : d + y + bo = x + XD * 1000000000) :
  (vx + p * d) + (vb + p * y) = (va + p * x) + XD * (p * 1000000000):=by
 have e:=congrArg (fun z=>p * z) hd
 simp only [Nat.mul_add] at e
 have e1 : p * bo = bo * p:=Nat.mul_comm _ _
 have e2 : p * (XD * 1000000000) = XD * (p * 1000000000):=by rw [← Nat.mul_assoc,Nat.mul_comm p XD,Nat.mul_assoc]
 omega
theorem SY {l : List Int} {i : Nat} {d : Int} (h : i < l.length) : (l.set i d).take (i + 1) = l.take i ++ [d]:=by
 rw [dU (by simpa using h)]
 congr 1
 ·rw [List.take_set,List.set_eq_of_length_le (by simp;omega)]
 ·simp [List.getD_eq_getElem?_getD,h]
theorem XE {vp vp' V0 a p q pb x y : Nat} {c t : Nat}
  (h : vp + c * (p * q) = V0 + a * (p * pb)) (hs : vp' + (p * q) * x = vp + (p * q) * (t % 1000000000)) (ht : t = c + x + a * y) :
  vp' + t / 1000000000 * (p * (q * 1000000000)) = V0 + a * (p * (pb + q * y)):=by
 have e1 : (p * q) * (t % 1000000000) + t / 1000000000 * (p * (q * 1000000000)) = (p * q) * t:=by
  have : t / 1000000000 * (p * (q * 1000000000)) = (p * q) * (1000000000 * (t / 1000000000)):=by
   rw [← Nat.mul_assoc p q,Nat.mul_comm (t / 1000000000),Nat.mul_assoc]
  rw [this,← Nat.mul_add]
  congr 1
  omega
 have e2 : (p * q) * t = (p * q) * c + (p * q) * x + (p * q) * (a * y):=by rw [ht,Nat.mul_add,Nat.mul_add]
 have e3 : a * (p * (pb + q * y)) = a * (p * pb) + (p * q) * (a * y):=by
  rw [Nat.mul_add,Nat.mul_add,← Nat.mul_assoc p q y]
  congr 1
  rw [← Nat.mul_assoc,Nat.mul_comm a (p * q),Nat.mul_assoc]
 have e4 : c * (p * q) = (p * q) * c:=Nat.mul_comm _ _
 omega
theorem Gn {a b q r : Nat} (h : a = q * b + r) (hr : r < b) : q = a / b ∧ r = a % b:=by
 have hb : 0 < b:=by omega
 subst h
 constructor
 ·rw [Nat.mul_comm,Nat.mul_add_div hb,Nat.div_eq_of_lt hr,Nat.add_zero]
 ·rw [Nat.mul_comm,Nat.mul_add_mod,Nat.mod_eq_of_lt hr]
end Go.Ml
namespace Go.Ml
theorem Oo {l : List Int} (i : Nat) : val (l.drop i) ≤ val l:=by
 rw [sN l i]
 have : val (l.drop i) ≤ 1000000000 ^ (l.take i).length * val (l.drop i):=Nat.le_mul_of_pos_left _ (Nat.pow_pos (by omega))
 omega
theorem Ja {l : List Int} {i : Nat} (h : i < l.length) : l.drop i = l.getD i 0 :: l.drop (i + 1):=by
 rw [List.drop_eq_getElem_cons h,List.getD_eq_getElem?_getD,List.getElem?_eq_getElem h];rfl
theorem abe {m n : Nat} {xs : List Int} (hv : val xs = m + n) (hb : Lb xs) (hl : xs.length ≤ max (mk m).length (mk n).length ∨ xs.getLast? ≠ some 0) : mk (m + n) = xs:=by
 rw [← hv]
 refine mk_val ⟨hb,?_⟩
 rcases hl with hl | hl
 ·refine (acw hb fun hne=>?_).2
  have hpos : 0 < xs.length:=by
   cases xs with
   | nil=>exact absurd rfl hne
   | cons=>simp
  rw [hv]
  have p1 : ∀ k : Nat,mk k ≠ [] → 1000000000 ^ ((mk k).length - 1) ≤ k:=fun k hk=>by
   have:=Zv (lD k) hk
   rwa [val_mk] at this
  by_cases hmn : (mk n).length ≤ (mk m).length
  ·have hm : mk m ≠ []:=by intro e;have h0 : (mk m).length = 0:=(by rw [e];rfl);omega
   have:=p1 m hm
   have h2 : (1000000000 : Nat) ^ (xs.length - 1) ≤ 1000000000 ^ ((mk m).length - 1):=Nat.pow_le_pow_right (by omega) (by omega)
   omega
  ·have hm : mk n ≠ []:=by intro e;have h0 : (mk n).length = 0:=(by rw [e];rfl);omega
   have:=p1 n hm
   have h2 : (1000000000 : Nat) ^ (xs.length - 1) ≤ 1000000000 ^ ((mk n).length - 1):=Nat.pow_le_pow_right (by omega) (by omega)
   omega
 ·exact hl
theorem Gp {l : List Int} {i : Nat} (h : l.length ≤ i) : l.getD i 0 = 0:=by
 rw [List.getD_eq_getElem?_getD,List.getElem?_eq_none h];rfl
theorem gq (l : List Int) (i : Nat) : val (l.drop i) = (l.getD i 0).toNat + 1000000000 * val (l.drop (i + 1)):=by
 by_cases h : i < l.length
 ·exact aeA h
 ·rw [bV (by omega),bV (by omega),Gp (by omega)];rfl
end Go.Ml
namespace Go.Ml
theorem iR (l : List Int) (i j : Nat) (v : Int) : (l.set i v).getD j 0 = if i = j ∧ i < l.length then v else l.getD j 0:=by
 simp only [List.getD_eq_getElem?_getD,List.getElem?_set]
 by_cases h : i = j
 ·subst h
  by_cases h2 : i < l.length
  ·simp [h2]
  ·simp [h2,List.getElem?_eq_none (Nat.le_of_not_lt h2)]
 ·simp [h]
end Go.Ml
namespace Go.Ml
theorem drop_set_self {l : List Int} {i : Nat} {d : Int} (h : i < l.length) : (l.set i d).drop i = d :: l.drop (i + 1):=by
 induction l generalizing i with
 | nil=>simp at h
 |
  cons x l ih =>
  cases i with
  | zero=>simp
  | succ i=>simpa using ih (by simpa using h)
theorem ny {a b : Nat} : 0 ≤ Fe a b ↔ b ≤ a:=by
 unfold Fe
 by_cases h : a < b
 ·rw [if_pos h];omega
 ·rw [if_neg h]
  split <;> omega
theorem mk_one {d : Nat} (h0 : 0 < d) (h1 : d < 1000000000) : mk d = [(d : Int)]:=by
 rw [mk_pos (by omega),Nat.mod_eq_of_lt h1,Nat.div_eq_of_lt h1,mk_zero]
theorem aeX {r b : Nat} (hb : 0 < b) (hle : b ≤ r) (hlt : r < b * 1000000000) :
  (mk b).length ≤ (mk r).length ∧ (mk r).length ≤ (mk b).length + 1 ∧ 0 < (mk b).length ∧
  ((mk b).length = 1 → let d:=val ((mk r).drop 0) / ((mk b).getD 0 0).toNat;0 < d ∧ d < 1000000000 ∧ d * b ≤ r ∧ 0 < ((mk b).getD 0 0).toNat) ∧
  (let d:=val ((mk r).drop ((mk b).length - 1)) / (((mk b).getD ((mk b).length - 1) 0).toNat + 1);d < 1000000000 ∧ d * b ≤ r):=by
 have hbm:=aez (n:=b) (by omega)
 have h1 : (mk b).length ≤ (mk r).length:=by
  have : (mk b).length - 1 < (mk r).length:=by
   rw [Uh]
   have:=Zv (lD b) (by intro e;rw [e] at hbm;simp at hbm)
   rw [val_mk] at this
   omega
  omega
 have h2 : (mk r).length ≤ (mk b).length + 1:=by
  rw [aZ,Nat.pow_succ]
  have:=pG (kH b)
  rw [val_mk] at this
  exact Nat.lt_of_lt_of_le hlt (Nat.mul_le_mul_right _ (Nat.le_of_lt this))
 refine ⟨h1,h2,hbm,?_,?_⟩
 ·intro hm
  have eb : ((mk b).getD 0 0).toNat = b:=by
   have h3:=gq (mk b) 0
   rw [List.drop_zero,val_mk,bV (by omega)] at h3
   omega
  rw [List.drop_zero,val_mk,eb]
  refine ⟨Nat.div_pos hle hb,Nat.div_lt_of_lt_mul (by omega),Nat.div_mul_le_self r b,hb⟩
 ·have er:=sN (mk r) ((mk b).length - 1)
  have eb:=sN (mk b) ((mk b).length - 1)
  rw [val_mk] at er eb
  have l1 : ((mk r).take ((mk b).length - 1)).length = (mk b).length - 1:=by simp;omega
  have l2 : ((mk b).take ((mk b).length - 1)).length = (mk b).length - 1:=by simp
  rw [l1] at er
  rw [l2] at eb
  have ed:=gq (mk b) ((mk b).length - 1)
  rw [show (mk b).length - 1 + 1 = (mk b).length by omega,bV (Nat.le_refl _)] at ed
  have hlo:=pG (Va (kH b) ((mk b).length - 1))
  rw [l2] at hlo
  generalize hP : 1000000000 ^ ((mk b).length - 1) = P at *
  generalize hT : val ((mk r).drop ((mk b).length - 1)) = t at *
  generalize hB : ((mk b).getD ((mk b).length - 1) 0).toNat = bt at *
  have hd:=Nat.div_mul_le_self t (bt + 1)
  generalize hq : t / (bt + 1) = d at *
  have hbb : b ≤ P * (bt + 1):=by rw [Nat.mul_succ];rw [ed] at eb;simp only [Nat.mul_zero,Nat.add_zero] at eb;omega
  have key : d * b ≤ r:=by
   have s1 : d * b ≤ d * (P * (bt + 1)):=Nat.mul_le_mul_left _ hbb
   have s2 : d * (P * (bt + 1)) = P * (d * (bt + 1)):=by rw [Nat.mul_left_comm]
   have s3 : P * (d * (bt + 1)) ≤ P * t:=Nat.mul_le_mul_left _ hd
   omega
  refine ⟨?_,key⟩
  have : d * b < 1000000000 * b:=by rw [Nat.mul_comm 1000000000];omega
  exact Nat.lt_of_mul_lt_mul_right this
def BF : Fn:=⟨1,33,[.tmp 2],(sr [oN 2 mF] (.seq (sr [oW 5 0,oN 6 (ln 5),oN 7 (bc .gtr 6 60)] (cd 7 (sr [oN 2 mF] .ret) .skip)) (.seq (sr [oW 8 0,oN 9 (ln 8),oN 10 (.bY (cI 0))] (.block 0 (.loop (sr [oN 11 (bt .lss 10 9)] (.seq (cd 11 .skip (.exit 0)) (.seq (.block 1 (sr [oN 12 (ix 1 8 10),oN 13 (lF 1 12),oW 4 13] (sr [oW 14 4,oN 15 (bc .lss 14 0),oW 16 15,oG 16 false 17 (oV 4),oG 16 false 18 (bc .geq 17 1000000000),oN 19 (.pick (.t 16) (.c (.bool true)) (.t 18))] (cd 19 (sr [oN 2 mF] .ret) .skip)))) (rg [oN 20 (bc .add 10 1),oW 10 20]))))))) (sr [oW 21 0,oN 22 (ln 21),oN 23 (bc .eql 22 0),oW 24 23,oG 24 false 25 (oV 0),oG 24 false 26 (oV 0),oG 24 false 27 (ln 26),oG 24 false 28 (bc .sub 27 1),oG 24 false 29 (ix 1 25 28),oG 24 false 30 (lF 1 29),oG 24 false 31 (bc .neq 30 0),oN 32 (.pick (.t 24) (.c (.bool true)) (.t 31)),oW 2 32] .ret))))⟩
structure BG (T : Tb) : Prop where
 hT : T 126 = some BF
def l9 : Fn:=⟨1,16,[.tmp 2],(sr [oN 2 mN] (.seq (rf 1 [oN 4 (.dS 1 DW 0 []),oK 3 1 (oV 4)]) (.seq (.block 0 (.loop (.seq (sr [oW 5 0,oN 6 (.bin .gtr (.t 5) (.c (.int .u64 0)))] (cd 6 .skip (.exit 0))) (.block 1 (.seq (rf 2 [oK 7 2 (oV 3),oK 8 2 (oV 0),oK 9 2 (.bin .rem (.t 8) (.c (.int .u64 1000000000))),oK 10 2 (.conv .i64 (.t 9)),oN 11 (.dS 1 DW 1 [(0,(.t 10))]),oK 12 1 (.app 1 8 (.t 7) (.t 11)),oK 3 2 (oV 12)]) (rg [oW 13 0,oN 14 (.bin .quo (.t 13) (.c (.int .u64 1000000000))),oW 0 14])))))) (sr [oW 15 3,oW 2 15] .ret))))⟩
structure jU (T : Tb) : Prop where
 hT : T 69 = some l9
def yT : Fn:=⟨2,41,[.tmp 4],(sr [oN 4 (.bY (cI 0))] (.seq (sr [oW 6 0,oN 7 (ln 6),oW 8 1,oN 9 (ln 8),oN 10 (bt .lss 7 9)] (cd 10 (sr [oN 4 (.bY (cI (-1)))] .ret) .skip)) (.seq (sr [oW 11 0,oN 12 (ln 11),oW 13 1,oN 14 (ln 13),oN 15 (bt .gtr 12 14)] (cd 15 (sr [oN 4 (.bY (cI 1))] .ret) .skip)) (.seq (sr [oW 16 0,oN 17 (ln 16),oN 18 (bc .sub 17 1),oW 5 18] (.block 0 (.loop (.seq (sr [oW 19 5,oN 20 (bc .geq 19 0)] (cd 20 .skip (.exit 0))) (.seq (.block 1 (.seq (.seq (rt 0 [oW 23 0,oW 24 5,oA 25 0 (ix 1 23 24) [0,1],oA 26 0 (lF 1 25) [2],oW 27 1,oW 28 5,oA 29 0 (ix 1 27 28) [4,5],oA 30 0 (lF 1 29) [6],oA 31 0 (bt .lss 26 30) [3,7]]) (cd 31 (sr [oN 4 (.bY (cI (-1)))] .ret) .skip)) (.seq (rt 0 [oW 32 0,oW 33 5,oA 34 0 (ix 1 32 33) [0,1],oA 35 0 (lF 1 34) [2],oW 36 1,oW 37 5,oA 38 0 (ix 1 36 37) [4,5],oA 39 0 (lF 1 38) [6],oA 40 0 (bt .gtr 35 39) [3,7]]) (cd 40 (sr [oN 4 (.bY (cI 1))] .ret) .skip)))) (rg [oW 21 5,oN 22 (bc .sub 21 1),oW 5 22])))))) (sr [oN 4 (.bY (cI 0))] .ret)))))⟩
structure yU (T : Tb) : Prop where
 hT : T 152 = some yT
def qx : Fn:=⟨1,21,[.tmp 2],(sr [oN 2 mN] (sr [oW 4 0,oN 5 (ln 4),oW 3 5] (.seq (.block 0 (.loop (.seq (sr [oW 6 3,oN 7 (bc .gtr 6 0),oW 8 7,oG 8 true 9 (oV 0),oG 8 true 10 (oV 3),oG 8 true 11 (bc .sub 10 1),oG 8 true 12 (ix 1 9 11),oG 8 true 13 (lF 1 12),oG 8 true 14 (bc .eql 13 0),oN 15 (.pick (.t 8) (.t 14) (.c (.bool false)))] (cd 15 .skip (.exit 0))) (.block 1 (rg [oW 16 3,oN 17 (bc .sub 16 1),oW 3 17]))))) (sr [oW 18 0,oW 19 3,oN 20 (.slice 1 (.t 18) none (some (.t 19))),oW 2 20] .ret))))⟩
structure mD (T : Tb) : Prop where
 hT : T 151 = some qx
def yV : Fn:=⟨2,53,[.tmp 4],(sr [oN 4 mN] (.seq (rf 1 [oN 8 (.dS 1 DW 0 []),oK 5 1 (oV 8)]) (sr [oN 6 (.bY (cI 0))] (.seq (sr [oN 7 (.bY (cI 0))] (.block 0 (.loop (.seq (sr [oW 9 7,oW 10 0,oN 11 (ln 10),oN 12 (bt .lss 9 11),oW 13 12,oG 13 false 14 (oV 7),oG 13 false 15 (oV 1),oG 13 false 16 (ln 15),oG 13 false 17 (bt .lss 14 16),oN 18 (.pick (.t 13) (.c (.bool true)) (.t 17)),oW 19 18,oG 19 false 20 (oV 6),oG 19 false 21 (bc .gtr 20 0),oN 22 (.pick (.t 19) (.c (.bool true)) (.t 21))] (cd 22 .skip (.exit 0))) (.seq (.block 1 (.seq (sr [oW 25 7,oW 26 0,oN 27 (ln 26),oN 28 (bt .lss 25 27)] (cd 28 (rg [oW 29 6,oW 30 0,oW 31 7,oN 32 (ix 1 30 31),oN 33 (lF 1 32),oN 34 (bt .add 29 33),oW 6 34]) .skip)) (.seq (sr [oW 35 7,oW 36 1,oN 37 (ln 36),oN 38 (bt .lss 35 37)] (cd 38 (rg [oW 39 6,oW 40 1,oW 41 7,oN 42 (ix 1 40 41),oN 43 (lF 1 42),oN 44 (bt .add 39 43),oW 6 44]) .skip)) (.seq (rf 2 [oK 45 2 (oV 5),oK 46 2 (oV 6),oK 47 2 (bc .rem 46 1000000000),oN 48 (.dS 1 DW 1 [(0,(.t 47))]),oK 49 1 (.app 1 8 (.t 45) (.t 48)),oK 5 2 (oV 49)]) (rg [oW 50 6,oN 51 (bc .quo 50 1000000000),oW 6 51]))))) (rg [oW 23 7,oN 24 (bc .add 23 1),oW 7 24])))))) (sr [oW 52 5,oW 4 52] .ret)))))⟩
structure Eh (T : Tb) : Prop where
 hT : T 160 = some yV
def yX : Fn:=⟨2,44,[.tmp 4],(sr [oN 4 mN] (.seq (rf 1 [oK 9 1 (oV 0),oK 10 1 (ln 9),oN 11 (.make DW 8 (.t 10)),oK 5 1 (oV 11)]) (sr [oN 6 (.bY (cI 0))] (.seq (sr [oW 12 0,oN 13 (ln 12),oN 14 (.bY (cI 0))] (.block 0 (.loop (sr [oN 15 (bt .lss 14 13)] (.seq (cd 15 .skip (.exit 0)) (.seq (.block 1 (sr [oW 16 14,oW 7 16] (sr [oW 17 0,oW 18 7,oN 19 (ix 1 17 18),oN 20 (lF 1 19),oW 21 6,oN 22 (bt .sub 20 21),oW 8 22] (.seq (sr [oW 23 7,oW 24 1,oN 25 (ln 24),oN 26 (bt .lss 23 25)] (cd 26 (rg [oW 27 8,oW 28 1,oW 29 7,oN 30 (ix 1 28 29),oN 31 (lF 1 30),oN 32 (bt .sub 27 31),oW 8 32]) .skip)) (sr [oN 6 (.bY (cI 0))] (.seq (sr [oW 33 8,oN 34 (bc .lss 33 0)] (cd 34 (sr [oW 35 8,oN 36 (bc .add 35 1000000000),oW 8 36] (rg [oN 6 (.bY (cI 1))])) .skip)) (rg [oW 37 5,oW 38 7,oW 39 8,oN 40 (ix 1 37 38),oS (.store 1 (.t 40) (.t 39))]))))))) (rg [oN 41 (bc .add 14 1),oW 14 41]))))))) (sr [oW 42 5,oN 43 (cl 151 [42]),oW 4 43] .ret)))))⟩
structure yY (T : Tb) : Prop where
 hT : T 154 = some yX
 jc : mD T
def yZ : Fn:=⟨2,71,[.tmp 4],(sr [oN 4 mN] (.seq (sr [oW 9 0,oN 10 (ln 9),oN 11 (bc .eql 10 0),oW 12 11,oG 12 false 13 (oV 1),oG 12 false 14 (ln 13),oG 12 false 15 (bc .eql 14 0),oN 16 (.pick (.t 12) (.c (.bool true)) (.t 15))] (cd 16 (sr [oN 4 mN] .ret) .skip)) (.seq (rf 1 [oK 17 1 (oV 0),oK 18 1 (ln 17),oK 19 1 (oV 1),oK 20 1 (ln 19),oK 21 1 (bt .add 18 20),oN 22 (.make DW 8 (.t 21)),oK 5 1 (oV 22)]) (.seq (sr [oW 23 0,oN 24 (ln 23),oN 25 (.bY (cI 0))] (.block 0 (.loop (sr [oN 26 (bt .lss 25 24)] (.seq (cd 26 .skip (.exit 0)) (.seq (.block 1 (sr [oW 27 25,oW 6 27] (sr [oN 7 (.bY (cI 0))] (.seq (sr [oW 28 1,oN 29 (ln 28),oN 30 (.bY (cI 0))] (.block 2 (.loop (sr [oN 31 (bt .lss 30 29)] (.seq (cd 31 .skip (.exit 2)) (.seq (.block 3 (sr [oW 32 30,oW 8 32] (.seq (rt 0 [oW 33 7,oW 34 5,oW 35 6,oW 36 8,oA 37 0 (bt .add 35 36) [2,3],oA 38 0 (ix 1 34 37) [1,4],oA 39 0 (lF 1 38) [5],oW 40 0,oW 41 6,oA 42 0 (ix 1 40 41) [7,8],oA 43 0 (lF 1 42) [9],oW 44 1,oW 45 8,oA 46 0 (ix 1 44 45) [11,12],oA 47 0 (lF 1 46) [13],oA 48 0 (bt .mul 43 47) [10,14],oA 49 0 (bt .add 39 48) [6,15],oA 50 0 (bt .add 33 49) [0,16],oA 7 0 (oV 50) [17,0,1,2,3,4,5,6,7,8,9,10,11,12,13,14,15,16,17]]) (sr [oW 51 5,oW 52 6,oW 53 8,oN 54 (bt .add 52 53),oW 55 7,oN 56 (bc .rem 55 1000000000),oN 57 (ix 1 51 54),oS (.store 1 (.t 57) (.t 56))] (rg [oW 58 7,oN 59 (bc .quo 58 1000000000),oW 7 59]))))) (rg [oN 60 (bc .add 30 1),oW 30 60]))))))) (rg [oW 61 5,oW 62 6,oW 63 1,oN 64 (ln 63),oN 65 (bt .add 62 64),oW 66 7,oN 67 (ix 1 61 65),oS (.store 1 (.t 67) (.t 66))]))))) (rg [oN 68 (bc .add 25 1),oW 25 68]))))))) (sr [oW 69 5,oN 70 (cl 151 [69]),oW 4 70] .ret)))))⟩
structure y7 (T : Tb) : Prop where
 hT : T 155 = some yZ
 jc : mD T
def uD : Fn:=⟨1,20,[.tmp 2],(sr [oN 2 (.bY (cI 0))] (sr [oN 3 (.bY (cI 0))] (.seq (sr [oW 5 0,oN 6 (ln 5),oN 7 (bc .sub 6 1),oW 4 7] (.block 0 (.loop (.seq (sr [oW 8 4,oN 9 (bc .geq 8 0)] (cd 9 .skip (.exit 0))) (.seq (.block 1 (rg [oW 12 3,oN 13 (bc .mul 12 1000000000),oW 14 0,oW 15 4,oN 16 (ix 1 14 15),oN 17 (lF 1 16),oN 18 (bt .add 13 17),oW 3 18])) (rg [oW 10 4,oN 11 (bc .sub 10 1),oW 4 11])))))) (sr [oW 19 3,oW 2 19] .ret))))⟩
structure uF (T : Tb) : Prop where
 hT : T 137 = some uD
theorem bZ {p : Prop} (h : p:=by
 first | omega | assumption | (simp;omega)) : p:=h
theorem Fq {T : Tb} (h : mD T) {l : List Int} (hl : l.length ≤ 1048576:=by exact bZ) : PF T 151 [ints l] (ints (trim l)):=by
 refine aT nR h.hT ?_
 simp only [qx,Lz]
 refine ev ?_
 refine aO (fun _ _=>false) (α:=Nat) (fun n=>⟨bF [ints l,.any,.any,iv (n : Nat)],[],0,0,[],[]⟩) (fun n=>n ≤ l.length ∧ ni l l.length = ni l n) (fun n=>n) rfl l.length ?_ ?_ ?_
 ·exact ⟨by omega,rfl⟩
 ·(refine aH ?_;exact wz)
 ·rintro n ⟨hn,ht⟩
  refine ev ?_
  refine aG (fun hb=>?_) fun hb=>?_ <;> (refine ev1 @hb ?_;try with_reducible exact True.intro)
  ·obtain ⟨m,rfl⟩ : ∃ m,n = m + 1:=⟨n - 1,by omega⟩
   have e1 : ((m + 1 : Nat) : Int) - 1 = (m : Nat):=by omega
   refine ev1 @e1 ?_
   refine aG (fun hc=>?_) fun hc=>?_ <;> (refine ev1 @hc ?_;try with_reducible exact True.intro)
   ·refine ⟨m,by omega,⟨by omega,?_⟩,by (refine aH ?_;exact wz)⟩
    rw [ht];simp only [ni,hc,if_true]
   ·rw [trim,ht];simp only [ni,hc,if_false]
  ·have : n = 0:=by omega
   subst this
   rw [trim,ht]
   simp [ni,aN]
theorem Lj {a b : St} (h : Fg a b:=by
 (refine Qn [] (by simp) (by intro p hp;cases hp) rfl ?_) <;> (try (refine ev ?_;try with_reducible exact True.intro)) <;> (repeat' (first | exact True.intro | omega | exact fZ rfl (by simp) | refine ⟨?_,?_⟩ | exact of_eq_true (Ap _ _ _) | exact iQ rfl (by simp;done) | exact iQ rfl rfl | (refine kS rfl ?_ rfl;simp [aN];done) | (refine kS rfl ?_ rfl;simp [aN];omega) | (refine CP ?_ ?_;(focus ((refine ev ?_;try with_reducible exact True.intro);done));(intro q hq k s0 l0;simp;done))))) : Fg a b:=h
theorem Ei {a b : St} (h : Fg a b:=by
 first | ((refine aH ?_;exact wz);done) | (exact Lj;done)) : Fg a b:=h
theorem Ej {a b : St} (h : Fg a b:=by
 (simp only [← yF];refine BD (k:=1) (Ar _ _) rfl ?_;(try (refine ev ?_;try with_reducible exact True.intro));(repeat' (first | exact True.intro | omega | exact qV (by simp) (by simp) (by simp) | refine ⟨?_,?_⟩ | exact iQ rfl (by simp))))) : Fg a b:=h
theorem CV {a b : St} (h : Fg a b:=by
 (simp only [← yF];refine BD (k:=2) (Ar _ _) rfl ?_;(try (refine ev ?_;try with_reducible exact True.intro));(repeat' (first | exact True.intro | omega | exact qV (by simp) (by simp) (by simp) | refine ⟨?_,?_⟩ | exact iQ rfl (by simp))))) : Fg a b:=h
theorem qy {T : Tb} (h : jU T) {n : Int} (hn : 0 ≤ n ∧ n < 18446744073709551616:=by exact bZ) : PF T 69 [.int .u64 n] (ints (mk n.toNat)):=by
 have hlen : (mk n.toNat).length ≤ 3:=aZ.2 (by omega)
 refine aK nR h.hT ?_
 simp only [l9,Lz]
 refine ev ?_
 refine aO (fun _ _=>false) (α:=Nat × List Int) (fun q=>⟨bF [.int .u64 (q.1 : Nat),.any,.any,ZF q.2.length],WE 1 (aN q.2),0,0,[],[]⟩) (fun q=>q.2 ++ mk q.1 = mk n.toNat ∧ q.1 ≤ n.toNat) (fun q=>q.1) rfl (n.toNat,[]) ?_ ?_ ?_
 ·exact ⟨rfl,Nat.le_refl _⟩
 ·exact Ei
 ·rintro ⟨m,xs⟩ ⟨hm,hle⟩
  dsimp only at hm hle
  have hx : xs.length ≤ 3:=by
   have:=congrArg List.length hm
   simp at this;omega
  have e1 : ((m : Int).tmod 1000000000) = ((m % 1000000000 : Nat) : Int):=by rw [J5 (by omega)];omega
  have e2 : ((m : Int).tdiv 1000000000) = ((m / 1000000000 : Nat) : Int):=by rw [J6 (by omega)];omega
  have key : 0 < m → (xs ++ [((m % 1000000000 : Nat) : Int)]) ++ mk (m / 1000000000) = mk n.toNat:=fun h=>by
   rw [← hm,mk_pos (n:=m) (by omega)];simp
  (rcases xs with _ | ⟨x,xs⟩ <;> simp only [List.length_nil,List.length_cons,jX,jB,fD,dL] at hx ⊢)
  ·refine ev ?_
   refine aG (fun hb=>?_) fun hb=>?_ <;> (refine vC @hb @e1 @e2 ?_;try with_reducible exact True.intro)
   ·exact ⟨by omega,(m / 1000000000,[] ++ [((m % 1000000000 : Nat) : Int)]),by dsimp only;omega,⟨key (by omega),by dsimp only;omega⟩,by exact Ej⟩
   ·have e : mk n.toNat = []:=by rw [← hm,show m = 0 by omega,mk_zero];rfl
    rw [e];exact (fK 1 ▸ trivial)
  ·refine ev ?_
   refine aG (fun hb=>?_) fun hb=>?_ <;> (refine vC @hb @e1 @e2 ?_;try with_reducible exact True.intro)
   ·refine ⟨by omega,(m / 1000000000,(x :: xs) ++ [((m % 1000000000 : Nat) : Int)]),by dsimp only;omega,⟨key (by omega),by dsimp only;omega⟩,by exact CV⟩
   ·have e : x :: xs = mk n.toNat:=by rw [← hm,show m = 0 by omega,mk_zero];simp
    rw [← e];exact aC _
theorem abf {T : Tb} (h : BG T) {l : List Int} (hl : l.length ≤ 9223372036854775807:=by exact bZ) : PF T 126 [ints l] (.bool (nX l)):=by
 refine aT nR h.hT ?_
 simp only [BF,Lz]
 refine ev ?_
 refine aG (fun h1=>?_) fun h1=>?_ <;> (refine ev1 @h1 ?_;try with_reducible exact True.intro)
 ·simp [nX];intro h2;omega
 refine aO (fun _ _=>false) (α:=Nat) (fun i=>⟨bF [ints l,.any,.any,.any,.any,.any,.any,.any,ints l,iv (l.length : Nat),iv (i : Nat)],[],0,0,[],[]⟩) (fun i=>i ≤ l.length ∧ ∀ j,j < i → 0 ≤ l.getD j 0 ∧ l.getD j 0 < 1000000000) (fun i=>l.length - i) rfl 0 ?_ ?_ ?_
 ·exact ⟨by omega,by intro j hj;omega⟩
 ·(refine aH ?_;exact wz)
 ·rintro i ⟨hi,hj⟩
  refine ev ?_
  refine aG (fun h2=>?_) fun h2=>?_ <;> (refine ev1 @h2 ?_;try with_reducible exact True.intro)
  ·have bad : ¬ (0 ≤ l.getD i 0 ∧ l.getD i 0 < 1000000000) → nX l = false:=fun hn=>by
    have : ¬ nX l = true:=fun e=>by
     have hc:=(I9.1 e).2.1
     exact hn (kJ hc i)
    simpa using this
   repeat' (first | ((refine aG (fun hb=>?_) fun hb=>?_) <;> (try (refine ev1 @hb ?_;try with_reducible exact True.intro))))
   all_goals first
    | (rw [bad (by omega)];done)
    | (
      refine ⟨i + 1,by omega,⟨by omega,fun j hj'=>?_⟩,by (refine aH ?_;exact wz)⟩
      by_cases e : j = i
      ·subst e;omega
      ·exact hj j (by omega))
  ·have hi2 : i = l.length:=by omega
   subst hi2
   have hall : l.all (fun d=>decide (0 ≤ d) && decide (d < 1000000000)) = true:=by
    rw [List.all_eq_true]
    intro d hd
    obtain ⟨j,hj1,rfl⟩:=List.mem_iff_getElem.1 hd
    have:=hj j hj1
    rw [List.getD_eq_getElem?_getD,List.getElem?_eq_getElem hj1] at this
    simpa using this
   repeat' (first | ((refine aG (fun hb=>?_) fun hb=>?_) <;> (try (refine ev1 @hb ?_;try with_reducible exact True.intro))))
   ·have : l = []:=List.eq_nil_of_length_eq_zero (by omega)
    subst this;rfl
   ·have e1 : ((l.length : Nat) : Int) - 1 = ((l.length - 1 : Nat) : Int):=by omega
    have e2 : ((l.length : Int) - 1).toNat = l.length - 1:=by omega
    have e3 : l.isEmpty = false:=by cases l <;> simp_all
    have e4 : decide (l.length ≤ 60) = true:=by simp;omega
    unfold nX
    rw [hall,e3,e4,e2];simp
theorem QD {T : Tb} (h : yU T) {a b : List Int} (ha : Can a) (hb : Can b) (la : a.length ≤ 1048576:=by exact bZ) (lb : b.length ≤ 1048576:=by exact bZ) : PF T 152 [ints a,ints b] (iv (Fe (val a) (val b))):=by
 refine aT nR h.hT ?_
 simp only [yT,Lz]
 refine ev ?_
 refine aG (fun h1=>?_) fun h1=>?_ <;> (refine ev1 @h1 ?_;try with_reducible exact True.intro)
 ·have:=oq ha.1 hb (by omega)
  simp [Fe,this]
 refine aG (fun h2=>?_) fun h2=>?_ <;> (refine ev1 @h2 ?_;try with_reducible exact True.intro)
 ·have:=oq hb.1 ha (by omega)
  have h3 : ¬ val a < val b:=by omega
  simp [Fe,this,h3]
 have hl : a.length = b.length:=by omega
 refine aO (fun _ _=>false) (α:=Nat) (fun n=>⟨bF [ints a,ints b,.any,.any,.any,iv ((n : Int) - 1)],[],0,0,[],[]⟩) (fun n=>n ≤ a.length ∧ a.drop n = b.drop n) (fun n=>n) rfl a.length ?_ ?_ ?_
 ·exact ⟨by omega,by rw [List.drop_eq_nil_of_le (by omega),List.drop_eq_nil_of_le (by omega)]⟩
 ·(refine aH ?_;exact wz)
 ·rintro n ⟨hn,hd⟩
  refine ev ?_
  refine aG (fun h3=>?_) fun h3=>?_ <;> (refine ev1 @h3 ?_;try with_reducible exact True.intro)
  ·obtain ⟨m,rfl⟩ : ∃ m,n = m + 1:=⟨n - 1,by omega⟩
   have e1 : ((m + 1 : Nat) : Int) - 1 = (m : Nat):=by omega
   refine ev1 @e1 ?_
   refine aG (fun h4=>?_) fun h4=>?_ <;> (refine iP @h4 @e1 ?_;try with_reducible exact True.intro)
   ·have:=I8 ha.1 hb.1 (i:=m) (by omega) (by omega) hd h4
    simp [Fe,this]
   refine aG (fun h5=>?_) fun h5=>?_ <;> (refine iP @h5 @e1 ?_;try with_reducible exact True.intro)
   ·have:=I8 hb.1 ha.1 (i:=m) (by omega) (by omega) hd.symm h5
    have h6 : ¬ val a < val b:=by omega
    simp [Fe,this,h6]
   have e : a.getD m 0 = b.getD m 0:=by omega
   refine ⟨m,by omega,⟨by omega,?_⟩,by (refine aH ?_;exact wz)⟩
   rw [Ja (by omega),Ja (l:=b) (by omega),e,hd]
  ·have : n = 0:=by omega
   subst this
   simp only [List.drop_zero] at hd
   subst hd
   simp [Fe]
theorem yG {T : Tb} (h : uF T) {n : Nat} (hn : n < 1000000000000000000:=by exact bZ) : PF T 137 [ints (mk n)] (iv (n : Nat)):=by
 have hl : (mk n).length ≤ 2:=aZ.2 (by omega)
 have hv:=val_mk n
 refine aT nR h.hT ?_
 simp only [uD,Lz]
 refine ev ?_
 refine aO (fun _ _=>false) (α:=Nat) (fun k=>⟨bF [ints (mk n),.any,.any,iv (val ((mk n).drop k) : Nat),iv ((k : Int) - 1)],[],0,0,[],[]⟩) (fun k=>k ≤ (mk n).length) (fun k=>k) rfl (mk n).length ?_ ?_ ?_
 ·omega
 ·have e : val ((mk n).drop (mk n).length) = 0:=bV (Nat.le_refl _)
  simp only [e]
  (refine aH ?_;exact wz)
 ·intro k hk
  refine ev ?_
  refine aG (fun h3=>?_) fun h3=>?_ <;> (refine ev1 @h3 ?_;try with_reducible exact True.intro)
  ·obtain ⟨m,rfl⟩ : ∃ m,k = m + 1:=⟨k - 1,by omega⟩
   have e1 : ((m + 1 : Nat) : Int) - 1 = (m : Nat):=by omega
   have e2:=gq (mk n) m
   have e3:=Oo (l:=mk n) m
   have e4:=kJ (kH n) m
   refine ev1 @e1 ?_
   exact ⟨m,by omega,by omega,by (refine aH ?_;exact wz)⟩
  ·have : k = 0:=by omega
   subst this
   rw [List.drop_zero,hv]
theorem aeY {T : Tb} (h : Eh T) {m n : Nat} (la : (mk m).length ≤ 1000:=by exact bZ) (lb : (mk n).length ≤ 1000:=by exact bZ) : PF T 160 [ints (mk m),ints (mk n)] (ints (mk (m + n))):=by
 obtain ⟨a,hA⟩ : ∃ a,mk m = a:=⟨_,rfl⟩
 obtain ⟨b,hB⟩ : ∃ b,mk n = b:=⟨_,rfl⟩
 have hva : val a = m:=by rw [← hA,val_mk]
 have hvb : val b = n:=by rw [← hB,val_mk]
 have hba : Lb a:=hA ▸ kH m
 have hbb : Lb b:=hB ▸ kH n
 rw [hA] at la ⊢
 rw [hB] at lb ⊢
 refine aK nR h.hT ?_
 simp only [yV,Lz]
 refine ev ?_
 refine aO (fun _ _=>false) (α:=Nat × Int × List Int) (fun q=>⟨bF [ints a,ints b,.any,.any,.any,ZF q.2.2.length,iv q.2.1,iv (q.1 : Nat)],WE 1 (aN q.2.2),0,0,[],[]⟩) (fun q=>q.2.2.length = q.1 ∧ Lb q.2.2 ∧ (0 ≤ q.2.1 ∧ q.2.1 ≤ 1) ∧ val q.2.2 + 1000000000 ^ q.1 * (q.2.1.toNat + val (a.drop q.1) + val (b.drop q.1)) = m + n ∧ (q.1 ≤ max a.length b.length ∨ (q.1 = max a.length b.length + 1 ∧ q.2.1 = 0 ∧ q.2.2.getLast? ≠ some 0))) (fun q=>max a.length b.length + 1 - q.1) rfl (0,0,[]) ?_ ?_ ?_
 ·exact ⟨rfl,Zu,⟨by dsimp only;omega,by dsimp only;omega⟩,by simp [val,hva,hvb],by dsimp only;omega⟩
 ·exact Ei
 ·rintro ⟨i,c,xs⟩ ⟨hl,hlb,hc,hv,hi⟩
  dsimp only at hl hlb hc hv hi
  have hi' : i ≤ max a.length b.length ∨ (i = max a.length b.length + 1 ∧ c = 0):=hi.imp id fun h=>⟨h.1,h.2.1⟩
  have hx : xs.length ≤ 1001:=by omega
  have ea:=gq a i
  have eb:=gq b i
  have ga:=kJ hba i
  have gb:=kJ hbb i
  have step:=XB hl hc.1 ga.1 gb.1 hv ea eb
  have za : a.length ≤ i → a.getD i 0 = 0:=Gp
  have zb : b.length ≤ i → b.getD i 0 = 0:=Gp
  have key : ∀ t : Int,t = c + a.getD i 0 + b.getD i 0 → ((i : Int) < a.length ∨ (i : Int) < b.length ∨ 0 < c) → ∃ a' : Nat × Int × List Int,a' = (i + 1,t.tdiv 1000000000,xs ++ [t.tmod 1000000000]) ∧
    max a.length b.length + 1 - a'.1 < max a.length b.length + 1 - i ∧ (a'.2.2.length = a'.1 ∧ Lb a'.2.2 ∧ (0 ≤ a'.2.1 ∧ a'.2.1 ≤ 1) ∧ val a'.2.2 + 1000000000 ^ a'.1 * (a'.2.1.toNat + val (a.drop a'.1) + val (b.drop a'.1)) = m + n ∧
     (a'.1 ≤ max a.length b.length ∨ (a'.1 = max a.length b.length + 1 ∧ a'.2.1 = 0 ∧ a'.2.2.getLast? ≠ some 0))):=by
   intro t ht hor
   have ht0 : 0 ≤ t:=by omega
   refine ⟨_,rfl,?_⟩
   dsimp only
   rw [J5 ht0,J6 ht0]
   refine ⟨by omega,by simp [hl],Vb (by omega) (by omega) hlb,⟨by omega,by omega⟩,by rw [ht];exact step,?_⟩
   by_cases hlt : i < max a.length b.length
   ·left;omega
   ·right
    have h1:=za (by omega)
    have h2:=zb (by omega)
    refine ⟨by omega,by omega,?_⟩
    intro hlast
    rw [List.getLast?_concat] at hlast
    have:=Option.some.inj hlast
    omega
  have fin : ¬ ((i : Int) < a.length ∨ (i : Int) < b.length ∨ 0 < c) → xs = mk (m + n):=by
   intro hno
   have e1 : val (a.drop i) = 0:=bV (by omega)
   have e2 : val (b.drop i) = 0:=bV (by omega)
   rw [e1,e2,show c.toNat = 0 by omega] at hv
   simp only [Nat.add_zero,Nat.mul_zero] at hv
   refine (abe hv hlb ?_).symm
   rw [hA,hB]
   rcases hi with k | k
   ·left;omega
   ·right;exact k.2.2
  by_cases ca : (i : Int) < (a.length : Nat) <;> by_cases cb : (i : Int) < (b.length : Nat) <;> by_cases cc : 0 < c
  ·obtain ⟨_,rfl,k1,k2⟩:=key (c + a.getD i 0 + b.getD i 0) (by omega) (by omega)
   clear key step fin ea eb hi hv hlb hba hbb za zb
   (rcases xs with _ | ⟨x,xs⟩ <;> simp only [List.length_nil,List.length_cons,jX,jB,fD,dL] at hx ⊢)
   ·refine vC @ca @cb @cc ?_
    exact ⟨by omega,_,k1,k2,by exact Ej⟩
   ·refine vC @ca @cb @cc ?_
    exact ⟨by omega,_,k1,k2,by exact CV⟩
  ·obtain ⟨_,rfl,k1,k2⟩:=key (c + a.getD i 0 + b.getD i 0) (by omega) (by omega)
   clear key step fin ea eb hi hv hlb hba hbb za zb
   (rcases xs with _ | ⟨x,xs⟩ <;> simp only [List.length_nil,List.length_cons,jX,jB,fD,dL] at hx ⊢)
   ·refine vC @ca @cb @cc ?_
    exact ⟨by omega,_,k1,k2,by exact Ej⟩
   ·refine vC @ca @cb @cc ?_
    exact ⟨by omega,_,k1,k2,by exact CV⟩
  ·obtain ⟨_,rfl,k1,k2⟩:=key (c + a.getD i 0) (by omega) (by omega)
   clear key step fin ea eb hi hv hlb hba hbb za zb
   (rcases xs with _ | ⟨x,xs⟩ <;> simp only [List.length_nil,List.length_cons,jX,jB,fD,dL] at hx ⊢)
   ·refine vC @ca @cb @cc ?_
    exact ⟨by omega,_,k1,k2,by exact Ej⟩
   ·refine vC @ca @cb @cc ?_
    exact ⟨by omega,_,k1,k2,by exact CV⟩
  ·obtain ⟨_,rfl,k1,k2⟩:=key (c + a.getD i 0) (by omega) (by omega)
   clear key step fin ea eb hi hv hlb hba hbb za zb
   (rcases xs with _ | ⟨x,xs⟩ <;> simp only [List.length_nil,List.length_cons,jX,jB,fD,dL] at hx ⊢)
   ·refine vC @ca @cb @cc ?_
    exact ⟨by omega,_,k1,k2,by exact Ej⟩
   ·refine vC @ca @cb @cc ?_
    exact ⟨by omega,_,k1,k2,by exact CV⟩
  ·obtain ⟨_,rfl,k1,k2⟩:=key (c + b.getD i 0) (by omega) (by omega)
   clear key step fin ea eb hi hv hlb hba hbb za zb
   (rcases xs with _ | ⟨x,xs⟩ <;> simp only [List.length_nil,List.length_cons,jX,jB,fD,dL] at hx ⊢)
   ·refine vC @ca @cb @cc ?_
    exact ⟨by omega,_,k1,k2,by exact Ej⟩
   ·refine vC @ca @cb @cc ?_
    exact ⟨by omega,_,k1,k2,by exact CV⟩
  ·obtain ⟨_,rfl,k1,k2⟩:=key (c + b.getD i 0) (by omega) (by omega)
   clear key step fin ea eb hi hv hlb hba hbb za zb
   (rcases xs with _ | ⟨x,xs⟩ <;> simp only [List.length_nil,List.length_cons,jX,jB,fD,dL] at hx ⊢)
   ·refine vC @ca @cb @cc ?_
    exact ⟨by omega,_,k1,k2,by exact Ej⟩
   ·refine vC @ca @cb @cc ?_
    exact ⟨by omega,_,k1,k2,by exact CV⟩
  ·obtain ⟨_,rfl,k1,k2⟩:=key (c) (by omega) (by omega)
   clear key step fin ea eb hi hv hlb hba hbb za zb
   (rcases xs with _ | ⟨x,xs⟩ <;> simp only [List.length_nil,List.length_cons,jX,jB,fD,dL] at hx ⊢)
   ·refine vC @ca @cb @cc ?_
    exact ⟨by omega,_,k1,k2,by exact Ej⟩
   ·refine vC @ca @cb @cc ?_
    exact ⟨by omega,_,k1,k2,by exact CV⟩
  ·have e:=fin (by omega)
   clear key step fin ea eb hi hv hlb hba hbb za zb
   (rcases xs with _ | ⟨x,xs⟩ <;> simp only [List.length_nil,List.length_cons,jX,jB,fD,dL] at hx ⊢)
   ·refine vC @ca @cb @cc ?_
    rw [← e];exact (fK 1 ▸ trivial)
   ·refine vC @ca @cb @cc ?_
    rw [← e];exact aC _
theorem Ll {T : Tb} (h : yY T) {m n : Nat} (hle : n ≤ m) (la : (mk m).length ≤ 1000:=by exact bZ) (lb : (mk n).length ≤ 1000:=by exact bZ) : PF T 154 [ints (mk m),ints (mk n)] (ints (mk (m - n))):=by
 obtain ⟨a,hA⟩ : ∃ a,mk m = a:=⟨_,rfl⟩
 obtain ⟨b,hB⟩ : ∃ b,mk n = b:=⟨_,rfl⟩
 have hva : val a = m:=by rw [← hA,val_mk]
 have hvb : val b = n:=by rw [← hB,val_mk]
 have hba : Lb a:=hA ▸ kH m
 have hbb : Lb b:=hB ▸ kH n
 have hlen : b.length ≤ a.length:=by
  rcases Nat.lt_or_ge a.length b.length with k | k
  ·have:=oq hba (hB ▸ lD n) k
   omega
  ·exact k
 rw [hA] at la ⊢
 rw [hB] at lb ⊢
 refine aT nR h.hT ?_
 simp only [yX,Lz]
 refine ev ?_
 refine ⟨by omega,?_⟩
 rw [Gh]
 refine aO (fun _ _=>false) (α:=Nat × Int × List Int) (fun q=>⟨bF [ints a,ints b,.any,.any,.any,.bC 0 0 a.length,iv q.2.1,.any,.any,.any,.any,.any,ints a,iv (a.length : Nat),iv (q.1 : Nat)],[some ⟨1,aN q.2.2⟩],0,0,[],[]⟩) (fun q=>q.1 ≤ a.length ∧ q.2.2.length = a.length ∧ Lb q.2.2 ∧ (q.2.1 = 0 ∨ q.2.1 = 1) ∧ val (q.2.2.take q.1) + val (b.take q.1) = val (a.take q.1) + q.2.1.toNat * 1000000000 ^ q.1) (fun q=>a.length - q.1) rfl (0,0,List.replicate a.length 0) ?_ ?_ ?_
 ·exact ⟨by omega,by simp,JY _,.inl rfl,by simp [val]⟩
 ·(refine aH ?_;exact wz)
 ·rintro ⟨i,bo,D⟩ ⟨hi,hD,J7,hbo,hv⟩
  dsimp only at hi hD J7 hbo hv
  have ga:=kJ hba i
  have gb:=kJ hbb i
  have zb : b.length ≤ i → b.getD i 0 = 0:=Gp
  by_cases c1 : (i : Int) < (a.length : Nat)
  ·have key : ∀ d XD : Int,d + b.getD i 0 + bo = a.getD i 0 + XD * 1000000000 → 0 ≤ d → d < 1000000000 → (XD = 0 ∨ XD = 1) → ∃ a' : Nat × Int × List Int,a' = (i + 1,XD,D.set i d) ∧
     a.length - a'.1 < a.length - i ∧ (a'.1 ≤ a.length ∧ a'.2.2.length = a.length ∧ Lb a'.2.2 ∧ (a'.2.1 = 0 ∨ a'.2.1 = 1) ∧ val (a'.2.2.take a'.1) + val (b.take a'.1) = val (a.take a'.1) + a'.2.1.toNat * 1000000000 ^ a'.1):=by
    intro d XD hd d0 d1 hb'
    refine ⟨_,rfl,by dsimp only;omega,by dsimp only;omega,by simp [hD],Gl d0 d1 J7,hb',?_⟩
    dsimp only
    have e1 : (D.take i).length = i:=by simp;omega
    have e2 : (a.take i).length = i:=by simp;omega
    rw [SY (by omega),nV,e1,dU (l:=a) (by omega),nV,e2]
    have e3 : val (b.take (i + 1)) = val (b.take i) + 1000000000 ^ i * (b.getD i 0).toNat:=by
     by_cases hb2 : i < b.length
     ·rw [dU hb2,nV];congr 3;simp;omega
     ·rw [List.take_of_length_le (by omega),List.take_of_length_le (by omega),zb (by omega)];simp
    rw [e3,Nat.pow_succ]
    exact XC hv (by omega)
   by_cases c2 : (i : Int) < (b.length : Nat)
   ·by_cases c3 : a.getD i 0 - bo - b.getD i 0 < 0
    ·obtain ⟨_,rfl,k1,k2⟩:=key (a.getD i 0 - bo - b.getD i 0 + 1000000000) 1 (by omega) (by omega) (by omega) (.inr rfl)
     clear key hv zb hba hbb J7
     refine ev4 @c1 @c2 @c3 @hD ?_
     exact ⟨_,k1,k2,by (refine aH ?_;exact wz)⟩
    ·obtain ⟨_,rfl,k1,k2⟩:=key (a.getD i 0 - bo - b.getD i 0) 0 (by omega) (by omega) (by omega) (.inl rfl)
     clear key hv zb hba hbb J7
     refine ev4 @c1 @c2 @c3 @hD ?_
     exact ⟨_,k1,k2,by (refine aH ?_;exact wz)⟩
   ·have z:=zb (by omega)
    by_cases c3 : a.getD i 0 - bo < 0
    ·obtain ⟨_,rfl,k1,k2⟩:=key (a.getD i 0 - bo + 1000000000) 1 (by omega) (by omega) (by omega) (.inr rfl)
     clear key hv zb hba hbb J7
     refine ev4 @c1 @c2 @c3 @hD ?_
     exact ⟨_,k1,k2,by (refine aH ?_;exact wz)⟩
    ·obtain ⟨_,rfl,k1,k2⟩:=key (a.getD i 0 - bo) 0 (by omega) (by omega) (by omega) (.inl rfl)
     clear key hv zb hba hbb J7
     refine ev4 @c1 @c2 @c3 @hD ?_
     exact ⟨_,k1,k2,by (refine aH ?_;exact wz)⟩
  ·have hi2 : i = a.length:=by omega
   subst hi2
   rw [← hD,List.take_length,hD,List.take_length,List.take_of_length_le (by omega)] at hv
   have hlt:=pG J7
   rw [hD] at hlt
   have hz : bo = 0:=by
    rcases hbo with h | h
    ·exact h
    ·rw [h] at hv
     simp at hv
     omega
   subst hz
   refine iP @c1 @hD ?_
   refine ah (Fq h.jc (l:=D) (by omega)) ?_
   refine ev ?_
   rw [uz J7]
   congr 3
   simp at hv
   omega
theorem aeZ {x y : Int} (hx : 0 ≤ x ∧ x < 1000000000) (hy : 0 ≤ y ∧ y < 1000000000) : 0 ≤ x * y ∧ x * y ≤ 999999998000000001:=by
 refine ⟨Int.mul_nonneg hx.1 hy.1,?_⟩
 have : x * y ≤ 999999999 * 999999999:=Int.mul_le_mul (by omega) (by omega) hy.1 (by omega)
 omega
theorem QE {T : Tb} (h : y7 T) {m n : Nat} (la : (mk m).length ≤ 1000:=by exact bZ) (lb : (mk n).length ≤ 1000:=by exact bZ) : PF T 155 [ints (mk m),ints (mk n)] (ints (mk (m * n))):=by
 obtain ⟨a,hA⟩ : ∃ a,mk m = a:=⟨_,rfl⟩
 obtain ⟨b,hB⟩ : ∃ b,mk n = b:=⟨_,rfl⟩
 have hva : val a = m:=by rw [← hA,val_mk]
 have hvb : val b = n:=by rw [← hB,val_mk]
 have hba : Lb a:=hA ▸ kH m
 have hbb : Lb b:=hB ▸ kH n
 rw [hA] at la ⊢
 rw [hB] at lb ⊢
 refine aK nR h.hT ?_
 simp only [yZ,Lz]
 refine ev ?_
 by_cases h1 : a.length = 0
 ·have : a = []:=List.eq_nil_of_length_eq_zero h1
  have e : m = 0:=by rw [← hva,this];rfl
  have h1' : ((a.length : Nat) : Int) = 0:=by omega
  refine ev1 @h1' ?_
  rw [e,Nat.zero_mul,mk_zero];exact (fK 1 ▸ trivial)
 by_cases h2 : b.length = 0
 ·have : b = []:=List.eq_nil_of_length_eq_zero h2
  have e : n = 0:=by rw [← hvb,this];rfl
  have h1' : ¬ ((a.length : Nat) : Int) = 0:=by omega
  have h2' : ((b.length : Nat) : Int) = 0:=by omega
  refine iP @h1' @h2' ?_
  rw [e,Nat.mul_zero,mk_zero];exact (fK 1 ▸ trivial)
 have h1' : ¬ ((a.length : Nat) : Int) = 0:=by omega
 have h2' : ¬ ((b.length : Nat) : Int) = 0:=by omega
 refine iP @h1' @h2' ?_
 refine ⟨⟨by omega,by omega,by omega⟩,?_⟩
 have eL : ((a.length : Int) + (b.length : Int)).toNat = a.length + b.length:=by omega
 rw [eL,Gh]
 refine aO (fun _ _=>false) (α:=Nat × List Int) (fun q=>⟨bF [ints a,ints b,.any,.any,.any,.bC 0 0 (a.length + b.length),.any,.any,.any,.any,.any,.any,.any,.any,.any,.any,.any,.any,.any,.any,.any,.any,.any,ints a,iv (a.length : Nat),iv (q.1 : Nat)],[some ⟨1,aN q.2⟩],0,0,[],[]⟩) (fun q=>q.1 ≤ a.length ∧ q.2.length = a.length + b.length ∧ Lb q.2 ∧ val q.2 = val (a.take q.1) * n ∧ ∀ k,q.1 + b.length ≤ k → q.2.getD k 0 = 0) (fun q=>a.length - q.1) rfl (0,List.replicate (a.length + b.length) 0) ?_ ?_ ?_
 ·exact ⟨by omega,by simp,JY _,by rw [aa9];simp [val],by intro k _;simp [List.getD_eq_getElem?_getD,List.getElem?_replicate];split <;> rfl⟩
 ·(refine aH ?_;exact wz)
 ·rintro ⟨i,P⟩ ⟨hi,hP,hPb,hv,hz⟩
  dsimp only at hi hP hPb hv hz
  refine ev ?_
  refine aG (fun c1=>?_) fun c1=>?_ <;> (refine ev1 @c1 ?_;try with_reducible exact True.intro)
  ·have ga:=kJ hba i
   have eA : val (a.take (i + 1)) = val (a.take i) + 1000000000 ^ i * (a.getD i 0).toNat:=by
    rw [dU (by omega),nV];congr 3;simp;omega
   refine aO (fun _ _=>false) (α:=Nat × Int × List Int) (fun q=>⟨bF [ints a,ints b,.any,.any,.any,.bC 0 0 (a.length + b.length),iv (i : Nat),iv q.2.1,.any,.any,.any,.any,.any,.any,.any,.any,.any,.any,.any,.any,.any,.any,.any,ints a,iv (a.length : Nat),iv (i : Nat),.any,.any,ints b,iv (b.length : Nat),iv (q.1 : Nat)],[some ⟨1,aN q.2.2⟩],0,0,[],[]⟩) (fun q=>q.1 ≤ b.length ∧ q.2.2.length = a.length + b.length ∧ Lb q.2.2 ∧ (0 ≤ q.2.1 ∧ q.2.1 < 1000000000) ∧ val q.2.2 + q.2.1.toNat * (1000000000 ^ i * 1000000000 ^ q.1) = val P + (a.getD i 0).toNat * (1000000000 ^ i * val (b.take q.1)) ∧ ∀ k,i + b.length ≤ k → q.2.2.getD k 0 = 0) (fun q=>b.length - q.1) rfl (0,0,P) ?_ ?_ ?_
   ·exact ⟨by omega,hP,hPb,⟨by dsimp only;omega,by dsimp only;omega⟩,by simp [val],hz⟩
   ·(refine aH ?_;exact wz)
   ·rintro ⟨j,c,D⟩ ⟨hj,hD,J7,hc,hw,hzD⟩
    dsimp only at hj hD J7 hc hw hzD
    have gb:=kJ hbb j
    have gd:=kJ J7 (i + j)
    have hm:=aeZ ga gb
    by_cases c2 : (j : Int) < (b.length : Nat)
    ·have k2 : (val (D.set (i + j) ((c + (D.getD (i + j) 0 + a.getD i 0 * b.getD j 0)) % 1000000000)) + ((c + (D.getD (i + j) 0 + a.getD i 0 * b.getD j 0)) / 1000000000).toNat * (1000000000 ^ i * 1000000000 ^ (j + 1))) = val P + (a.getD i 0).toNat * (1000000000 ^ i * val (b.take (j + 1))):=by
      have e1 : val (b.take (j + 1)) = val (b.take j) + 1000000000 ^ j * (b.getD j 0).toNat:=by
       rw [dU (by omega),nV];congr 3;simp;omega
      have e2:=O8 (l:=D) (i:=i + j) (d:=(c + (D.getD (i + j) 0 + a.getD i 0 * b.getD j 0)) % 1000000000) (by omega)
      have e3 : (a.getD i 0 * b.getD j 0).toNat = (a.getD i 0).toNat * (b.getD j 0).toNat:=Int.toNat_mul ga.1 gb.1
      have e4 : (c + (D.getD (i + j) 0 + a.getD i 0 * b.getD j 0)).toNat = c.toNat + (D.getD (i + j) 0).toNat + (a.getD i 0).toNat * (b.getD j 0).toNat:=by
       rw [← e3];omega
      rw [e1,Nat.pow_succ]
      rw [Nat.pow_add] at e2
      have e5 : ((c + (D.getD (i + j) 0 + a.getD i 0 * b.getD j 0)) % 1000000000).toNat = (c + (D.getD (i + j) 0 + a.getD i 0 * b.getD j 0)).toNat % 1000000000:=by omega
      have e6 : ((c + (D.getD (i + j) 0 + a.getD i 0 * b.getD j 0)) / 1000000000).toNat = (c + (D.getD (i + j) 0 + a.getD i 0 * b.getD j 0)).toNat / 1000000000:=by omega
      rw [e5] at e2
      rw [e6]
      exact XE hw e2 e4
     have k3 : ∀ k,i + b.length ≤ k → (D.set (i + j) ((c + (D.getD (i + j) 0 + a.getD i 0 * b.getD j 0)) % 1000000000)).getD k 0 = 0:=by
      intro k hk
      rw [iR,if_neg (by omega)]
      exact hzD k hk
     have k4:=Gl (l:=D) (i:=i + j) (d:=(c + (D.getD (i + j) 0 + a.getD i 0 * b.getD j 0)) % 1000000000) (by omega) (by omega) J7
     have t1 : (c + (D.getD (i + j) 0 + a.getD i 0 * b.getD j 0)).tmod 1000000000 = (c + (D.getD (i + j) 0 + a.getD i 0 * b.getD j 0)) % 1000000000:=J5 (by omega)
     have t2 : (c + (D.getD (i + j) 0 + a.getD i 0 * b.getD j 0)).tdiv 1000000000 = (c + (D.getD (i + j) 0 + a.getD i 0 * b.getD j 0)) / 1000000000:=J6 (by omega)
     have t3 : ((i : Int) + (j : Int)).toNat = i + j:=by omega
     clear hv hz hPb J7 eA hw hzD hba hbb
     refine ev5 @c2 @hD @t1 @t2 @t3 ?_
     refine ⟨(j + 1,(c + (D.getD (i + j) 0 + a.getD i 0 * b.getD j 0)) / 1000000000,D.set (i + j) ((c + (D.getD (i + j) 0 + a.getD i 0 * b.getD j 0)) % 1000000000)),by dsimp only;omega,⟨by dsimp only;omega,by simp [hD],k4,⟨by dsimp only;omega,by dsimp only;omega⟩,k2,k3⟩,by (refine aH ?_;exact wz)⟩
    ·have hj2 : j = b.length:=by omega
     subst hj2
     rw [List.take_length] at hw
     have e2:=O8 (l:=D) (i:=i + b.length) (d:=c) (by omega)
     rw [hzD (i + b.length) (Nat.le_refl _),Nat.pow_add] at e2
     have k1 : val (D.set (i + b.length) c) = val (a.take (i + 1)) * n:=by
      rw [eA,Nat.add_mul,← hv,← hvb]
      have : 1000000000 ^ i * (a.getD i 0).toNat * val b = (a.getD i 0).toNat * (1000000000 ^ i * val b):=by rw [Nat.mul_comm (1000000000 ^ i),Nat.mul_assoc]
      rw [this]
      have : c.toNat * (1000000000 ^ i * 1000000000 ^ b.length) = 1000000000 ^ i * 1000000000 ^ b.length * c.toNat:=Nat.mul_comm _ _
      simp only [Int.toNat_zero,Nat.mul_zero,Nat.add_zero] at e2
      omega
     have k2 : ∀ k,(i + 1) + b.length ≤ k → (D.set (i + b.length) c).getD k 0 = 0:=by
      intro k hk
      rw [iR,if_neg (by omega)]
      exact hzD k (by omega)
     have k3:=Gl (l:=D) (i:=i + b.length) hc.1 hc.2 J7
     have t3 : ((i : Int) + (b.length : Int)).toNat = i + b.length:=by omega
     clear hv hz hPb J7 eA hw hzD hba hbb e2
     refine vC @c2 @hD @t3 ?_
     exact ⟨(i + 1,D.set (i + b.length) c),by dsimp only;omega,⟨by dsimp only;omega,by simp [hD],k3,k1,k2⟩,by (refine aH ?_;exact wz)⟩
  ·have hi2 : i = a.length:=by omega
   subst hi2
   rw [List.take_length,hva] at hv
   refine ev1 @hP ?_
   refine ah (Fq h.jc (l:=P) (by omega)) ?_
   refine ev ?_
   rw [uz hPb,hv]
   exact aC _
def wB : Fn:=⟨1,21,[.tmp 2],(sr [oN 2 mN] (sr [oW 4 0,oN 5 (ln 4),oW 3 5] (.seq (.block 0 (.loop (.seq (sr [oW 6 3,oN 7 (bc .gtr 6 0),oW 8 7,oG 8 true 9 (oV 0),oG 8 true 10 (oV 3),oG 8 true 11 (bc .sub 10 1),oG 8 true 12 (ix 1 9 11),oG 8 true 13 (lF 1 12),oG 8 true 14 (bc .eql 13 0),oN 15 (.pick (.t 8) (.t 14) (.c (.bool false)))] (cd 15 .skip (.exit 0))) (.block 1 (rg [oW 16 3,oN 17 (bc .sub 16 1),oW 3 17]))))) (sr [oW 18 0,oW 19 3,oN 20 (.slice 1 (.t 18) none (some (.t 19))),oW 2 20] .ret))))⟩
structure jd (T : Tb) : Prop where
 hT : T 71 = some wB
def y8 : Fn:=⟨2,41,[.tmp 4],(sr [oN 4 (.bY (cI 0))] (.seq (sr [oW 6 0,oN 7 (ln 6),oW 8 1,oN 9 (ln 8),oN 10 (bt .neq 7 9)] (cd 10 (.seq (sr [oW 11 0,oN 12 (ln 11),oW 13 1,oN 14 (ln 13),oN 15 (bt .lss 12 14)] (cd 15 (sr [oN 4 (.bY (cI (-1)))] .ret) .skip)) (sr [oN 4 (.bY (cI 1))] .ret)) .skip)) (.seq (sr [oW 16 0,oN 17 (ln 16),oN 18 (bc .sub 17 1),oW 5 18] (.block 0 (.loop (.seq (sr [oW 19 5,oN 20 (bc .geq 19 0)] (cd 20 .skip (.exit 0))) (.seq (.block 1 (.seq (.seq (rt 0 [oW 23 0,oW 24 5,oA 25 0 (ix 1 23 24) [0,1],oA 26 0 (lF 1 25) [2],oW 27 1,oW 28 5,oA 29 0 (ix 1 27 28) [4,5],oA 30 0 (lF 1 29) [6],oA 31 0 (bt .lss 26 30) [3,7]]) (cd 31 (sr [oN 4 (.bY (cI (-1)))] .ret) .skip)) (.seq (rt 0 [oW 32 0,oW 33 5,oA 34 0 (ix 1 32 33) [0,1],oA 35 0 (lF 1 34) [2],oW 36 1,oW 37 5,oA 38 0 (ix 1 36 37) [4,5],oA 39 0 (lF 1 38) [6],oA 40 0 (bt .gtr 35 39) [3,7]]) (cd 40 (sr [oN 4 (.bY (cI 1))] .ret) .skip)))) (rg [oW 21 5,oN 22 (bc .sub 21 1),oW 5 22])))))) (sr [oN 4 (.bY (cI 0))] .ret))))⟩
structure ou (T : Tb) : Prop where
 hT : T 146 = some y8
def y9 : Fn:=⟨2,55,[.tmp 4],(sr [oN 4 mN] (.seq (rf 1 [oN 9 (.dS 1 DW 0 []),oK 5 1 (oV 9)]) (sr [oN 6 (.bY (cI 0))] (.seq (sr [oN 7 (.bY (cI 0))] (.block 0 (.loop (.seq (sr [oW 10 7,oW 11 0,oN 12 (ln 11),oN 13 (bt .lss 10 12),oW 14 13,oG 14 false 15 (oV 7),oG 14 false 16 (oV 1),oG 14 false 17 (ln 16),oG 14 false 18 (bt .lss 15 17),oN 19 (.pick (.t 14) (.c (.bool true)) (.t 18)),oW 20 19,oG 20 false 21 (oV 6),oG 20 false 22 (bc .gtr 21 0),oN 23 (.pick (.t 20) (.c (.bool true)) (.t 22))] (cd 23 .skip (.exit 0))) (.seq (.block 1 (sr [oW 26 6,oW 8 26] (.seq (sr [oW 27 7,oW 28 0,oN 29 (ln 28),oN 30 (bt .lss 27 29)] (cd 30 (rg [oW 31 8,oW 32 0,oW 33 7,oN 34 (ix 1 32 33),oN 35 (lF 1 34),oN 36 (bt .add 31 35),oW 8 36]) .skip)) (.seq (sr [oW 37 7,oW 38 1,oN 39 (ln 38),oN 40 (bt .lss 37 39)] (cd 40 (rg [oW 41 8,oW 42 1,oW 43 7,oN 44 (ix 1 42 43),oN 45 (lF 1 44),oN 46 (bt .add 41 45),oW 8 46]) .skip)) (.seq (rf 2 [oK 47 2 (oV 5),oK 48 2 (oV 8),oK 49 2 (bc .rem 48 1000000000),oN 50 (.dS 1 DW 1 [(0,(.t 49))]),oK 51 1 (.app 1 8 (.t 47) (.t 50)),oK 5 2 (oV 51)]) (rg [oW 52 8,oN 53 (bc .quo 52 1000000000),oW 6 53])))))) (rg [oW 24 7,oN 25 (bc .add 24 1),oW 7 25])))))) (sr [oW 54 5,oW 4 54] .ret)))))⟩
structure Em (T : Tb) : Prop where
 hT : T 209 = some y9
def zf : Fn:=⟨2,42,[.tmp 4],(sr [oN 4 mN] (.seq (rf 1 [oN 9 (.dS 1 DW 0 []),oK 5 1 (oV 9)]) (sr [oN 6 (.bY (cI 0))] (.seq (sr [oW 10 0,oN 11 (ln 10),oN 12 (.bY (cI 0))] (.block 0 (.loop (sr [oN 13 (bt .lss 12 11)] (.seq (cd 13 .skip (.exit 0)) (.seq (.block 1 (sr [oW 14 12,oW 7 14] (sr [oW 15 0,oW 16 7,oN 17 (ix 1 15 16),oN 18 (lF 1 17),oW 19 6,oN 20 (bt .sub 18 19),oW 8 20] (.seq (sr [oW 21 7,oW 22 1,oN 23 (ln 22),oN 24 (bt .lss 21 23)] (cd 24 (rg [oW 25 8,oW 26 1,oW 27 7,oN 28 (ix 1 26 27),oN 29 (lF 1 28),oN 30 (bt .sub 25 29),oW 8 30]) .skip)) (sr [oN 6 (.bY (cI 0))] (.seq (sr [oW 31 8,oN 32 (bc .lss 31 0)] (cd 32 (sr [oW 33 8,oN 34 (bc .add 33 1000000000),oW 8 34] (rg [oN 6 (.bY (cI 1))])) .skip)) (rf 2 [oK 35 2 (oV 5),oK 36 2 (oV 8),oN 37 (.dS 1 DW 1 [(0,(.t 36))]),oK 38 1 (.app 1 8 (.t 35) (.t 37)),oK 5 2 (oV 38)]))))))) (rg [oN 39 (bc .add 12 1),oW 12 39]))))))) (sr [oW 40 5,oN 41 (cl 71 [40]),oW 4 41] .ret)))))⟩
structure zh (T : Tb) : Prop where
 hT : T 149 = some zf
 dD : jd T
def zi : Fn:=⟨2,72,[.tmp 4],(sr [oN 4 mN] (.seq (sr [oW 12 0,oN 13 (ln 12),oN 14 (bc .eql 13 0),oW 15 14,oG 15 false 16 (oV 1),oG 15 false 17 (ln 16),oG 15 false 18 (bc .eql 17 0),oN 19 (.pick (.t 15) (.c (.bool true)) (.t 18))] (cd 19 (sr [oN 4 mN] .ret) .skip)) (.seq (rf 1 [oK 20 1 (oV 0),oK 21 1 (ln 20),oK 22 1 (oV 1),oK 23 1 (ln 22),oK 24 1 (bt .add 21 23),oN 25 (.make DW 8 (.t 24)),oK 5 1 (oV 25)]) (.seq (sr [oW 26 0,oN 27 (ln 26),oN 28 (.bY (cI 0))] (.block 0 (.loop (sr [oN 29 (bt .lss 28 27)] (.seq (cd 29 .skip (.exit 0)) (.seq (.block 1 (sr [oW 30 28,oN 31 (ix 1 26 28),oN 32 (lF 1 31),oW 6 30,oW 7 32] (sr [oN 8 (.bY (cI 0))] (.seq (sr [oW 33 1,oN 34 (ln 33),oN 35 (.bY (cI 0))] (.block 2 (.loop (sr [oN 36 (bt .lss 35 34)] (.seq (cd 36 .skip (.exit 2)) (.seq (.block 3 (sr [oW 37 35,oN 38 (ix 1 33 35),oN 39 (lF 1 38),oW 9 37,oW 10 39] (sr [oW 40 5,oW 41 6,oW 42 9,oN 43 (bt .add 41 42),oN 44 (ix 1 40 43),oN 45 (lF 1 44),oW 46 7,oW 47 10,oN 48 (bt .mul 46 47),oN 49 (bt .add 45 48),oW 50 8,oN 51 (bt .add 49 50),oW 11 51] (sr [oW 52 5,oW 53 6,oW 54 9,oN 55 (bt .add 53 54),oW 56 11,oN 57 (bc .rem 56 1000000000),oN 58 (ix 1 52 55),oS (.store 1 (.t 58) (.t 57))] (rg [oW 59 11,oN 60 (bc .quo 59 1000000000),oW 8 60]))))) (rg [oN 61 (bc .add 35 1),oW 35 61]))))))) (rg [oW 62 5,oW 63 6,oW 64 1,oN 65 (ln 64),oN 66 (bt .add 63 65),oW 67 8,oN 68 (ix 1 62 66),oS (.store 1 (.t 68) (.t 67))]))))) (rg [oN 69 (bc .add 28 1),oW 28 69]))))))) (sr [oW 70 5,oN 71 (cl 71 [70]),oW 4 71] .ret)))))⟩
structure lH (T : Tb) : Prop where
 hT : T 150 = some zi
 dD : jd T
def BH : Fn:=⟨1,15,[.tmp 2],(sr [oN 2 mN] (.seq (rf 1 [oN 4 (.dS 1 DW 0 []),oK 3 1 (oV 4)]) (.seq (.block 0 (.loop (.seq (sr [oW 5 0,oN 6 (bc .gtr 5 0)] (cd 6 .skip (.exit 0))) (.block 1 (.seq (rf 2 [oK 7 2 (oV 3),oK 8 2 (oV 0),oK 9 2 (bc .rem 8 1000000000),oN 10 (.dS 1 DW 1 [(0,(.t 9))]),oK 11 1 (.app 1 8 (.t 7) (.t 10)),oK 3 2 (oV 11)]) (rg [oW 12 0,oN 13 (bc .quo 12 1000000000),oW 0 13])))))) (sr [oW 14 3,oW 2 14] .ret))))⟩
structure qW (T : Tb) : Prop where
 hT : T 67 = some BH
def BI : Fn:=⟨3,15,[.tmp 6],(sr [oN 6 mF] (sr [oW 7 0,oW 8 1,oN 9 (bt .geq 7 8),oW 10 9,oG 10 true 11 (oV 0),oG 10 true 12 (oV 2),oG 10 true 13 (bt .leq 11 12),oN 14 (.pick (.t 10) (.t 13) (.c (.bool false))),oW 6 14] .ret))⟩
structure qX (T : Tb) : Prop where
 hT : T 35 = some BI
def BJ : Fn:=⟨1,32,[.tmp 2],(sr [oN 2 mF] (.seq (sr [oW 5 0,oN 6 (ln 5),oN 7 (.bY (cI 0))] (.block 0 (.loop (sr [oN 8 (bt .lss 7 6)] (.seq (cd 8 .skip (.exit 0)) (.seq (.block 1 (sr [oN 9 (ix 1 5 7),oN 10 (lF 1 9),oW 4 10] (sr [oW 11 4,oN 12 (.call 35 [(.t 11),(cI 0),(cI 999999999)]),oN 13 (nt 12)] (cd 13 (sr [oN 2 mF] .ret) .skip)))) (rg [oN 14 (bc .add 7 1),oW 7 14]))))))) (sr [oW 15 0,oN 16 (ln 15),oN 17 (bc .leq 16 60),oW 18 17,oG 18 true 19 (oV 0),oG 18 true 20 (ln 19),oG 18 true 21 (bc .eql 20 0),oG 18 true 22 (oV 21),oG 22 false 23 (oV 0),oG 22 false 24 (oV 0),oG 22 false 25 (ln 24),oG 22 false 26 (bc .sub 25 1),oG 22 false 27 (ix 1 23 26),oG 22 false 28 (lF 1 27),oG 22 false 29 (bc .neq 28 0),oG 18 true 30 (.pick (.t 22) (.c (.bool true)) (.t 29)),oN 31 (.pick (.t 18) (.t 30) (.c (.bool false))),oW 2 31] .ret)))⟩
structure wC (T : Tb) : Prop where
 hT : T 121 = some BJ
 nC : qX T
def zk : Fn:=⟨1,10,[.tmp 2],(sr [oN 2 mN] (sr [oW 4 0,oN 5 (cl 71 [4]),oW 3 5] (.seq (sr [oW 6 3,oN 7 (ln 6),oN 8 (bc .gtr 7 60)] (cd 8 (sr [oN 2 mN] .ret) .skip)) (sr [oW 9 3,oW 2 9] .ret))))⟩
structure En (T : Tb) : Prop where
 hT : T 70 = some zk
 dD : jd T
theorem vP {T : Tb} (h : jd T) {l : List Int} (hl : l.length ≤ 1048576:=by exact bZ) : PF T 71 [ints l] (ints (trim l)):=by
 refine aT nR h.hT ?_
 simp only [wB,Lz]
 refine ev ?_
 refine aO (fun _ _=>false) (α:=Nat) (fun n=>⟨bF [ints l,.any,.any,iv (n : Nat)],[],0,0,[],[]⟩) (fun n=>n ≤ l.length ∧ ni l l.length = ni l n) (fun n=>n) rfl l.length ?_ ?_ ?_
 ·exact ⟨by omega,rfl⟩
 ·(refine aH ?_;exact wz)
 ·rintro n ⟨hn,ht⟩
  refine ev ?_
  refine aG (fun hb=>?_) fun hb=>?_ <;> (refine ev1 @hb ?_;try with_reducible exact True.intro)
  ·obtain ⟨m,rfl⟩ : ∃ m,n = m + 1:=⟨n - 1,by omega⟩
   have e1 : ((m + 1 : Nat) : Int) - 1 = (m : Nat):=by omega
   refine ev1 @e1 ?_
   refine aG (fun hc=>?_) fun hc=>?_ <;> (refine ev1 @hc ?_;try with_reducible exact True.intro)
   ·refine ⟨m,by omega,⟨by omega,?_⟩,by (refine aH ?_;exact wz)⟩
    rw [ht];simp only [ni,hc,if_true]
   ·rw [trim,ht];simp only [ni,hc,if_false]
  ·have : n = 0:=by omega
   subst this
   rw [trim,ht]
   simp [ni,aN]
theorem ae0 {T : Tb} (h : En T) {n : Nat} (hl : (mk n).length ≤ 60:=by exact bZ) : PF T 70 [ints (mk n)] (ints (mk n)):=by
 have ct:=vP h.dD (l:=mk n) (by omega)
 rw [Qp (lD n)] at ct
 have c1 : ¬ (60 : Int) < ((mk n).length : Nat):=by omega
 refine aT nR h.hT ?_
 simp only [zk,Lz]
 refine ev ?_
 refine ah ct ?_
 (refine ev1 @c1 ?_;try with_reducible exact True.intro)
theorem Lm {T : Tb} (h : ou T) {a b : List Int} (ha : Can a) (hb : Can b) (la : a.length ≤ 1048576:=by exact bZ) (lb : b.length ≤ 1048576:=by exact bZ) : PF T 146 [ints a,ints b] (iv (Fe (val a) (val b))):=by
 refine aT nR h.hT ?_
 simp only [y8,Lz]
 refine ev ?_
 by_cases h1 : ((a.length : Nat) : Int) < (b.length : Nat)
 ·have:=oq ha.1 hb (by omega)
  have h0 : ¬ ((a.length : Nat) : Int) = (b.length : Nat):=by omega
  refine iP @h0 @h1 ?_
  simp [Fe,this]
 by_cases h2 : ((b.length : Nat) : Int) < (a.length : Nat)
 ·have:=oq hb.1 ha (by omega)
  have h3 : ¬ val a < val b:=by omega
  have h0 : ¬ ((a.length : Nat) : Int) = (b.length : Nat):=by omega
  refine iP @h0 @h1 ?_
  simp [Fe,this,h3]
 have hl : a.length = b.length:=by omega
 have h0:=iff_true_intro (show ((a.length : Nat) : Int) = (b.length : Nat) by omega)
 refine ev1 @h0 ?_
 refine aO (fun _ _=>false) (α:=Nat) (fun n=>⟨bF [ints a,ints b,.any,.any,.any,iv ((n : Int) - 1)],[],0,0,[],[]⟩) (fun n=>n ≤ a.length ∧ a.drop n = b.drop n) (fun n=>n) rfl a.length ?_ ?_ ?_
 ·exact ⟨by omega,by rw [List.drop_eq_nil_of_le (by omega),List.drop_eq_nil_of_le (by omega)]⟩
 ·(refine aH ?_;exact wz)
 ·rintro n ⟨hn,hd⟩
  refine ev ?_
  refine aG (fun h3=>?_) fun h3=>?_ <;> (refine ev1 @h3 ?_;try with_reducible exact True.intro)
  ·obtain ⟨m,rfl⟩ : ∃ m,n = m + 1:=⟨n - 1,by omega⟩
   have e1 : ((m + 1 : Nat) : Int) - 1 = (m : Nat):=by omega
   refine ev1 @e1 ?_
   refine aG (fun h4=>?_) fun h4=>?_ <;> (refine iP @h4 @e1 ?_;try with_reducible exact True.intro)
   ·have:=I8 ha.1 hb.1 (i:=m) (by omega) (by omega) hd h4
    simp [Fe,this]
   refine aG (fun h5=>?_) fun h5=>?_ <;> (refine iP @h5 @e1 ?_;try with_reducible exact True.intro)
   ·have:=I8 hb.1 ha.1 (i:=m) (by omega) (by omega) hd.symm h5
    have h6 : ¬ val a < val b:=by omega
    simp [Fe,this,h6]
   have e : a.getD m 0 = b.getD m 0:=by omega
   refine ⟨m,by omega,⟨by omega,?_⟩,by (refine aH ?_;exact wz)⟩
   rw [Ja (by omega),Ja (l:=b) (by omega),e,hd]
  ·have : n = 0:=by omega
   subst this
   simp only [List.drop_zero] at hd
   subst hd
   simp [Fe]
theorem ae1 {T : Tb} (h : Em T) {m n : Nat} (la : (mk m).length ≤ 1000:=by exact bZ) (lb : (mk n).length ≤ 1000:=by exact bZ) : PF T 209 [ints (mk m),ints (mk n)] (ints (mk (m + n))):=by
 obtain ⟨a,hA⟩ : ∃ a,mk m = a:=⟨_,rfl⟩
 obtain ⟨b,hB⟩ : ∃ b,mk n = b:=⟨_,rfl⟩
 have hva : val a = m:=by rw [← hA,val_mk]
 have hvb : val b = n:=by rw [← hB,val_mk]
 have hba : Lb a:=hA ▸ kH m
 have hbb : Lb b:=hB ▸ kH n
 rw [hA] at la ⊢
 rw [hB] at lb ⊢
 refine aK nR h.hT ?_
 simp only [y9,Lz]
 refine ev ?_
 refine aO (fun _ _=>false) (α:=Nat × Int × List Int) (fun q=>⟨bF [ints a,ints b,.any,.any,.any,ZF q.2.2.length,iv q.2.1,iv (q.1 : Nat)],WE 1 (aN q.2.2),0,0,[],[]⟩) (fun q=>q.2.2.length = q.1 ∧ Lb q.2.2 ∧ (0 ≤ q.2.1 ∧ q.2.1 ≤ 1) ∧ val q.2.2 + 1000000000 ^ q.1 * (q.2.1.toNat + val (a.drop q.1) + val (b.drop q.1)) = m + n ∧ (q.1 ≤ max a.length b.length ∨ (q.1 = max a.length b.length + 1 ∧ q.2.1 = 0 ∧ q.2.2.getLast? ≠ some 0))) (fun q=>max a.length b.length + 1 - q.1) rfl (0,0,[]) ?_ ?_ ?_
 ·exact ⟨rfl,Zu,⟨by dsimp only;omega,by dsimp only;omega⟩,by simp [val,hva,hvb],by dsimp only;omega⟩
 ·exact Ei
 ·rintro ⟨i,c,xs⟩ ⟨hl,hlb,hc,hv,hi⟩
  dsimp only at hl hlb hc hv hi
  have hi' : i ≤ max a.length b.length ∨ (i = max a.length b.length + 1 ∧ c = 0):=hi.imp id fun h=>⟨h.1,h.2.1⟩
  have hx : xs.length ≤ 1001:=by omega
  have ea:=gq a i
  have eb:=gq b i
  have ga:=kJ hba i
  have gb:=kJ hbb i
  have step:=XB hl hc.1 ga.1 gb.1 hv ea eb
  have za : a.length ≤ i → a.getD i 0 = 0:=Gp
  have zb : b.length ≤ i → b.getD i 0 = 0:=Gp
  have key : ∀ t : Int,t = c + a.getD i 0 + b.getD i 0 → ((i : Int) < a.length ∨ (i : Int) < b.length ∨ 0 < c) → ∃ a' : Nat × Int × List Int,a' = (i + 1,t.tdiv 1000000000,xs ++ [t.tmod 1000000000]) ∧
    max a.length b.length + 1 - a'.1 < max a.length b.length + 1 - i ∧ (a'.2.2.length = a'.1 ∧ Lb a'.2.2 ∧ (0 ≤ a'.2.1 ∧ a'.2.1 ≤ 1) ∧ val a'.2.2 + 1000000000 ^ a'.1 * (a'.2.1.toNat + val (a.drop a'.1) + val (b.drop a'.1)) = m + n ∧
     (a'.1 ≤ max a.length b.length ∨ (a'.1 = max a.length b.length + 1 ∧ a'.2.1 = 0 ∧ a'.2.2.getLast? ≠ some 0))):=by
   intro t ht hor
   have ht0 : 0 ≤ t:=by omega
   refine ⟨_,rfl,?_⟩
   dsimp only
   rw [J5 ht0,J6 ht0]
   refine ⟨by omega,by simp [hl],Vb (by omega) (by omega) hlb,⟨by omega,by omega⟩,by rw [ht];exact step,?_⟩
   by_cases hlt : i < max a.length b.length
   ·left;omega
   ·right
    have h1:=za (by omega)
    have h2:=zb (by omega)
    refine ⟨by omega,by omega,?_⟩
    intro hlast
    rw [List.getLast?_concat] at hlast
    have:=Option.some.inj hlast
    omega
  have fin : ¬ ((i : Int) < a.length ∨ (i : Int) < b.length ∨ 0 < c) → xs = mk (m + n):=by
   intro hno
   have e1 : val (a.drop i) = 0:=bV (by omega)
   have e2 : val (b.drop i) = 0:=bV (by omega)
   rw [e1,e2,show c.toNat = 0 by omega] at hv
   simp only [Nat.add_zero,Nat.mul_zero] at hv
   refine (abe hv hlb ?_).symm
   rw [hA,hB]
   rcases hi with k | k
   ·left;omega
   ·right;exact k.2.2
  by_cases ca : (i : Int) < (a.length : Nat) <;> by_cases cb : (i : Int) < (b.length : Nat) <;> by_cases cc : 0 < c
  ·obtain ⟨_,rfl,k1,k2⟩:=key (c + a.getD i 0 + b.getD i 0) (by omega) (by omega)
   clear key step fin ea eb hi hv hlb hba hbb za zb
   (rcases xs with _ | ⟨x,xs⟩ <;> simp only [List.length_nil,List.length_cons,jX,jB,fD,dL] at hx ⊢)
   ·refine vC @ca @cb @cc ?_
    exact ⟨by omega,_,k1,k2,by exact Ej⟩
   ·refine vC @ca @cb @cc ?_
    exact ⟨by omega,_,k1,k2,by exact CV⟩
  ·obtain ⟨_,rfl,k1,k2⟩:=key (c + a.getD i 0 + b.getD i 0) (by omega) (by omega)
   clear key step fin ea eb hi hv hlb hba hbb za zb
   (rcases xs with _ | ⟨x,xs⟩ <;> simp only [List.length_nil,List.length_cons,jX,jB,fD,dL] at hx ⊢)
   ·refine vC @ca @cb @cc ?_
    exact ⟨by omega,_,k1,k2,by exact Ej⟩
   ·refine vC @ca @cb @cc ?_
    exact ⟨by omega,_,k1,k2,by exact CV⟩
  ·obtain ⟨_,rfl,k1,k2⟩:=key (c + a.getD i 0) (by omega) (by omega)
   clear key step fin ea eb hi hv hlb hba hbb za zb
   (rcases xs with _ | ⟨x,xs⟩ <;> simp only [List.length_nil,List.length_cons,jX,jB,fD,dL] at hx ⊢)
   ·refine vC @ca @cb @cc ?_
    exact ⟨by omega,_,k1,k2,by exact Ej⟩
   ·refine vC @ca @cb @cc ?_
    exact ⟨by omega,_,k1,k2,by exact CV⟩
  ·obtain ⟨_,rfl,k1,k2⟩:=key (c + a.getD i 0) (by omega) (by omega)
   clear key step fin ea eb hi hv hlb hba hbb za zb
   (rcases xs with _ | ⟨x,xs⟩ <;> simp only [List.length_nil,List.length_cons,jX,jB,fD,dL] at hx ⊢)
   ·refine vC @ca @cb @cc ?_
    exact ⟨by omega,_,k1,k2,by exact Ej⟩
   ·refine vC @ca @cb @cc ?_
    exact ⟨by omega,_,k1,k2,by exact CV⟩
  ·obtain ⟨_,rfl,k1,k2⟩:=key (c + b.getD i 0) (by omega) (by omega)
   clear key step fin ea eb hi hv hlb hba hbb za zb
   (rcases xs with _ | ⟨x,xs⟩ <;> simp only [List.length_nil,List.length_cons,jX,jB,fD,dL] at hx ⊢)
   ·refine vC @ca @cb @cc ?_
    exact ⟨by omega,_,k1,k2,by exact Ej⟩
   ·refine vC @ca @cb @cc ?_
    exact ⟨by omega,_,k1,k2,by exact CV⟩
  ·obtain ⟨_,rfl,k1,k2⟩:=key (c + b.getD i 0) (by omega) (by omega)
   clear key step fin ea eb hi hv hlb hba hbb za zb
   (rcases xs with _ | ⟨x,xs⟩ <;> simp only [List.length_nil,List.length_cons,jX,jB,fD,dL] at hx ⊢)
   ·refine vC @ca @cb @cc ?_
    exact ⟨by omega,_,k1,k2,by exact Ej⟩
   ·refine vC @ca @cb @cc ?_
    exact ⟨by omega,_,k1,k2,by exact CV⟩
  ·obtain ⟨_,rfl,k1,k2⟩:=key (c) (by omega) (by omega)
   clear key step fin ea eb hi hv hlb hba hbb za zb
   (rcases xs with _ | ⟨x,xs⟩ <;> simp only [List.length_nil,List.length_cons,jX,jB,fD,dL] at hx ⊢)
   ·refine vC @ca @cb @cc ?_
    exact ⟨by omega,_,k1,k2,by exact Ej⟩
   ·refine vC @ca @cb @cc ?_
    exact ⟨by omega,_,k1,k2,by exact CV⟩
  ·have e:=fin (by omega)
   clear key step fin ea eb hi hv hlb hba hbb za zb
   (rcases xs with _ | ⟨x,xs⟩ <;> simp only [List.length_nil,List.length_cons,jX,jB,fD,dL] at hx ⊢)
   ·refine vC @ca @cb @cc ?_
    rw [← e];exact (fK 1 ▸ trivial)
   ·refine vC @ca @cb @cc ?_
    rw [← e];exact aC _
theorem wE {T : Tb} (h : lH T) {m n : Nat} (la : (mk m).length ≤ 1000:=by exact bZ) (lb : (mk n).length ≤ 1000:=by exact bZ) : PF T 150 [ints (mk m),ints (mk n)] (ints (mk (m * n))):=by
 obtain ⟨a,hA⟩ : ∃ a,mk m = a:=⟨_,rfl⟩
 obtain ⟨b,hB⟩ : ∃ b,mk n = b:=⟨_,rfl⟩
 have hva : val a = m:=by rw [← hA,val_mk]
 have hvb : val b = n:=by rw [← hB,val_mk]
 have hba : Lb a:=hA ▸ kH m
 have hbb : Lb b:=hB ▸ kH n
 rw [hA] at la ⊢
 rw [hB] at lb ⊢
 refine aK nR h.hT ?_
 simp only [zi,Lz]
 refine ev ?_
 by_cases h1 : a.length = 0
 ·have : a = []:=List.eq_nil_of_length_eq_zero h1
  have e : m = 0:=by rw [← hva,this];rfl
  have h1' : ((a.length : Nat) : Int) = 0:=by omega
  refine ev1 @h1' ?_
  rw [e,Nat.zero_mul,mk_zero];exact (fK 1 ▸ trivial)
 by_cases h2 : b.length = 0
 ·have : b = []:=List.eq_nil_of_length_eq_zero h2
  have e : n = 0:=by rw [← hvb,this];rfl
  have h1' : ¬ ((a.length : Nat) : Int) = 0:=by omega
  have h2' : ((b.length : Nat) : Int) = 0:=by omega
  refine iP @h1' @h2' ?_
  rw [e,Nat.mul_zero,mk_zero];exact (fK 1 ▸ trivial)
 have h1' : ¬ ((a.length : Nat) : Int) = 0:=by omega
 have h2' : ¬ ((b.length : Nat) : Int) = 0:=by omega
 refine iP @h1' @h2' ?_
 refine ⟨⟨by omega,by omega,by omega⟩,?_⟩
 have eL : ((a.length : Int) + (b.length : Int)).toNat = a.length + b.length:=by omega
 rw [eL,Gh]
 refine aO (fun _ _=>false) (α:=Nat × List Int) (fun q=>⟨bF [ints a,ints b,.any,.any,.any,.bC 0 0 (a.length + b.length),.any,.any,.any,.any,.any,.any,.any,.any,.any,.any,.any,.any,.any,.any,.any,.any,.any,.any,.any,.any,ints a,iv (a.length : Nat),iv (q.1 : Nat)],[some ⟨1,aN q.2⟩],0,0,[],[]⟩) (fun q=>q.1 ≤ a.length ∧ q.2.length = a.length + b.length ∧ Lb q.2 ∧ val q.2 = val (a.take q.1) * n ∧ ∀ k,q.1 + b.length ≤ k → q.2.getD k 0 = 0) (fun q=>a.length - q.1) rfl (0,List.replicate (a.length + b.length) 0) ?_ ?_ ?_
 ·exact ⟨by omega,by simp,JY _,by rw [aa9];simp [val],by intro k _;simp [List.getD_eq_getElem?_getD,List.getElem?_replicate];split <;> rfl⟩
 ·(refine aH ?_;exact wz)
 ·rintro ⟨i,P⟩ ⟨hi,hP,hPb,hv,hz⟩
  dsimp only at hi hP hPb hv hz
  refine ev ?_
  refine aG (fun c1=>?_) fun c1=>?_ <;> (refine ev1 @c1 ?_;try with_reducible exact True.intro)
  ·have ga:=kJ hba i
   have eA : val (a.take (i + 1)) = val (a.take i) + 1000000000 ^ i * (a.getD i 0).toNat:=by
    rw [dU (by omega),nV];congr 3;simp;omega
   refine aO (fun _ _=>false) (α:=Nat × Int × List Int) (fun q=>⟨bF [ints a,ints b,.any,.any,.any,.bC 0 0 (a.length + b.length),iv (i : Nat),iv (a.getD i 0),iv q.2.1,.any,.any,.any,.any,.any,.any,.any,.any,.any,.any,.any,.any,.any,.any,.any,.any,.any,ints a,iv (a.length : Nat),iv (i : Nat),.any,.any,.any,.any,ints b,iv (b.length : Nat),iv (q.1 : Nat)],[some ⟨1,aN q.2.2⟩],0,0,[],[]⟩) (fun q=>q.1 ≤ b.length ∧ q.2.2.length = a.length + b.length ∧ Lb q.2.2 ∧ (0 ≤ q.2.1 ∧ q.2.1 < 1000000000) ∧ val q.2.2 + q.2.1.toNat * (1000000000 ^ i * 1000000000 ^ q.1) = val P + (a.getD i 0).toNat * (1000000000 ^ i * val (b.take q.1)) ∧ ∀ k,i + b.length ≤ k → q.2.2.getD k 0 = 0) (fun q=>b.length - q.1) rfl (0,0,P) ?_ ?_ ?_
   ·exact ⟨by omega,hP,hPb,⟨by dsimp only;omega,by dsimp only;omega⟩,by simp [val],hz⟩
   ·(refine aH ?_;exact wz)
   ·rintro ⟨j,c,D⟩ ⟨hj,hD,J7,hc,hw,hzD⟩
    dsimp only at hj hD J7 hc hw hzD
    have gb:=kJ hbb j
    have gd:=kJ J7 (i + j)
    have hm:=aeZ ga gb
    by_cases c2 : (j : Int) < (b.length : Nat)
    ·have k2 : (val (D.set (i + j) ((D.getD (i + j) 0 + a.getD i 0 * b.getD j 0 + c) % 1000000000)) + ((D.getD (i + j) 0 + a.getD i 0 * b.getD j 0 + c) / 1000000000).toNat * (1000000000 ^ i * 1000000000 ^ (j + 1))) = val P + (a.getD i 0).toNat * (1000000000 ^ i * val (b.take (j + 1))):=by
      have e1 : val (b.take (j + 1)) = val (b.take j) + 1000000000 ^ j * (b.getD j 0).toNat:=by
       rw [dU (by omega),nV];congr 3;simp;omega
      have e2:=O8 (l:=D) (i:=i + j) (d:=(D.getD (i + j) 0 + a.getD i 0 * b.getD j 0 + c) % 1000000000) (by omega)
      have e3 : (a.getD i 0 * b.getD j 0).toNat = (a.getD i 0).toNat * (b.getD j 0).toNat:=Int.toNat_mul ga.1 gb.1
      have e4 : (D.getD (i + j) 0 + a.getD i 0 * b.getD j 0 + c).toNat = c.toNat + (D.getD (i + j) 0).toNat + (a.getD i 0).toNat * (b.getD j 0).toNat:=by
       rw [← e3];omega
      rw [e1,Nat.pow_succ]
      rw [Nat.pow_add] at e2
      have e5 : ((D.getD (i + j) 0 + a.getD i 0 * b.getD j 0 + c) % 1000000000).toNat = (D.getD (i + j) 0 + a.getD i 0 * b.getD j 0 + c).toNat % 1000000000:=by omega
      have e6 : ((D.getD (i + j) 0 + a.getD i 0 * b.getD j 0 + c) / 1000000000).toNat = (D.getD (i + j) 0 + a.getD i 0 * b.getD j 0 + c).toNat / 1000000000:=by omega
      rw [e5] at e2
      rw [e6]
      exact XE hw e2 e4
     have k3 : ∀ k,i + b.length ≤ k → (D.set (i + j) ((D.getD (i + j) 0 + a.getD i 0 * b.getD j 0 + c) % 1000000000)).getD k 0 = 0:=by
      intro k hk
      rw [iR,if_neg (by omega)]
      exact hzD k hk
     have k4:=Gl (l:=D) (i:=i + j) (d:=(D.getD (i + j) 0 + a.getD i 0 * b.getD j 0 + c) % 1000000000) (by omega) (by omega) J7
     have t1 : (D.getD (i + j) 0 + a.getD i 0 * b.getD j 0 + c).tmod 1000000000 = (D.getD (i + j) 0 + a.getD i 0 * b.getD j 0 + c) % 1000000000:=J5 (by omega)
     have t2 : (D.getD (i + j) 0 + a.getD i 0 * b.getD j 0 + c).tdiv 1000000000 = (D.getD (i + j) 0 + a.getD i 0 * b.getD j 0 + c) / 1000000000:=J6 (by omega)
     have t3 : ((i : Int) + (j : Int)).toNat = i + j:=by omega
     clear hv hz hPb J7 eA hw hzD hba hbb
     refine ev5 @c2 @hD @t1 @t2 @t3 ?_
     refine ⟨(j + 1,(D.getD (i + j) 0 + a.getD i 0 * b.getD j 0 + c) / 1000000000,D.set (i + j) ((D.getD (i + j) 0 + a.getD i 0 * b.getD j 0 + c) % 1000000000)),by dsimp only;omega,⟨by dsimp only;omega,by simp [hD],k4,⟨by dsimp only;omega,by dsimp only;omega⟩,k2,k3⟩,by (refine aH ?_;exact wz)⟩
    ·have hj2 : j = b.length:=by omega
     subst hj2
     rw [List.take_length] at hw
     have e2:=O8 (l:=D) (i:=i + b.length) (d:=c) (by omega)
     rw [hzD (i + b.length) (Nat.le_refl _),Nat.pow_add] at e2
     have k1 : val (D.set (i + b.length) c) = val (a.take (i + 1)) * n:=by
      rw [eA,Nat.add_mul,← hv,← hvb]
      have : 1000000000 ^ i * (a.getD i 0).toNat * val b = (a.getD i 0).toNat * (1000000000 ^ i * val b):=by rw [Nat.mul_comm (1000000000 ^ i),Nat.mul_assoc]
      rw [this]
      have : c.toNat * (1000000000 ^ i * 1000000000 ^ b.length) = 1000000000 ^ i * 1000000000 ^ b.length * c.toNat:=Nat.mul_comm _ _
      simp only [Int.toNat_zero,Nat.mul_zero,Nat.add_zero] at e2
      omega
     have k2 : ∀ k,(i + 1) + b.length ≤ k → (D.set (i + b.length) c).getD k 0 = 0:=by
      intro k hk
      rw [iR,if_neg (by omega)]
      exact hzD k (by omega)
     have k3:=Gl (l:=D) (i:=i + b.length) hc.1 hc.2 J7
     have t3 : ((i : Int) + (b.length : Int)).toNat = i + b.length:=by omega
     clear hv hz hPb J7 eA hw hzD hba hbb e2
     refine vC @c2 @hD @t3 ?_
     exact ⟨(i + 1,D.set (i + b.length) c),by dsimp only;omega,⟨by dsimp only;omega,by simp [hD],k3,k1,k2⟩,by (refine aH ?_;exact wz)⟩
  ·have hi2 : i = a.length:=by omega
   subst hi2
   rw [List.take_length,hva] at hv
   refine ev1 @hP ?_
   refine ah (vP h.dD (l:=P) (by omega)) ?_
   refine ev ?_
   rw [uz hPb,hv]
   exact aC _
theorem Pg {T : Tb} (h : qX T) {a b c : Int} : PF T 35 [iv a,iv b,iv c] (.bool (decide (b ≤ a) && decide (a ≤ c))):=by
 refine aT nR h.hT ?_
 simp only [BI,Lz]
 refine ev ?_
 by_cases h1 : b ≤ a
 ·(refine ev1 @h1 ?_;try with_reducible exact True.intro)
 ·(refine ev1 @h1 ?_;try with_reducible exact True.intro)
theorem QF {T : Tb} (h : wC T) {l : List Int} (hl : l.length ≤ 9223372036854775807:=by exact bZ) : PF T 121 [ints l] (.bool (nX l)):=by
 refine aT nR h.hT ?_
 simp only [BJ,Lz]
 refine ev ?_
 refine aO (fun _ _=>false) (α:=Nat) (fun i=>⟨bF [ints l,.any,.any,.any,.any,ints l,iv (l.length : Nat),iv (i : Nat)],[],0,0,[],[]⟩) (fun i=>i ≤ l.length ∧ ∀ j,j < i → 0 ≤ l.getD j 0 ∧ l.getD j 0 < 1000000000) (fun i=>l.length - i) rfl 0 ?_ ?_ ?_
 ·exact ⟨by omega,by intro j hj;omega⟩
 ·(refine aH ?_;exact wz)
 ·rintro i ⟨hi,hj⟩
  refine ev ?_
  refine aG (fun h2=>?_) fun h2=>?_ <;> (refine ev1 @h2 ?_;try with_reducible exact True.intro)
  ·have bad : ¬ (0 ≤ l.getD i 0 ∧ l.getD i 0 < 1000000000) → nX l = false:=fun hn=>by
    have : ¬ nX l = true:=fun e=>by
     have hc:=(I9.1 e).2.1
     exact hn (kJ hc i)
    simpa using this
   refine ah (Pg h.nC) ?_
   by_cases g : 0 ≤ l.getD i 0 ∧ l.getD i 0 < 1000000000
   ·have g1 : 0 ≤ l.getD i 0:=g.1
    have g2 : l.getD i 0 ≤ 999999999:=by omega
    refine iP @g1 @g2 ?_
    refine ⟨i + 1,by omega,⟨by omega,fun j hj'=>?_⟩,by (refine aH ?_;exact wz)⟩
    by_cases e : j = i
    ·subst e;omega
    ·exact hj j (by omega)
   ·rw [bad g]
    have g2 : (decide (0 ≤ l.getD i 0) && decide (l.getD i 0 ≤ 999999999)) = false:=by
     simp only [Bool.and_eq_false_iff,decide_eq_false_iff_not];omega
    (refine ev1 @g2 ?_;try with_reducible exact True.intro)
  ·have hi2 : i = l.length:=by omega
   subst hi2
   have hall : l.all (fun d=>decide (0 ≤ d) && decide (d < 1000000000)) = true:=by
    rw [List.all_eq_true]
    intro d hd
    obtain ⟨j,hj1,rfl⟩:=List.mem_iff_getElem.1 hd
    have:=hj j hj1
    rw [List.getD_eq_getElem?_getD,List.getElem?_eq_getElem hj1] at this
    simpa using this
   unfold nX
   rw [hall]
   by_cases q1 : ((l.length : Nat) : Int) ≤ 60
   ·have q1' : decide (l.length ≤ 60) = true:=by simp;omega
    rw [q1']
    by_cases q2 : ((l.length : Nat) : Int) = 0
    ·have q2':=iff_true_intro q2
     refine iP @q1 @q2' ?_
     have : l = []:=List.eq_nil_of_length_eq_zero (by omega)
     subst this;rfl
    ·refine iP @q1 @q2 ?_
     have e1 : ((l.length : Nat) : Int) - 1 = ((l.length - 1 : Nat) : Int):=by omega
     have e2 : ((l.length : Int) - 1).toNat = l.length - 1:=by omega
     have e3 : l.isEmpty = false:=by cases l <;> simp_all
     rw [e3,e2];simp
   ·have q1' : decide (l.length ≤ 60) = false:=by simp;omega
    rw [q1']
    (refine ev1 @q1 ?_;try with_reducible exact True.intro)
theorem Jb {T : Tb} (h : qW T) {n : Int} (hn : 0 ≤ n ∧ n ≤ 9223372036854775807:=by exact bZ) : PF T 67 [iv n] (ints (mk n.toNat)):=by
 have hlen : (mk n.toNat).length ≤ 3:=aZ.2 (by omega)
 refine aK nR h.hT ?_
 simp only [BH,Lz]
 refine ev ?_
 refine aO (fun _ _=>false) (α:=Nat × List Int) (fun q=>⟨bF [iv (q.1 : Nat),.any,.any,ZF q.2.length],WE 1 (aN q.2),0,0,[],[]⟩) (fun q=>q.2 ++ mk q.1 = mk n.toNat ∧ q.1 ≤ n.toNat) (fun q=>q.1) rfl (n.toNat,[]) ?_ ?_ ?_
 ·exact ⟨rfl,Nat.le_refl _⟩
 ·exact Ei
 ·rintro ⟨m,xs⟩ ⟨hm,hle⟩
  dsimp only at hm hle
  have hx : xs.length ≤ 3:=by
   have:=congrArg List.length hm
   simp at this;omega
  have e1 : ((m : Int).tmod 1000000000) = ((m % 1000000000 : Nat) : Int):=by rw [J5 (by omega)];omega
  have e2 : ((m : Int).tdiv 1000000000) = ((m / 1000000000 : Nat) : Int):=by rw [J6 (by omega)];omega
  have key : 0 < m → (xs ++ [((m % 1000000000 : Nat) : Int)]) ++ mk (m / 1000000000) = mk n.toNat:=fun h=>by
   rw [← hm,mk_pos (n:=m) (by omega)];simp
  (rcases xs with _ | ⟨x,xs⟩ <;> simp only [List.length_nil,List.length_cons,jX,jB,fD,dL] at hx ⊢)
  ·refine ev ?_
   refine aG (fun hb=>?_) fun hb=>?_ <;> (refine vC @hb @e1 @e2 ?_;try with_reducible exact True.intro)
   ·exact ⟨by omega,(m / 1000000000,[] ++ [((m % 1000000000 : Nat) : Int)]),by dsimp only;omega,⟨key (by omega),by dsimp only;omega⟩,by exact Ej⟩
   ·have e : mk n.toNat = []:=by rw [← hm,show m = 0 by omega,mk_zero];rfl
    rw [e];exact (fK 1 ▸ trivial)
  ·refine ev ?_
   refine aG (fun hb=>?_) fun hb=>?_ <;> (refine vC @hb @e1 @e2 ?_;try with_reducible exact True.intro)
   ·refine ⟨by omega,(m / 1000000000,(x :: xs) ++ [((m % 1000000000 : Nat) : Int)]),by dsimp only;omega,⟨key (by omega),by dsimp only;omega⟩,by exact CV⟩
   ·have e : x :: xs = mk n.toNat:=by rw [← hm,show m = 0 by omega,mk_zero];simp
    rw [← e];exact aC _
def jq : Fn:=⟨2,44,[.tmp 4],(sr [oN 4 (.bY (cI 0))] (sr [oW 8 1,oN 9 (ln 8),oW 5 9] (sr [oW 10 0,oW 11 5,oN 12 (bc .sub 11 1),oN 13 (ix 1 10 12),oN 14 (lF 1 13),oW 6 14] (.seq (sr [oW 15 0,oN 16 (ln 15),oW 17 5,oN 18 (bt .gtr 16 17)] (cd 18 (rg [oW 19 6,oW 20 0,oW 21 5,oN 22 (ix 1 20 21),oN 23 (lF 1 22),oN 24 (bc .mul 23 1000000000),oN 25 (bt .add 19 24),oW 6 25]) .skip)) (.seq (sr [oW 26 5,oN 27 (bc .eql 26 1)] (cd 27 (sr [oW 28 6,oW 29 1,oN 30 (.idx 1 (.t 29) (cI 0)),oN 31 (lF 1 30),oN 32 (bt .quo 28 31),oW 4 32] .ret) .skip)) (sr [oW 33 6,oW 34 1,oW 35 5,oN 36 (bc .sub 35 1),oN 37 (ix 1 34 36),oN 38 (lF 1 37),oN 39 (bc .add 38 1),oN 40 (bt .quo 33 39),oW 7 40] (.seq (sr [oW 41 7,oN 42 (bc .eql 41 0)] (cd 42 (sr [oN 4 (.bY (cI 1))] .ret) .skip)) (sr [oW 43 7,oW 4 43] .ret))))))))⟩
structure AO (T : Tb) : Prop where
 hT : T 153 = some jq
def sO : Fn:=⟨2,76,[.tmp 4,.tmp 5],(sr [oN 4 mN,oN 5 mN] (.seq (sr [oW 12 0,oN 13 (ln 12),oN 14 (bc .leq 13 2),oW 15 14,oG 15 true 16 (oV 1),oG 15 true 17 (ln 16),oG 15 true 18 (bc .leq 17 2),oN 19 (.pick (.t 15) (.t 18) (.c (.bool false)))] (cd 19 (sr [oW 20 0,oN 21 (cl 137 [20]),oW 22 1,oN 23 (cl 137 [22]),oW 6 21,oW 7 23] (.seq (rt 0 [oW 24 6,oW 25 7,oA 26 0 (bt .quo 24 25) [0,1],oA 27 0 (.conv .u64 (.t 26)) [2],oA 28 0 (cl 69 [27]) [3],oW 29 6,oW 30 7,oA 31 0 (bt .rem 29 30) [5,6],oA 32 0 (.conv .u64 (.t 31)) [7],oA 33 0 (cl 69 [32]) [8,4],oA 4 0 (oV 28) [4,9,0,1,2,3,4],oA 5 0 (oV 33) [9,10,0,1,2,3,4,5,6,7,8,9,10]]) .ret)) .skip)) (.seq (rf 1 [oK 34 1 (oV 0),oK 35 1 (ln 34),oN 36 (.make DW 8 (.t 35)),oK 8 1 (oV 36)]) (.seq (rf 1 [oN 37 (.dS 1 DW 0 []),oK 9 1 (oV 37)]) (.seq (sr [oW 38 0,oN 39 (ln 38),oN 40 (bc .sub 39 1),oW 10 40] (.block 0 (.loop (.seq (sr [oW 41 10,oN 42 (bc .geq 41 0)] (cd 42 .skip (.exit 0))) (.seq (.block 1 (.seq (rf 2 [oK 45 2 (oV 0),oK 46 2 (oV 10),oK 47 2 (ix 1 45 46),oK 48 2 (lF 1 47),oN 49 (.dS 1 DW 1 [(0,(.t 48))]),oK 50 2 (oV 9),oK 51 1 (.app 1 8 (.t 49) (.t 50)),oK 52 2 (cl 151 [51]),oK 9 2 (oV 52)]) (.block 2 (.loop (.seq (sr [oW 53 9,oW 54 1,oN 55 (cl 152 [53,54]),oN 56 (bc .geq 55 0)] (cd 56 .skip (.exit 2))) (.block 3 (sr [oW 57 9,oW 58 1,oN 59 (cl 153 [57,58]),oW 11 59] (.seq (rf 1 [oK 60 1 (oV 9),oK 61 1 (oV 1),oK 62 1 (oV 11),oN 63 (.dS 1 DW 1 [(0,(.t 62))]),oK 64 1 (cl 155 [61,63]),oK 65 1 (cl 154 [60,64]),oK 9 1 (oV 65)]) (rg [oW 66 8,oW 67 10,oN 68 (ix 1 66 67),oN 69 (lF 1 68),oW 70 11,oN 71 (bt .add 69 70),oN 72 (ix 1 66 67),oS (.store 1 (.t 72) (.t 71))]))))))))) (rg [oW 43 10,oN 44 (bc .sub 43 1),oW 10 44])))))) (sr [oW 73 8,oN 74 (cl 151 [73]),oW 75 9,oW 4 74,oW 5 75] .ret))))))⟩
structure sQ (T : Tb) : Prop where
 hT : T 138 = some sO
 cO : jU T
 jr : uF T
 jc : mD T
 zl : yU T
 GZ : AO T
 sS : yY T
 zn : y7 T
theorem QG {T : Tb} (h : AO T) {r b : Nat} (hb : 0 < b) (hle : b ≤ r) (hlt : r < b * 1000000000) (lr : (mk r).length ≤ 1000:=by exact bZ) (lb : (mk b).length ≤ 1000:=by exact bZ) :
  ∃ d : Nat,PF T 153 [ints (mk r),ints (mk b)] (iv (d : Nat)) ∧ 0 < d ∧ d < 1000000000 ∧ d * b ≤ r:=by
 obtain ⟨h1,h2,h3,h4,h5⟩:=aeX hb hle hlt
 obtain ⟨A,hA⟩ : ∃ A,mk r = A:=⟨_,rfl⟩
 obtain ⟨B,hB⟩ : ∃ B,mk b = B:=⟨_,rfl⟩
 have hbA : Lb A:=hA ▸ kH r
 have hbB : Lb B:=hB ▸ kH b
 rw [hA] at h1 h2 h4 h5 lr ⊢
 rw [hB] at h1 h2 h3 h4 h5 lb ⊢
 obtain ⟨k,hk⟩ : ∃ k,B.length = k + 1:=⟨B.length - 1,by omega⟩
 have g1:=kJ hbA k
 have g2:=kJ hbA (k + 1)
 have g3:=kJ hbB k
 have g4:=kJ hbB 0
 have eT : (val (A.drop k) : Int) = A.getD k 0 + (if k + 1 < A.length then A.getD (k + 1) 0 * 1000000000 else 0):=by
  rw [gq A k]
  split
  ·rw [gq A (k + 1),bV (l:=A) (i:=k + 1 + 1) (by omega)];omega
  ·rw [bV (l:=A) (i:=k + 1) (by omega)];omega
 have e1 : ((B.length : Nat) : Int) - 1 = (k : Nat):=by omega
 have ebk : B.length - 1 = k:=by omega
 rw [ebk] at h5
 by_cases hk0 : k = 0
 ·subst hk0
  obtain ⟨d1,d2,d3,d4⟩:=h4 (by omega)
  refine ⟨_,?_,d1,d2,d3⟩
  have c0 : ((B.length : Nat) : Int) = 1:=by omega
  have e2 : ((val (A.drop 0) / (B.getD 0 0).toNat : Nat) : Int) = (val (A.drop 0) : Int).tdiv (B.getD 0 0):=by
   rw [Int.tdiv_eq_ediv_of_nonneg (by omega)]
   have : ((B.getD 0 0).toNat : Int) = B.getD 0 0:=by omega
   rw [← this];simp
  have d5 : 0 ≤ (val (A.drop 0) : Int).tdiv (B.getD 0 0) ∧ (val (A.drop 0) : Int).tdiv (B.getD 0 0) < 1000000000:=by rw [← e2];omega
  rw [eT] at e2 d5
  rw [e2]
  clear h4 h5 eT hbA hbB e2 d1 d2 d3 hlt hle hb hA hB h2
  have c0':=iff_true_intro c0
  have nb : ¬ B.getD 0 0 = 0:=by omega
  clear d4
  have e3 : ((0 : Nat) : Int).toNat = 0:=rfl
  have e4 : (((0 : Nat) : Int) + 1).toNat = 0 + 1:=rfl
  by_cases c1 : (1 : Int) < (A.length : Nat)
  ·have c2 : 0 + 1 < A.length:=by omega
   have c3:=iff_true_intro (show ((B.length : Nat) : Int) < (A.length : Nat) by omega)
   rw [if_pos c2] at d5 ⊢
   refine aT nR h.hT ?_
   simp only [jq,Lz]
   refine ev ?_
   refine ev5 @c0' @c3 @e1 @e3 @nb ?_
   rw [hk,w64 (n:=A.getD (0 + 1) 0 * 1000000000) (by omega),w64 (n:=A.getD 0 0 + _) (by omega),w64 (by omega)]
  ·have c2 : ¬ 0 + 1 < A.length:=by omega
   have c3 : ¬ ((B.length : Nat) : Int) < (A.length : Nat):=by omega
   rw [if_neg c2] at d5 ⊢
   refine aT nR h.hT ?_
   simp only [jq,Lz]
   refine ev ?_
   refine ev5 @c0' @c3 @e1 @e3 @nb ?_
   simp only [Int.add_zero] at d5 ⊢
 ·have c0 : ¬ ((B.length : Nat) : Int) = 1:=by omega
  have e4 : (((k : Nat) : Int) + 1).toNat = k + 1:=by omega
  obtain ⟨d2,d3⟩:=h5
  have e2 : ((val (A.drop k) / ((B.getD k 0).toNat + 1) : Nat) : Int) = (val (A.drop k) : Int).tdiv (B.getD k 0 + 1):=by
   rw [Int.tdiv_eq_ediv_of_nonneg (by omega)]
   have : (((B.getD k 0).toNat + 1 : Nat) : Int) = B.getD k 0 + 1:=by omega
   rw [← this,Int.natCast_ediv]
  have d5 : 0 ≤ (val (A.drop k) : Int).tdiv (B.getD k 0 + 1) ∧ (val (A.drop k) : Int).tdiv (B.getD k 0 + 1) < 1000000000:=⟨by rw [← e2];exact Int.natCast_nonneg _,by rw [← e2];exact Int.ofNat_lt.mpr d2⟩
  generalize hd : val (A.drop k) / ((B.getD k 0).toNat + 1) = d at d2 d3 e2
  rw [eT] at e2 d5
  have fin : ∀ t : Int,t = (if k + 1 < A.length then A.getD (k + 1) 0 * 1000000000 else 0) → ∃ d : Nat,(if (A.getD k 0 + t).tdiv (B.getD k 0 + 1) = 0 then iv 1 else iv ((A.getD k 0 + t).tdiv (B.getD k 0 + 1))) = iv (d : Nat) ∧ 0 < d ∧ d < 1000000000 ∧ d * b ≤ r:=by
   intro t ht
   rw [← ht] at e2
   rw [← e2]
   by_cases z : d = 0
   ·exact ⟨1,by simp [z],by omega,by omega,by omega⟩
   ·exact ⟨d,by rw [if_neg (by omega)],by omega,d2,d3⟩
  clear h4 eT hbA hbB e2 d2 d3 hlt hle hb hA hB hd h2
  by_cases c1 : ((k : Nat) : Int) + 1 < (A.length : Nat)
  ·have c2 : k + 1 < A.length:=by omega
   have c3 : ((B.length : Nat) : Int) < (A.length : Nat):=by omega
   rw [if_pos c2] at d5 fin
   obtain ⟨u,f1,f2⟩:=fin _ rfl
   refine ⟨u,?_,f2⟩
   clear f2 fin
   rw [← f1]
   have nb : ¬ B.getD k 0 + 1 = 0:=by omega
   refine aT nR h.hT ?_
   simp only [jq,Lz]
   refine ev ?_
   refine ev5 @c0 @c3 @e1 @e4 @nb ?_
   rw [hk,w64 (n:=A.getD (k + 1) 0 * 1000000000) (by omega),w64 (n:=A.getD k 0 + _) (by omega),w64 (by omega)]
   refine aG (fun z=>?_) fun z=>?_ <;> (refine ev1 @z ?_;try with_reducible exact True.intro)
  ·have c2 : ¬ k + 1 < A.length:=by omega
   have c3 : ¬ ((B.length : Nat) : Int) < (A.length : Nat):=by omega
   rw [if_neg c2] at d5 fin
   obtain ⟨u,f1,f2⟩:=fin _ rfl
   refine ⟨u,?_,f2⟩
   clear f2 fin
   rw [← f1]
   have nb : ¬ B.getD k 0 + 1 = 0:=by omega
   refine aT nR h.hT ?_
   simp only [jq,Lz]
   refine ev ?_
   refine ev5 @c0 @c3 @e1 @e4 @nb ?_
   simp only [Int.add_zero] at d5 ⊢
   refine aG (fun z=>?_) fun z=>?_ <;> (refine ev1 @z ?_;try with_reducible exact True.intro)
theorem Vl {a b : St} (h : Fg a b:=by
 (refine Qn [(0,_)] (by simp) (by intro p hp;simp only [List.mem_cons,List.not_mem_nil,or_false] at hp;rcases hp with rfl <;> refine ⟨rfl,?_⟩ <;> first | exact nU _ | simp [dR,V.still]) rfl ?_) <;> (try (refine ev ?_;try with_reducible exact True.intro)) <;> (repeat' (first | exact True.intro | omega | exact fZ rfl (by simp) | refine ⟨?_,?_⟩ | exact of_eq_true (Ap _ _ _) | exact iQ rfl (by simp;done) | exact iQ rfl rfl | (refine kS rfl ?_ rfl;simp [aN];done) | (refine kS rfl ?_ rfl;simp [aN];omega) | (refine CP ?_ ?_;(focus ((refine ev ?_;try with_reducible exact True.intro);done));(intro q hq k s0 l0;simp;done))))) : Fg a b:=h
theorem QH {T : Tb} (h : sQ T) {m n : Nat} (hn : 0 < n) (la : (mk m).length ≤ 900:=by exact bZ) (lb : (mk n).length ≤ 900:=by exact bZ) :
  PF T 138 [ints (mk m),ints (mk n)] (.eu [ints (mk (m / n)),ints (mk (m % n))]):=by
 obtain ⟨A,hA⟩ : ∃ A,mk m = A:=⟨_,rfl⟩
 obtain ⟨B,hB⟩ : ∃ B,mk n = B:=⟨_,rfl⟩
 have hva : val A = m:=by rw [← hA,val_mk]
 have hbA : Lb A:=hA ▸ kH m
 have hbB : Lb B:=hB ▸ kH n
 rw [hA] at la ⊢
 rw [hB] at lb ⊢
 refine aK nR h.hT ?_
 simp only [sO,Lz]
 refine ev ?_
 have cas : (((A.length : Nat) : Int) ≤ 2 ∧ ((B.length : Nat) : Int) ≤ 2) ∨ ((((A.length : Nat) : Int) ≤ 2 ∧ ¬ ((B.length : Nat) : Int) ≤ 2) ∨ ¬ ((A.length : Nat) : Int) ≤ 2):=by omega
 rcases cas with ⟨c1,c2⟩ | big
 ·have sm : m < 1000000000000000000:=by
   have:=pG hbA
   rw [hva] at this
   exact Nat.lt_of_lt_of_le this (Nat.le_trans (Nat.pow_le_pow_right (by omega) (show A.length ≤ 2 by omega)) (by omega))
  have sn : n < 1000000000000000000:=by
   have:=pG hbB
   rw [← hB,val_mk] at this
   exact Nat.lt_of_lt_of_le this (Nat.le_trans (Nat.pow_le_pow_right (by omega) (show (mk n).length ≤ 2 by rw [hB];omega)) (by omega))
  have cs:=yG h.jr sm
  have ct:=yG h.jr sn
  rw [hA] at cs
  rw [hB] at ct
  have e1 : ((m : Nat) : Int).tdiv (n : Nat) = ((m / n : Nat) : Int):=by rw [Int.tdiv_eq_ediv_of_nonneg (by omega),Int.natCast_ediv]
  have e2 : ((m : Nat) : Int).tmod (n : Nat) = ((m % n : Nat) : Int):=by rw [Int.tmod_eq_emod_of_nonneg (by omega),Int.natCast_emod]
  have d1 : m / n ≤ m:=Nat.div_le_self ..
  have d2 : m % n ≤ m:=Nat.mod_le ..
  have nz : ¬ ((n : Nat) : Int) = 0:=by omega
  generalize m / n = q at *
  generalize m % n = r at *
  have c3:=qy h.cO (n:=((q : Nat) : Int)) (by omega)
  have c4:=qy h.cO (n:=((r : Nat) : Int)) (by omega)
  rw [Int.toNat_natCast] at c3 c4
  refine iP @c1 @c2 ?_
  refine ah cs ?_
  refine ev ?_
  refine ah ct ?_
  refine vC @nz @e1 @e2 ?_
  refine ah c3 ?_
  refine vC @nz @e1 @e2 ?_
  refine ah c4 ?_
  refine ev ?_
  exact aC _
 rcases big with ⟨c1,c2⟩ | c1
 case' inl=>(refine iP @c1 @c2 ?_;try with_reducible exact True.intro)
 case' inr=>(refine ev1 @c1 ?_;try with_reducible exact True.intro)
 all_goals
  refine ⟨by omega,?_⟩
  rw [Gh]
  refine aO (fun _ _=>false) (α:=Nat × List Int × Nat) (fun q=>⟨bF [ints A,ints B,.any,.any,.any,.any,.any,.any,.bC 0 0 A.length,ints (mk q.2.2),iv ((q.1 : Nat) - 1)],[some ⟨1,aN q.2.1⟩],0,0,[],[]⟩) (fun q=>q.1 ≤ A.length ∧ q.2.1.length = A.length ∧ Lb q.2.1 ∧ (∀ j,j < q.1 → q.2.1.getD j 0 = 0) ∧ q.2.2 < n ∧ val (A.drop q.1) = val (q.2.1.drop q.1) * n + q.2.2) (fun q=>q.1) rfl (A.length,List.replicate A.length 0,0) ?_ ?_ ?_
  ·exact ⟨by omega,by simp,JY _,by intro j _;simp [List.getD_eq_getElem?_getD,List.getElem?_replicate];split <;> rfl,hn,by dsimp only;rw [bV (Nat.le_refl _),bV (by simp)];simp⟩
  ·rw [mk_zero]
   exact Vl
  ·rintro ⟨k,Q,x⟩ ⟨hk,hQ,hQb,hz,hx,hv⟩
   dsimp only at hk hQ hQb hz hx hv
   by_cases k0 : k = 0
   ·subst k0
    rw [List.drop_zero,List.drop_zero,hva] at hv
    obtain ⟨q1,q2⟩:=Gn hv hx
    have e0 : ¬ (0 : Int) ≤ ((0 : Nat) : Int) - 1:=by omega
    refine ev1 @e0 ?_
    refine ah (Fq h.jc (l:=Q) (by omega)) ?_
    refine ev ?_
    rw [uz hQb,← q1,← q2]
    exact aC _
   ·obtain ⟨i,rfl⟩ : ∃ i,k = i + 1:=⟨k - 1,by omega⟩
    have e0 : (((i + 1 : Nat) : Int) - 1) = (i : Nat):=by omega
    have e1 : ((i : Nat) : Int) < (A.length : Nat):=by omega
    have e2 : (0 : Int) ≤ (i : Nat):=by omega
    rw [e0]
    have ga:=kJ hbA i
    have hvi:=gq A i
    obtain ⟨t,ht⟩ : ∃ t,(A.getD i 0).toNat + 1000000000 * x = t:=⟨_,rfl⟩
    have htn : t < n * 1000000000:=by omega
    have lt' : (A.getD i 0 :: mk x).length ≤ 1048576:=by
     have : (mk x).length ≤ B.length:=by rw [aZ];exact Nat.lt_trans hx (by have:=pG hbB;rw [← hB,val_mk,hB] at this;exact this)
     simp only [List.length_cons];omega
    have tr : trim (A.getD i 0 :: mk x) = mk t:=by
     rw [uz (by intro y hy;rcases List.mem_cons.1 hy with rfl | hy;exact ga;exact kH x y hy),← ht,val,val_mk]
    have ct:=Fq h.jc (l:=A.getD i 0 :: mk x) lt'
    rw [tr] at ct
    have ely : ∀ y,y ≤ t → (mk y).length ≤ 901:=by
     intro y hy
     have : (mk y).length ≤ B.length + 1:=by
      rw [aZ,Nat.pow_succ]
      have:=pG hbB
      rw [← hB,val_mk,hB] at this
      exact Nat.lt_of_lt_of_le (Nat.lt_of_le_of_lt hy htn) (Nat.mul_le_mul_right _ (Nat.le_of_lt this))
     omega
    have lx:=ely
    refine iP @e2 @e1 ?_
    refine ⟨fun e3=>?_,fun e3=>?_⟩
    case' refine_1 =>
     have x0 : mk x = []:=by cases hm : mk x with | nil=>rfl | cons a l=>rw [hm] at e3;cases e3
     rw [x0] at ct
     rw [show [[V.int IntKind.i64 (A.getD i 0)]] = aN [A.getD i 0] from rfl]
     (refine ev ?_;try with_reducible exact True.intro)
    case' refine_2 =>
     refine ev1 @e3 ?_
     rw [show [V.int IntKind.i64 (A.getD i 0)] :: aN (mk x) = aN (A.getD i 0 :: mk x) from rfl]
     refine ev ?_
     have lm:=lt'
     simp only [List.length_cons] at lm
     refine ⟨by omega,?_⟩
    all_goals
     clear lt'
     refine ah ct ?_
     refine ev ?_
     refine aO (fun _ _=>false) (α:=List Int × Nat) (fun q=>⟨bF [ints A,ints B,.any,.any,.any,.any,.any,.any,.bC 0 0 A.length,ints (mk q.2),iv (i : Nat)],[some ⟨1,aN q.1⟩],0,0,[],[]⟩) (fun q=>q.1.length = A.length ∧ Lb q.1 ∧ (∀ j,j < i → q.1.getD j 0 = 0) ∧ q.1.drop (i + 1) = Q.drop (i + 1) ∧ q.2 + (q.1.getD i 0).toNat * n = t) (fun q=>q.2) rfl (Q,t) ?_ ?_ ?_
     ·exact ⟨hQ,hQb,fun j hj=>hz j (by omega),rfl,by dsimp only;rw [hz i (by omega)];simp⟩
     ·exact Vl
     ·rintro ⟨P,y⟩ ⟨hP,hPb,hzP,hd,hy⟩
      dsimp only at hP hPb hzP hd hy
      have yt : y ≤ t:=by omega
      have ly:=ely y yt
      have cc:=QD h.zl (lD y) (lD n) (by omega) (by rw [hB];omega)
      rw [val_mk,val_mk,hB] at cc
      refine ev ?_
      refine ah cc ?_
      refine ev ?_
      refine aG (fun c3=>?_) fun c3=>?_ <;> (refine ev1 @c3 ?_;try with_reducible exact True.intro)
      ·have hny : n ≤ y:=ny.1 c3
       obtain ⟨d,pg,d0,d1,d2⟩:=QG h.GZ hn hny (by omega) (by omega) (by rw [hB];omega)
       rw [hB] at pg
       have pm:=QE h.zn (m:=n) (n:=d) (by rw [hB];omega) (by rw [mk_one d0 d1];simp)
       have dn : n * d ≤ y:=by rw [Nat.mul_comm];exact d2
       have lnd:=ely (n * d) (by omega)
       have ps:=Ll h.sS dn (by omega) (by omega)
       rw [hB,mk_one d0 d1] at pm
       have gp:=kJ hPb i
       have y2 : y - n * d + ((P.getD i 0).toNat + d) * n = t:=by rw [Nat.add_mul,Nat.mul_comm d n];omega
       have gp2 : P.getD i 0 + d < 1000000000:=by
        have : ((P.getD i 0).toNat + d) * n < 1000000000 * n:=by rw [Nat.mul_comm 1000000000];omega
        have:=Nat.lt_of_mul_lt_mul_right this
        omega
       have d0' : 0 < n * d:=Nat.mul_pos hn d0
       have k1:=Gl (l:=P) (i:=i) (d:=P.getD i 0 + d) (by omega) gp2 hPb
       have k2 : ∀ j,j < i → (P.set i (P.getD i 0 + d)).getD j 0 = 0:=by
        intro j hj
        rw [iR,if_neg (by omega)]
        exact hzP j hj
       have k3 : (P.set i (P.getD i 0 + d)).drop (i + 1) = Q.drop (i + 1):=by rw [List.drop_set_of_lt (by omega),hd]
       have k4 : ((P.set i (P.getD i 0 + d)).getD i 0) = P.getD i 0 + d:=by rw [iR,if_pos ⟨rfl,by omega⟩]
       have k5 : y - n * d + ((P.set i (P.getD i 0 + d)).getD i 0).toNat * n = t:=by
        rw [k4,show (P.getD i 0 + (d : Int)).toNat = (P.getD i 0).toNat + d by omega];exact y2
       have k6 : y - n * d < y:=by omega
       clear y2 hy htn ht hvi k4 hzP hd d2 lx ely hv hz hx
       refine ah pg ?_
       refine ev ?_
       rw [show [[V.int IntKind.i64 (d : Int)]] = aN [(d : Int)] from rfl]
       refine ev ?_
       refine ah pm ?_
       refine ev ?_
       refine ah ps ?_
       refine iP @e1 @hP ?_
       exact ⟨(P.set i (P.getD i 0 + d),y - n * d),k6,⟨by simp [hP],k1,k2,k3,k5⟩,by exact Vl⟩
      ·have hny : y < n:=by
        have:=@ny y n
        omega
       have k1:=gq P i
       rw [hd] at k1
       have k2 : val (A.drop i) = val (P.drop i) * n + y:=by
        rw [hvi,hv,k1,Nat.add_mul,Nat.mul_add,← Nat.mul_assoc];omega
       exact ⟨(i,P,y),by dsimp only;omega,⟨by dsimp only;omega,hP,hPb,hzP,hny,k2⟩,by (refine aH ?_;exact wz)⟩
end Go.Ml
end
