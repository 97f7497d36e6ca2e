/- A small language for the functions of this claim, its soundness, contracts. -/
import Derived.Test.YthhglmiolbhcaaaGreatPart1
set_option linter.unusedSimpArgs false
set_option linter.unusedVariables false
set_option maxRecDepth 100000
set_option maxHeartbeats 16000000
section
namespace Go.Ml
theorem dep_int (n : Nat) (q : IntKind) (k : Int) : DepLe (n + 1) (.int q k):=by simp [DepLe]
theorem dep_bool (n : Nat) (b : Bool) : DepLe (n + 1) (.bool b):=by simp [DepLe]
theorem dep_ints (n : Nat) (l : List Int) : DepLe (n + 2) (ints l):=by
 simp only [DepLe]
 intro r hr c hc
 simp only [irows,List.mem_map] at hr
 obtain ⟨x,_,rfl⟩:=hr
 simp only [List.mem_cons,List.not_mem_nil,or_false] at hc
 subst hc;simp [DepLe]
theorem dep_sl {α : Type} {f : α → List V} {n k : Nat} {l : List α} (h : ∀ x,∀ c ∈ f x,DepLe n c) : DepLe (n + 1) (.sl k (l.map f)):=by
 simp only [DepLe]
 intro r hr c hc
 obtain ⟨x,_,rfl⟩:=List.mem_map.1 hr
 exact h x c hc
theorem dc_rat (n : Nat) (x : R) : ∀ c ∈ x.cells,DepLe (n + 2) c:=by
 simp only [List.forall_mem_cons];exact ⟨dep_bool _ _,dep_ints _ _,dep_ints _ _,by simp⟩
theorem dc_pt (n : Nat) (x : Pt) : ∀ c ∈ x.cells,DepLe (n + 2) c:=by
 simp only [List.forall_mem_cons];exact ⟨dep_bool _ _,dep_ints _ _,dep_ints _ _,dep_bool _ _,dep_ints _ _,dep_ints _ _,by simp⟩
theorem dc_lk (n : Nat) (x : Lk) : ∀ c ∈ x.cells,DepLe (n + 2) c:=by
 simp only [List.forall_mem_cons];exact ⟨dep_int _ _ _,dep_int _ _ _,dep_bool _ _,dep_ints _ _,dep_ints _ _,dep_bool _ _,dep_ints _ _,dep_ints _ _,dep_bool _ _,dep_ints _ _,dep_ints _ _,by simp⟩
theorem dep_rats (n : Nat) (l : List R) : DepLe (n + 3) (ratsV l):=dep_sl fun x=>dc_rat n x
theorem dep_pts (n : Nat) (l : List Pt) : DepLe (n + 3) (ptsV l):=dep_sl fun x=>dc_pt n x
theorem dep_lks (n : Nat) (l : List Lk) : DepLe (n + 3) (lksV l):=dep_sl fun x=>dc_lk n x
theorem dep_ratss (n : Nat) (l : List (List R)) : DepLe (n + 4) (ratssV l):=dep_sl fun x=>by
 simp only [List.forall_mem_cons];exact ⟨dep_rats _ _,by simp⟩
theorem dep_tup2 {n : Nat} {a b : V} (h1 : DepLe n a) (h2 : DepLe n b) : DepLe (n + 1) (.tup [a,b]):=by
 simp only [DepLe,List.forall_mem_cons];exact ⟨h1,h2,by simp⟩
structure Grow (s : Store) (v : V) (sz : Nat) (A ts : List (List V)) : Prop where
 ex : ∃ os,OwR s A ts os ∧ os.Nodup ∧ ((A = [] ∧ v = .nils) ∨ ∃ o,v = .msl o 0 A.length ∧ objAt s o = some ⟨sz,A⟩ ∧ o ∉ os)
section
variable {s s1 σ2 S : Store} {v : V} {sz : Nat} {A ts : List (List V)}
theorem Grow.len (h : Grow s v sz A ts) : A.length = ts.length:=by obtain ⟨os,a,_⟩:=h.ex;exact a.len
theorem Grow.cases (h : Grow s v sz A ts) : (A = [] ∧ ts = [] ∧ v = .nils) ∨ ∃ o,v = .msl o 0 A.length ∧ objAt s o = some ⟨sz,A⟩ ∧ o < s.length:=by
 have hl:=h.len
 obtain ⟨os,a,b,c⟩:=h.ex
 rcases c with ⟨rfl,rfl⟩ | ⟨o,rfl,h1,h2⟩
 ·exact .inl ⟨rfl,List.eq_nil_of_length_eq_zero (by simpa using hl.symm),rfl⟩
 ·exact .inr ⟨o,rfl,h1,objAt_lt h1⟩
theorem Grow.frame (h : Grow s v sz A ts) (f : ∀ o,o < s.length → objAt S o = objAt s o) : Grow S v sz A ts:=by
 obtain ⟨os,a,b,c⟩:=h.ex
 refine ⟨os,a.frame fun q hq=>f q (a.lt q hq),b,?_⟩
 rcases c with c | ⟨o,rfl,h1,h2⟩
 ·exact .inl c
 ·exact .inr ⟨o,rfl,(f o (objAt_lt h1)).trans h1,h2⟩
theorem Grow.fin (h : Grow s v sz A ts) : Fin s v (.sl sz ts):=by
 have hl:=h.len
 obtain ⟨os,a,b,c⟩:=h.ex
 rcases c with ⟨rfl,rfl⟩ | ⟨o,rfl,h1,h2⟩
 ·have : ts = []:=List.eq_nil_of_length_eq_zero (by simpa using hl.symm)
  subst this;exact fin_nil
 ·rw [hl]
  refine fin_of (os:=o :: os) ?_ (List.nodup_cons.2 ⟨h2,b⟩)
  simp only [OwV]
  exact .inr ⟨o,A,os,rfl,h1,rfl,a⟩
theorem Grow.app {cs tcs : List V} {os2 : List Nat} {id2 : Nat} (h : Grow s v sz A ts) (hs : ∀ o,o < s.length → objAt s1 o = objAt s o) (hl : s.length ≤ s1.length) (g : Got s1 σ2 (.agg cs) (.agg tcs) os2)
  (h0 : s.length ≤ id2) (hid : id2 < s1.length) (h2 : objAt S id2 = some ⟨sz,A ++ [cs]⟩)
  (hf : ∀ q,q ≠ id2 → (q < s.length ∨ s1.length ≤ q) → (∀ n,v ≠ .msl q 0 n) → objAt S q = objAt σ2 q) : Grow S (.msl id2 0 (A.length + 1)) sz (A ++ [cs]) (ts ++ [tcs]):=by
 obtain ⟨os,a,b,c⟩:=h.ex
 have a':=a.frame (σ':=σ2) fun q hq=>by
  have:=a.lt q hq
  rw [g.old q (by omega),hs q this]
 obtain ⟨cs',e,hc⟩:=g.ow.agg_inv
 cases e
 have hlt:=a.lt
 have hv : ∀ q ∈ os ++ os2,∀ n,v ≠ .msl q 0 n:=by
  intro q hq n
  rcases c with ⟨_,rfl⟩ | ⟨o,rfl,h1,h2⟩
  ·simp
  ·intro e
   have e2 : o = q:=by injection e
   rw [e2] at h1 h2
   rcases List.mem_append.1 hq with hq | hq
   ·exact h2 hq
   ·have:=g.fresh q hq
    have:=objAt_lt h1
    omega
 have hne : ∀ q ∈ os ++ os2,q ≠ id2 ∧ (q < s.length ∨ s1.length ≤ q):=by
  intro q hq
  rcases List.mem_append.1 hq with hq | hq
  ·have:=hlt q hq;exact ⟨by omega,by omega⟩
  ·have:=g.fresh q hq;exact ⟨by omega,by omega⟩
 have fr : ∀ q ∈ os ++ os2,objAt S q = objAt σ2 q:=fun q hq=>hf q (hne q hq).1 (hne q hq).2 (hv q hq)
 refine ⟨os ++ os2,owR_append (a'.frame fun q hq=>fr q (List.mem_append_left _ hq)) (owR_1 (hc.frame fun q hq=>fr q (List.mem_append_right _ hq))),?_,.inr ⟨id2,by simp,h2,fun hm=>(hne id2 hm).1 rfl⟩⟩
 rw [List.nodup_append]
 refine ⟨b,g.nd,fun x hx y hy e=>?_⟩
 have:=hlt x hx
 have:=g.fresh y hy
 omega
theorem objAt_app_lt {s t : Store} {o : Nat} (h : o < s.length) : objAt (s ++ t) o = objAt s o:=by
 unfold objAt;rw [List.getElem?_append_left h]
end
theorem Got.finSet {s σ2 : Store} {r t : V} {os : List Nat} (g : Got s σ2 r t os) {o : Nat} {x : Option Obj} (h : o < s.length) : Fin (σ2.set o x) r t :=
 fin_of (g.ow.frame fun q hq=>objAt_setne (by have:=g.fresh q hq;omega)) g.nd
end Go.Ml
end
section
namespace Go.Ml
structure Ep (s : Store) (cs ts : List V) (os : List Nat) (L : List (Nat × Obj)) : Prop where
 c : Cs s cs ts os
 l : ∀ q ∈ L,objAt s q.1 = some q.2 ∧ q.1 ∉ os
section
variable {s σ2 : Store} {cs ts : List V} {os os2 : List Nat} {L : List (Nat × Obj)}
theorem Ep.lt (E : Ep s cs ts os L) : ∀ q ∈ L,q.1 < s.length:=fun q hq=>objAt_lt (E.l q hq).1
theorem Ep.snoc (E : Ep s cs ts os L) {x : Option Obj} : Ep (s ++ [x]) cs ts os L:=⟨E.c.snoc,fun q hq=>⟨(objAt_snoc_lt (E.lt q hq)).trans (E.l q hq).1,(E.l q hq).2⟩⟩
theorem Ep.res (E : Ep s cs ts os L) (c : Nat) {v t : V} (hv : cs[c]? = some v) (ht : ts[c]? = some t) (hd : DepLe FD t) : resolve s FD v = some t:=E.c.res c hv ht hd
theorem Ep.res1 (E : Ep s cs ts os L) (c : Nat) {v t : V} (hv : cs[c]? = some v) (ht : ts[c]? = some t) (hd : DepLe 11 t) : resolve s 11 v = some t:=by
 obtain ⟨vc,oc,j1,j2,_⟩:=E.c.ow.focus c t E.c.nd ht
 rw [hv] at j1
 cases j1
 exact ow_res 11 j2 hd
theorem Ep.leaf (E : Ep s cs ts os L) (c : Nat) {v t : V} (hv : cs[c]? = some v) (ht : ts[c]? = some t) (hl : t.leaf = true:=by rfl) : v.leaf = true:=by
 obtain ⟨vc,oc,j1,j2,_⟩:=E.c.ow.focus c t E.c.nd ht
 rw [hv] at j1
 cases j1
 exact j2.leaf hl
theorem Ep.got {s1 : Store} {rs trs : List V} (E : Ep s cs ts os L) (h1 : ∀ o,o < s.length → objAt s1 o = objAt s o) (hl : s.length ≤ s1.length) (ho : OwL σ2 rs trs os2) (hn : os2.Nodup) (hf : ∀ o ∈ os2,s1.length ≤ o)
  (old : ∀ o,o < s1.length → objAt σ2 o = objAt s1 o) : Ep σ2 (cs ++ rs) (ts ++ trs) (os ++ os2) L:=by
 have hlt:=E.c.lt
 refine ⟨⟨owL_append (E.c.ow.frame fun q hq=>?_) ho,?_⟩,fun q hq=>⟨?_,?_⟩⟩
 ·have:=hlt q hq
  rw [old q (by omega),h1 q this]
 ·rw [List.nodup_append]
  refine ⟨E.c.nd,hn,fun x hx y hy e=>?_⟩
  have:=hlt x hx
  have:=hf y hy
  omega
 ·have:=E.lt q hq
  rw [old _ (by omega),h1 _ this];exact (E.l q hq).1
 ·intro hm
  have:=E.lt q hq
  rcases List.mem_append.1 hm with hm | hm
  ·exact (E.l q hq).2 hm
  ·have:=hf _ hm;omega
theorem Ep.free {s1 : Store} (E : Ep s cs ts os L) {p : Nat} (hf : ∀ o ∈ os2,s1.length ≤ o) (h0 : s.length ≤ p) (h1 : p < s1.length) : p ∉ os ++ os2:=by
 intro hm
 rcases List.mem_append.1 hm with hm | hm
 ·have:=E.c.lt p hm;omega
 ·have:=hf p hm;omega
theorem Ep.loc {p : Nat} {ob : Obj} (E : Ep s cs ts os L) (hp : p ∉ os) (hl : p < s.length) (hL : ∀ q ∈ L,q.1 ≠ p) : Ep (s.set p (some ob)) cs ts os (L ++ [(p,ob)]):=by
 refine ⟨E.c.set hp,fun q hq=>?_⟩
 rcases List.mem_append.1 hq with hq | hq
 ·exact ⟨(objAt_setne (hL q hq)).trans (E.l q hq).1,(E.l q hq).2⟩
 ·simp only [List.mem_cons,List.not_mem_nil,or_false] at hq
  subst hq
  exact ⟨objAt_seteq hl,hp⟩
theorem Ep.call {T : Nat → Option Fn} {f : Nat} {t t' v : V} {k k' : Int} (E : Ep s cs ts os L) (c : Nat) (hm : Mk T f t k t' k') (hv : cs[c]? = some v) (ht : ts[c]? = some t) :
  ∃ s',Run T (.fn f [v,.int .i64 k] s) (.fn (.int .i64 k') s') ∧ Ep s' cs (ts.set c t') os L ∧ s.length ≤ s'.length:=by
 obtain ⟨s',h1,h2,h3⟩:=E.c.call c hm hv ht
 exact ⟨s',h1,⟨h2,fun q hq=>⟨(h3.old _ (E.lt q hq) (E.l q hq).2).trans (E.l q hq).1,(E.l q hq).2⟩⟩,h3.len⟩
theorem Ep.part {T : Nat → Option Fn} {f : Nat} {t2 t2' r2 : List V} {k k' : Int} (E : Ep s cs ts os L) (n m : Nat) (hm : Mk T f (.agg t2) k (.agg t2') k') (hr : (cs.drop n).take m = r2) (ht : (ts.drop n).take m = t2) (hn : n + m ≤ ts.length) :
  ∃ s',Run T (.fn f [.agg r2,.int .i64 k] s) (.fn (.int .i64 k') s') ∧ Ep s' cs (ts.take n ++ t2' ++ ts.drop (n + m)) os L ∧ s.length ≤ s'.length:=by
 obtain ⟨s',h1,h2,h3⟩:=E.c.part n m hm ht hn
 rw [hr] at h1
 exact ⟨s',h1,⟨h2,fun q hq=>⟨(h3.old _ (E.lt q hq) (E.l q hq).2).trans (E.l q hq).1,(E.l q hq).2⟩⟩,h3.len⟩
theorem Ep.at0 {p : Nat} {ob : Obj} (E : Ep s cs ts os L) (h : (p,ob) ∈ L) : objAt s p = some ob ∧ p < s.length:=⟨(E.l _ h).1,E.lt _ h⟩
end
section
variable {σ : Store} {os : List Nat}
theorem OwL.rat {cs : List V} {x : R} (h : OwL σ cs x.cells os) : ∃ c1 c2,cs = [.bool x.neg,c1,c2]:=by
 obtain ⟨cs,rfl,h1⟩:=h.bool_inv
 match cs,h1.len with
 | [a,b],_=>exact ⟨a,b,rfl⟩
theorem OwL.pt {cs : List V} {x : Pt} (h : OwL σ cs x.cells os) : ∃ c1 c2 c4 c5,cs = [.bool x.x.neg,c1,c2,.bool x.y.neg,c4,c5]:=by
 obtain ⟨cs,rfl,h1⟩:=h.bool_inv
 obtain ⟨a,cs,_,_,rfl,rfl,_,h2⟩:=h1.inv
 obtain ⟨b,cs,_,_,rfl,rfl,_,h3⟩:=h2.inv
 obtain ⟨cs,rfl,h4⟩:=h3.bool_inv
 match cs,h4.len with
 | [c,d],_=>exact ⟨a,b,c,d,rfl⟩
theorem OwL.lk {cs : List V} {x : Lk} (h : OwL σ cs x.cells os) : ∃ c3 c4 c6 c7 c9 c10,cs = [iv x.a,iv x.b,.bool x.w.neg,c3,c4,.bool x.dx.neg,c6,c7,.bool x.dy.neg,c9,c10]:=by
 obtain ⟨cs,rfl,h1⟩:=h.int_inv
 obtain ⟨cs,rfl,h2⟩:=h1.int_inv
 obtain ⟨cs,rfl,h3⟩:=h2.bool_inv
 obtain ⟨a,cs,_,_,rfl,rfl,_,h4⟩:=h3.inv
 obtain ⟨b,cs,_,_,rfl,rfl,_,h5⟩:=h4.inv
 obtain ⟨cs,rfl,h6⟩:=h5.bool_inv
 obtain ⟨c,cs,_,_,rfl,rfl,_,h7⟩:=h6.inv
 obtain ⟨d,cs,_,_,rfl,rfl,_,h8⟩:=h7.inv
 obtain ⟨cs,rfl,h9⟩:=h8.bool_inv
 match cs,h9.len with
 | [e,f],_=>exact ⟨a,b,c,d,e,f,rfl⟩
theorem OwL.cd {cs : List V} {x : Cd} (h : OwL σ cs x.cells os) : ∃ c2 c3 c4,cs = [iv x.node,.bool x.total.neg,c2,c3,c4]:=by
 obtain ⟨cs,rfl,h1⟩:=h.int_inv
 obtain ⟨cs,rfl,h2⟩:=h1.bool_inv
 match cs,h2.len with
 | [a,b,c],_=>exact ⟨a,b,c,rfl⟩
theorem OwL.tr {cs : List V} {x : List Tn} (h : OwL σ cs [tnsV x] os) : ∃ c0,cs = [c0]:=by
 match cs,h.len with
 | [a],_=>exact ⟨a,rfl⟩
theorem owL_1 {v t : V} (h : OwV σ v t os) : OwL σ [v] [t] os:=by simpa using owL_v h owL_nil
end
end Go.Ml
namespace Go.Ml
theorem numK_any (l : List Nat) (k : List Nat → Prop) : numK l k = k l:=nr rfl
theorem or_sc (p : Prop) : (p ∨ True) = True:=by simp
theorem Ep.reloc {s : Store} {cs ts : List V} {os : List Nat} {L L' : List (Nat × Obj)} {p : Nat} {ob : Obj} (E : Ep s cs ts os L) (hp : p ∉ os) (hl : p < s.length) (h : ∀ q ∈ L',(q.1 ≠ p ∧ q ∈ L) ∨ q = (p,ob)) :
  Ep (s.set p (some ob)) cs ts os L':=by
 refine ⟨E.c.set hp,fun q hq=>?_⟩
 rcases h q hq with ⟨h1,h2⟩ | rfl
 ·exact ⟨(objAt_setne h1).trans (E.l q h2).1,(E.l q h2).2⟩
 ·exact ⟨objAt_seteq hl,hp⟩
end Go.Ml
namespace Go.Ml
def sh (n0 n x : Nat) : Nat:=if x < n0 then x else x + (n - n0)
theorem sh_lt {n0 n x y : Nat} : sh n0 n x < sh n0 n y ↔ x < y:=by
 unfold sh;split <;> split <;> omega
theorem sh_eq {n0 n x y : Nat} : sh n0 n x = sh n0 n y ↔ x = y:=by
 unfold sh;split <;> split <;> omega
def shA (n0 n : Nat) (a : Acc) : Acc:=⟨a.i,a.R.map (sh n0 n),a.W.map (sh n0 n),a.n⟩
theorem sh_contains {n0 n : Nat} (l : List Nat) (p : Nat) : (l.map (sh n0 n)).contains (sh n0 n p) = l.contains p:=by
 rw [Bool.eq_iff_iff,List.contains_iff_mem,List.contains_iff_mem,List.mem_map]
 constructor
 ·rintro ⟨q,h1,h2⟩
  rw [sh_eq.1 h2] at h1;exact h1
 ·exact fun h=>⟨p,h,rfl⟩
theorem below_sh {n0 n L : Nat} (a b : Acc) : belowA (sh n0 n L) (shA n0 n a) (shA n0 n b) = belowA L a b:=by
 unfold belowA shA
 simp only [List.all_map,Function.comp_def]
 simp only [sh_lt]
theorem apart_sh {n0 n L : Nat} (d e : OpI) (a b : Acc) : apartA (sh n0 n L) d e (shA n0 n a) (shA n0 n b) = apartA L d e a b:=by
 unfold apartA
 rw [below_sh,below_sh]
 simp only [shA,List.all_map,Function.comp_def]
 simp only [sh_contains]
 congr 6
 ·congr 1
  funext p
  congr 2
  funext q
  rw [bne,bne]
  congr 1
  rw [Bool.eq_iff_iff,beq_iff_eq,beq_iff_eq];exact sh_eq
theorem okA_sh {n0 n L : Nat} {B : Nat → List Nat} {ops : List OpI} : ∀ l : List Acc,okA (sh n0 n L) B ops (l.map (shA n0 n)) = okA L B ops l
 | []=>rfl
 |
  a :: l=>by
  simp only [List.map_cons,okA,List.all_map,Function.comp_def]
  rw [okA_sh l]
  congr 2
  funext b
  have h1 : (shA n0 n a).i = a.i:=rfl
  have h2 : (shA n0 n b).i = b.i:=rfl
  rw [apart_sh,h1,h2]
theorem OkA_shift {ops : List OpI} {LF : Nat → Nat} {aF : Nat → List Acc} (n0 n : Nat) (hL : LF n = sh n0 n (LF n0)) (ha : aF n = (aF n0).map (shA n0 n)) (hk : OkA (LF n0) ops (aF n0)) : OkA (LF n) ops (aF n):=by
 unfold OkA at hk ⊢
 rw [hL,ha,← List.map_reverse,okA_sh]
 exact hk
end Go.Ml
namespace Go.Ml
theorem OkA_allN {ops : List OpI} (LF : Nat → Nat) (aF : Nat → List Acc) (n0 : Nat) (hL : ∀ n,n0 ≤ n → LF n = sh n0 n (LF n0)) (ha : ∀ n,n0 ≤ n → aF n = (aF n0).map (shA n0 n)) (hk : OkA (LF n0) ops (aF n0)) :
  ∀ n,n0 ≤ n → OkA (LF n) ops (aF n):=fun n h=>OkA_shift n0 n (hL n h) (ha n h) hk
end Go.Ml
end
section
namespace Go.Ml
theorem tmod_B {t : Int} (h : 0 ≤ t) : t.tmod 1000000000 = t % 1000000000:=Int.tmod_eq_emod_of_nonneg h
theorem tdiv_B {t : Int} (h : 0 ≤ t) : t.tdiv 1000000000 = t / 1000000000:=Int.tdiv_eq_ediv_of_nonneg h
theorem add_step {N i va vb va' vb' : Nat} {xs : List Int} {c x y : Int} (hl : xs.length = i) (hc : 0 ≤ c) (hx : 0 ≤ x) (hy : 0 ≤ y)
  (h : val xs + 1000000000 ^ i * (c.toNat + va + vb) = N) (ha : va = x.toNat + 1000000000 * va') (hb : vb = y.toNat + 1000000000 * vb') :
  val (xs ++ [(c + x + y) % 1000000000]) + 1000000000 ^ (i + 1) * (((c + x + y) / 1000000000).toNat + va' + vb') = N:=by
 rw [val_snoc,hl,Nat.pow_succ]
 have e : c.toNat + va + vb = ((c + x + y) % 1000000000).toNat + 1000000000 * (((c + x + y) / 1000000000).toNat + va' + vb'):=by omega
 rw [e,Nat.mul_add,← Nat.mul_assoc] at h
 omega
theorem sub_step {vx va vb p x y d bo bo' : Nat} (h : vx + vb = va + bo * p) (hd : d + y + bo = x + bo' * 1000000000) :
  (vx + p * d) + (vb + p * y) = (va + p * x) + bo' * (p * 1000000000):=by
 have e:=congrArg (fun z=>p * z) hd
 simp only [Nat.mul_add] at e
 have e1 : p * bo = bo * p:=Nat.mul_comm _ _
 have e2 : p * (bo' * 1000000000) = bo' * (p * 1000000000):=by rw [← Nat.mul_assoc,Nat.mul_comm p bo',Nat.mul_assoc]
 omega
theorem take_set_succ {l : List Int} {i : Nat} {d : Int} (h : i < l.length) : (l.set i d).take (i + 1) = l.take i ++ [d]:=by
 rw [take_succ_getD (by simpa using h)]
 congr 1
 ·rw [List.take_set,List.set_eq_of_length_le (by simp;omega)]
 ·simp [List.getD_eq_getElem?_getD,h]
theorem mul_step {vp vp' V0 a p q pb x y : Nat} {c t : Nat}
  (h : vp + c * (p * q) = V0 + a * (p * pb)) (hs : vp' + (p * q) * x = vp + (p * q) * (t % 1000000000)) (ht : t = c + x + a * y) :
  vp' + t / 1000000000 * (p * (q * 1000000000)) = V0 + a * (p * (pb + q * y)):=by
 have e1 : (p * q) * (t % 1000000000) + t / 1000000000 * (p * (q * 1000000000)) = (p * q) * t:=by
  have : t / 1000000000 * (p * (q * 1000000000)) = (p * q) * (1000000000 * (t / 1000000000)):=by
   rw [← Nat.mul_assoc p q,Nat.mul_comm (t / 1000000000),Nat.mul_assoc]
  rw [this,← Nat.mul_add]
  congr 1
  omega
 have e2 : (p * q) * t = (p * q) * c + (p * q) * x + (p * q) * (a * y):=by rw [ht,Nat.mul_add,Nat.mul_add]
 have e3 : a * (p * (pb + q * y)) = a * (p * pb) + (p * q) * (a * y):=by
  rw [Nat.mul_add,Nat.mul_add,← Nat.mul_assoc p q y]
  congr 1
  rw [← Nat.mul_assoc,Nat.mul_comm a (p * q),Nat.mul_assoc]
 have e4 : c * (p * q) = (p * q) * c:=Nat.mul_comm _ _
 omega
theorem div_unique {a b q r : Nat} (h : a = q * b + r) (hr : r < b) : q = a / b ∧ r = a % b:=by
 have hb : 0 < b:=by omega
 subst h
 constructor
 ·rw [Nat.mul_comm,Nat.mul_add_div hb,Nat.div_eq_of_lt hr,Nat.add_zero]
 ·rw [Nat.mul_comm,Nat.mul_add_mod,Nat.mod_eq_of_lt hr]
end Go.Ml
namespace Go.Ml
theorem val_drop_le {l : List Int} (i : Nat) : val (l.drop i) ≤ val l:=by
 rw [val_take_drop l i]
 have : val (l.drop i) ≤ 1000000000 ^ (l.take i).length * val (l.drop i):=Nat.le_mul_of_pos_left _ (Nat.pow_pos (by omega))
 omega
theorem drop_getD {l : List Int} {i : Nat} (h : i < l.length) : l.drop i = l.getD i 0 :: l.drop (i + 1):=by
 rw [List.drop_eq_getElem_cons h,List.getD_eq_getElem?_getD,List.getElem?_eq_getElem h];rfl
theorem add_can {m n : Nat} {xs : List Int} (hv : val xs = m + n) (hb : Lb xs) (hl : xs.length ≤ max (mk m).length (mk n).length ∨ xs.getLast? ≠ some 0) : mk (m + n) = xs:=by
 rw [← hv]
 refine mk_val ⟨hb,?_⟩
 rcases hl with hl | hl
 ·refine (can_of_ge hb fun hne=>?_).2
  have hpos : 0 < xs.length:=by
   cases xs with
   | nil=>exact absurd rfl hne
   | cons=>simp
  rw [hv]
  have p1 : ∀ k : Nat,mk k ≠ [] → 1000000000 ^ ((mk k).length - 1) ≤ k:=fun k hk=>by
   have:=can_ge (can_mk k) hk
   rwa [val_mk] at this
  by_cases hmn : (mk n).length ≤ (mk m).length
  ·have hm : mk m ≠ []:=by intro e;have h0 : (mk m).length = 0:=(by rw [e];rfl);omega
   have:=p1 m hm
   have h2 : (1000000000 : Nat) ^ (xs.length - 1) ≤ 1000000000 ^ ((mk m).length - 1):=Nat.pow_le_pow_right (by omega) (by omega)
   omega
  ·have hm : mk n ≠ []:=by intro e;have h0 : (mk n).length = 0:=(by rw [e];rfl);omega
   have:=p1 n hm
   have h2 : (1000000000 : Nat) ^ (xs.length - 1) ≤ 1000000000 ^ ((mk n).length - 1):=Nat.pow_le_pow_right (by omega) (by omega)
   omega
 ·exact hl
theorem getD_ge {l : List Int} {i : Nat} (h : l.length ≤ i) : l.getD i 0 = 0:=by
 rw [List.getD_eq_getElem?_getD,List.getElem?_eq_none h];rfl
theorem val_dropG (l : List Int) (i : Nat) : val (l.drop i) = (l.getD i 0).toNat + 1000000000 * val (l.drop (i + 1)):=by
 by_cases h : i < l.length
 ·exact val_drop h
 ·rw [val_drop_ge (by omega),val_drop_ge (by omega),getD_ge (by omega)];rfl
end Go.Ml
namespace Go.Ml
theorem getD_set_int' (l : List Int) (i j : Nat) (v : Int) : (l.set i v).getD j 0 = if i = j ∧ i < l.length then v else l.getD j 0:=by
 simp only [List.getD_eq_getElem?_getD,List.getElem?_set]
 by_cases h : i = j
 ·subst h
  by_cases h2 : i < l.length
  ·simp [h2]
  ·simp [h2,List.getElem?_eq_none (Nat.le_of_not_lt h2)]
 ·simp [h]
end Go.Ml
namespace Go.Ml
theorem drop_set_self {l : List Int} {i : Nat} {d : Int} (h : i < l.length) : (l.set i d).drop i = d :: l.drop (i + 1):=by
 induction l generalizing i with
 | nil=>simp at h
 |
  cons x l ih =>
  cases i with
  | zero=>simp
  | succ i=>simpa using ih (by simpa using h)
theorem cmpN_nonneg {a b : Nat} : 0 ≤ cmpN a b ↔ b ≤ a:=by
 unfold cmpN
 by_cases h : a < b
 ·rw [if_pos h];omega
 ·rw [if_neg h]
  split <;> omega
theorem mk_one {d : Nat} (h0 : 0 < d) (h1 : d < 1000000000) : mk d = [(d : Int)]:=by
 rw [mk_pos (by omega),Nat.mod_eq_of_lt h1,Nat.div_eq_of_lt h1,mk_zero]
theorem guess_ok {r b : Nat} (hb : 0 < b) (hle : b ≤ r) (hlt : r < b * 1000000000) :
  (mk b).length ≤ (mk r).length ∧ (mk r).length ≤ (mk b).length + 1 ∧ 0 < (mk b).length ∧
  ((mk b).length = 1 → let d:=val ((mk r).drop 0) / ((mk b).getD 0 0).toNat;0 < d ∧ d < 1000000000 ∧ d * b ≤ r ∧ 0 < ((mk b).getD 0 0).toNat) ∧
  (let d:=val ((mk r).drop ((mk b).length - 1)) / (((mk b).getD ((mk b).length - 1) 0).toNat + 1);d < 1000000000 ∧ d * b ≤ r):=by
 have hbm:=mk_ne (n:=b) (by omega)
 have h1 : (mk b).length ≤ (mk r).length:=by
  have : (mk b).length - 1 < (mk r).length:=by
   rw [mk_len_lt]
   have:=can_ge (can_mk b) (by intro e;rw [e] at hbm;simp at hbm)
   rw [val_mk] at this
   omega
  omega
 have h2 : (mk r).length ≤ (mk b).length + 1:=by
  rw [mk_len_le,Nat.pow_succ]
  have:=val_lt (lb_mk b)
  rw [val_mk] at this
  exact Nat.lt_of_lt_of_le hlt (Nat.mul_le_mul_right _ (Nat.le_of_lt this))
 refine ⟨h1,h2,hbm,?_,?_⟩
 ·intro hm
  have eb : ((mk b).getD 0 0).toNat = b:=by
   have h3:=val_dropG (mk b) 0
   rw [List.drop_zero,val_mk,val_drop_ge (by omega)] at h3
   omega
  rw [List.drop_zero,val_mk,eb]
  refine ⟨Nat.div_pos hle hb,Nat.div_lt_of_lt_mul (by omega),Nat.div_mul_le_self r b,hb⟩
 ·have er:=val_take_drop (mk r) ((mk b).length - 1)
  have eb:=val_take_drop (mk b) ((mk b).length - 1)
  rw [val_mk] at er eb
  have l1 : ((mk r).take ((mk b).length - 1)).length = (mk b).length - 1:=by simp;omega
  have l2 : ((mk b).take ((mk b).length - 1)).length = (mk b).length - 1:=by simp
  rw [l1] at er
  rw [l2] at eb
  have ed:=val_dropG (mk b) ((mk b).length - 1)
  rw [show (mk b).length - 1 + 1 = (mk b).length by omega,val_drop_ge (Nat.le_refl _)] at ed
  have hlo:=val_lt (lb_take (lb_mk b) ((mk b).length - 1))
  rw [l2] at hlo
  generalize hP : 1000000000 ^ ((mk b).length - 1) = P at *
  generalize hT : val ((mk r).drop ((mk b).length - 1)) = t at *
  generalize hB : ((mk b).getD ((mk b).length - 1) 0).toNat = bt at *
  have hd:=Nat.div_mul_le_self t (bt + 1)
  generalize hq : t / (bt + 1) = d at *
  have hbb : b ≤ P * (bt + 1):=by rw [Nat.mul_succ];rw [ed] at eb;simp only [Nat.mul_zero,Nat.add_zero] at eb;omega
  have key : d * b ≤ r:=by
   have s1 : d * b ≤ d * (P * (bt + 1)):=Nat.mul_le_mul_left _ hbb
   have s2 : d * (P * (bt + 1)) = P * (d * (bt + 1)):=by rw [Nat.mul_left_comm]
   have s3 : P * (d * (bt + 1)) ≤ P * t:=Nat.mul_le_mul_left _ hd
   omega
  refine ⟨?_,key⟩
  have : d * b < 1000000000 * b:=by rw [Nat.mul_comm 1000000000];omega
  exact Nat.lt_of_mul_lt_mul_right this
def FinW (σ : Store) (r : V) (ts : List (Bool × V)) : Prop:=∃ W σ2 vs os,ReS W σ σ2 ∧ CanV W σ r (.tup vs) ∧ OwX σ2 vs ts os ∧ os.Nodup
theorem px_endW {T : Nat → Option Fn} {f : Nat} {F : Fn} {args : List V} {ts : List (Bool × V)} (rf : Nat → Nat → Bool) (hT : T f = some F) (hl : args.length = F.nargs) (hk : F.body.okC = true)
  (h : wp T rf F.body (fun e st=>endW F.res e (fun r σ=>FinX σ r ts ∨ FinW σ r ts) st) (St.enter args [])) : PX T f args ts:=by
 obtain ⟨r,σ',h1,h2⟩:=run_end rf hT hl hk h
 rcases h2 with ⟨vs,os,h2,h3,h4⟩ | ⟨W,σ2,vs,os,h2,h3,h4,h5⟩
 ·exact ⟨vs,σ',os,.laxF (laxL_refl _) h1 h2,h3,h4⟩
 ·exact ⟨vs,σ2,os,.reF W (laxL_refl _) h1 h2 h3,h4,h5⟩
theorem finX_of {σ : Store} {v w t u : V} {os : List Nat} (h : OwV σ v t os) (hn : os.Nodup) (hr : resolve σ FD w = some u) : FinX σ (.tup [v,w]) [(true,t),(false,u)]:=by
 refine ⟨[v,w],os,laxV_refl _,?_,hn⟩
 simp only [OwX,if_true,Bool.false_eq_true,if_false]
 exact ⟨v,[w],os,[],rfl,by simp,h,w,[],[],[],rfl,rfl,⟨hr,rfl⟩,rfl,rfl⟩
theorem trim_take (l : List Int) : trim l = l.take (trim l).length ∧ (trim l).length ≤ l.length:=by
 have h:=trimN_le l l.length
 have e2 : (trim l).length = trimN l l.length:=by unfold trim;rw [List.length_take];omega
 exact ⟨by rw [e2];rfl,by omega⟩
theorem reS_cut {Q : List Int} {n : Nat} (h : n ≤ Q.length) : ReS [some (0,0,n)] [some ⟨1,irows Q⟩] [some ⟨1,irows (Q.take n)⟩]:=by
 refine ⟨rfl,fun i j o s l s' l' h1 h2=>?_,fun k o s l hk=>?_,fun k hk=>?_⟩
 ·cases i with
  |
   zero=>cases j with
   | zero=>rfl
   | succ j=>simp at h2
  | succ i=>simp at h1
 ·cases k with
  | succ k=>simp at hk
  |
   zero =>
   simp only [List.getElem?_cons_zero,Option.some.injEq,Prod.mk.injEq] at hk
   obtain ⟨rfl,rfl,rfl⟩:=hk
   refine ⟨⟨1,irows Q⟩,⟨1,irows (Q.take n)⟩,rfl,by rw [ir_len];omega,rfl,rfl,by rw [ir_len,List.length_take];omega,fun i r r2 h1 h2=>?_⟩
   have hi : i < n:=by
    have:=(List.getElem?_eq_some_iff.1 h2).1
    rw [ir_len,List.length_take] at this;omega
   have e : r2 = r:=by
    rw [Nat.zero_add] at h1
    simp only [irows,List.getElem?_map] at h1 h2
    rw [List.getElem?_take_of_lt hi,h1] at h2
    exact (Option.some.inj h2).symm
   subst e
   refine canL_still fun v hv=>ir_still Q r2 ?_ v hv
   exact List.mem_of_getElem? h1
 ·cases k <;> simp at hk
theorem finW_cut {Q : List Int} {n : Nat} {t u : V} (h : n ≤ Q.length) (ht : t = ints (Q.take n)) (hu : u.still = true) : FinW [some ⟨1,irows Q⟩] (.tup [.msl 0 0 n,u]) [(true,t),(false,u)]:=by
 subst ht
 refine ⟨[some (0,0,n)],[some ⟨1,irows (Q.take n)⟩],[.msl 0 0 n,u],[0],reS_cut h,?_,?_,by simp⟩
 ·simp only [CanV,CanL]
  exact ⟨_,rfl,_,_,rfl,.inl ⟨0,0,n,rfl,Nat.le_refl _,by omega,rfl⟩,_,_,rfl,canV_still hu,rfl⟩
 ·simp only [OwX,if_true,Bool.false_eq_true,if_false]
  refine ⟨_,[u],[0],[],rfl,rfl,?_,u,[],[],[],rfl,rfl,⟨res_still (n:=11) hu,rfl⟩,rfl,rfl⟩
  have:=owV_ints (σ:=[some ⟨1,irows (Q.take n)⟩]) (o:=0) (l:=Q.take n) rfl
  rwa [List.length_take,Nat.min_eq_left h] at this
theorem mapO_ints (g : Nat → Option Nat) (l : List Int) : mapO g ⟨1,irows l⟩ = ⟨1,irows l⟩:=by
 unfold mapO
 congr 1
 simp only [irows,List.map_map]
 rfl
theorem RefK_refI {T : Nat → Option Fn} {f : Nat} {as : List Src} {dst : Option Nat} {env : Nat → V} {σ : Store} {kp bs : Nat} {rs ms : List Nat} {k : St → Prop} {ρ : List Nat} {as' : List V} {r : V} {σ' : Store} (hn : ρ.Nodup)
  (hρ : ∀ o,o ∈ ρ → ∃ l,objAt σ o = some ⟨1,irows l⟩) (ha : (as.map fun s=>mapV (place ρ) (s.ev env)) = as') (hr : Run T (.fn f as' (gcS ρ σ)) (.fn r σ'))
  (hold : ∀ q,q < ρ.length → objAt σ' q = objAt (gcS ρ σ) q) (hk : ∀ σ2 : Store,(∀ q,q < σ.length → objAt σ2 q = objAt σ q) → σ.length ≤ σ2.length → k ⟨updO env dst (mapV (back ρ σ.length) r),σ2,kp,bs,rs,ms⟩) :
  RefK T f as dst ⟨env,σ,kp,bs,rs,ms⟩ k:=by
 subst ha
 refine ⟨_,.ref ρ hn (fun o ho=>by obtain ⟨l,h⟩:=hρ o ho;rw [h];rfl) hr,?_⟩
 refine hk _ (fun q hq=>?_) (by simp [putBack])
 have e1 : objAt (putBack ρ σ σ') q = ((σ.mapIdx fun o ob=>match place ρ o with
   | some j=>(objAt σ' j).map (mapO (back ρ σ.length))
   | none=>ob)[q]?).getD none:=by
  show ((putBack ρ σ σ')[q]?).getD none = _
  unfold putBack
  rw [List.getElem?_append_left (by simpa using hq)]
  rfl
 show objAt (putBack ρ σ σ') q = _
 rw [e1,List.getElem?_mapIdx,List.getElem?_eq_getElem hq]
 simp only [Option.map_some,Option.getD_some]
 cases hp : place ρ q with
 | none=>simp [objAt,List.getElem?_eq_getElem hq]
 |
  some j =>
  have hj:=place_some hp
  have hlt:=(List.getElem?_eq_some_iff.1 hj).1
  simp only []
  rw [hold j hlt,objAt_gcS,hj]
  obtain ⟨l,hl⟩:=hρ q (List.mem_of_getElem? hj)
  simp only [hl,Option.map_some,mapO_ints]
end Go.Ml
namespace Go.Ml
theorem apartA_dropL {L : Nat} {d e : OpI} {i : Nat} {R : List Nat} {b : Acc} (hw : ∀ w ∈ b.W,w ∉ R) (h : apartA L d e ⟨i,[],[],true⟩ b = true) : apartA L d e ⟨i,R,[],true⟩ b = true:=by
 simp only [apartA,Bool.and_eq_true] at h ⊢
 obtain ⟨⟨⟨⟨h1,h2⟩,h3⟩,h4⟩,h5⟩:=h
 refine ⟨⟨⟨⟨h1,h2⟩,?_⟩,h4⟩,?_⟩
 ·rw [List.all_eq_true]
  intro w hw'
  simpa using hw w hw'
 ·unfold belowA at h5 ⊢
  simpa using h5
theorem apartA_dropR {L : Nat} {d e : OpI} {i : Nat} {R : List Nat} {b : Acc} (hw : ∀ w ∈ b.W,w ∉ R) (h : apartA L d e b ⟨i,[],[],true⟩ = true) : apartA L d e b ⟨i,R,[],true⟩ = true:=by
 simp only [apartA,Bool.and_eq_true] at h ⊢
 obtain ⟨⟨⟨⟨h1,h2⟩,h3⟩,h4⟩,h5⟩:=h
 refine ⟨⟨⟨⟨h1,?_⟩,h3⟩,?_⟩,h5⟩
 ·rw [List.all_eq_true]
  intro w hw'
  simpa using hw w hw'
 ·unfold belowA at h4 ⊢
  simpa using h4
theorem okA_drop {L : Nat} {B : Nat → List Nat} {ops : List OpI} {i : Nat} {R : List Nat} : ∀ (pre post : List Acc),(∀ b ∈ pre ++ post,∀ w ∈ b.W,w ∉ R) → okA L B ops (pre ++ ⟨i,[],[],true⟩ :: post) = true → okA L B ops (pre ++ ⟨i,R,[],true⟩ :: post) = true
 |
  [],post,hw,h=>by
  simp only [List.nil_append,okA,Bool.and_eq_true,List.all_eq_true,Bool.or_eq_true] at h ⊢
  refine ⟨fun b hb=>?_,h.2⟩
  rcases h.1 b hb with k | k
  ·exact .inl k
  ·exact .inr (apartA_dropL (hw b (by simpa using hb)) k)
 |
  a :: pre,post,hw,h=>by
  simp only [List.cons_append,okA,Bool.and_eq_true,List.all_eq_true,Bool.or_eq_true] at h ⊢
  refine ⟨fun b hb=>?_,okA_drop pre post (fun b hb=>hw b (by simp only [List.cons_append,List.mem_cons];exact .inr hb)) h.2⟩
  rcases List.mem_append.1 hb with hb | hb
  ·exact h.1 b (List.mem_append_left _ hb)
  ·rcases List.mem_cons.1 hb with rfl | hb
   ·rcases h.1 ⟨i,[],[],true⟩ (by simp) with k | k
    ·exact .inl k
    ·exact .inr (apartA_dropR (hw a (by simp)) k)
   ·exact h.1 b (List.mem_append_right _ (List.mem_cons_of_mem _ hb))
theorem OkA_drop {L : Nat} {ops : List OpI} {i : Nat} {R : List Nat} (pre post : List Acc) (hw : ∀ b ∈ pre ++ post,∀ w ∈ b.W,w ∉ R) (h : OkA L ops (pre ++ ⟨i,[],[],true⟩ :: post)) : OkA L ops (pre ++ ⟨i,R,[],true⟩ :: post):=by
 unfold OkA at h ⊢
 simp only [List.reverse_append,List.reverse_cons,List.append_assoc,List.singleton_append] at h ⊢
 exact okA_drop _ _ (fun b hb=>hw b (by rcases List.mem_append.1 hb with h | h <;> simp at h <;> simp [h])) h
theorem reach_ints {σ : Store} {v : V} {l : List Int} {os : List Nat} (h : OwV σ v (ints l) os) : ∀ n,∀ o ∈ reach σ n v,o ∈ os:=by
 intro n o ho
 rcases h.ints_inv with ⟨_,rfl,_⟩ | ⟨q,rfl,h1,rfl⟩
 ·cases n <;> simp [reach] at ho
 ·cases n with
  | zero=>simp [reach] at ho
  |
   succ n =>
   simp only [reach,h1,List.mem_cons,List.mem_flatMap] at ho
   rcases ho with rfl | ⟨r,hr,c,hc,ho⟩
   ·simp
   ·have hs:=ir_still l r hr c hc
    cases n with
    | zero=>simp [reach] at ho
    | succ n=>rw [reach_still hs] at ho;cases ho
theorem reach_agg {σ : Store} {n : Nat} {cs : List V} {o : Nat} : o ∈ reach σ (n + 1) (.agg cs) ↔ ∃ c ∈ cs,o ∈ reach σ n c:=by
 simp [reach,List.mem_flatMap]
theorem OwnK_gotP {T : Nat → Option Fn} {f : Nat} {as : List Src} {dst : Option Nat} {env : Nat → V} {σ : Store} {kp bs : Nat} {rs ms : List Nat} {k : List Nat → List Nat → Bool → St → Prop} {as' : List V} {t : V} (P : Nat → Prop) (h : PO T f as' t)
  (ha : resK env σ as (· = as')) (hr : ∀ o ∈ reachAll env σ as,P o) (hk : ∀ R r σ2 os,(∀ o ∈ R,P o) → Got σ σ2 r t os → k R [] true ⟨updO env dst r,σ2,kp,bs,rs,ms⟩) : OwnK T f as dst ⟨env,σ,kp,bs,rs,ms⟩ k :=
 OwnK_got h ha fun r σ2 os g=>hk _ r σ2 os hr g
end Go.Ml
namespace Go.Ml
theorem OkA_dropA {L : Nat} {ops : List OpI} (aF : List Nat → List Acc) (Q : List Nat → Prop) (m i : Nat) (h1 : (aF [])[m]? = some ⟨i,[],[],true⟩) (h2 : ∀ R,aF R = (aF []).set m ⟨i,R,[],true⟩)
  (hw : ∀ R,Q R → ∀ b ∈ aF [],∀ w ∈ b.W,w ∉ R) (h : OkA L ops (aF [])) : ∀ R,Q R → OkA L ops (aF R):=by
 intro R hR
 have hlt:=(List.getElem?_eq_some_iff.1 h1).1
 have e : aF [] = (aF []).take m ++ ⟨i,[],[],true⟩ :: (aF []).drop (m + 1):=by
  conv=>lhs;rw [← List.take_append_drop m (aF []),List.drop_eq_getElem_cons hlt]
  rw [(List.getElem?_eq_some_iff.1 h1).2]
 have e2 : aF R = (aF []).take m ++ ⟨i,R,[],true⟩ :: (aF []).drop (m + 1):=by
  rw [h2,List.set_eq_take_append_cons_drop,if_pos hlt]
 rw [e2]
 refine OkA_drop _ _ (fun b hb=>hw R hR b ?_) (e ▸ h)
 rcases List.mem_append.1 hb with h | h
 ·exact List.mem_of_mem_take h
 ·exact List.mem_of_mem_drop h
theorem Ep.push {s : Store} {cs ts : List V} {os : List Nat} {L : List (Nat × Obj)} {ob : Obj} (E : Ep s cs ts os L) : Ep (s ++ [some ob]) cs ts os (L ++ [(s.length,ob)]):=by
 refine ⟨E.c.snoc,fun q hq=>?_⟩
 rcases List.mem_append.1 hq with hq | hq
 ·exact E.snoc.l q hq
 ·simp only [List.mem_cons,List.not_mem_nil,or_false] at hq
  subst hq
  exact ⟨objAt_snoc _ _,fun hm=>absurd (E.c.lt _ hm) (Nat.lt_irrefl _)⟩
theorem Ep.reach {s : Store} {cs ts : List V} {os : List Nat} {L : List (Nat × Obj)} (E : Ep s cs ts os L) (c : Nat) {v : V} {l : List Int} (hv : cs[c]? = some v) (ht : ts[c]? = some (ints l)) (n : Nat) : ∀ o ∈ reach s n v,o ∈ os:=by
 intro o ho
 obtain ⟨vc,oc,j1,j2,_,j4,_⟩:=E.c.ow.focus c _ E.c.nd ht
 rw [hv] at j1
 cases j1
 exact j4 o (reach_ints j2 n o ho)
abbrev Gd:=Nat → Nat → Bool
def gset (g : Gd) (i j : Nat) (b : Bool) : Gd:=fun x y=>if x = i ∧ y = j then b else g x y
def grow (g : Gd) (a : Nat) : List (List V):=(List.range 10).map fun j=>[.bool (g a j)]
theorem grow_set {g : Gd} {a j : Nat} {b : Bool} : (grow g a).set j [.bool b] = grow (gset g a j b) a:=by
 apply List.ext_getElem?
 intro n
 rw [List.getElem?_set]
 simp only [grow,List.getElem?_map,List.length_map,List.length_range]
 by_cases hn : n < 10
 ·rw [List.getElem?_range hn]
  by_cases e : j = n
  ·rw [if_pos e,if_pos (by omega)]
   simp only [Option.map_some,gset]
   rw [if_pos (by simp [e])]
  ·rw [if_neg e]
   simp only [Option.map_some,gset]
   rw [if_neg (by omega)]
 ·rw [List.getElem?_eq_none (by simp;omega)]
  split
  ·split
   ·omega
   ·rfl
  ·rfl
theorem grow_ne {g : Gd} {a c j : Nat} {b : Bool} (h : c ≠ a) : grow (gset g a j b) c = grow g c:=by
 unfold grow gset
 apply List.map_congr_left
 intro k _
 rw [if_neg (by omega)]
def onR (b : Nat) : List (List V):=(List.range 10).map fun i=>[.msl (b + i) 0 10]
def gst (g : Gd) : Store:=some ⟨1,[[.msl 1 0 10]]⟩ :: some ⟨1,onR 2⟩ :: (List.range 10).map fun a=>some ⟨1,grow g a⟩
theorem gst_len (g : Gd) : (gst g).length = 12:=by simp [gst]
structure GridAt (s : Store) (b : Nat) (g : Gd) : Prop where
 p : objAt s b = some ⟨1,[[.msl (b + 1) 0 10]]⟩
 on : objAt s (b + 1) = some ⟨1,onR (b + 2)⟩
 row : ∀ a,a < 10 → objAt s (b + 2 + a) = some ⟨1,grow g a⟩
theorem gst_row {g : Gd} {a : Nat} (ha : a < 10) : objAt (gst g) (2 + a) = some ⟨1,grow g a⟩:=by
 rw [Nat.add_comm]
 show ((List.range 10).map fun a=>some (⟨1,grow g a⟩ : Obj))[a]?.getD none = _
 rw [List.getElem?_map,List.getElem?_range ha];rfl
theorem GridAt.lt {s : Store} {b : Nat} {g : Gd} (h : GridAt s b g) : b + 12 ≤ s.length:=by
 have:=objAt_lt (h.row 9 (by omega));omega
theorem GridAt.frame {s s2 : Store} {b : Nat} {g : Gd} (h : GridAt s b g) (hs : ∀ q,b ≤ q → q < b + 12 → objAt s2 q = objAt s q) : GridAt s2 b g :=
 ⟨(hs _ (by omega) (by omega)).trans h.p,(hs _ (by omega) (by omega)).trans h.on,fun a ha=>(hs _ (by omega) (by omega)).trans (h.row a ha)⟩
theorem GridAt.set {s : Store} {b : Nat} {g : Gd} (h : GridAt s b g) {i j : Nat} {x : Bool} (hi : i < 10) (hj : j < 10) : GridAt (s.set (b + 2 + i) (some ⟨1,(grow g i).set j [.bool x]⟩)) b (gset g i j x):=by
 have hl:=h.lt
 refine ⟨(objAt_setne (by omega)).trans h.p,(objAt_setne (by omega)).trans h.on,fun a ha=>?_⟩
 by_cases e : a = i
 ·subst e
  rw [objAt_seteq (by omega),grow_set]
 ·rw [objAt_setne (by omega),h.row a ha,grow_ne e]
theorem mapO_on {ρ : Nat → Option Nat} {b b' : Nat} (h : ∀ i,i < 10 → ρ (b + i) = some (b' + i)) : mapO ρ ⟨1,onR b⟩ = ⟨1,onR b'⟩:=by
 unfold mapO onR
 congr 1
 rw [List.map_map]
 apply List.map_congr_left
 intro i hi
 simp [mapV,h i (List.mem_range.1 hi)]
theorem mapO_grow (f : Nat → Option Nat) (g : Gd) (a : Nat) : mapO f ⟨1,grow g a⟩ = ⟨1,grow g a⟩:=by
 unfold mapO
 congr 1
theorem place_range {b j : Nat} : ∀ n,j < n → place ((List.range n).map (b + ·)) (b + j) = some j:=by
 intro n hj
 have h1 : ((List.range n).map (b + ·))[j]? = some (b + j):=by rw [List.getElem?_map,List.getElem?_range hj];rfl
 have h2 : ((List.range n).map (b + ·)).Nodup:=by
  refine List.pairwise_map.2 (List.nodup_range.imp fun hne e=>hne (by omega))
 exact place_get h2 h1
def g12 (b : Nat) : List Nat:=(List.range 12).map (b + ·)
theorem gst_range (g : Gd) : gst g = (List.range 12).map fun j=>objAt (gst g) j:=by
 apply List.ext_getElem?
 intro n
 rw [List.getElem?_map]
 by_cases h : n < 12
 ·rw [List.getElem?_range h]
  simp only [Option.map_some,objAt]
  rw [List.getElem?_eq_getElem (by rw [gst_len];exact h)];rfl
 ·rw [List.getElem?_eq_none (by rw [gst_len];omega),List.getElem?_eq_none (by simp;omega)];rfl
theorem mapO_row {ρ : Nat → Option Nat} {o o' : Nat} (h : ρ o = some o') {s l : Nat} : mapO ρ ⟨1,[[.msl o s l]]⟩ = ⟨1,[[.msl o' s l]]⟩:=by
 simp [mapO,mapV,h]
theorem GridAt.gc {s : Store} {b : Nat} {g : Gd} (h : GridAt s b g) : gcS (g12 b) s = gst g:=by
 rw [gst_range g]
 unfold gcS
 rw [g12,List.map_map]
 apply List.map_congr_left
 intro j hj
 have hj:=List.mem_range.1 hj
 show (objAt s (b + j)).map (mapO (place ((List.range 12).map (b + ·)))) = objAt (gst g) j
 by_cases h0 : j = 0
 ·subst h0
  rw [Nat.add_zero,h.p]
  exact congrArg some (mapO_row (place_range 12 (by omega : 1 < 12)))
 by_cases h1 : j = 1
 ·subst h1
  rw [h.on]
  refine congrArg some (mapO_on fun i hi=>?_)
  rw [show b + 2 + i = b + (2 + i) by omega]
  exact place_range 12 (by omega)
 obtain ⟨a,rfl⟩ : ∃ a,j = 2 + a:=⟨j - 2,by omega⟩
 rw [← Nat.add_assoc,h.row a (by omega),gst_row (by omega)]
 exact congrArg some (mapO_grow _ _ _)
theorem mapM_some {α β : Type} {f : α → Option β} {h : α → β} : ∀ {l : List α},(∀ a ∈ l,f a = some (h a)) → l.mapM f = some (l.map h)
 | [],_=>rfl
 |
  a :: l,k=>by
  rw [List.mapM_cons,k a (by simp),mapM_some fun x hx=>k x (by simp [hx])];rfl
theorem res_mslS {s : Store} {o n m : Nat} {rows : List (List V)} (h : objAt s o = some ⟨m,rows⟩) (hs : stillR rows) : resolve s (n + 2) (.msl o 0 rows.length) = some (.sl m rows):=by
 rw [resolve]
 simp only [h,Nat.zero_add,Nat.le_refl,if_true,List.drop_zero,List.take_length]
 rw [mapM_stillR hs];rfl
end Go.Ml
namespace Go.Ml
def F_impl_NatOk : Fn:=⟨1,33,[.tmp 2],(.seq (.reg false 0 [oN 2 (.mov (.c (.bool false)))]) (.seq (.seq (.reg false 0 [oN 5 (oV 0),oN 6 (.len (.t 5)),oN 7 (.bin .gtr (.t 6) (cI 60))]) (.cond (.t 7) (.seq (.reg false 0 [oN 2 (.mov (.c (.bool false)))]) .ret) .skip)) (.seq (.seq (.reg false 0 [oN 8 (oV 0),oN 9 (.len (.t 8)),oN 10 (.mov (cI 0))]) (.block 0 (.loop (.seq (.reg false 0 [oN 11 (.bin .lss (.t 10) (.t 9))]) (.seq (.cond (.t 11) .skip (.exit 0)) (.seq (.block 1 (.seq (.reg false 0 [oN 12 (.idx 1 (.t 8) (.t 10)),oN 13 (.load 1 false (.t 12)),oN 4 (oV 13)]) (.seq (.reg false 0 [oN 14 (oV 4),oN 15 (.bin .lss (.t 14) (cI 0)),oN 16 (oV 15),oG 16 false 17 (oV 4),oG 16 false 18 (.bin .geq (.t 17) (cI 1000000000)),oN 19 (.pick (.t 16) (.c (.bool true)) (.t 18))]) (.cond (.t 19) (.seq (.reg false 0 [oN 2 (.mov (.c (.bool false)))]) .ret) .skip)))) (.reg false 0 [oN 20 (.bin .add (.t 10) (cI 1)),oN 10 (oV 20)]))))))) (.seq (.reg false 0 [oN 21 (oV 0),oN 22 (.len (.t 21)),oN 23 (.bin .eql (.t 22) (cI 0)),oN 24 (oV 23),oG 24 false 25 (oV 0),oG 24 false 26 (oV 0),oG 24 false 27 (.len (.t 26)),oG 24 false 28 (.bin .sub (.t 27) (cI 1)),oG 24 false 29 (.idx 1 (.t 25) (.t 28)),oG 24 false 30 (.load 1 false (.t 29)),oG 24 false 31 (.bin .neq (.t 30) (cI 0)),oN 32 (.pick (.t 24) (.c (.bool true)) (.t 31)),oN 2 (oV 32)]) .ret))))⟩
structure D_impl_NatOk (T : Nat → Option Fn) : Prop where
 hT : T 126 = some F_impl_NatOk
def F_impl_natOfUint : Fn:=⟨1,16,[.tmp 2],(.seq (.reg false 0 [oN 2 (.mov (.c (.nils)))]) (.seq (.reg false 1 [oN 4 (.mkSl 1 [.int .i64 0] 0 []),oK 3 1 (oV 4)]) (.seq (.block 0 (.loop (.seq (.seq (.reg false 0 [oN 5 (oV 0),oN 6 (.bin .gtr (.t 5) (.c (.int .u64 0)))]) (.cond (.t 6) .skip (.exit 0))) (.block 1 (.seq (.reg false 2 [oK 7 2 (oV 3),oK 8 2 (oV 0),oK 9 2 (.bin .rem (.t 8) (.c (.int .u64 1000000000))),oK 10 2 (.conv .i64 (.t 9)),oN 11 (.mkSl 1 [.int .i64 0] 1 [(0,(.t 10))]),oK 12 1 (.app 1 8 (.t 7) (.t 11)),oK 3 2 (oV 12)]) (.reg false 0 [oN 13 (oV 0),oN 14 (.bin .quo (.t 13) (.c (.int .u64 1000000000))),oN 0 (oV 14)])))))) (.seq (.reg false 0 [oN 15 (oV 3),oN 2 (oV 15)]) .ret))))⟩
structure D_impl_natOfUint (T : Nat → Option Fn) : Prop where
 hT : T 69 = some F_impl_natOfUint
def F_impl_natCmp : Fn:=⟨2,41,[.tmp 4],(.seq (.reg false 0 [oN 4 (.mov (cI 0))]) (.seq (.seq (.reg false 0 [oN 6 (oV 0),oN 7 (.len (.t 6)),oN 8 (oV 1),oN 9 (.len (.t 8)),oN 10 (.bin .lss (.t 7) (.t 9))]) (.cond (.t 10) (.seq (.reg false 0 [oN 4 (.mov (cI (-1)))]) .ret) .skip)) (.seq (.seq (.reg false 0 [oN 11 (oV 0),oN 12 (.len (.t 11)),oN 13 (oV 1),oN 14 (.len (.t 13)),oN 15 (.bin .gtr (.t 12) (.t 14))]) (.cond (.t 15) (.seq (.reg false 0 [oN 4 (.mov (cI 1))]) .ret) .skip)) (.seq (.seq (.reg false 0 [oN 16 (oV 0),oN 17 (.len (.t 16)),oN 18 (.bin .sub (.t 17) (cI 1)),oN 5 (oV 18)]) (.block 0 (.loop (.seq (.seq (.reg false 0 [oN 19 (oV 5),oN 20 (.bin .geq (.t 19) (cI 0))]) (.cond (.t 20) .skip (.exit 0))) (.seq (.block 1 (.seq (.seq (.reg true 0 [oN 23 (oV 0),oN 24 (oV 5),oA 25 0 (.idx 1 (.t 23) (.t 24)) [0,1],oA 26 0 (.load 1 false (.t 25)) [2],oN 27 (oV 1),oN 28 (oV 5),oA 29 0 (.idx 1 (.t 27) (.t 28)) [4,5],oA 30 0 (.load 1 false (.t 29)) [6],oA 31 0 (.bin .lss (.t 26) (.t 30)) [3,7]]) (.cond (.t 31) (.seq (.reg false 0 [oN 4 (.mov (cI (-1)))]) .ret) .skip)) (.seq (.reg true 0 [oN 32 (oV 0),oN 33 (oV 5),oA 34 0 (.idx 1 (.t 32) (.t 33)) [0,1],oA 35 0 (.load 1 false (.t 34)) [2],oN 36 (oV 1),oN 37 (oV 5),oA 38 0 (.idx 1 (.t 36) (.t 37)) [4,5],oA 39 0 (.load 1 false (.t 38)) [6],oA 40 0 (.bin .gtr (.t 35) (.t 39)) [3,7]]) (.cond (.t 40) (.seq (.reg false 0 [oN 4 (.mov (cI 1))]) .ret) .skip)))) (.reg false 0 [oN 21 (oV 5),oN 22 (.bin .sub (.t 21) (cI 1)),oN 5 (oV 22)])))))) (.seq (.reg false 0 [oN 4 (.mov (cI 0))]) .ret)))))⟩
structure D_impl_natCmp (T : Nat → Option Fn) : Prop where
 hT : T 152 = some F_impl_natCmp
def F_impl_natTrim : Fn:=⟨1,21,[.tmp 2],(.seq (.reg false 0 [oN 2 (.mov (.c (.nils)))]) (.seq (.reg false 0 [oN 4 (oV 0),oN 5 (.len (.t 4)),oN 3 (oV 5)]) (.seq (.block 0 (.loop (.seq (.seq (.reg false 0 [oN 6 (oV 3),oN 7 (.bin .gtr (.t 6) (cI 0)),oN 8 (oV 7),oG 8 true 9 (oV 0),oG 8 true 10 (oV 3),oG 8 true 11 (.bin .sub (.t 10) (cI 1)),oG 8 true 12 (.idx 1 (.t 9) (.t 11)),oG 8 true 13 (.load 1 false (.t 12)),oG 8 true 14 (.bin .eql (.t 13) (cI 0)),oN 15 (.pick (.t 8) (.t 14) (.c (.bool false)))]) (.cond (.t 15) .skip (.exit 0))) (.block 1 (.reg false 0 [oN 16 (oV 3),oN 17 (.bin .sub (.t 16) (cI 1)),oN 3 (oV 17)]))))) (.seq (.reg false 0 [oN 18 (oV 0),oN 19 (oV 3),oN 20 (.slice 1 (.t 18) none (some (.t 19))),oN 2 (oV 20)]) .ret))))⟩
structure D_impl_natTrim (T : Nat → Option Fn) : Prop where
 hT : T 151 = some F_impl_natTrim
def F_impl_natAdd : Fn:=⟨2,53,[.tmp 4],(.seq (.reg false 0 [oN 4 (.mov (.c (.nils)))]) (.seq (.reg false 1 [oN 8 (.mkSl 1 [.int .i64 0] 0 []),oK 5 1 (oV 8)]) (.seq (.reg false 0 [oN 6 (.mov (cI 0))]) (.seq (.seq (.reg false 0 [oN 7 (.mov (cI 0))]) (.block 0 (.loop (.seq (.seq (.reg false 0 [oN 9 (oV 7),oN 10 (oV 0),oN 11 (.len (.t 10)),oN 12 (.bin .lss (.t 9) (.t 11)),oN 13 (oV 12),oG 13 false 14 (oV 7),oG 13 false 15 (oV 1),oG 13 false 16 (.len (.t 15)),oG 13 false 17 (.bin .lss (.t 14) (.t 16)),oN 18 (.pick (.t 13) (.c (.bool true)) (.t 17)),oN 19 (oV 18),oG 19 false 20 (oV 6),oG 19 false 21 (.bin .gtr (.t 20) (cI 0)),oN 22 (.pick (.t 19) (.c (.bool true)) (.t 21))]) (.cond (.t 22) .skip (.exit 0))) (.seq (.block 1 (.seq (.seq (.reg false 0 [oN 25 (oV 7),oN 26 (oV 0),oN 27 (.len (.t 26)),oN 28 (.bin .lss (.t 25) (.t 27))]) (.cond (.t 28) (.reg false 0 [oN 29 (oV 6),oN 30 (oV 0),oN 31 (oV 7),oN 32 (.idx 1 (.t 30) (.t 31)),oN 33 (.load 1 false (.t 32)),oN 34 (.bin .add (.t 29) (.t 33)),oN 6 (oV 34)]) .skip)) (.seq (.seq (.reg false 0 [oN 35 (oV 7),oN 36 (oV 1),oN 37 (.len (.t 36)),oN 38 (.bin .lss (.t 35) (.t 37))]) (.cond (.t 38) (.reg false 0 [oN 39 (oV 6),oN 40 (oV 1),oN 41 (oV 7),oN 42 (.idx 1 (.t 40) (.t 41)),oN 43 (.load 1 false (.t 42)),oN 44 (.bin .add (.t 39) (.t 43)),oN 6 (oV 44)]) .skip)) (.seq (.reg false 2 [oK 45 2 (oV 5),oK 46 2 (oV 6),oK 47 2 (.bin .rem (.t 46) (cI 1000000000)),oN 48 (.mkSl 1 [.int .i64 0] 1 [(0,(.t 47))]),oK 49 1 (.app 1 8 (.t 45) (.t 48)),oK 5 2 (oV 49)]) (.reg false 0 [oN 50 (oV 6),oN 51 (.bin .quo (.t 50) (cI 1000000000)),oN 6 (oV 51)]))))) (.reg false 0 [oN 23 (oV 7),oN 24 (.bin .add (.t 23) (cI 1)),oN 7 (oV 24)])))))) (.seq (.reg false 0 [oN 52 (oV 5),oN 4 (oV 52)]) .ret)))))⟩
structure D_impl_natAdd (T : Nat → Option Fn) : Prop where
 hT : T 160 = some F_impl_natAdd
def F_impl_natSub : Fn:=⟨2,44,[.tmp 4],(.seq (.reg false 0 [oN 4 (.mov (.c (.nils)))]) (.seq (.reg false 1 [oK 9 1 (oV 0),oK 10 1 (.len (.t 9)),oN 11 (.make [.int .i64 0] 8 (.t 10)),oK 5 1 (oV 11)]) (.seq (.reg false 0 [oN 6 (.mov (cI 0))]) (.seq (.seq (.reg false 0 [oN 12 (oV 0),oN 13 (.len (.t 12)),oN 14 (.mov (cI 0))]) (.block 0 (.loop (.seq (.reg false 0 [oN 15 (.bin .lss (.t 14) (.t 13))]) (.seq (.cond (.t 15) .skip (.exit 0)) (.seq (.block 1 (.seq (.reg false 0 [oN 16 (oV 14),oN 7 (oV 16)]) (.seq (.reg false 0 [oN 17 (oV 0),oN 18 (oV 7),oN 19 (.idx 1 (.t 17) (.t 18)),oN 20 (.load 1 false (.t 19)),oN 21 (oV 6),oN 22 (.bin .sub (.t 20) (.t 21)),oN 8 (oV 22)]) (.seq (.seq (.reg false 0 [oN 23 (oV 7),oN 24 (oV 1),oN 25 (.len (.t 24)),oN 26 (.bin .lss (.t 23) (.t 25))]) (.cond (.t 26) (.reg false 0 [oN 27 (oV 8),oN 28 (oV 1),oN 29 (oV 7),oN 30 (.idx 1 (.t 28) (.t 29)),oN 31 (.load 1 false (.t 30)),oN 32 (.bin .sub (.t 27) (.t 31)),oN 8 (oV 32)]) .skip)) (.seq (.reg false 0 [oN 6 (.mov (cI 0))]) (.seq (.seq (.reg false 0 [oN 33 (oV 8),oN 34 (.bin .lss (.t 33) (cI 0))]) (.cond (.t 34) (.seq (.reg false 0 [oN 35 (oV 8),oN 36 (.bin .add (.t 35) (cI 1000000000)),oN 8 (oV 36)]) (.reg false 0 [oN 6 (.mov (cI 1))])) .skip)) (.reg false 0 [oN 37 (oV 5),oN 38 (oV 7),oN 39 (oV 8),oN 40 (.idx 1 (.t 37) (.t 38)),oS (.store 1 (.t 40) (.t 39))]))))))) (.reg false 0 [oN 41 (.bin .add (.t 14) (cI 1)),oN 14 (oV 41)]))))))) (.seq (.reg false 0 [oN 42 (oV 5),oN 43 (.call 151 [(.t 42)]),oN 4 (oV 43)]) .ret)))))⟩
structure D_impl_natSub (T : Nat → Option Fn) : Prop where
 hT : T 154 = some F_impl_natSub
 d_impl_natTrim : D_impl_natTrim T
def F_impl_natMul : Fn:=⟨2,71,[.tmp 4],(.seq (.reg false 0 [oN 4 (.mov (.c (.nils)))]) (.seq (.seq (.reg false 0 [oN 9 (oV 0),oN 10 (.len (.t 9)),oN 11 (.bin .eql (.t 10) (cI 0)),oN 12 (oV 11),oG 12 false 13 (oV 1),oG 12 false 14 (.len (.t 13)),oG 12 false 15 (.bin .eql (.t 14) (cI 0)),oN 16 (.pick (.t 12) (.c (.bool true)) (.t 15))]) (.cond (.t 16) (.seq (.reg false 0 [oN 4 (.mov (.c (.nils)))]) .ret) .skip)) (.seq (.reg false 1 [oK 17 1 (oV 0),oK 18 1 (.len (.t 17)),oK 19 1 (oV 1),oK 20 1 (.len (.t 19)),oK 21 1 (.bin .add (.t 18) (.t 20)),oN 22 (.make [.int .i64 0] 8 (.t 21)),oK 5 1 (oV 22)]) (.seq (.seq (.reg false 0 [oN 23 (oV 0),oN 24 (.len (.t 23)),oN 25 (.mov (cI 0))]) (.block 0 (.loop (.seq (.reg false 0 [oN 26 (.bin .lss (.t 25) (.t 24))]) (.seq (.cond (.t 26) .skip (.exit 0)) (.seq (.block 1 (.seq (.reg false 0 [oN 27 (oV 25),oN 6 (oV 27)]) (.seq (.reg false 0 [oN 7 (.mov (cI 0))]) (.seq (.seq (.reg false 0 [oN 28 (oV 1),oN 29 (.len (.t 28)),oN 30 (.mov (cI 0))]) (.block 2 (.loop (.seq (.reg false 0 [oN 31 (.bin .lss (.t 30) (.t 29))]) (.seq (.cond (.t 31) .skip (.exit 2)) (.seq (.block 3 (.seq (.reg false 0 [oN 32 (oV 30),oN 8 (oV 32)]) (.seq (.reg true 0 [oN 33 (oV 7),oN 34 (oV 5),oN 35 (oV 6),oN 36 (oV 8),oA 37 0 (.bin .add (.t 35) (.t 36)) [2,3],oA 38 0 (.idx 1 (.t 34) (.t 37)) [1,4],oA 39 0 (.load 1 false (.t 38)) [5],oN 40 (oV 0),oN 41 (oV 6),oA 42 0 (.idx 1 (.t 40) (.t 41)) [7,8],oA 43 0 (.load 1 false (.t 42)) [9],oN 44 (oV 1),oN 45 (oV 8),oA 46 0 (.idx 1 (.t 44) (.t 45)) [11,12],oA 47 0 (.load 1 false (.t 46)) [13],oA 48 0 (.bin .mul (.t 43) (.t 47)) [10,14],oA 49 0 (.bin .add (.t 39) (.t 48)) [6,15],oA 50 0 (.bin .add (.t 33) (.t 49)) [0,16],oA 7 0 (oV 50) [17,0,1,2,3,4,5,6,7,8,9,10,11,12,13,14,15,16,17]]) (.seq (.reg false 0 [oN 51 (oV 5),oN 52 (oV 6),oN 53 (oV 8),oN 54 (.bin .add (.t 52) (.t 53)),oN 55 (oV 7),oN 56 (.bin .rem (.t 55) (cI 1000000000)),oN 57 (.idx 1 (.t 51) (.t 54)),oS (.store 1 (.t 57) (.t 56))]) (.reg false 0 [oN 58 (oV 7),oN 59 (.bin .quo (.t 58) (cI 1000000000)),oN 7 (oV 59)]))))) (.reg false 0 [oN 60 (.bin .add (.t 30) (cI 1)),oN 30 (oV 60)]))))))) (.reg false 0 [oN 61 (oV 5),oN 62 (oV 6),oN 63 (oV 1),oN 64 (.len (.t 63)),oN 65 (.bin .add (.t 62) (.t 64)),oN 66 (oV 7),oN 67 (.idx 1 (.t 61) (.t 65)),oS (.store 1 (.t 67) (.t 66))]))))) (.reg false 0 [oN 68 (.bin .add (.t 25) (cI 1)),oN 25 (oV 68)]))))))) (.seq (.reg false 0 [oN 69 (oV 5),oN 70 (.call 151 [(.t 69)]),oN 4 (oV 70)]) .ret)))))⟩
structure D_impl_natMul (T : Nat → Option Fn) : Prop where
 hT : T 155 = some F_impl_natMul
 d_impl_natTrim : D_impl_natTrim T
def F_impl_natSmall : Fn:=⟨1,20,[.tmp 2],(.seq (.reg false 0 [oN 2 (.mov (cI 0))]) (.seq (.reg false 0 [oN 3 (.mov (cI 0))]) (.seq (.seq (.reg false 0 [oN 5 (oV 0),oN 6 (.len (.t 5)),oN 7 (.bin .sub (.t 6) (cI 1)),oN 4 (oV 7)]) (.block 0 (.loop (.seq (.seq (.reg false 0 [oN 8 (oV 4),oN 9 (.bin .geq (.t 8) (cI 0))]) (.cond (.t 9) .skip (.exit 0))) (.seq (.block 1 (.reg false 0 [oN 12 (oV 3),oN 13 (.bin .mul (.t 12) (cI 1000000000)),oN 14 (oV 0),oN 15 (oV 4),oN 16 (.idx 1 (.t 14) (.t 15)),oN 17 (.load 1 false (.t 16)),oN 18 (.bin .add (.t 13) (.t 17)),oN 3 (oV 18)])) (.reg false 0 [oN 10 (oV 4),oN 11 (.bin .sub (.t 10) (cI 1)),oN 4 (oV 11)])))))) (.seq (.reg false 0 [oN 19 (oV 3),oN 2 (oV 19)]) .ret))))⟩
structure D_impl_natSmall (T : Nat → Option Fn) : Prop where
 hT : T 137 = some F_impl_natSmall
theorem c_natTrim {T : Nat → Option Fn} (h : D_impl_natTrim T) {l : List Int} (hl : l.length ≤ 1048576:=by first | omega | assumption | (simp;omega)) : PF T 151 [ints l] (ints (trim l)):=by
 refine pf_end (fun _ _=>false) h.hT rfl rfl ?_
 dsimp only [F_impl_natTrim,oN,oS,oG,oK,oA,oH,oV,cI]
 refine ev ?_
 refine loop_at (fun _ _=>false) (α:=Nat) (fun n=>⟨argE [ints l,.any,.any,iv (n : Nat)],[],0,0,[],[]⟩) (fun n=>n ≤ l.length ∧ trimN l l.length = trimN l n) (fun n=>n) rfl l.length ?_ ?_ ?_
 ·exact ⟨by omega,rfl⟩
 ·(refine Fg_env ?_;exact fgV)
 ·rintro n ⟨hn,ht⟩
  refine ev ?_
  refine brK_dec (fun hb=>?_) fun hb=>?_ <;> (refine ev1 @hb ?_;try with_reducible exact True.intro)
  ·obtain ⟨m,rfl⟩ : ∃ m,n = m + 1:=⟨n - 1,by omega⟩
   have e1 : ((m + 1 : Nat) : Int) - 1 = (m : Nat):=by omega
   refine ev1 @e1 ?_
   refine brK_dec (fun hc=>?_) fun hc=>?_ <;> (refine ev1 @hc ?_;try with_reducible exact True.intro)
   ·refine ⟨m,by omega,⟨by omega,?_⟩,by (refine Fg_env ?_;exact fgV)⟩
    rw [ht];simp only [trimN,hc,if_true]
   ·rw [trim,ht];simp only [trimN,hc,if_false]
  ·have : n = 0:=by omega
   subst this
   rw [trim,ht]
   simp [trimN,irows]
theorem c_natOfUint {T : Nat → Option Fn} (h : D_impl_natOfUint T) {n : Int} (hn : 0 ≤ n ∧ n < 18446744073709551616:=by first | omega | assumption | (simp;omega)) : PF T 69 [.int .u64 n] (ints (mk n.toNat)):=by
 have hlen : (mk n.toNat).length ≤ 3:=mk_len_le.2 (by omega)
 refine pf_endL (fun _ _=>false) h.hT rfl rfl ?_
 dsimp only [F_impl_natOfUint,oN,oS,oG,oK,oA,oH,oV,cI]
 refine ev ?_
 refine loop_at (fun _ _=>false) (α:=Nat × List Int) (fun q=>⟨argE [.int .u64 (q.1 : Nat),.any,.any,slV q.2.length],slS 1 (irows q.2),0,0,[],[]⟩) (fun q=>q.2 ++ mk q.1 = mk n.toNat ∧ q.1 ≤ n.toNat) (fun q=>q.1) rfl (n.toNat,[]) ?_ ?_ ?_
 ·exact ⟨rfl,Nat.le_refl _⟩
 ·first | ((refine Fg_env ?_;exact fgV);done) | ((refine Fg_re [] (by simp) (by intro p hp;cases hp) rfl ?_) <;> (try (refine ev ?_)) <;> (repeat' (first | exact True.intro | omega | exact CanE_ptr rfl (by simp) | refine ⟨?_,?_⟩ | exact of_eq_true (CanE_nil _ _ _) | exact CanE_of rfl (by simp;done) | exact CanE_of rfl rfl | (refine CanE_msl rfl ?_ rfl;simp [irows];done) | (refine CanE_msl rfl ?_ rfl;simp [irows];omega) | (refine CanE_frz ?_ ?_;(focus ((refine ev ?_;try with_reducible exact True.intro);done));(intro q hq k s0 l0;simp;done))));done)
 ·rintro ⟨m,xs⟩ ⟨hm,hle⟩
  dsimp only at hm hle
  have hx : xs.length ≤ 3:=by
   have:=congrArg List.length hm
   simp at this;omega
  have e1 : ((m : Int).tmod 1000000000) = ((m % 1000000000 : Nat) : Int):=by rw [tmod_B (by omega)];omega
  have e2 : ((m : Int).tdiv 1000000000) = ((m / 1000000000 : Nat) : Int):=by rw [tdiv_B (by omega)];omega
  have key : 0 < m → (xs ++ [((m % 1000000000 : Nat) : Int)]) ++ mk (m / 1000000000) = mk n.toNat:=fun h=>by
   rw [← hm,mk_pos (n:=m) (by omega)];simp
  (rcases xs with _ | ⟨x,xs⟩ <;> simp only [List.length_nil,List.length_cons,slV_0,slV_s,slI_nil,slI_cons] at hx ⊢)
  ·refine ev ?_
   refine brK_dec (fun hb=>?_) fun hb=>?_ <;> refine ev3 @hb @e1 @e2 ?_
   ·exact ⟨by omega,(m / 1000000000,[] ++ [((m % 1000000000 : Nat) : Int)]),by dsimp only;omega,⟨key (by omega),by dsimp only;omega⟩,by (simp only [← irows_snoc];refine Fg_push (k:=1) (still_isnoc _ _) rfl ?_;(try (refine ev ?_));(repeat' (first | exact True.intro | omega | exact CanE_push (by simp) (by simp) (by simp) | refine ⟨?_,?_⟩ | exact CanE_of rfl (by simp))))⟩
   ·have e : mk n.toNat = []:=by rw [← hm,show m = 0 by omega,mk_zero];rfl
    rw [e];exact (LaxV_nil 1 ▸ trivial)
  ·refine ev ?_
   refine brK_dec (fun hb=>?_) fun hb=>?_ <;> refine ev3 @hb @e1 @e2 ?_
   ·refine ⟨by omega,(m / 1000000000,(x :: xs) ++ [((m % 1000000000 : Nat) : Int)]),by dsimp only;omega,⟨key (by omega),by dsimp only;omega⟩,by (simp only [← irows_snoc];refine Fg_push (k:=2) (still_isnoc _ _) rfl ?_;(try (refine ev ?_));(repeat' (first | exact True.intro | omega | exact CanE_push (by simp) (by simp) (by simp) | refine ⟨?_,?_⟩ | exact CanE_of rfl (by simp))))⟩
   ·have e : x :: xs = mk n.toNat:=by rw [← hm,show m = 0 by omega,mk_zero];simp
    rw [← e];exact laxV_refl _
theorem c_NatOk {T : Nat → Option Fn} (h : D_impl_NatOk T) {l : List Int} (hl : l.length ≤ 9223372036854775807:=by first | omega | assumption | (simp;omega)) : PF T 126 [ints l] (.bool (natOk l)):=by
 refine pf_end (fun _ _=>false) h.hT rfl rfl ?_
 dsimp only [F_impl_NatOk,oN,oS,oG,oK,oA,oH,oV,cI]
 refine ev ?_
 refine brK_dec (fun h1=>?_) fun h1=>?_ <;> refine ev1 @h1 ?_
 ·simp [natOk];intro h2;omega
 refine loop_at (fun _ _=>false) (α:=Nat) (fun i=>⟨argE [ints l,.any,.any,.any,.any,.any,.any,.any,ints l,iv (l.length : Nat),iv (i : Nat)],[],0,0,[],[]⟩) (fun i=>i ≤ l.length ∧ ∀ j,j < i → 0 ≤ l.getD j 0 ∧ l.getD j 0 < 1000000000) (fun i=>l.length - i) rfl 0 ?_ ?_ ?_
 ·exact ⟨by omega,by intro j hj;omega⟩
 ·(refine Fg_env ?_;exact fgV)
 ·rintro i ⟨hi,hj⟩
  refine ev ?_
  refine brK_dec (fun h2=>?_) fun h2=>?_ <;> refine ev1 @h2 ?_
  ·have bad : ¬ (0 ≤ l.getD i 0 ∧ l.getD i 0 < 1000000000) → natOk l = false:=fun hn=>by
    have : ¬ natOk l = true:=fun e=>by
     have hc:=(natOk_can.1 e).2.1
     exact hn (lb_at hc i)
    simpa using this
   repeat' (first | ((refine brK_dec (fun hb=>?_) fun hb=>?_) <;> (try (refine ev1 @hb ?_))))
   all_goals first
    | (rw [bad (by omega)];done)
    | (
      refine ⟨i + 1,by omega,⟨by omega,fun j hj'=>?_⟩,by (refine Fg_env ?_;exact fgV)⟩
      by_cases e : j = i
      ·subst e;omega
      ·exact hj j (by omega))
  ·have hi2 : i = l.length:=by omega
   subst hi2
   have hall : l.all (fun d=>decide (0 ≤ d) && decide (d < 1000000000)) = true:=by
    rw [List.all_eq_true]
    intro d hd
    obtain ⟨j,hj1,rfl⟩:=List.mem_iff_getElem.1 hd
    have:=hj j hj1
    rw [List.getD_eq_getElem?_getD,List.getElem?_eq_getElem hj1] at this
    simpa using this
   repeat' (first | ((refine brK_dec (fun hb=>?_) fun hb=>?_) <;> (try (refine ev1 @hb ?_))))
   ·have : l = []:=List.eq_nil_of_length_eq_zero (by omega)
    subst this;rfl
   ·have e1 : ((l.length : Nat) : Int) - 1 = ((l.length - 1 : Nat) : Int):=by omega
    have e2 : ((l.length : Int) - 1).toNat = l.length - 1:=by omega
    have e3 : l.isEmpty = false:=by cases l <;> simp_all
    have e4 : decide (l.length ≤ 60) = true:=by simp;omega
    unfold natOk
    rw [hall,e3,e4,e2];simp
theorem c_natCmp {T : Nat → Option Fn} (h : D_impl_natCmp T) {a b : List Int} (ha : Can a) (hb : Can b) (la : a.length ≤ 1048576:=by first | omega | assumption | (simp;omega)) (lb : b.length ≤ 1048576:=by first | omega | assumption | (simp;omega)) : PF T 152 [ints a,ints b] (iv (cmpN (val a) (val b))):=by
 refine pf_end (fun _ _=>false) h.hT rfl rfl ?_
 dsimp only [F_impl_natCmp,oN,oS,oG,oK,oA,oH,oV,cI]
 refine ev ?_
 refine brK_dec (fun h1=>?_) fun h1=>?_ <;> refine ev1 @h1 ?_
 ·have:=val_lt_of_len ha.1 hb (by omega)
  simp [cmpN,this]
 refine brK_dec (fun h2=>?_) fun h2=>?_ <;> refine ev1 @h2 ?_
 ·have:=val_lt_of_len hb.1 ha (by omega)
  have h3 : ¬ val a < val b:=by omega
  simp [cmpN,this,h3]
 have hl : a.length = b.length:=by omega
 refine loop_at (fun _ _=>false) (α:=Nat) (fun n=>⟨argE [ints a,ints b,.any,.any,.any,iv ((n : Int) - 1)],[],0,0,[],[]⟩) (fun n=>n ≤ a.length ∧ a.drop n = b.drop n) (fun n=>n) rfl a.length ?_ ?_ ?_
 ·exact ⟨by omega,by rw [List.drop_eq_nil_of_le (by omega),List.drop_eq_nil_of_le (by omega)]⟩
 ·(refine Fg_env ?_;exact fgV)
 ·rintro n ⟨hn,hd⟩
  refine ev ?_
  refine brK_dec (fun h3=>?_) fun h3=>?_ <;> refine ev1 @h3 ?_
  ·obtain ⟨m,rfl⟩ : ∃ m,n = m + 1:=⟨n - 1,by omega⟩
   have e1 : ((m + 1 : Nat) : Int) - 1 = (m : Nat):=by omega
   refine ev1 @e1 ?_
   refine brK_dec (fun h4=>?_) fun h4=>?_ <;> refine ev2 @h4 @e1 ?_
   ·have:=val_lt_at ha.1 hb.1 (i:=m) (by omega) (by omega) hd h4
    simp [cmpN,this]
   refine brK_dec (fun h5=>?_) fun h5=>?_ <;> refine ev2 @h5 @e1 ?_
   ·have:=val_lt_at hb.1 ha.1 (i:=m) (by omega) (by omega) hd.symm h5
    have h6 : ¬ val a < val b:=by omega
    simp [cmpN,this,h6]
   have e : a.getD m 0 = b.getD m 0:=by omega
   refine ⟨m,by omega,⟨by omega,?_⟩,by (refine Fg_env ?_;exact fgV)⟩
   rw [drop_getD (by omega),drop_getD (l:=b) (by omega),e,hd]
  ·have : n = 0:=by omega
   subst this
   simp only [List.drop_zero] at hd
   subst hd
   simp [cmpN]
theorem c_natSmall {T : Nat → Option Fn} (h : D_impl_natSmall T) {n : Nat} (hn : n < 1000000000000000000:=by first | omega | assumption | (simp;omega)) : PF T 137 [ints (mk n)] (iv (n : Nat)):=by
 have hl : (mk n).length ≤ 2:=mk_len_le.2 (by omega)
 have hv:=val_mk n
 refine pf_end (fun _ _=>false) h.hT rfl rfl ?_
 dsimp only [F_impl_natSmall,oN,oS,oG,oK,oA,oH,oV,cI]
 refine ev ?_
 refine loop_at (fun _ _=>false) (α:=Nat) (fun k=>⟨argE [ints (mk n),.any,.any,iv (val ((mk n).drop k) : Nat),iv ((k : Int) - 1)],[],0,0,[],[]⟩) (fun k=>k ≤ (mk n).length) (fun k=>k) rfl (mk n).length ?_ ?_ ?_
 ·omega
 ·have e : val ((mk n).drop (mk n).length) = 0:=val_drop_ge (Nat.le_refl _)
  simp only [e]
  (refine Fg_env ?_;exact fgV)
 ·intro k hk
  refine ev ?_
  refine brK_dec (fun h3=>?_) fun h3=>?_ <;> refine ev1 @h3 ?_
  ·obtain ⟨m,rfl⟩ : ∃ m,k = m + 1:=⟨k - 1,by omega⟩
   have e1 : ((m + 1 : Nat) : Int) - 1 = (m : Nat):=by omega
   have e2:=val_dropG (mk n) m
   have e3:=val_drop_le (l:=mk n) m
   have e4:=lb_at (lb_mk n) m
   refine ev1 @e1 ?_
   exact ⟨m,by omega,by omega,by (refine Fg_env ?_;exact fgV)⟩
  ·have : k = 0:=by omega
   subst this
   rw [List.drop_zero,hv]
theorem c_natAdd {T : Nat → Option Fn} (h : D_impl_natAdd T) {m n : Nat} (la : (mk m).length ≤ 1000:=by first | omega | assumption | (simp;omega)) (lb : (mk n).length ≤ 1000:=by first | omega | assumption | (simp;omega)) : PF T 160 [ints (mk m),ints (mk n)] (ints (mk (m + n))):=by
 obtain ⟨a,hA⟩ : ∃ a,mk m = a:=⟨_,rfl⟩
 obtain ⟨b,hB⟩ : ∃ b,mk n = b:=⟨_,rfl⟩
 have hva : val a = m:=by rw [← hA,val_mk]
 have hvb : val b = n:=by rw [← hB,val_mk]
 have hba : Lb a:=hA ▸ lb_mk m
 have hbb : Lb b:=hB ▸ lb_mk n
 rw [hA] at la ⊢
 rw [hB] at lb ⊢
 refine pf_endL (fun _ _=>false) h.hT rfl rfl ?_
 dsimp only [F_impl_natAdd,oN,oS,oG,oK,oA,oH,oV,cI]
 refine ev ?_
 refine loop_at (fun _ _=>false) (α:=Nat × Int × List Int) (fun q=>⟨argE [ints a,ints b,.any,.any,.any,slV q.2.2.length,iv q.2.1,iv (q.1 : Nat)],slS 1 (irows q.2.2),0,0,[],[]⟩) (fun q=>q.2.2.length = q.1 ∧ Lb q.2.2 ∧ (0 ≤ q.2.1 ∧ q.2.1 ≤ 1) ∧ val q.2.2 + 1000000000 ^ q.1 * (q.2.1.toNat + val (a.drop q.1) + val (b.drop q.1)) = m + n ∧ (q.1 ≤ max a.length b.length ∨ (q.1 = max a.length b.length + 1 ∧ q.2.1 = 0 ∧ q.2.2.getLast? ≠ some 0))) (fun q=>max a.length b.length + 1 - q.1) rfl (0,0,[]) ?_ ?_ ?_
 ·exact ⟨rfl,lb_nil,⟨by dsimp only;omega,by dsimp only;omega⟩,by simp [val,hva,hvb],by dsimp only;omega⟩
 ·first | ((refine Fg_env ?_;exact fgV);done) | ((refine Fg_re [] (by simp) (by intro p hp;cases hp) rfl ?_) <;> (try (refine ev ?_)) <;> (repeat' (first | exact True.intro | omega | exact CanE_ptr rfl (by simp) | refine ⟨?_,?_⟩ | exact of_eq_true (CanE_nil _ _ _) | exact CanE_of rfl (by simp;done) | exact CanE_of rfl rfl | (refine CanE_msl rfl ?_ rfl;simp [irows];done) | (refine CanE_msl rfl ?_ rfl;simp [irows];omega) | (refine CanE_frz ?_ ?_;(focus ((refine ev ?_;try with_reducible exact True.intro);done));(intro q hq k s0 l0;simp;done))));done)
 ·rintro ⟨i,c,xs⟩ ⟨hl,hlb,hc,hv,hi⟩
  dsimp only at hl hlb hc hv hi
  have hi' : i ≤ max a.length b.length ∨ (i = max a.length b.length + 1 ∧ c = 0):=hi.imp id fun h=>⟨h.1,h.2.1⟩
  have hx : xs.length ≤ 1001:=by omega
  have ea:=val_dropG a i
  have eb:=val_dropG b i
  have ga:=lb_at hba i
  have gb:=lb_at hbb i
  have step:=add_step hl hc.1 ga.1 gb.1 hv ea eb
  have za : a.length ≤ i → a.getD i 0 = 0:=getD_ge
  have zb : b.length ≤ i → b.getD i 0 = 0:=getD_ge
  have key : ∀ t : Int,t = c + a.getD i 0 + b.getD i 0 → ((i : Int) < a.length ∨ (i : Int) < b.length ∨ 0 < c) → ∃ a' : Nat × Int × List Int,a' = (i + 1,t.tdiv 1000000000,xs ++ [t.tmod 1000000000]) ∧
    max a.length b.length + 1 - a'.1 < max a.length b.length + 1 - i ∧ (a'.2.2.length = a'.1 ∧ Lb a'.2.2 ∧ (0 ≤ a'.2.1 ∧ a'.2.1 ≤ 1) ∧ val a'.2.2 + 1000000000 ^ a'.1 * (a'.2.1.toNat + val (a.drop a'.1) + val (b.drop a'.1)) = m + n ∧
     (a'.1 ≤ max a.length b.length ∨ (a'.1 = max a.length b.length + 1 ∧ a'.2.1 = 0 ∧ a'.2.2.getLast? ≠ some 0))):=by
   intro t ht hor
   have ht0 : 0 ≤ t:=by omega
   refine ⟨_,rfl,?_⟩
   dsimp only
   rw [tmod_B ht0,tdiv_B ht0]
   refine ⟨by omega,by simp [hl],lb_snoc (by omega) (by omega) hlb,⟨by omega,by omega⟩,by rw [ht];exact step,?_⟩
   by_cases hlt : i < max a.length b.length
   ·left;omega
   ·right
    have h1:=za (by omega)
    have h2:=zb (by omega)
    refine ⟨by omega,by omega,?_⟩
    intro hlast
    rw [List.getLast?_concat] at hlast
    have:=Option.some.inj hlast
    omega
  have fin : ¬ ((i : Int) < a.length ∨ (i : Int) < b.length ∨ 0 < c) → xs = mk (m + n):=by
   intro hno
   have e1 : val (a.drop i) = 0:=val_drop_ge (by omega)
   have e2 : val (b.drop i) = 0:=val_drop_ge (by omega)
   rw [e1,e2,show c.toNat = 0 by omega] at hv
   simp only [Nat.add_zero,Nat.mul_zero] at hv
   refine (add_can hv hlb ?_).symm
   rw [hA,hB]
   rcases hi with k | k
   ·left;omega
   ·right;exact k.2.2
  by_cases ca : (i : Int) < (a.length : Nat) <;> by_cases cb : (i : Int) < (b.length : Nat) <;> by_cases cc : 0 < c
  ·obtain ⟨_,rfl,k1,k2⟩:=key (c + a.getD i 0 + b.getD i 0) (by omega) (by omega)
   clear key step fin ea eb hi hv hlb hba hbb za zb
   (rcases xs with _ | ⟨x,xs⟩ <;> simp only [List.length_nil,List.length_cons,slV_0,slV_s,slI_nil,slI_cons] at hx ⊢)
   ·refine ev3 @ca @cb @cc ?_
    exact ⟨by omega,_,k1,k2,by (simp only [← irows_snoc];refine Fg_push (k:=1) (still_isnoc _ _) rfl ?_;(try (refine ev ?_));(repeat' (first | exact True.intro | omega | exact CanE_push (by simp) (by simp) (by simp) | refine ⟨?_,?_⟩ | exact CanE_of rfl (by simp))))⟩
   ·refine ev3 @ca @cb @cc ?_
    exact ⟨by omega,_,k1,k2,by (simp only [← irows_snoc];refine Fg_push (k:=2) (still_isnoc _ _) rfl ?_;(try (refine ev ?_));(repeat' (first | exact True.intro | omega | exact CanE_push (by simp) (by simp) (by simp) | refine ⟨?_,?_⟩ | exact CanE_of rfl (by simp))))⟩
  ·obtain ⟨_,rfl,k1,k2⟩:=key (c + a.getD i 0 + b.getD i 0) (by omega) (by omega)
   clear key step fin ea eb hi hv hlb hba hbb za zb
   (rcases xs with _ | ⟨x,xs⟩ <;> simp only [List.length_nil,List.length_cons,slV_0,slV_s,slI_nil,slI_cons] at hx ⊢)
   ·refine ev3 @ca @cb @cc ?_
    exact ⟨by omega,_,k1,k2,by (simp only [← irows_snoc];refine Fg_push (k:=1) (still_isnoc _ _) rfl ?_;(try (refine ev ?_));(repeat' (first | exact True.intro | omega | exact CanE_push (by simp) (by simp) (by simp) | refine ⟨?_,?_⟩ | exact CanE_of rfl (by simp))))⟩
   ·refine ev3 @ca @cb @cc ?_
    exact ⟨by omega,_,k1,k2,by (simp only [← irows_snoc];refine Fg_push (k:=2) (still_isnoc _ _) rfl ?_;(try (refine ev ?_));(repeat' (first | exact True.intro | omega | exact CanE_push (by simp) (by simp) (by simp) | refine ⟨?_,?_⟩ | exact CanE_of rfl (by simp))))⟩
  ·obtain ⟨_,rfl,k1,k2⟩:=key (c + a.getD i 0) (by omega) (by omega)
   clear key step fin ea eb hi hv hlb hba hbb za zb
   (rcases xs with _ | ⟨x,xs⟩ <;> simp only [List.length_nil,List.length_cons,slV_0,slV_s,slI_nil,slI_cons] at hx ⊢)
   ·refine ev3 @ca @cb @cc ?_
    exact ⟨by omega,_,k1,k2,by (simp only [← irows_snoc];refine Fg_push (k:=1) (still_isnoc _ _) rfl ?_;(try (refine ev ?_));(repeat' (first | exact True.intro | omega | exact CanE_push (by simp) (by simp) (by simp) | refine ⟨?_,?_⟩ | exact CanE_of rfl (by simp))))⟩
   ·refine ev3 @ca @cb @cc ?_
    exact ⟨by omega,_,k1,k2,by (simp only [← irows_snoc];refine Fg_push (k:=2) (still_isnoc _ _) rfl ?_;(try (refine ev ?_));(repeat' (first | exact True.intro | omega | exact CanE_push (by simp) (by simp) (by simp) | refine ⟨?_,?_⟩ | exact CanE_of rfl (by simp))))⟩
  ·obtain ⟨_,rfl,k1,k2⟩:=key (c + a.getD i 0) (by omega) (by omega)
   clear key step fin ea eb hi hv hlb hba hbb za zb
   (rcases xs with _ | ⟨x,xs⟩ <;> simp only [List.length_nil,List.length_cons,slV_0,slV_s,slI_nil,slI_cons] at hx ⊢)
   ·refine ev3 @ca @cb @cc ?_
    exact ⟨by omega,_,k1,k2,by (simp only [← irows_snoc];refine Fg_push (k:=1) (still_isnoc _ _) rfl ?_;(try (refine ev ?_));(repeat' (first | exact True.intro | omega | exact CanE_push (by simp) (by simp) (by simp) | refine ⟨?_,?_⟩ | exact CanE_of rfl (by simp))))⟩
   ·refine ev3 @ca @cb @cc ?_
    exact ⟨by omega,_,k1,k2,by (simp only [← irows_snoc];refine Fg_push (k:=2) (still_isnoc _ _) rfl ?_;(try (refine ev ?_));(repeat' (first | exact True.intro | omega | exact CanE_push (by simp) (by simp) (by simp) | refine ⟨?_,?_⟩ | exact CanE_of rfl (by simp))))⟩
  ·obtain ⟨_,rfl,k1,k2⟩:=key (c + b.getD i 0) (by omega) (by omega)
   clear key step fin ea eb hi hv hlb hba hbb za zb
   (rcases xs with _ | ⟨x,xs⟩ <;> simp only [List.length_nil,List.length_cons,slV_0,slV_s,slI_nil,slI_cons] at hx ⊢)
   ·refine ev3 @ca @cb @cc ?_
    exact ⟨by omega,_,k1,k2,by (simp only [← irows_snoc];refine Fg_push (k:=1) (still_isnoc _ _) rfl ?_;(try (refine ev ?_));(repeat' (first | exact True.intro | omega | exact CanE_push (by simp) (by simp) (by simp) | refine ⟨?_,?_⟩ | exact CanE_of rfl (by simp))))⟩
   ·refine ev3 @ca @cb @cc ?_
    exact ⟨by omega,_,k1,k2,by (simp only [← irows_snoc];refine Fg_push (k:=2) (still_isnoc _ _) rfl ?_;(try (refine ev ?_));(repeat' (first | exact True.intro | omega | exact CanE_push (by simp) (by simp) (by simp) | refine ⟨?_,?_⟩ | exact CanE_of rfl (by simp))))⟩
  ·obtain ⟨_,rfl,k1,k2⟩:=key (c + b.getD i 0) (by omega) (by omega)
   clear key step fin ea eb hi hv hlb hba hbb za zb
   (rcases xs with _ | ⟨x,xs⟩ <;> simp only [List.length_nil,List.length_cons,slV_0,slV_s,slI_nil,slI_cons] at hx ⊢)
   ·refine ev3 @ca @cb @cc ?_
    exact ⟨by omega,_,k1,k2,by (simp only [← irows_snoc];refine Fg_push (k:=1) (still_isnoc _ _) rfl ?_;(try (refine ev ?_));(repeat' (first | exact True.intro | omega | exact CanE_push (by simp) (by simp) (by simp) | refine ⟨?_,?_⟩ | exact CanE_of rfl (by simp))))⟩
   ·refine ev3 @ca @cb @cc ?_
    exact ⟨by omega,_,k1,k2,by (simp only [← irows_snoc];refine Fg_push (k:=2) (still_isnoc _ _) rfl ?_;(try (refine ev ?_));(repeat' (first | exact True.intro | omega | exact CanE_push (by simp) (by simp) (by simp) | refine ⟨?_,?_⟩ | exact CanE_of rfl (by simp))))⟩
  ·obtain ⟨_,rfl,k1,k2⟩:=key (c) (by omega) (by omega)
   clear key step fin ea eb hi hv hlb hba hbb za zb
   (rcases xs with _ | ⟨x,xs⟩ <;> simp only [List.length_nil,List.length_cons,slV_0,slV_s,slI_nil,slI_cons] at hx ⊢)
   ·refine ev3 @ca @cb @cc ?_
    exact ⟨by omega,_,k1,k2,by (simp only [← irows_snoc];refine Fg_push (k:=1) (still_isnoc _ _) rfl ?_;(try (refine ev ?_));(repeat' (first | exact True.intro | omega | exact CanE_push (by simp) (by simp) (by simp) | refine ⟨?_,?_⟩ | exact CanE_of rfl (by simp))))⟩
   ·refine ev3 @ca @cb @cc ?_
    exact ⟨by omega,_,k1,k2,by (simp only [← irows_snoc];refine Fg_push (k:=2) (still_isnoc _ _) rfl ?_;(try (refine ev ?_));(repeat' (first | exact True.intro | omega | exact CanE_push (by simp) (by simp) (by simp) | refine ⟨?_,?_⟩ | exact CanE_of rfl (by simp))))⟩
  ·have e:=fin (by omega)
   clear key step fin ea eb hi hv hlb hba hbb za zb
   (rcases xs with _ | ⟨x,xs⟩ <;> simp only [List.length_nil,List.length_cons,slV_0,slV_s,slI_nil,slI_cons] at hx ⊢)
   ·refine ev3 @ca @cb @cc ?_
    rw [← e];exact (LaxV_nil 1 ▸ trivial)
   ·refine ev3 @ca @cb @cc ?_
    rw [← e];exact laxV_refl _
theorem c_natSub {T : Nat → Option Fn} (h : D_impl_natSub T) {m n : Nat} (hle : n ≤ m) (la : (mk m).length ≤ 1000:=by first | omega | assumption | (simp;omega)) (lb : (mk n).length ≤ 1000:=by first | omega | assumption | (simp;omega)) : PF T 154 [ints (mk m),ints (mk n)] (ints (mk (m - n))):=by
 obtain ⟨a,hA⟩ : ∃ a,mk m = a:=⟨_,rfl⟩
 obtain ⟨b,hB⟩ : ∃ b,mk n = b:=⟨_,rfl⟩
 have hva : val a = m:=by rw [← hA,val_mk]
 have hvb : val b = n:=by rw [← hB,val_mk]
 have hba : Lb a:=hA ▸ lb_mk m
 have hbb : Lb b:=hB ▸ lb_mk n
 have hlen : b.length ≤ a.length:=by
  rcases Nat.lt_or_ge a.length b.length with k | k
  ·have:=val_lt_of_len hba (hB ▸ can_mk n) k
   omega
  ·exact k
 rw [hA] at la ⊢
 rw [hB] at lb ⊢
 refine pf_end (fun _ _=>false) h.hT rfl rfl ?_
 dsimp only [F_impl_natSub,oN,oS,oG,oK,oA,oH,oV,cI]
 refine ev ?_
 refine ⟨by omega,?_⟩
 rw [ir_rep]
 refine loop_at (fun _ _=>false) (α:=Nat × Int × List Int) (fun q=>⟨argE [ints a,ints b,.any,.any,.any,.msl 0 0 a.length,iv q.2.1,.any,.any,.any,.any,.any,ints a,iv (a.length : Nat),iv (q.1 : Nat)],[some ⟨1,irows q.2.2⟩],0,0,[],[]⟩) (fun q=>q.1 ≤ a.length ∧ q.2.2.length = a.length ∧ Lb q.2.2 ∧ (q.2.1 = 0 ∨ q.2.1 = 1) ∧ val (q.2.2.take q.1) + val (b.take q.1) = val (a.take q.1) + q.2.1.toNat * 1000000000 ^ q.1) (fun q=>a.length - q.1) rfl (0,0,List.replicate a.length 0) ?_ ?_ ?_
 ·exact ⟨by omega,by simp,lb_rep _,.inl rfl,by simp [val]⟩
 ·(refine Fg_env ?_;exact fgV)
 ·rintro ⟨i,bo,D⟩ ⟨hi,hD,hDb,hbo,hv⟩
  dsimp only at hi hD hDb hbo hv
  have ga:=lb_at hba i
  have gb:=lb_at hbb i
  have zb : b.length ≤ i → b.getD i 0 = 0:=getD_ge
  by_cases c1 : (i : Int) < (a.length : Nat)
  ·have key : ∀ d bo' : Int,d + b.getD i 0 + bo = a.getD i 0 + bo' * 1000000000 → 0 ≤ d → d < 1000000000 → (bo' = 0 ∨ bo' = 1) → ∃ a' : Nat × Int × List Int,a' = (i + 1,bo',D.set i d) ∧
     a.length - a'.1 < a.length - i ∧ (a'.1 ≤ a.length ∧ a'.2.2.length = a.length ∧ Lb a'.2.2 ∧ (a'.2.1 = 0 ∨ a'.2.1 = 1) ∧ val (a'.2.2.take a'.1) + val (b.take a'.1) = val (a.take a'.1) + a'.2.1.toNat * 1000000000 ^ a'.1):=by
    intro d bo' hd d0 d1 hb'
    refine ⟨_,rfl,by dsimp only;omega,by dsimp only;omega,by simp [hD],lb_set d0 d1 hDb,hb',?_⟩
    dsimp only
    have e1 : (D.take i).length = i:=by simp;omega
    have e2 : (a.take i).length = i:=by simp;omega
    rw [take_set_succ (by omega),val_snoc,e1,take_succ_getD (l:=a) (by omega),val_snoc,e2]
    have e3 : val (b.take (i + 1)) = val (b.take i) + 1000000000 ^ i * (b.getD i 0).toNat:=by
     by_cases hb2 : i < b.length
     ·rw [take_succ_getD hb2,val_snoc];congr 3;simp;omega
     ·rw [List.take_of_length_le (by omega),List.take_of_length_le (by omega),zb (by omega)];simp
    rw [e3,Nat.pow_succ]
    exact sub_step hv (by omega)
   by_cases c2 : (i : Int) < (b.length : Nat)
   ·by_cases c3 : a.getD i 0 - bo - b.getD i 0 < 0
    ·obtain ⟨_,rfl,k1,k2⟩:=key (a.getD i 0 - bo - b.getD i 0 + 1000000000) 1 (by omega) (by omega) (by omega) (.inr rfl)
     clear key hv zb hba hbb hDb
     refine ev4 @c1 @c2 @c3 @hD ?_
     exact ⟨_,k1,k2,by (refine Fg_env ?_;exact fgV)⟩
    ·obtain ⟨_,rfl,k1,k2⟩:=key (a.getD i 0 - bo - b.getD i 0) 0 (by omega) (by omega) (by omega) (.inl rfl)
     clear key hv zb hba hbb hDb
     refine ev4 @c1 @c2 @c3 @hD ?_
     exact ⟨_,k1,k2,by (refine Fg_env ?_;exact fgV)⟩
   ·have z:=zb (by omega)
    by_cases c3 : a.getD i 0 - bo < 0
    ·obtain ⟨_,rfl,k1,k2⟩:=key (a.getD i 0 - bo + 1000000000) 1 (by omega) (by omega) (by omega) (.inr rfl)
     clear key hv zb hba hbb hDb
     refine ev4 @c1 @c2 @c3 @hD ?_
     exact ⟨_,k1,k2,by (refine Fg_env ?_;exact fgV)⟩
    ·obtain ⟨_,rfl,k1,k2⟩:=key (a.getD i 0 - bo) 0 (by omega) (by omega) (by omega) (.inl rfl)
     clear key hv zb hba hbb hDb
     refine ev4 @c1 @c2 @c3 @hD ?_
     exact ⟨_,k1,k2,by (refine Fg_env ?_;exact fgV)⟩
  ·have hi2 : i = a.length:=by omega
   subst hi2
   rw [← hD,List.take_length,hD,List.take_length,List.take_of_length_le (by omega)] at hv
   have hlt:=val_lt hDb
   rw [hD] at hlt
   have hz : bo = 0:=by
    rcases hbo with h | h
    ·exact h
    ·rw [h] at hv
     simp at hv
     omega
   subst hz
   refine ev2 @c1 @hD ?_
   refine PFK_of (c_natTrim h.d_impl_natTrim (l:=D) (by omega)) ?_
   refine ev ?_
   rw [trim_mk hDb]
   congr 3
   simp at hv
   omega
theorem mul_bd {x y : Int} (hx : 0 ≤ x ∧ x < 1000000000) (hy : 0 ≤ y ∧ y < 1000000000) : 0 ≤ x * y ∧ x * y ≤ 999999998000000001:=by
 refine ⟨Int.mul_nonneg hx.1 hy.1,?_⟩
 have : x * y ≤ 999999999 * 999999999:=Int.mul_le_mul (by omega) (by omega) hy.1 (by omega)
 omega
theorem c_natMul {T : Nat → Option Fn} (h : D_impl_natMul T) {m n : Nat} (la : (mk m).length ≤ 1000:=by first | omega | assumption | (simp;omega)) (lb : (mk n).length ≤ 1000:=by first | omega | assumption | (simp;omega)) : PF T 155 [ints (mk m),ints (mk n)] (ints (mk (m * n))):=by
 obtain ⟨a,hA⟩ : ∃ a,mk m = a:=⟨_,rfl⟩
 obtain ⟨b,hB⟩ : ∃ b,mk n = b:=⟨_,rfl⟩
 have hva : val a = m:=by rw [← hA,val_mk]
 have hvb : val b = n:=by rw [← hB,val_mk]
 have hba : Lb a:=hA ▸ lb_mk m
 have hbb : Lb b:=hB ▸ lb_mk n
 rw [hA] at la ⊢
 rw [hB] at lb ⊢
 refine pf_endL (fun _ _=>false) h.hT rfl rfl ?_
 dsimp only [F_impl_natMul,oN,oS,oG,oK,oA,oH,oV,cI]
 refine ev ?_
 by_cases h1 : a.length = 0
 ·have : a = []:=List.eq_nil_of_length_eq_zero h1
  have e : m = 0:=by rw [← hva,this];rfl
  have h1' : ((a.length : Nat) : Int) = 0:=by omega
  refine ev1 @h1' ?_
  rw [e,Nat.zero_mul,mk_zero];exact (LaxV_nil 1 ▸ trivial)
 by_cases h2 : b.length = 0
 ·have : b = []:=List.eq_nil_of_length_eq_zero h2
  have e : n = 0:=by rw [← hvb,this];rfl
  have h1' : ¬ ((a.length : Nat) : Int) = 0:=by omega
  have h2' : ((b.length : Nat) : Int) = 0:=by omega
  refine ev2 @h1' @h2' ?_
  rw [e,Nat.mul_zero,mk_zero];exact (LaxV_nil 1 ▸ trivial)
 have h1' : ¬ ((a.length : Nat) : Int) = 0:=by omega
 have h2' : ¬ ((b.length : Nat) : Int) = 0:=by omega
 refine ev2 @h1' @h2' ?_
 refine ⟨⟨by omega,by omega,by omega⟩,?_⟩
 have eL : ((a.length : Int) + (b.length : Int)).toNat = a.length + b.length:=by omega
 rw [eL,ir_rep]
 refine loop_at (fun _ _=>false) (α:=Nat × List Int) (fun q=>⟨argE [ints a,ints b,.any,.any,.any,.msl 0 0 (a.length + b.length),.any,.any,.any,.any,.any,.any,.any,.any,.any,.any,.any,.any,.any,.any,.any,.any,.any,ints a,iv (a.length : Nat),iv (q.1 : Nat)],[some ⟨1,irows q.2⟩],0,0,[],[]⟩) (fun q=>q.1 ≤ a.length ∧ q.2.length = a.length + b.length ∧ Lb q.2 ∧ val q.2 = val (a.take q.1) * n ∧ ∀ k,q.1 + b.length ≤ k → q.2.getD k 0 = 0) (fun q=>a.length - q.1) rfl (0,List.replicate (a.length + b.length) 0) ?_ ?_ ?_
 ·exact ⟨by omega,by simp,lb_rep _,by rw [val_rep];simp [val],by intro k _;simp [List.getD_eq_getElem?_getD,List.getElem?_replicate];split <;> rfl⟩
 ·(refine Fg_env ?_;exact fgV)
 ·rintro ⟨i,P⟩ ⟨hi,hP,hPb,hv,hz⟩
  dsimp only at hi hP hPb hv hz
  refine ev ?_
  refine brK_dec (fun c1=>?_) fun c1=>?_ <;> refine ev1 @c1 ?_
  ·have ga:=lb_at hba i
   have eA : val (a.take (i + 1)) = val (a.take i) + 1000000000 ^ i * (a.getD i 0).toNat:=by
    rw [take_succ_getD (by omega),val_snoc];congr 3;simp;omega
   refine loop_at (fun _ _=>false) (α:=Nat × Int × List Int) (fun q=>⟨argE [ints a,ints b,.any,.any,.any,.msl 0 0 (a.length + b.length),iv (i : Nat),iv q.2.1,.any,.any,.any,.any,.any,.any,.any,.any,.any,.any,.any,.any,.any,.any,.any,ints a,iv (a.length : Nat),iv (i : Nat),.any,.any,ints b,iv (b.length : Nat),iv (q.1 : Nat)],[some ⟨1,irows q.2.2⟩],0,0,[],[]⟩) (fun q=>q.1 ≤ b.length ∧ q.2.2.length = a.length + b.length ∧ Lb q.2.2 ∧ (0 ≤ q.2.1 ∧ q.2.1 < 1000000000) ∧ val q.2.2 + q.2.1.toNat * (1000000000 ^ i * 1000000000 ^ q.1) = val P + (a.getD i 0).toNat * (1000000000 ^ i * val (b.take q.1)) ∧ ∀ k,i + b.length ≤ k → q.2.2.getD k 0 = 0) (fun q=>b.length - q.1) rfl (0,0,P) ?_ ?_ ?_
   ·exact ⟨by omega,hP,hPb,⟨by dsimp only;omega,by dsimp only;omega⟩,by simp [val],hz⟩
   ·(refine Fg_env ?_;exact fgV)
   ·rintro ⟨j,c,D⟩ ⟨hj,hD,hDb,hc,hw,hzD⟩
    dsimp only at hj hD hDb hc hw hzD
    have gb:=lb_at hbb j
    have gd:=lb_at hDb (i + j)
    have hm:=mul_bd ga gb
    by_cases c2 : (j : Int) < (b.length : Nat)
    ·have k2 : (val (D.set (i + j) ((c + (D.getD (i + j) 0 + a.getD i 0 * b.getD j 0)) % 1000000000)) + ((c + (D.getD (i + j) 0 + a.getD i 0 * b.getD j 0)) / 1000000000).toNat * (1000000000 ^ i * 1000000000 ^ (j + 1))) = val P + (a.getD i 0).toNat * (1000000000 ^ i * val (b.take (j + 1))):=by
      have e1 : val (b.take (j + 1)) = val (b.take j) + 1000000000 ^ j * (b.getD j 0).toNat:=by
       rw [take_succ_getD (by omega),val_snoc];congr 3;simp;omega
      have e2:=val_set (l:=D) (i:=i + j) (d:=(c + (D.getD (i + j) 0 + a.getD i 0 * b.getD j 0)) % 1000000000) (by omega)
      have e3 : (a.getD i 0 * b.getD j 0).toNat = (a.getD i 0).toNat * (b.getD j 0).toNat:=Int.toNat_mul ga.1 gb.1
      have e4 : (c + (D.getD (i + j) 0 + a.getD i 0 * b.getD j 0)).toNat = c.toNat + (D.getD (i + j) 0).toNat + (a.getD i 0).toNat * (b.getD j 0).toNat:=by
       rw [← e3];omega
      rw [e1,Nat.pow_succ]
      rw [Nat.pow_add] at e2
      have e5 : ((c + (D.getD (i + j) 0 + a.getD i 0 * b.getD j 0)) % 1000000000).toNat = (c + (D.getD (i + j) 0 + a.getD i 0 * b.getD j 0)).toNat % 1000000000:=by omega
      have e6 : ((c + (D.getD (i + j) 0 + a.getD i 0 * b.getD j 0)) / 1000000000).toNat = (c + (D.getD (i + j) 0 + a.getD i 0 * b.getD j 0)).toNat / 1000000000:=by omega
      rw [e5] at e2
      rw [e6]
      exact mul_step hw e2 e4
     have k3 : ∀ k,i + b.length ≤ k → (D.set (i + j) ((c + (D.getD (i + j) 0 + a.getD i 0 * b.getD j 0)) % 1000000000)).getD k 0 = 0:=by
      intro k hk
      rw [getD_set_int',if_neg (by omega)]
      exact hzD k hk
     have k4:=lb_set (l:=D) (i:=i + j) (d:=(c + (D.getD (i + j) 0 + a.getD i 0 * b.getD j 0)) % 1000000000) (by omega) (by omega) hDb
     have t1 : (c + (D.getD (i + j) 0 + a.getD i 0 * b.getD j 0)).tmod 1000000000 = (c + (D.getD (i + j) 0 + a.getD i 0 * b.getD j 0)) % 1000000000:=tmod_B (by omega)
     have t2 : (c + (D.getD (i + j) 0 + a.getD i 0 * b.getD j 0)).tdiv 1000000000 = (c + (D.getD (i + j) 0 + a.getD i 0 * b.getD j 0)) / 1000000000:=tdiv_B (by omega)
     have t3 : ((i : Int) + (j : Int)).toNat = i + j:=by omega
     clear hv hz hPb hDb eA hw hzD hba hbb
     refine ev5 @c2 @hD @t1 @t2 @t3 ?_
     refine ⟨(j + 1,(c + (D.getD (i + j) 0 + a.getD i 0 * b.getD j 0)) / 1000000000,D.set (i + j) ((c + (D.getD (i + j) 0 + a.getD i 0 * b.getD j 0)) % 1000000000)),by dsimp only;omega,⟨by dsimp only;omega,by simp [hD],k4,⟨by dsimp only;omega,by dsimp only;omega⟩,k2,k3⟩,by (refine Fg_env ?_;exact fgV)⟩
    ·have hj2 : j = b.length:=by omega
     subst hj2
     rw [List.take_length] at hw
     have e2:=val_set (l:=D) (i:=i + b.length) (d:=c) (by omega)
     rw [hzD (i + b.length) (Nat.le_refl _),Nat.pow_add] at e2
     have k1 : val (D.set (i + b.length) c) = val (a.take (i + 1)) * n:=by
      rw [eA,Nat.add_mul,← hv,← hvb]
      have : 1000000000 ^ i * (a.getD i 0).toNat * val b = (a.getD i 0).toNat * (1000000000 ^ i * val b):=by rw [Nat.mul_comm (1000000000 ^ i),Nat.mul_assoc]
      rw [this]
      have : c.toNat * (1000000000 ^ i * 1000000000 ^ b.length) = 1000000000 ^ i * 1000000000 ^ b.length * c.toNat:=Nat.mul_comm _ _
      simp only [Int.toNat_zero,Nat.mul_zero,Nat.add_zero] at e2
      omega
     have k2 : ∀ k,(i + 1) + b.length ≤ k → (D.set (i + b.length) c).getD k 0 = 0:=by
      intro k hk
      rw [getD_set_int',if_neg (by omega)]
      exact hzD k (by omega)
     have k3:=lb_set (l:=D) (i:=i + b.length) hc.1 hc.2 hDb
     have t3 : ((i : Int) + (b.length : Int)).toNat = i + b.length:=by omega
     clear hv hz hPb hDb eA hw hzD hba hbb e2
     refine ev3 @c2 @hD @t3 ?_
     exact ⟨(i + 1,D.set (i + b.length) c),by dsimp only;omega,⟨by dsimp only;omega,by simp [hD],k3,k1,k2⟩,by (refine Fg_env ?_;exact fgV)⟩
  ·have hi2 : i = a.length:=by omega
   subst hi2
   rw [List.take_length,hva] at hv
   refine ev1 @hP ?_
   refine PFK_of (c_natTrim h.d_impl_natTrim (l:=P) (by omega)) ?_
   refine ev ?_
   rw [trim_mk hPb,hv]
   exact laxV_refl _
def F_impl_natGuess : Fn:=⟨2,44,[.tmp 4],(.seq (.reg false 0 [oN 4 (.mov (cI 0))]) (.seq (.reg false 0 [oN 8 (oV 1),oN 9 (.len (.t 8)),oN 5 (oV 9)]) (.seq (.reg false 0 [oN 10 (oV 0),oN 11 (oV 5),oN 12 (.bin .sub (.t 11) (cI 1)),oN 13 (.idx 1 (.t 10) (.t 12)),oN 14 (.load 1 false (.t 13)),oN 6 (oV 14)]) (.seq (.seq (.reg false 0 [oN 15 (oV 0),oN 16 (.len (.t 15)),oN 17 (oV 5),oN 18 (.bin .gtr (.t 16) (.t 17))]) (.cond (.t 18) (.reg false 0 [oN 19 (oV 6),oN 20 (oV 0),oN 21 (oV 5),oN 22 (.idx 1 (.t 20) (.t 21)),oN 23 (.load 1 false (.t 22)),oN 24 (.bin .mul (.t 23) (cI 1000000000)),oN 25 (.bin .add (.t 19) (.t 24)),oN 6 (oV 25)]) .skip)) (.seq (.seq (.reg false 0 [oN 26 (oV 5),oN 27 (.bin .eql (.t 26) (cI 1))]) (.cond (.t 27) (.seq (.reg false 0 [oN 28 (oV 6),oN 29 (oV 1),oN 30 (.idx 1 (.t 29) (cI 0)),oN 31 (.load 1 false (.t 30)),oN 32 (.bin .quo (.t 28) (.t 31)),oN 4 (oV 32)]) .ret) .skip)) (.seq (.reg false 0 [oN 33 (oV 6),oN 34 (oV 1),oN 35 (oV 5),oN 36 (.bin .sub (.t 35) (cI 1)),oN 37 (.idx 1 (.t 34) (.t 36)),oN 38 (.load 1 false (.t 37)),oN 39 (.bin .add (.t 38) (cI 1)),oN 40 (.bin .quo (.t 33) (.t 39)),oN 7 (oV 40)]) (.seq (.seq (.reg false 0 [oN 41 (oV 7),oN 42 (.bin .eql (.t 41) (cI 0))]) (.cond (.t 42) (.seq (.reg false 0 [oN 4 (.mov (cI 1))]) .ret) .skip)) (.seq (.reg false 0 [oN 43 (oV 7),oN 4 (oV 43)]) .ret))))))))⟩
structure D_impl_natGuess (T : Nat → Option Fn) : Prop where
 hT : T 153 = some F_impl_natGuess
def F_impl_natDiv : Fn:=⟨2,76,[.tmp 4,.tmp 5],(.seq (.reg false 0 [oN 4 (.mov (.c (.nils))),oN 5 (.mov (.c (.nils)))]) (.seq (.seq (.reg false 0 [oN 12 (oV 0),oN 13 (.len (.t 12)),oN 14 (.bin .leq (.t 13) (cI 2)),oN 15 (oV 14),oG 15 true 16 (oV 1),oG 15 true 17 (.len (.t 16)),oG 15 true 18 (.bin .leq (.t 17) (cI 2)),oN 19 (.pick (.t 15) (.t 18) (.c (.bool false)))]) (.cond (.t 19) (.seq (.reg false 0 [oN 20 (oV 0),oN 21 (.call 137 [(.t 20)]),oN 22 (oV 1),oN 23 (.call 137 [(.t 22)]),oN 6 (oV 21),oN 7 (oV 23)]) (.seq (.reg true 0 [oN 24 (oV 6),oN 25 (oV 7),oA 26 0 (.bin .quo (.t 24) (.t 25)) [0,1],oA 27 0 (.conv .u64 (.t 26)) [2],oA 28 0 (.call 69 [(.t 27)]) [3],oN 29 (oV 6),oN 30 (oV 7),oA 31 0 (.bin .rem (.t 29) (.t 30)) [5,6],oA 32 0 (.conv .u64 (.t 31)) [7],oA 33 0 (.call 69 [(.t 32)]) [8,4],oA 4 0 (oV 28) [4,9,0,1,2,3,4],oA 5 0 (oV 33) [9,10,0,1,2,3,4,5,6,7,8,9,10]]) .ret)) .skip)) (.seq (.reg false 1 [oK 34 1 (oV 0),oK 35 1 (.len (.t 34)),oN 36 (.make [.int .i64 0] 8 (.t 35)),oK 8 1 (oV 36)]) (.seq (.reg false 1 [oN 37 (.mkSl 1 [.int .i64 0] 0 []),oK 9 1 (oV 37)]) (.seq (.seq (.reg false 0 [oN 38 (oV 0),oN 39 (.len (.t 38)),oN 40 (.bin .sub (.t 39) (cI 1)),oN 10 (oV 40)]) (.block 0 (.loop (.seq (.seq (.reg false 0 [oN 41 (oV 10),oN 42 (.bin .geq (.t 41) (cI 0))]) (.cond (.t 42) .skip (.exit 0))) (.seq (.block 1 (.seq (.reg false 2 [oK 45 2 (oV 0),oK 46 2 (oV 10),oK 47 2 (.idx 1 (.t 45) (.t 46)),oK 48 2 (.load 1 false (.t 47)),oN 49 (.mkSl 1 [.int .i64 0] 1 [(0,(.t 48))]),oK 50 2 (oV 9),oK 51 1 (.app 1 8 (.t 49) (.t 50)),oK 52 2 (.call 151 [(.t 51)]),oK 9 2 (oV 52)]) (.block 2 (.loop (.seq (.seq (.reg false 0 [oN 53 (oV 9),oN 54 (oV 1),oN 55 (.call 152 [(.t 53),(.t 54)]),oN 56 (.bin .geq (.t 55) (cI 0))]) (.cond (.t 56) .skip (.exit 2))) (.block 3 (.seq (.reg false 0 [oN 57 (oV 9),oN 58 (oV 1),oN 59 (.call 153 [(.t 57),(.t 58)]),oN 11 (oV 59)]) (.seq (.reg false 1 [oK 60 1 (oV 9),oK 61 1 (oV 1),oK 62 1 (oV 11),oN 63 (.mkSl 1 [.int .i64 0] 1 [(0,(.t 62))]),oK 64 1 (.call 155 [(.t 61),(.t 63)]),oK 65 1 (.call 154 [(.t 60),(.t 64)]),oK 9 1 (oV 65)]) (.reg false 0 [oN 66 (oV 8),oN 67 (oV 10),oN 68 (.idx 1 (.t 66) (.t 67)),oN 69 (.load 1 false (.t 68)),oN 70 (oV 11),oN 71 (.bin .add (.t 69) (.t 70)),oN 72 (.idx 1 (.t 66) (.t 67)),oS (.store 1 (.t 72) (.t 71))]))))))))) (.reg false 0 [oN 43 (oV 10),oN 44 (.bin .sub (.t 43) (cI 1)),oN 10 (oV 44)])))))) (.seq (.reg false 0 [oN 73 (oV 8),oN 74 (.call 151 [(.t 73)]),oN 75 (oV 9),oN 4 (oV 74),oN 5 (oV 75)]) .ret))))))⟩
structure D_impl_natDiv (T : Nat → Option Fn) : Prop where
 hT : T 138 = some F_impl_natDiv
 d_impl_natOfUint : D_impl_natOfUint T
 d_impl_natSmall : D_impl_natSmall T
 d_impl_natTrim : D_impl_natTrim T
 d_impl_natCmp : D_impl_natCmp T
 d_impl_natGuess : D_impl_natGuess T
 d_impl_natSub : D_impl_natSub T
 d_impl_natMul : D_impl_natMul T
theorem c_natGuess {T : Nat → Option Fn} (h : D_impl_natGuess T) {r b : Nat} (hb : 0 < b) (hle : b ≤ r) (hlt : r < b * 1000000000) (lr : (mk r).length ≤ 1000:=by first | omega | assumption | (simp;omega)) (lb : (mk b).length ≤ 1000:=by first | omega | assumption | (simp;omega)) :
  ∃ d : Nat,PF T 153 [ints (mk r),ints (mk b)] (iv (d : Nat)) ∧ 0 < d ∧ d < 1000000000 ∧ d * b ≤ r:=by
 obtain ⟨h1,h2,h3,h4,h5⟩:=guess_ok hb hle hlt
 obtain ⟨A,hA⟩ : ∃ A,mk r = A:=⟨_,rfl⟩
 obtain ⟨B,hB⟩ : ∃ B,mk b = B:=⟨_,rfl⟩
 have hbA : Lb A:=hA ▸ lb_mk r
 have hbB : Lb B:=hB ▸ lb_mk b
 rw [hA] at h1 h2 h4 h5 lr ⊢
 rw [hB] at h1 h2 h3 h4 h5 lb ⊢
 obtain ⟨k,hk⟩ : ∃ k,B.length = k + 1:=⟨B.length - 1,by omega⟩
 have g1:=lb_at hbA k
 have g2:=lb_at hbA (k + 1)
 have g3:=lb_at hbB k
 have g4:=lb_at hbB 0
 have eT : (val (A.drop k) : Int) = A.getD k 0 + (if k + 1 < A.length then A.getD (k + 1) 0 * 1000000000 else 0):=by
  rw [val_dropG A k]
  split
  ·rw [val_dropG A (k + 1),val_drop_ge (l:=A) (i:=k + 1 + 1) (by omega)];omega
  ·rw [val_drop_ge (l:=A) (i:=k + 1) (by omega)];omega
 have e1 : ((B.length : Nat) : Int) - 1 = (k : Nat):=by omega
 have ebk : B.length - 1 = k:=by omega
 rw [ebk] at h5
 by_cases hk0 : k = 0
 ·subst hk0
  obtain ⟨d1,d2,d3,d4⟩:=h4 (by omega)
  refine ⟨_,?_,d1,d2,d3⟩
  have c0 : ((B.length : Nat) : Int) = 1:=by omega
  have e2 : ((val (A.drop 0) / (B.getD 0 0).toNat : Nat) : Int) = (val (A.drop 0) : Int).tdiv (B.getD 0 0):=by
   rw [Int.tdiv_eq_ediv_of_nonneg (by omega)]
   have : ((B.getD 0 0).toNat : Int) = B.getD 0 0:=by omega
   rw [← this];simp
  have d5 : 0 ≤ (val (A.drop 0) : Int).tdiv (B.getD 0 0) ∧ (val (A.drop 0) : Int).tdiv (B.getD 0 0) < 1000000000:=by rw [← e2];omega
  rw [eT] at e2 d5
  rw [e2]
  clear h4 h5 eT hbA hbB e2 d1 d2 d3 hlt hle hb hA hB h2
  have c0':=iff_true_intro c0
  have nb : ¬ B.getD 0 0 = 0:=by omega
  clear d4
  have e3 : ((0 : Nat) : Int).toNat = 0:=rfl
  have e4 : (((0 : Nat) : Int) + 1).toNat = 0 + 1:=rfl
  by_cases c1 : (1 : Int) < (A.length : Nat)
  ·have c2 : 0 + 1 < A.length:=by omega
   have c3:=iff_true_intro (show ((B.length : Nat) : Int) < (A.length : Nat) by omega)
   rw [if_pos c2] at d5 ⊢
   refine pf_end (fun _ _=>false) h.hT rfl rfl ?_
   dsimp only [F_impl_natGuess,oN,oS,oG,oK,oA,oH,oV,cI]
   refine ev ?_
   refine ev5 @c0' @c3 @e1 @e3 @nb ?_
   rw [hk,w64 (n:=A.getD (0 + 1) 0 * 1000000000) (by omega),w64 (n:=A.getD 0 0 + _) (by omega),w64 (by omega)]
  ·have c2 : ¬ 0 + 1 < A.length:=by omega
   have c3 : ¬ ((B.length : Nat) : Int) < (A.length : Nat):=by omega
   rw [if_neg c2] at d5 ⊢
   refine pf_end (fun _ _=>false) h.hT rfl rfl ?_
   dsimp only [F_impl_natGuess,oN,oS,oG,oK,oA,oH,oV,cI]
   refine ev ?_
   refine ev5 @c0' @c3 @e1 @e3 @nb ?_
   simp only [Int.add_zero] at d5 ⊢
 ·have c0 : ¬ ((B.length : Nat) : Int) = 1:=by omega
  have e4 : (((k : Nat) : Int) + 1).toNat = k + 1:=by omega
  obtain ⟨d2,d3⟩:=h5
  have e2 : ((val (A.drop k) / ((B.getD k 0).toNat + 1) : Nat) : Int) = (val (A.drop k) : Int).tdiv (B.getD k 0 + 1):=by
   rw [Int.tdiv_eq_ediv_of_nonneg (by omega)]
   have : (((B.getD k 0).toNat + 1 : Nat) : Int) = B.getD k 0 + 1:=by omega
   rw [← this,Int.natCast_ediv]
  have d5 : 0 ≤ (val (A.drop k) : Int).tdiv (B.getD k 0 + 1) ∧ (val (A.drop k) : Int).tdiv (B.getD k 0 + 1) < 1000000000:=⟨by rw [← e2];exact Int.natCast_nonneg _,by rw [← e2];exact Int.ofNat_lt.mpr d2⟩
  generalize hd : val (A.drop k) / ((B.getD k 0).toNat + 1) = d at d2 d3 e2
  rw [eT] at e2 d5
  have fin : ∀ t : Int,t = (if k + 1 < A.length then A.getD (k + 1) 0 * 1000000000 else 0) → ∃ d : Nat,(if (A.getD k 0 + t).tdiv (B.getD k 0 + 1) = 0 then iv 1 else iv ((A.getD k 0 + t).tdiv (B.getD k 0 + 1))) = iv (d : Nat) ∧ 0 < d ∧ d < 1000000000 ∧ d * b ≤ r:=by
   intro t ht
   rw [← ht] at e2
   rw [← e2]
   by_cases z : d = 0
   ·exact ⟨1,by simp [z],by omega,by omega,by omega⟩
   ·exact ⟨d,by rw [if_neg (by omega)],by omega,d2,d3⟩
  clear h4 eT hbA hbB e2 d2 d3 hlt hle hb hA hB hd h2
  by_cases c1 : ((k : Nat) : Int) + 1 < (A.length : Nat)
  ·have c2 : k + 1 < A.length:=by omega
   have c3 : ((B.length : Nat) : Int) < (A.length : Nat):=by omega
   rw [if_pos c2] at d5 fin
   obtain ⟨u,f1,f2⟩:=fin _ rfl
   refine ⟨u,?_,f2⟩
   clear f2 fin
   rw [← f1]
   have nb : ¬ B.getD k 0 + 1 = 0:=by omega
   refine pf_end (fun _ _=>false) h.hT rfl rfl ?_
   dsimp only [F_impl_natGuess,oN,oS,oG,oK,oA,oH,oV,cI]
   refine ev ?_
   refine ev5 @c0 @c3 @e1 @e4 @nb ?_
   rw [hk,w64 (n:=A.getD (k + 1) 0 * 1000000000) (by omega),w64 (n:=A.getD k 0 + _) (by omega),w64 (by omega)]
   refine brK_dec (fun z=>?_) fun z=>?_ <;> (refine ev1 @z ?_;try with_reducible exact True.intro)
  ·have c2 : ¬ k + 1 < A.length:=by omega
   have c3 : ¬ ((B.length : Nat) : Int) < (A.length : Nat):=by omega
   rw [if_neg c2] at d5 fin
   obtain ⟨u,f1,f2⟩:=fin _ rfl
   refine ⟨u,?_,f2⟩
   clear f2 fin
   rw [← f1]
   have nb : ¬ B.getD k 0 + 1 = 0:=by omega
   refine pf_end (fun _ _=>false) h.hT rfl rfl ?_
   dsimp only [F_impl_natGuess,oN,oS,oG,oK,oA,oH,oV,cI]
   refine ev ?_
   refine ev5 @c0 @c3 @e1 @e4 @nb ?_
   simp only [Int.add_zero] at d5 ⊢
   refine brK_dec (fun z=>?_) fun z=>?_ <;> (refine ev1 @z ?_;try with_reducible exact True.intro)
theorem c_natDiv {T : Nat → Option Fn} (h : D_impl_natDiv T) {m n : Nat} (hn : 0 < n) (la : (mk m).length ≤ 900:=by first | omega | assumption | (simp;omega)) (lb : (mk n).length ≤ 900:=by first | omega | assumption | (simp;omega)) :
  PF T 138 [ints (mk m),ints (mk n)] (.tup [ints (mk (m / n)),ints (mk (m % n))]):=by
 obtain ⟨A,hA⟩ : ∃ A,mk m = A:=⟨_,rfl⟩
 obtain ⟨B,hB⟩ : ∃ B,mk n = B:=⟨_,rfl⟩
 have hva : val A = m:=by rw [← hA,val_mk]
 have hbA : Lb A:=hA ▸ lb_mk m
 have hbB : Lb B:=hB ▸ lb_mk n
 rw [hA] at la ⊢
 rw [hB] at lb ⊢
 refine pf_endL (fun _ _=>false) h.hT rfl rfl ?_
 dsimp only [F_impl_natDiv,oN,oS,oG,oK,oA,oH,oV,cI]
 refine ev ?_
 have cas : (((A.length : Nat) : Int) ≤ 2 ∧ ((B.length : Nat) : Int) ≤ 2) ∨ ((((A.length : Nat) : Int) ≤ 2 ∧ ¬ ((B.length : Nat) : Int) ≤ 2) ∨ ¬ ((A.length : Nat) : Int) ≤ 2):=by omega
 rcases cas with ⟨c1,c2⟩ | big
 ·have sm : m < 1000000000000000000:=by
   have:=val_lt hbA
   rw [hva] at this
   exact Nat.lt_of_lt_of_le this (Nat.le_trans (Nat.pow_le_pow_right (by omega) (show A.length ≤ 2 by omega)) (by omega))
  have sn : n < 1000000000000000000:=by
   have:=val_lt hbB
   rw [← hB,val_mk] at this
   exact Nat.lt_of_lt_of_le this (Nat.le_trans (Nat.pow_le_pow_right (by omega) (show (mk n).length ≤ 2 by rw [hB];omega)) (by omega))
  have cs:=c_natSmall h.d_impl_natSmall sm
  have ct:=c_natSmall h.d_impl_natSmall sn
  rw [hA] at cs
  rw [hB] at ct
  have e1 : ((m : Nat) : Int).tdiv (n : Nat) = ((m / n : Nat) : Int):=by rw [Int.tdiv_eq_ediv_of_nonneg (by omega),Int.natCast_ediv]
  have e2 : ((m : Nat) : Int).tmod (n : Nat) = ((m % n : Nat) : Int):=by rw [Int.tmod_eq_emod_of_nonneg (by omega),Int.natCast_emod]
  have d1 : m / n ≤ m:=Nat.div_le_self ..
  have d2 : m % n ≤ m:=Nat.mod_le ..
  have nz : ¬ ((n : Nat) : Int) = 0:=by omega
  generalize m / n = q at *
  generalize m % n = r at *
  have c3:=c_natOfUint h.d_impl_natOfUint (n:=((q : Nat) : Int)) (by omega)
  have c4:=c_natOfUint h.d_impl_natOfUint (n:=((r : Nat) : Int)) (by omega)
  rw [Int.toNat_natCast] at c3 c4
  refine ev2 @c1 @c2 ?_
  refine PFK_of cs ?_
  refine ev ?_
  refine PFK_of ct ?_
  refine ev3 @nz @e1 @e2 ?_
  refine PFK_of c3 ?_
  refine ev3 @nz @e1 @e2 ?_
  refine PFK_of c4 ?_
  refine ev ?_
  exact laxV_refl _
 rcases big with ⟨c1,c2⟩ | c1
 case' inl=>refine ev2 @c1 @c2 ?_
 case' inr=>refine ev1 @c1 ?_
 all_goals
  refine ⟨by omega,?_⟩
  rw [ir_rep]
  refine loop_at (fun _ _=>false) (α:=Nat × List Int × Nat) (fun q=>⟨argE [ints A,ints B,.any,.any,.any,.any,.any,.any,.msl 0 0 A.length,ints (mk q.2.2),iv ((q.1 : Nat) - 1)],[some ⟨1,irows q.2.1⟩],0,0,[],[]⟩) (fun q=>q.1 ≤ A.length ∧ q.2.1.length = A.length ∧ Lb q.2.1 ∧ (∀ j,j < q.1 → q.2.1.getD j 0 = 0) ∧ q.2.2 < n ∧ val (A.drop q.1) = val (q.2.1.drop q.1) * n + q.2.2) (fun q=>q.1) rfl (A.length,List.replicate A.length 0,0) ?_ ?_ ?_
  ·exact ⟨by omega,by simp,lb_rep _,by intro j _;simp [List.getD_eq_getElem?_getD,List.getElem?_replicate];split <;> rfl,hn,by dsimp only;rw [val_drop_ge (Nat.le_refl _),val_drop_ge (by simp)];simp⟩
  ·rw [mk_zero]
   (refine Fg_re [(0,_)] (by simp) (by intro p hp;simp only [List.mem_cons,List.not_mem_nil,or_false] at hp;rcases hp with rfl <;> refine ⟨rfl,?_⟩ <;> first | exact ir_still _ | simp [stillR,V.still]) rfl ?_) <;> (try (refine ev ?_)) <;> (repeat' (first | exact True.intro | omega | exact CanE_ptr rfl (by simp) | refine ⟨?_,?_⟩ | exact of_eq_true (CanE_nil _ _ _) | exact CanE_of rfl (by simp;done) | exact CanE_of rfl rfl | (refine CanE_msl rfl ?_ rfl;simp [irows];done) | (refine CanE_msl rfl ?_ rfl;simp [irows];omega) | (refine CanE_frz ?_ ?_;(focus ((refine ev ?_;try with_reducible exact True.intro);done));(intro q hq k s0 l0;simp;done))))
  ·rintro ⟨k,Q,x⟩ ⟨hk,hQ,hQb,hz,hx,hv⟩
   dsimp only at hk hQ hQb hz hx hv
   by_cases k0 : k = 0
   ·subst k0
    rw [List.drop_zero,List.drop_zero,hva] at hv
    obtain ⟨q1,q2⟩:=div_unique hv hx
    have e0 : ¬ (0 : Int) ≤ ((0 : Nat) : Int) - 1:=by omega
    refine ev1 @e0 ?_
    refine PFK_of (c_natTrim h.d_impl_natTrim (l:=Q) (by omega)) ?_
    refine ev ?_
    rw [trim_mk hQb,← q1,← q2]
    exact laxV_refl _
   ·obtain ⟨i,rfl⟩ : ∃ i,k = i + 1:=⟨k - 1,by omega⟩
    have e0 : (((i + 1 : Nat) : Int) - 1) = (i : Nat):=by omega
    have e1 : ((i : Nat) : Int) < (A.length : Nat):=by omega
    have e2 : (0 : Int) ≤ (i : Nat):=by omega
    rw [e0]
    have ga:=lb_at hbA i
    have hvi:=val_dropG A i
    obtain ⟨t,ht⟩ : ∃ t,(A.getD i 0).toNat + 1000000000 * x = t:=⟨_,rfl⟩
    have htn : t < n * 1000000000:=by omega
    have lt' : (A.getD i 0 :: mk x).length ≤ 1048576:=by
     have : (mk x).length ≤ B.length:=by rw [mk_len_le];exact Nat.lt_trans hx (by have:=val_lt hbB;rw [← hB,val_mk,hB] at this;exact this)
     simp only [List.length_cons];omega
    have tr : trim (A.getD i 0 :: mk x) = mk t:=by
     rw [trim_mk (by intro y hy;rcases List.mem_cons.1 hy with rfl | hy;exact ga;exact lb_mk x y hy),← ht,val,val_mk]
    have ct:=c_natTrim h.d_impl_natTrim (l:=A.getD i 0 :: mk x) lt'
    rw [tr] at ct
    have ely : ∀ y,y ≤ t → (mk y).length ≤ 901:=by
     intro y hy
     have : (mk y).length ≤ B.length + 1:=by
      rw [mk_len_le,Nat.pow_succ]
      have:=val_lt hbB
      rw [← hB,val_mk,hB] at this
      exact Nat.lt_of_lt_of_le (Nat.lt_of_le_of_lt hy htn) (Nat.mul_le_mul_right _ (Nat.le_of_lt this))
     omega
    have lx:=ely
    refine ev2 @e2 @e1 ?_
    refine ⟨fun e3=>?_,fun e3=>?_⟩
    case' refine_1 =>
     have x0 : mk x = []:=by cases hm : mk x with | nil=>rfl | cons a l=>rw [hm] at e3;cases e3
     rw [x0] at ct
     rw [show [[V.int IntKind.i64 (A.getD i 0)]] = irows [A.getD i 0] from rfl]
     refine ev ?_
    case' refine_2 =>
     refine ev1 @e3 ?_
     rw [show [V.int IntKind.i64 (A.getD i 0)] :: irows (mk x) = irows (A.getD i 0 :: mk x) from rfl]
     refine ev ?_
     have lm:=lt'
     simp only [List.length_cons] at lm
     refine ⟨by omega,?_⟩
    all_goals
     clear lt'
     refine PFK_of ct ?_
     refine ev ?_
     refine loop_at (fun _ _=>false) (α:=List Int × Nat) (fun q=>⟨argE [ints A,ints B,.any,.any,.any,.any,.any,.any,.msl 0 0 A.length,ints (mk q.2),iv (i : Nat)],[some ⟨1,irows q.1⟩],0,0,[],[]⟩) (fun q=>q.1.length = A.length ∧ Lb q.1 ∧ (∀ j,j < i → q.1.getD j 0 = 0) ∧ q.1.drop (i + 1) = Q.drop (i + 1) ∧ q.2 + (q.1.getD i 0).toNat * n = t) (fun q=>q.2) rfl (Q,t) ?_ ?_ ?_
     ·exact ⟨hQ,hQb,fun j hj=>hz j (by omega),rfl,by dsimp only;rw [hz i (by omega)];simp⟩
     ·(refine Fg_re [(0,_)] (by simp) (by intro p hp;simp only [List.mem_cons,List.not_mem_nil,or_false] at hp;rcases hp with rfl <;> refine ⟨rfl,?_⟩ <;> first | exact ir_still _ | simp [stillR,V.still]) rfl ?_) <;> (try (refine ev ?_)) <;> (repeat' (first | exact True.intro | omega | exact CanE_ptr rfl (by simp) | refine ⟨?_,?_⟩ | exact of_eq_true (CanE_nil _ _ _) | exact CanE_of rfl (by simp;done) | exact CanE_of rfl rfl | (refine CanE_msl rfl ?_ rfl;simp [irows];done) | (refine CanE_msl rfl ?_ rfl;simp [irows];omega) | (refine CanE_frz ?_ ?_;(focus ((refine ev ?_;try with_reducible exact True.intro);done));(intro q hq k s0 l0;simp;done))))
     ·rintro ⟨P,y⟩ ⟨hP,hPb,hzP,hd,hy⟩
      dsimp only at hP hPb hzP hd hy
      have yt : y ≤ t:=by omega
      have ly:=ely y yt
      have cc:=c_natCmp h.d_impl_natCmp (can_mk y) (can_mk n) (by omega) (by rw [hB];omega)
      rw [val_mk,val_mk,hB] at cc
      refine ev ?_
      refine PFK_of cc ?_
      refine ev ?_
      refine brK_dec (fun c3=>?_) fun c3=>?_ <;> refine ev1 @c3 ?_
      ·have hny : n ≤ y:=cmpN_nonneg.1 c3
       obtain ⟨d,pg,d0,d1,d2⟩:=c_natGuess h.d_impl_natGuess hn hny (by omega) (by omega) (by rw [hB];omega)
       rw [hB] at pg
       have pm:=c_natMul h.d_impl_natMul (m:=n) (n:=d) (by rw [hB];omega) (by rw [mk_one d0 d1];simp)
       have dn : n * d ≤ y:=by rw [Nat.mul_comm];exact d2
       have lnd:=ely (n * d) (by omega)
       have ps:=c_natSub h.d_impl_natSub dn (by omega) (by omega)
       rw [hB,mk_one d0 d1] at pm
       have gp:=lb_at hPb i
       have y2 : y - n * d + ((P.getD i 0).toNat + d) * n = t:=by rw [Nat.add_mul,Nat.mul_comm d n];omega
       have gp2 : P.getD i 0 + d < 1000000000:=by
        have : ((P.getD i 0).toNat + d) * n < 1000000000 * n:=by rw [Nat.mul_comm 1000000000];omega
        have:=Nat.lt_of_mul_lt_mul_right this
        omega
       have d0' : 0 < n * d:=Nat.mul_pos hn d0
       have k1:=lb_set (l:=P) (i:=i) (d:=P.getD i 0 + d) (by omega) gp2 hPb
       have k2 : ∀ j,j < i → (P.set i (P.getD i 0 + d)).getD j 0 = 0:=by
        intro j hj
        rw [getD_set_int',if_neg (by omega)]
        exact hzP j hj
       have k3 : (P.set i (P.getD i 0 + d)).drop (i + 1) = Q.drop (i + 1):=by rw [List.drop_set_of_lt (by omega),hd]
       have k4 : ((P.set i (P.getD i 0 + d)).getD i 0) = P.getD i 0 + d:=by rw [getD_set_int',if_pos ⟨rfl,by omega⟩]
       have k5 : y - n * d + ((P.set i (P.getD i 0 + d)).getD i 0).toNat * n = t:=by
        rw [k4,show (P.getD i 0 + (d : Int)).toNat = (P.getD i 0).toNat + d by omega];exact y2
       have k6 : y - n * d < y:=by omega
       clear y2 hy htn ht hvi k4 hzP hd d2 lx ely hv hz hx
       refine PFK_of pg ?_
       refine ev ?_
       rw [show [[V.int IntKind.i64 (d : Int)]] = irows [(d : Int)] from rfl]
       refine ev ?_
       refine PFK_of pm ?_
       refine ev ?_
       refine PFK_of ps ?_
       refine ev2 @e1 @hP ?_
       exact ⟨(P.set i (P.getD i 0 + d),y - n * d),k6,⟨by simp [hP],k1,k2,k3,k5⟩,by (refine Fg_re [(0,_)] (by simp) (by intro p hp;simp only [List.mem_cons,List.not_mem_nil,or_false] at hp;rcases hp with rfl <;> refine ⟨rfl,?_⟩ <;> first | exact ir_still _ | simp [stillR,V.still]) rfl ?_) <;> (try (refine ev ?_)) <;> (repeat' (first | exact True.intro | omega | exact CanE_ptr rfl (by simp) | refine ⟨?_,?_⟩ | exact of_eq_true (CanE_nil _ _ _) | exact CanE_of rfl (by simp;done) | exact CanE_of rfl rfl | (refine CanE_msl rfl ?_ rfl;simp [irows];done) | (refine CanE_msl rfl ?_ rfl;simp [irows];omega) | (refine CanE_frz ?_ ?_;(focus ((refine ev ?_;try with_reducible exact True.intro);done));(intro q hq k s0 l0;simp;done))))⟩
      ·have hny : y < n:=by
        have:=@cmpN_nonneg y n
        omega
       have k1:=val_dropG P i
       rw [hd] at k1
       have k2 : val (A.drop i) = val (P.drop i) * n + y:=by
        rw [hvi,hv,k1,Nat.add_mul,Nat.mul_add,← Nat.mul_assoc];omega
       exact ⟨(i,P,y),by dsimp only;omega,⟨by dsimp only;omega,hP,hPb,hzP,hny,k2⟩,by (refine Fg_env ?_;exact fgV)⟩
def F_impl_copyInts : Fn:=⟨1,6,[.tmp 2],(.seq (.reg false 0 [oN 2 (.mov (.c (.nils)))]) (.seq (.reg false 2 [oN 3 (.mkSl 1 [.int .i64 0] 0 []),oK 4 2 (oV 0),oK 5 1 (.app 1 8 (.t 3) (.t 4)),oK 2 2 (oV 5)]) .ret))⟩
structure D_impl_copyInts (T : Nat → Option Fn) : Prop where
 hT : T 139 = some F_impl_copyInts
def F_impl_natGcd : Fn:=⟨2,43,[.tmp 4],(.seq (.reg false 0 [oN 4 (.mov (.c (.nils)))]) (.seq (.block 0 (.loop (.seq (.seq (.reg false 0 [oN 9 (oV 1),oN 10 (.len (.t 9)),oN 11 (.bin .gtr (.t 10) (cI 0))]) (.cond (.t 11) .skip (.exit 0))) (.block 1 (.seq (.seq (.reg false 0 [oN 12 (oV 0),oN 13 (.len (.t 12)),oN 14 (.bin .leq (.t 13) (cI 2)),oN 15 (oV 14),oG 15 true 16 (oV 1),oG 15 true 17 (.len (.t 16)),oG 15 true 18 (.bin .leq (.t 17) (cI 2)),oN 19 (.pick (.t 15) (.t 18) (.c (.bool false)))]) (.cond (.t 19) (.seq (.reg false 0 [oN 20 (oV 0),oN 21 (.call 137 [(.t 20)]),oN 22 (oV 1),oN 23 (.call 137 [(.t 22)]),oN 5 (oV 21),oN 6 (oV 23)]) (.seq (.block 2 (.loop (.seq (.seq (.reg false 0 [oN 24 (oV 6),oN 25 (.bin .gtr (.t 24) (cI 0))]) (.cond (.t 25) .skip (.exit 2))) (.block 3 (.reg true 0 [oN 26 (oV 6),oN 27 (oV 5),oN 28 (oV 6),oA 29 0 (.bin .rem (.t 27) (.t 28)) [1,2],oA 5 0 (oV 26) [0,0,1],oA 6 0 (oV 29) [3,4,0,1,2,3,4]]))))) (.seq (.reg false 0 [oN 30 (oV 5),oN 31 (.conv .u64 (.t 30)),oN 32 (.call 69 [(.t 31)]),oN 4 (oV 32)]) .ret))) .skip)) (.seq (.reg false 0 [oN 34 (oV 0),oN 35 (oV 1),oN 36 (.call 138 [(.t 34),(.t 35)]),oN 33 (oV 36),oN 37 (.extr 0 (.t 33)),oN 38 (.extr 1 (.t 33)),oN 7 (oV 37),oN 8 (oV 38)]) (.reg false 0 [oN 39 (oV 1),oN 40 (oV 8),oN 0 (oV 39),oN 1 (oV 40)]))))))) (.seq (.reg false 0 [oN 41 (oV 0),oN 42 (.call 139 [(.t 41)]),oN 4 (oV 42)]) .ret)))⟩
structure D_impl_natGcd (T : Nat → Option Fn) : Prop where
 hT : T 127 = some F_impl_natGcd
 d_impl_natOfUint : D_impl_natOfUint T
 d_impl_natSmall : D_impl_natSmall T
 d_impl_natDiv : D_impl_natDiv T
 d_impl_copyInts : D_impl_copyInts T
theorem c_copyInts {T : Nat → Option Fn} (h : D_impl_copyInts T) {l : List Int} (hl : l.length ≤ 1048576:=by first | omega | assumption | (simp;omega)) : PF T 139 [ints l] (ints l):=by
 refine pf_endL (fun _ _=>false) h.hT rfl rfl ?_
 dsimp only [F_impl_copyInts,oN,oS,oG,oK,oA,oH,oV,cI]
 refine ev ?_
 refine ⟨fun e=>?_,fun e=>⟨by omega,laxV_refl _⟩⟩
 show LaxV (.sl 1 (irows l)) .nils
 rw [e];exact of_eq_true (LaxV_nil 1)
theorem c_natGcd {T : Nat → Option Fn} (h : D_impl_natGcd T) {m n : Nat} (la : (mk m).length ≤ 900:=by first | omega | assumption | (simp;omega)) (lb : (mk n).length ≤ 900:=by first | omega | assumption | (simp;omega)) :
  PF T 127 [ints (mk m),ints (mk n)] (ints (mk (Nat.gcd m n))):=by
 refine pf_endL (fun _ _=>false) h.hT rfl rfl ?_
 dsimp only [F_impl_natGcd,oN,oS,oG,oK,oA,oH,oV,cI]
 refine ev ?_
 refine loop_at (fun _ _=>false) (α:=Nat × Nat) (fun q=>⟨argE [ints (mk q.1),ints (mk q.2)],[],0,0,[],[]⟩) (fun q=>Nat.gcd q.1 q.2 = Nat.gcd m n ∧ (mk q.1).length ≤ 900 ∧ (mk q.2).length ≤ 900) (fun q=>q.2) rfl (m,n) ?_ ?_ ?_
 ·exact ⟨rfl,la,lb⟩
 ·first | ((refine Fg_env ?_;exact fgV);done) | ((refine Fg_re [] (by simp) (by intro p hp;cases hp) rfl ?_) <;> (try (refine ev ?_;try with_reducible exact True.intro)) <;> (repeat' (first | exact True.intro | omega | exact CanE_ptr rfl (by simp) | refine ⟨?_,?_⟩ | exact of_eq_true (CanE_nil _ _ _) | exact CanE_of rfl (by simp;done) | exact CanE_of rfl rfl | (refine CanE_msl rfl ?_ rfl;simp [irows];done) | (refine CanE_msl rfl ?_ rfl;simp [irows];omega) | (refine CanE_frz ?_ ?_;(focus ((refine ev ?_;try with_reducible exact True.intro);done));(intro q hq k s0 l0;simp;done))));done)
 ·rintro ⟨x,y⟩ ⟨hg,lx,ly⟩
  dsimp only at hg lx ly
  rw [← hg]
  clear hg la lb
  refine ev ?_
  refine brK_dec (fun c1=>?_) fun c1=>?_ <;> refine ev1 @c1 ?_
  ·have hy : 0 < y:=by
    rcases Nat.eq_zero_or_pos y with rfl | h
    ·rw [mk_zero] at c1;simp at c1
    ·exact h
   have cas : ((((mk x).length : Nat) : Int) ≤ 2 ∧ (((mk y).length : Nat) : Int) ≤ 2) ∨ (((((mk x).length : Nat) : Int) ≤ 2 ∧ ¬ (((mk y).length : Nat) : Int) ≤ 2) ∨ ¬ (((mk x).length : Nat) : Int) ≤ 2):=by omega
   rcases cas with ⟨c2,c3⟩ | big
   ·have sx : x < 1000000000000000000:=by have:=mk_len_le (n:=x) (k:=2);omega
    have sy : y < 1000000000000000000:=by have:=mk_len_le (n:=y) (k:=2);omega
    refine ev2 @c2 @c3 ?_
    refine PFK_of (c_natSmall h.d_impl_natSmall sx) ?_
    refine ev ?_
    refine PFK_of (c_natSmall h.d_impl_natSmall sy) ?_
    refine ev ?_
    refine loop_at (fun _ _=>false) (α:=Nat × Nat) (fun q=>⟨argE [.any,.any,.any,.any,.any,iv (q.1 : Nat),iv (q.2 : Nat)],[],0,0,[],[]⟩) (fun q=>Nat.gcd q.1 q.2 = Nat.gcd x y ∧ q.1 < 1000000000000000000 ∧ q.2 < 1000000000000000000) (fun q=>q.2) rfl (x,y) ?_ ?_ ?_
    ·exact ⟨rfl,sx,sy⟩
    ·first | ((refine Fg_env ?_;exact fgV);done) | ((refine Fg_re [] (by simp) (by intro p hp;cases hp) rfl ?_) <;> (try (refine ev ?_;try with_reducible exact True.intro)) <;> (repeat' (first | exact True.intro | omega | exact CanE_ptr rfl (by simp) | refine ⟨?_,?_⟩ | exact of_eq_true (CanE_nil _ _ _) | exact CanE_of rfl (by simp;done) | exact CanE_of rfl rfl | (refine CanE_msl rfl ?_ rfl;simp [irows];done) | (refine CanE_msl rfl ?_ rfl;simp [irows];omega) | (refine CanE_frz ?_ ?_;(focus ((refine ev ?_;try with_reducible exact True.intro);done));(intro q hq k s0 l0;simp;done))));done)
    ·rintro ⟨u,v⟩ ⟨hg,su,sv⟩
     dsimp only at hg su sv
     rw [← hg]
     clear hg
     refine ev ?_
     refine brK_dec (fun c4=>?_) fun c4=>?_ <;> refine ev1 @c4 ?_
     ·have v0 : 0 < v:=by omega
      have er : ((u : Nat) : Int).tmod (v : Nat) = ((u % v : Nat) : Int):=by rw [Int.tmod_eq_emod_of_nonneg (by omega),Int.natCast_emod]
      have lr:=Nat.mod_lt u v0
      have eg : Nat.gcd v (u % v) = Nat.gcd u v:=by rw [Nat.gcd_comm u v,Nat.gcd_rec v u,Nat.gcd_comm]
      exact ⟨(v,u % v),lr,⟨eg,sv,by dsimp only;omega⟩,by (refine Fg_env ?_) <;> (try (refine ev1 @er ?_;try with_reducible exact True.intro)) <;> (repeat' (first | refine ⟨?_,?_⟩ | exact EvV_int (by omega) | exact EvV_of (by simp) | exact EvV_nil _))⟩
     ·have v0 : v = 0:=by omega
      have cu:=c_natOfUint h.d_impl_natOfUint (n:=((u : Nat) : Int)) (by omega)
      rw [Int.toNat_natCast] at cu
      refine PFK_of cu ?_
      refine ev ?_
      rw [v0,Nat.gcd_zero_right]
      exact laxV_refl _
   ·have lr:=Nat.mod_lt x hy
    have lr2 : (mk (x % y)).length ≤ 900:=Nat.le_trans (mk_len_le.2 (Nat.lt_trans lr (mk_len_le.1 (Nat.le_refl _)))) ly
    have eg : Nat.gcd y (x % y) = Nat.gcd x y:=by rw [Nat.gcd_comm x y,Nat.gcd_rec y x,Nat.gcd_comm]
    rcases big with ⟨c2,c3⟩ | c2
    case' inl=>refine ev2 @c2 @c3 ?_
    case' inr=>refine ev1 @c2 ?_
    all_goals
     refine PFK_of (c_natDiv h.d_impl_natDiv hy lx ly) ?_
     refine ev ?_
     exact ⟨(y,x % y),lr,⟨eg,ly,lr2⟩,by (refine Fg_env ?_;exact fgV)⟩
  ·have y0 : y = 0:=by
    rcases Nat.eq_zero_or_pos y with h | h
    ·exact h
    ·have:=mk_ne (n:=y) (by omega);omega
   refine PFK_of (c_copyInts h.d_impl_copyInts (l:=mk x) (by omega)) ?_
   refine ev ?_
   rw [y0,Nat.gcd_zero_right]
   exact laxV_refl _
def F_laws_toIntS : Fn:=⟨1,22,[.tmp 2],(.seq (.reg false 0 [oN 2 (.mov (.c (.nils)))]) (.seq (.reg false 1 [oK 5 1 (oV 0),oK 6 1 (.len (.t 5)),oN 7 (.make [.int .i64 0] 8 (.t 6)),oK 3 1 (oV 7)]) (.seq (.seq (.reg false 0 [oN 4 (.mov (cI 0))]) (.block 0 (.loop (.seq (.seq (.reg false 0 [oN 8 (oV 4),oN 9 (oV 0),oN 10 (.len (.t 9)),oN 11 (.bin .lss (.t 8) (.t 10))]) (.cond (.t 11) .skip (.exit 0))) (.seq (.block 1 (.reg false 0 [oN 14 (oV 3),oN 15 (oV 4),oN 16 (oV 0),oN 17 (oV 4),oN 18 (.idx 1 (.t 16) (.t 17)),oN 19 (.load 1 false (.t 18)),oN 20 (.idx 1 (.t 14) (.t 15)),oS (.store 1 (.t 20) (.t 19))])) (.reg false 0 [oN 12 (oV 4),oN 13 (.bin .add (.t 12) (cI 1)),oN 4 (oV 13)])))))) (.seq (.reg false 0 [oN 21 (oV 3),oN 2 (oV 21)]) .ret))))⟩
structure D_laws_toIntS (T : Nat → Option Fn) : Prop where
 hT : T 6 = some F_laws_toIntS
def F_laws_eqIntS : Fn:=⟨2,26,[.tmp 4],(.seq (.reg false 0 [oN 4 (.mov (.c (.bool false)))]) (.seq (.seq (.reg false 0 [oN 6 (oV 0),oN 7 (.len (.t 6)),oN 8 (oV 1),oN 9 (.len (.t 8)),oN 10 (.bin .neq (.t 7) (.t 9))]) (.cond (.t 10) (.seq (.reg false 0 [oN 4 (.mov (.c (.bool false)))]) .ret) .skip)) (.seq (.seq (.reg false 0 [oN 5 (.mov (cI 0))]) (.block 0 (.loop (.seq (.seq (.reg false 0 [oN 11 (oV 5),oN 12 (oV 0),oN 13 (.len (.t 12)),oN 14 (.bin .lss (.t 11) (.t 13))]) (.cond (.t 14) .skip (.exit 0))) (.seq (.block 1 (.seq (.reg true 0 [oN 17 (oV 0),oN 18 (oV 5),oA 19 0 (.idx 1 (.t 17) (.t 18)) [0,1],oA 20 0 (.load 1 false (.t 19)) [2],oN 21 (oV 1),oN 22 (oV 5),oA 23 0 (.idx 1 (.t 21) (.t 22)) [4,5],oA 24 0 (.load 1 false (.t 23)) [6],oA 25 0 (.bin .neq (.t 20) (.t 24)) [3,7]]) (.cond (.t 25) (.seq (.reg false 0 [oN 4 (.mov (.c (.bool false)))]) .ret) .skip))) (.reg false 0 [oN 15 (oV 5),oN 16 (.bin .add (.t 15) (cI 1)),oN 5 (oV 16)])))))) (.seq (.reg false 0 [oN 4 (.mov (.c (.bool true)))]) .ret))))⟩
structure D_laws_eqIntS (T : Nat → Option Fn) : Prop where
 hT : T 8 = some F_laws_eqIntS
def F_laws_szIntS : Fn:=⟨2,12,[.tmp 4],(.seq (.reg false 0 [oN 4 (.mov (cI 0))]) (.seq (.reg false 0 [oN 5 (oV 1),oN 6 (oV 0),oN 7 (.len (.t 6)),oN 8 (.bin .sub (.t 5) (.t 7)),oN 1 (oV 8)]) (.seq (.seq (.reg false 0 [oN 9 (oV 1),oN 10 (.bin .lss (.t 9) (cI 0))]) (.cond (.t 10) (.seq (.reg false 0 [oN 4 (.mov (cI (-1)))]) .ret) .skip)) (.seq (.reg false 0 [oN 11 (oV 1),oN 4 (oV 11)]) .ret))))⟩
structure D_laws_szIntS (T : Nat → Option Fn) : Prop where
 hT : T 61 = some F_laws_szIntS
def F_laws_szBigInt : Fn:=⟨2,12,[.tmp 4],(.seq (.reg false 1 [oN 2 (.box (.t 0)),oK 4 1 (.mov (cI 0))]) (.seq (.reg false 0 [oN 5 (.fld 1 (.t 2)),oN 6 (.load 1 false (.t 5)),oN 7 (oV 1),oN 8 (.call 61 [(.t 6),(.t 7)]),oN 1 (oV 8)]) (.seq (.seq (.reg false 0 [oN 9 (oV 1),oN 10 (.bin .lss (.t 9) (cI 0))]) (.cond (.t 10) (.seq (.reg false 0 [oN 4 (.mov (cI (-1)))]) .ret) .skip)) (.seq (.reg false 0 [oN 11 (oV 1),oN 4 (oV 11)]) .ret))))⟩
structure D_laws_szBigInt (T : Nat → Option Fn) : Prop where
 hT : T 60 = some F_laws_szBigInt
 d_laws_szIntS : D_laws_szIntS T
def F_laws_szRat : Fn:=⟨2,18,[.tmp 4],(.seq (.reg false 1 [oN 2 (.box (.t 0)),oK 4 1 (.mov (cI 0))]) (.seq (.reg false 0 [oN 5 (.fld 0 (.t 2)),oN 6 (.load 2 true (.t 5)),oN 7 (oV 1),oN 8 (.call 60 [(.t 6),(.t 7)]),oN 1 (oV 8)]) (.seq (.seq (.reg false 0 [oN 9 (oV 1),oN 10 (.bin .lss (.t 9) (cI 0))]) (.cond (.t 10) (.seq (.reg false 0 [oN 4 (.mov (cI (-1)))]) .ret) .skip)) (.seq (.reg false 0 [oN 11 (.fld 2 (.t 2)),oN 12 (.load 1 false (.t 11)),oN 13 (oV 1),oN 14 (.call 61 [(.t 12),(.t 13)]),oN 1 (oV 14)]) (.seq (.seq (.reg false 0 [oN 15 (oV 1),oN 16 (.bin .lss (.t 15) (cI 0))]) (.cond (.t 16) (.seq (.reg false 0 [oN 4 (.mov (cI (-1)))]) .ret) .skip)) (.seq (.reg false 0 [oN 17 (oV 1),oN 4 (oV 17)]) .ret))))))⟩
structure D_laws_szRat (T : Nat → Option Fn) : Prop where
 hT : T 46 = some F_laws_szRat
 d_laws_szBigInt : D_laws_szBigInt T
 d_laws_szIntS : D_laws_szIntS T
def F_laws_toBigInt : Fn:=⟨1,12,[.cell 2 2 true],(.seq (.reg false 2 [oN 1 (.box (.t 0)),oK 2 1 (.alloc [.bool false,.nils])]) (.seq (.reg false 1 [oN 3 (.alloc [.bool false,.nils])]) (.seq (.reg false 0 [oN 4 (.fld 0 (.t 1)),oN 5 (.load 1 false (.t 4)),oN 6 (.fld 0 (.t 3)),oS (.store 1 (.t 6) (.t 5))]) (.seq (.reg false 0 [oN 7 (.fld 1 (.t 1)),oN 8 (.load 1 false (.t 7)),oN 9 (.call 6 [(.t 8)]),oN 10 (.fld 1 (.t 3)),oS (.store 1 (.t 10) (.t 9))]) (.seq (.reg false 0 [oN 11 (.load 2 true (.t 3)),oS (.store 2 (.t 2) (.t 11))]) .ret)))))⟩
structure D_laws_toBigInt (T : Nat → Option Fn) : Prop where
 hT : T 63 = some F_laws_toBigInt
 d_laws_toIntS : D_laws_toIntS T
def F_laws_toRat : Fn:=⟨1,13,[.cell 2 3 true],(.seq (.reg false 2 [oN 1 (.box (.t 0)),oK 2 1 (.alloc [.bool false,.nils,.nils])]) (.seq (.reg false 1 [oN 3 (.alloc [.bool false,.nils,.nils])]) (.seq (.reg false 0 [oN 4 (.fld 0 (.t 1)),oN 5 (.load 2 true (.t 4)),oN 6 (.call 63 [(.t 5)]),oN 7 (.fld 0 (.t 3)),oS (.store 2 (.t 7) (.t 6))]) (.seq (.reg false 0 [oN 8 (.fld 2 (.t 1)),oN 9 (.load 1 false (.t 8)),oN 10 (.call 6 [(.t 9)]),oN 11 (.fld 2 (.t 3)),oS (.store 1 (.t 11) (.t 10))]) (.seq (.reg false 0 [oN 12 (.load 3 true (.t 3)),oS (.store 3 (.t 2) (.t 12))]) .ret)))))⟩
structure D_laws_toRat (T : Nat → Option Fn) : Prop where
 hT : T 48 = some F_laws_toRat
 d_laws_toIntS : D_laws_toIntS T
 d_laws_toBigInt : D_laws_toBigInt T
def F_laws_eqBigInt : Fn:=⟨2,16,[.tmp 4],(.seq (.reg false 2 [oN 2 (.box (.t 0)),oK 3 1 (.box (.t 1)),oK 4 2 (.mov (.c (.bool false)))]) (.seq (.seq (.reg false 0 [oN 5 (.fld 0 (.t 2)),oN 6 (.load 1 false (.t 5)),oN 7 (.fld 0 (.t 3)),oN 8 (.load 1 false (.t 7)),oN 9 (.beq true (.t 6) (.t 8))]) (.cond (.t 9) (.seq (.reg false 0 [oN 4 (.mov (.c (.bool false)))]) .ret) .skip)) (.seq (.seq (.reg false 0 [oN 10 (.fld 1 (.t 2)),oN 11 (.load 1 false (.t 10)),oN 12 (.fld 1 (.t 3)),oN 13 (.load 1 false (.t 12)),oN 14 (.call 8 [(.t 11),(.t 13)]),oN 15 (.un .not (.t 14))]) (.cond (.t 15) (.seq (.reg false 0 [oN 4 (.mov (.c (.bool false)))]) .ret) .skip)) (.seq (.reg false 0 [oN 4 (.mov (.c (.bool true)))]) .ret))))⟩
structure D_laws_eqBigInt (T : Nat → Option Fn) : Prop where
 hT : T 55 = some F_laws_eqBigInt
 d_laws_eqIntS : D_laws_eqIntS T
def F_laws_eqRat : Fn:=⟨2,17,[.tmp 4],(.seq (.reg false 2 [oN 2 (.box (.t 0)),oK 3 1 (.box (.t 1)),oK 4 2 (.mov (.c (.bool false)))]) (.seq (.seq (.reg false 0 [oN 5 (.fld 0 (.t 2)),oN 6 (.load 2 true (.t 5)),oN 7 (.fld 0 (.t 3)),oN 8 (.load 2 true (.t 7)),oN 9 (.call 55 [(.t 6),(.t 8)]),oN 10 (.un .not (.t 9))]) (.cond (.t 10) (.seq (.reg false 0 [oN 4 (.mov (.c (.bool false)))]) .ret) .skip)) (.seq (.seq (.reg false 0 [oN 11 (.fld 2 (.t 2)),oN 12 (.load 1 false (.t 11)),oN 13 (.fld 2 (.t 3)),oN 14 (.load 1 false (.t 13)),oN 15 (.call 8 [(.t 12),(.t 14)]),oN 16 (.un .not (.t 15))]) (.cond (.t 16) (.seq (.reg false 0 [oN 4 (.mov (.c (.bool false)))]) .ret) .skip)) (.seq (.reg false 0 [oN 4 (.mov (.c (.bool true)))]) .ret))))⟩
structure D_laws_eqRat (T : Nat → Option Fn) : Prop where
 hT : T 40 = some F_laws_eqRat
 d_laws_eqIntS : D_laws_eqIntS T
 d_laws_eqBigInt : D_laws_eqBigInt T
theorem c_szIntS {T : Nat → Option Fn} (h : D_laws_szIntS T) {l : List Int} {left : Int} (hl : l.length ≤ 9223372036854775807:=by first | omega | assumption | (simp;omega)) (h0 : 0 ≤ left ∧ left ≤ 1048576:=by first | omega | assumption | (simp;omega)) : PF T 61 [ints l,iv left] (iv (szr left l.length)):=by
 refine pf_end (fun _ _=>false) h.hT rfl rfl ?_
 dsimp only [F_laws_szIntS,oN,oS,oG,oK,oA,oH,oV,cI]
 refine ev ?_
 refine brK_dec (fun hb=>?_) fun hb=>?_ <;> refine ev1 @hb ?_
 ·simp [szr];omega
 ·simp [szr];omega
theorem c_toIntS {T : Nat → Option Fn} (h : D_laws_toIntS T) {l : List Int} (hl : l.length ≤ 1048576:=by first | omega | assumption | (simp;omega)) : PF T 6 [ints l] (ints l):=by
 refine pf_end (fun _ _=>false) h.hT rfl rfl ?_
 dsimp only [F_laws_toIntS,oN,oS,oG,oK,oA,oH,oV,cI]
 refine ev ?_
 refine ⟨by omega,?_⟩
 rw [ir_rep]
 refine loop_at (fun _ _=>false) (α:=Nat) (fun i=>⟨argE [ints l,.any,.any,.msl 0 0 l.length,iv (i : Nat)],[some ⟨1,irows (fillTo l 0 i)⟩],0,0,[],[]⟩) (fun i=>i ≤ l.length) (fun i=>l.length - i) rfl 0 ?_ ?_ ?_
 ·omega
 ·(refine Fg_env ?_) <;> (try (refine ev1 @fillTo_zero ?_)) <;> (repeat' (first | refine ⟨?_,?_⟩ | exact EvV_int (by omega) | exact EvV_of (by simp) | exact EvV_nil _))
 ·intro i hi
  have e1:=fillTo_len l 0 hi
  refine ev1 @e1 ?_
  refine brK_dec (fun hb=>?_) fun hb=>?_ <;> refine ev2 @hb @e1 ?_
  ·have e2:=fillTo_set l 0 (i:=i) (by omega)
   have e3 : (default : Int) = 0:=rfl
   rw [e3] at e2
   rw [e2]
   exact ⟨i + 1,by omega,by omega,by (refine Fg_env ?_;exact fgV)⟩
  ·have : i = l.length:=by omega
   subst this
   rw [fillTo_all]
theorem c_eqIntS {T : Nat → Option Fn} (h : D_laws_eqIntS T) {a b : List Int} (hl : a.length ≤ 9223372036854775807:=by first | omega | assumption | (simp;omega)) (hb : b.length ≤ 9223372036854775807:=by first | omega | assumption | (simp;omega)) : PF T 8 [ints a,ints b] (.bool (decide (a = b))):=by
 refine pf_end (fun _ _=>false) h.hT rfl rfl ?_
 dsimp only [F_laws_eqIntS,oN,oS,oG,oK,oA,oH,oV,cI]
 refine ev ?_
 refine brK_dec (fun h1=>?_) fun h1=>?_ <;> refine ev1 @h1 ?_
 ·have h1 : a.length = b.length:=by omega
  refine loop_at (fun _ _=>false) (α:=Nat) (fun i=>⟨argE [ints a,ints b,.any,.any,.any,iv (i : Nat)],[],0,0,[],[]⟩) (fun i=>i ≤ a.length ∧ ∀ j,j < i → a.getD j 0 = b.getD j 0) (fun i=>a.length - i) rfl 0 ?_ ?_ ?_
  ·exact ⟨by omega,by intro j hj;omega⟩
  ·(refine Fg_env ?_;exact fgV)
  ·rintro i ⟨hi,hj⟩
   refine ev ?_
   refine brK_dec (fun h2=>?_) fun h2=>?_ <;> refine ev1 @h2 ?_
   ·refine brK_dec (fun h3=>?_) fun h3=>?_ <;> refine ev1 @h3 ?_
    ·refine ⟨i + 1,by omega,⟨by omega,fun j hj'=>?_⟩,by (refine Fg_env ?_;exact fgV)⟩
     by_cases e : j = i
     ·subst e;exact h3
     ·exact hj j (by omega)
    ·have : ¬ a = b:=fun e=>h3 (by rw [e])
     simp [this]
   ·have : a = b:=getD_ext' h1 fun j h=>hj j (by omega)
    simp [this]
 ·have : ¬ a = b:=fun e=>h1 (by rw [e])
  simp [this]
theorem c_szBigInt {T : Nat → Option Fn} (h : D_laws_szBigInt T) {z : Bi} {left : Int} (hl : z.mag.length ≤ 9223372036854775807:=by first | omega | assumption | (simp;omega)) (h0 : 0 ≤ left ∧ left ≤ 1048576:=by first | omega | assumption | (simp;omega)) : PF T 60 [biV z,iv left] (iv (szr left z.mag.length)):=by
 refine pf_end (fun _ _=>false) h.hT rfl rfl ?_
 dsimp only [F_laws_szBigInt,oN,oS,oG,oK,oA,oH,oV,cI]
 refine ev ?_
 refine PFK_of (c_szIntS h.d_laws_szIntS) ?_
 refine ev ?_
 refine brK_dec (fun hb=>?_) fun hb=>?_ <;> (refine ev1 @hb ?_;try with_reducible exact True.intro)
 unfold szr at hb ⊢
 split at hb
 ·rename_i k;simp [k]
 ·omega
theorem c_szRat {T : Nat → Option Fn} (h : D_laws_szRat T) {r : R} {left : Int} (hw : r.wf:=by first | omega | assumption | (simp;omega)) (h0 : 0 ≤ left ∧ left ≤ 1048576:=by first | omega | assumption | (simp;omega)) : PF T 46 [ratV r,iv left] (iv (szr left r.sz)):=by
 obtain ⟨w1,w2⟩:=hw
 refine pf_end (fun _ _=>false) h.hT rfl rfl ?_
 dsimp only [F_laws_szRat,oN,oS,oG,oK,oA,oH,oV,cI]
 refine ev ?_
 refine PFK_of (c_szBigInt h.d_laws_szBigInt (z:=r.num)) ?_
 refine ev ?_
 have k1:=@szr_le left r.mag.length
 refine brK_dec (fun hb=>?_) fun hb=>?_ <;> refine ev1 @hb ?_
 ·simp only [R.sz,szr_neg hb h0.1]
 ·refine PFK_of (c_szIntS h.d_laws_szIntS) ?_
  refine ev ?_
  rw [szr_add hb]
  refine brK_dec (fun hb2=>?_) fun hb2=>?_ <;> refine ev1 @hb2 ?_
  ·simp only [R.sz]
   unfold szr at hb2 ⊢
   split at hb2
   ·rename_i k;rw [if_pos k]
   ·omega
  ·rfl
theorem c_toBigInt {T : Nat → Option Fn} (h : D_laws_toBigInt T) {z : Bi} (hl : z.mag.length ≤ 1048576:=by first | omega | assumption | (simp;omega)) : PF T 63 [biV z] (biV z):=by
 refine pf_end (fun _ _=>false) h.hT rfl rfl ?_
 dsimp only [F_laws_toBigInt,oN,oS,oG,oK,oA,oH,oV,cI]
 refine ev ?_
 refine PFK_of (c_toIntS h.d_laws_toIntS) ?_
 (refine ev ?_;try with_reducible exact True.intro)
theorem c_toRat {T : Nat → Option Fn} (h : D_laws_toRat T) {r : R} (hl : r.sz ≤ 1048576:=by first | omega | assumption | (simp;omega)) : PF T 48 [ratV r] (ratV r):=by
 unfold R.sz at hl
 refine pf_end (fun _ _=>false) h.hT rfl rfl ?_
 dsimp only [F_laws_toRat,oN,oS,oG,oK,oA,oH,oV,cI]
 refine ev ?_
 refine PFK_of (c_toBigInt h.d_laws_toBigInt (z:=r.num)) ?_
 refine ev ?_
 refine PFK_of (c_toIntS h.d_laws_toIntS) ?_
 (refine ev ?_;try with_reducible exact True.intro)
theorem c_eqBigInt {T : Nat → Option Fn} (h : D_laws_eqBigInt T) {y z : Bi} (hy : y.mag.length ≤ 9223372036854775807:=by first | omega | assumption | (simp;omega)) (hz : z.mag.length ≤ 9223372036854775807:=by first | omega | assumption | (simp;omega)) : PF T 55 [biV y,biV z] (.bool (decide (y = z))):=by
 refine pf_end (fun _ _=>false) h.hT rfl rfl ?_
 dsimp only [F_laws_eqBigInt,oN,oS,oG,oK,oA,oH,oV,cI]
 refine ev ?_
 refine brK_dec (fun hb=>?_) fun hb=>?_ <;> refine ev1 @hb ?_
 ·refine PFK_of (c_eqIntS h.d_laws_eqIntS) ?_
  refine ev ?_
  refine brK_dec (fun hc=>?_) fun hc=>?_ <;> refine ev1 @hc ?_
  ·cases y;cases z;simp_all
  ·cases y;cases z;simp_all
 ·cases y;cases z;simp_all
theorem c_eqRat {T : Nat → Option Fn} (h : D_laws_eqRat T) {y z : R} (hy : y.wf:=by first | omega | assumption | (simp;omega)) (hz : z.wf:=by first | omega | assumption | (simp;omega)) : PF T 40 [ratV y,ratV z] (.bool (decide (y = z))):=by
 obtain ⟨w1,w2⟩:=hy
 obtain ⟨w3,w4⟩:=hz
 refine pf_end (fun _ _=>false) h.hT rfl rfl ?_
 dsimp only [F_laws_eqRat,oN,oS,oG,oK,oA,oH,oV,cI]
 refine ev ?_
 refine PFK_of (c_eqBigInt h.d_laws_eqBigInt (y:=y.num) (z:=z.num)) ?_
 refine ev ?_
 refine brK_dec (fun hb=>?_) fun hb=>?_ <;> refine ev1 @hb ?_
 ·refine PFK_of (c_eqIntS h.d_laws_eqIntS) ?_
  refine ev ?_
  refine brK_dec (fun hc=>?_) fun hc=>?_ <;> refine ev1 @hc ?_
  ·cases y;cases z;simp_all
  ·cases y;cases z;simp_all
 ·cases y;cases z;simp_all
def F_laws_markIntS : Fn:=⟨2,19,[.tmp 4],(.seq (.reg false 0 [oN 4 (.mov (cI 0))]) (.seq (.seq (.reg false 0 [oN 5 (.mov (cI 0))]) (.block 0 (.loop (.seq (.seq (.reg false 0 [oN 6 (oV 5),oN 7 (oV 0),oN 8 (.len (.t 7)),oN 9 (.bin .lss (.t 6) (.t 8))]) (.cond (.t 9) .skip (.exit 0))) (.seq (.block 1 (.seq (.reg false 0 [oN 12 (oV 0),oN 13 (oV 5),oN 14 (oV 1),oN 15 (.idx 1 (.t 12) (.t 13)),oS (.store 1 (.t 15) (.t 14))]) (.reg false 0 [oN 16 (oV 1),oN 17 (.bin .add (.t 16) (cI 1)),oN 1 (oV 17)]))) (.reg false 0 [oN 10 (oV 5),oN 11 (.bin .add (.t 10) (cI 1)),oN 5 (oV 11)])))))) (.seq (.reg false 0 [oN 18 (oV 1),oN 4 (oV 18)]) .ret)))⟩
structure D_laws_markIntS (T : Nat → Option Fn) : Prop where
 hT : T 57 = some F_laws_markIntS
def F_laws_heldIntS : Fn:=⟨2,21,[.tmp 4],(.seq (.reg false 0 [oN 4 (.mov (cI 0))]) (.seq (.seq (.reg false 0 [oN 5 (.mov (cI 0))]) (.block 0 (.loop (.seq (.seq (.reg false 0 [oN 6 (oV 5),oN 7 (oV 0),oN 8 (.len (.t 7)),oN 9 (.bin .lss (.t 6) (.t 8))]) (.cond (.t 9) .skip (.exit 0))) (.seq (.block 1 (.seq (.seq (.reg false 0 [oN 12 (oV 0),oN 13 (oV 5),oN 14 (.idx 1 (.t 12) (.t 13)),oN 15 (.load 1 false (.t 14)),oN 16 (oV 1),oN 17 (.bin .neq (.t 15) (.t 16))]) (.cond (.t 17) (.seq (.reg false 0 [oN 4 (.mov (cI (-1)))]) .ret) .skip)) (.reg false 0 [oN 18 (oV 1),oN 19 (.bin .add (.t 18) (cI 1)),oN 1 (oV 19)]))) (.reg false 0 [oN 10 (oV 5),oN 11 (.bin .add (.t 10) (cI 1)),oN 5 (oV 11)])))))) (.seq (.reg false 0 [oN 20 (oV 1),oN 4 (oV 20)]) .ret)))⟩
structure D_laws_heldIntS (T : Nat → Option Fn) : Prop where
 hT : T 59 = some F_laws_heldIntS
theorem po_copyInts {T : Nat → Option Fn} (h : D_impl_copyInts T) {l : List Int} (hl : l.length ≤ 1048576:=by first | omega | assumption | (simp;omega)) : PO T 139 [ints l] (ints l):=by
 refine po_end2 (fun _ _=>false) h.hT rfl rfl ?_
 dsimp only [F_impl_copyInts,oN,oS,oG,oK,oA,oH,oV,cI,St.enter,List.length_cons,List.length_nil,Nat.zero_add]
 refine ew ?_
 exact ⟨fun e=>fin_ints0 e,fun _=>⟨by omega,fin_ints rfl⟩⟩
theorem po_toIntS {T : Nat → Option Fn} (h : D_laws_toIntS T) {l : List Int} (hl : l.length ≤ 1048576:=by first | omega | assumption | (simp;omega)) : PO T 6 [ints l] (ints l):=by
 refine po_end2 (fun _ _=>false) h.hT rfl rfl ?_
 dsimp only [F_laws_toIntS,oN,oS,oG,oK,oA,oH,oV,cI,St.enter,List.length_cons,List.length_nil,Nat.zero_add]
 refine ew ?_
 refine ⟨by omega,?_⟩
 rw [ir_rep]
 refine loop_at (fun _ _=>false) (α:=Nat) (fun i=>⟨argE [ints l,.any,.any,.msl 0 0 l.length,iv (i : Nat)],[some ⟨1,irows (fillTo l 0 i)⟩],0,0,[],[]⟩) (fun i=>i ≤ l.length) (fun i=>l.length - i) rfl 0 ?_ ?_ ?_
 ·omega
 ·(refine Fg_env ?_) <;> (try (refine ew1 @fillTo_zero ?_)) <;> (repeat' (first | refine ⟨?_,?_⟩ | exact EvV_int (by omega) | exact EvV_of (by simp) | exact EvV_nil _))
 ·intro i hi
  have e1:=fillTo_len l 0 hi
  refine ew1 @e1 ?_
  refine brK_dec (fun hb=>?_) fun hb=>?_ <;> (refine ew2 @hb @e1 ?_)
  ·have e2:=fillTo_set l 0 (i:=i) (by omega)
   have e3 : (default : Int) = 0:=rfl
   rw [e3] at e2
   rw [e2]
   exact ⟨i + 1,by omega,by omega,by (refine Fg_env ?_;exact fgW)⟩
  ·have : i = l.length:=by omega
   subst this
   rw [fillTo_all]
   exact fin_ints rfl
def cnt (n : Nat) (k : Int) : List Int:=(List.range n).map fun i=>k + ((i : Nat) : Int)
theorem cnt_len (n : Nat) (k : Int) : (cnt n k).length = n:=by simp [cnt]
theorem cnt_at {n i : Nat} (k : Int) (h : i < n) : (cnt n k).getD i 0 = k + (i : Nat):=by
 simp [cnt,List.getD_eq_getElem?_getD,h]
def cntTo (l : List Int) (k : Int) (i : Nat) : List Int:=cnt i k ++ l.drop i
theorem cntTo_0 (l : List Int) (k : Int) : cntTo l k 0 = l:=by simp [cntTo,cnt]
theorem cntTo_all (l : List Int) (k : Int) : cntTo l k l.length = cnt l.length k:=by simp [cntTo]
theorem cntTo_len (l : List Int) (k : Int) {i : Nat} (h : i ≤ l.length) : (cntTo l k i).length = l.length:=by simp [cntTo,cnt_len];omega
theorem cntTo_set (l : List Int) (k : Int) {i : Nat} (h : i < l.length) : (cntTo l k i).set i (k + (i : Nat)) = cntTo l k (i + 1):=by
 unfold cntTo
 rw [List.set_append_right _ _ (by rw [cnt_len];exact Nat.le_refl _),cnt_len,Nat.sub_self,List.drop_eq_getElem_cons h,List.set_cons_zero]
 unfold cnt
 rw [List.range_succ,List.map_append]
 simp
theorem mk_markIntS {T : Nat → Option Fn} (h : D_laws_markIntS T) {l : List Int} {k : Int} (hl : l.length ≤ 1000000000:=by first | omega | assumption | (simp;omega)) (hk : 0 ≤ k ∧ k ≤ 1000000000000:=by first | omega | assumption | (simp;omega)) :
  Mk T 57 (ints l) k (ints (cnt l.length k)) (k + l.length):=by
 refine mk_iff fun σ v os ho hn=>?_
 rcases ho.ints_inv with ⟨rfl,rfl,rfl⟩ | ⟨o,rfl,h1,rfl⟩
 ·have : ∃ r σ',Run T (.fn 57 [.sl 1 [],iv k] σ) (.fn r σ') ∧ (r = iv k ∧ σ' = σ):=by
   refine run_end (fun _ _=>false) h.hT rfl rfl ?_
   dsimp only [F_laws_markIntS,oN,oS,oG,oK,oA,oH,oV,cI,St.enter,List.length_cons,List.length_nil,Nat.zero_add]
   refine ew ?_
   refine loop_at (fun _ _=>false) (α:=Nat) (fun i=>⟨argE [.sl 1 [],iv k,.any,.any,.any,iv 0],σ,σ.length,0,[],[]⟩) (fun i=>i = 0) (fun i=>i) rfl 0 ?_ ?_ ?_
   ·rfl
   ·(refine Fg_env ?_;exact fgW)
   ·rintro i rfl
    refine ew ?_
    refine brK_dec (fun hc=>absurd hc (by omega)) fun hc=>?_
    (refine ew ?_;try with_reducible exact True.intro)
  obtain ⟨r,σ',h2,rfl,rfl⟩:=this
  exact ⟨σ',by simpa using h2,ho,Fr.refl _ _⟩
 ·have hlt:=objAt_lt h1
  have : ∃ r σ',Run T (.fn 57 [.msl o 0 l.length,iv k] σ) (.fn r σ') ∧ (r = iv (k + l.length) ∧ objAt σ' o = some ⟨1,irows (cnt l.length k)⟩ ∧ Fr [o] σ σ'):=by
   refine run_end (fun _ _=>false) h.hT rfl rfl ?_
   dsimp only [F_laws_markIntS,oN,oS,oG,oK,oA,oH,oV,cI,St.enter,List.length_cons,List.length_nil,Nat.zero_add]
   refine ew ?_
   refine loop_at (fun _ _=>false) (α:=Nat × Store) (fun q=>⟨argE [.msl o 0 l.length,iv (k + (q.1 : Nat)),.any,.any,.any,iv (q.1 : Nat)],q.2,σ.length,0,[],[]⟩) (fun q=>q.1 ≤ l.length ∧ objAt q.2 o = some ⟨1,irows (cntTo l k q.1)⟩ ∧ Fr [o] σ q.2) (fun q=>l.length - q.1) rfl (0,σ) ?_ ?_ ?_
   ·exact ⟨by omega,by rw [cntTo_0];exact h1,Fr.refl _ _⟩
   ·(refine Fg_env ?_;exact fgW)
   ·rintro ⟨i,s⟩ ⟨hi,h2,h3⟩
    dsimp only at hi h2 h3
    have e1:=cntTo_len l k hi
    have hls:=h3.len
    refine ew1 @h2 ?_
    refine brK_dec (fun hc=>?_) fun hc=>?_ <;> (refine ew3 @hc @h2 @e1 ?_)
    ·have e2:=cntTo_set l k (i:=i) (by omega)
     rw [e2]
     refine ⟨(i + 1,s.set o (some ⟨1,irows (cntTo l k (i + 1))⟩)),by dsimp only;omega,⟨by dsimp only;omega,?_,?_⟩,by (refine Fg_env ?_;exact fgW)⟩
     ·dsimp only;exact objAt_seteq (by omega)
     ·dsimp only;exact h3.trans (fr_set (by simp))
    ·have : i = l.length:=by omega
     subst this
     exact ⟨rfl,by rw [cntTo_all],h3⟩
  obtain ⟨r,σ',h2,rfl,h3,h4⟩:=this
  have:=owV_ints h3
  rw [cnt_len] at this
  exact ⟨σ',h2,this,h4⟩
theorem c_heldIntS {T : Nat → Option Fn} (h : D_laws_heldIntS T) {n : Nat} {k : Int} (hl : n ≤ 1000000000:=by first | omega | assumption | (simp;omega)) (hk : 0 ≤ k ∧ k ≤ 1000000000000:=by first | omega | assumption | (simp;omega)) :
  PF T 59 [ints (cnt n k),iv k] (iv (k + n)):=by
 have hcl:=cnt_len n k
 refine pf_end (fun _ _=>false) h.hT rfl rfl ?_
 dsimp only [F_laws_heldIntS,oN,oS,oG,oK,oA,oH,oV,cI]
 refine ev ?_
 refine loop_at (fun _ _=>false) (α:=Nat) (fun i=>⟨argE [ints (cnt n k),iv (k + (i : Nat)),.any,.any,.any,iv (i : Nat)],[],0,0,[],[]⟩) (fun i=>i ≤ n) (fun i=>n - i) rfl 0 ?_ ?_ ?_
 ·omega
 ·(refine Fg_env ?_;exact fgV)
 ·intro i hi
  refine ev1 @hcl ?_
  refine brK_dec (fun hc=>?_) fun hc=>?_ <;> refine ev2 @hc @hcl ?_
  ·have:=cnt_at k (show i < n by omega)
   refine ev1 @this ?_
   exact ⟨i + 1,by omega,by omega,by (refine Fg_env ?_;exact fgV)⟩
  ·have : i = n:=by omega
   subst this
   rfl
theorem po_toBigInt {T : Nat → Option Fn} (h : D_laws_toBigInt T) {z : Bi} (hl : z.mag.length ≤ 1048576:=by first | omega | assumption | (simp;omega)) : PO T 63 [biV z] (biV z):=by
 refine po_end2 (fun x d=>x == 6) h.hT rfl rfl ?_
 dsimp only [F_laws_toBigInt,oN,oS,oG,oK,oA,oH,oV,cI,St.enter,List.length_cons,List.length_nil,Nat.zero_add]
 refine ew ?_
 refine RefK_got (po_toIntS h.d_laws_toIntS (l:=z.mag) (by omega)) (by (refine ew ?_;try with_reducible exact True.intro)) ?_
 intro r σ2 os g
 have g1:=g.at 1 (by simp) rfl
 have g2:=g.at 2 (by simp) rfl
 have gl : 3 ≤ σ2.length:=g.len
 have lf:=g.lf rfl
 have lb:=g.lfb rfl
 have fr : ∀ o ∈ os,3 ≤ o:=g.fresh
 refine ew4 @g1 @g2 @lf @lb ?_
 refine fin_of (owV_agg (owL_bool (owL_v (g.ow.frame fun o ho=>?_) owL_nil))) (by simpa using g.nd)
 have:=fr o ho
 rw [objAt_setne (by omega),objAt_setne (by omega)]
theorem po_toRat {T : Nat → Option Fn} (h : D_laws_toRat T) {r : R} (hl : r.mag.length + r.den.length ≤ 1048576:=by first | omega | assumption | (simp;omega)) : PO T 48 [ratV r] (ratV r):=by
 refine po_end2 (fun x d=>x == 6 || x == 63) h.hT rfl rfl ?_
 dsimp only [F_laws_toRat,oN,oS,oG,oK,oA,oH,oV,cI,St.enter,List.length_cons,List.length_nil,Nat.zero_add]
 refine ew ?_
 refine RefK_got (po_toBigInt h.d_laws_toBigInt (z:=r.num) (by show r.mag.length ≤ _;omega)) (by (refine ew ?_;try with_reducible exact True.intro)) ?_
 intro r1 σ1 o1 g
 obtain ⟨v1,rfl,k1⟩:=g.ow.bi_inv
 have a0:=g.at 0 (by simp) rfl
 have a1:=g.at 1 (by simp) rfl
 have a2:=g.at 2 (by simp) rfl
 have gl : 3 ≤ σ1.length:=g.len
 have lf:=cells_lf (k1.leaf rfl)
 have lb:=k1.leaf rfl
 have f1 : ∀ o ∈ o1,3 ≤ o:=g.fresh
 refine ew5 @a0 @a1 @a2 @lf @lb ?_
 refine RefK_got (po_toIntS h.d_laws_toIntS (l:=r.den) (by omega)) (by (refine ew ?_;try with_reducible exact True.intro)) ?_
 intro v2 σ2 o2 g2
 have b1:=g2.old 1 (by simp;omega)
 have b2:=g2.old 2 (by simp;omega)
 have gl2 : σ1.length ≤ σ2.length:=by simpa using g2.len
 have lf2:=cells_lf (g2.ow.leaf rfl)
 have lb2:=g2.ow.leaf rfl
 have f2 : ∀ o ∈ o2,σ1.length ≤ o:=by simpa using g2.fresh
 refine ew6 @b1 @b2 @a1 @lf2 @lb2 @lb ?_
 refine fin_of (owV_agg (owL_bool (owL_v (k1.frame fun o ho=>?_) (owL_v (g2.ow.frame fun o ho=>?_) owL_nil)))) ?_
 ·have:=f1 o ho
  have:=k1.lt o ho
  rw [objAt_setne (by omega),objAt_setne (by omega),g2.old o (by simp;omega),objAt_setne (by omega)]
 ·have:=f2 o ho
  rw [objAt_setne (by omega),objAt_setne (by omega)]
 ·rw [List.append_nil,List.nodup_append]
  refine ⟨by simpa using g.nd,g2.nd,fun a ha b hb e=>?_⟩
  have:=k1.lt a ha
  have:=f2 b hb
  omega
def toSF (z : List V) (bytes sz f : Nat) : Fn:=⟨1,23,[.tmp 2],(.seq (.reg false 0 [oN 2 (.mov (.c (.nils)))]) (.seq (.reg false 1 [oK 5 1 (oV 0),oK 6 1 (.len (.t 5)),oN 7 (.make z bytes (.t 6)),oK 3 1 (oV 7)]) (.seq (.seq (.reg false 0 [oN 4 (.mov (cI 0))]) (.block 0 (.loop (.seq (.seq (.reg false 0 [oN 8 (oV 4),oN 9 (oV 0),oN 10 (.len (.t 9)),oN 11 (.bin .lss (.t 8) (.t 10))]) (.cond (.t 11) .skip (.exit 0))) (.seq (.block 1 (.reg false 0 [oN 14 (oV 3),oN 15 (oV 4),oN 16 (oV 0),oN 17 (oV 4),oN 18 (.idx sz (.t 16) (.t 17)),oN 19 (.load sz true (.t 18)),oN 20 (.call f [(.t 19)]),oN 21 (.idx sz (.t 14) (.t 15)),oS (.store sz (.t 21) (.t 20))])) (.reg false 0 [oN 12 (oV 4),oN 13 (.bin .add (.t 12) (cI 1)),oN 4 (oV 13)])))))) (.seq (.reg false 0 [oN 22 (oV 3),oN 2 (oV 22)]) .ret))))⟩
theorem rep_get {α : Type} (A : List α) (z : α) {n i : Nat} (ha : A.length = i) (h : i < n) : (A ++ List.replicate (n - i) z)[i]? = some z:=by
 rw [List.getElem?_append_right (by omega),ha,Nat.sub_self,show n - i = (n - (i + 1)) + 1 by omega,List.replicate_succ];rfl
theorem rep_set {α : Type} (A : List α) (z x : α) {n i : Nat} (ha : A.length = i) (h : i < n) : (A ++ List.replicate (n - i) z).set i x = (A ++ [x]) ++ List.replicate (n - (i + 1)) z:=by
 rw [List.set_append_right _ _ (by omega),ha,Nat.sub_self,show n - i = (n - (i + 1)) + 1 by omega,List.replicate_succ];simp
theorem take_map_succ {α : Type} [Inhabited α] (cl : α → List V) (l : List α) {i : Nat} (h : i < l.length) : (l.take (i + 1)).map cl = (l.take i).map cl ++ [cl (l.getD i default)]:=by
 rw [List.take_add_one,List.getElem?_eq_getElem h,List.getD_eq_getElem?_getD,List.getElem?_eq_getElem h,List.map_append];rfl
theorem resC_still {σ : Store} : ∀ {cs : List V},(∀ v ∈ cs,v.still = true) → resC σ cs = some cs
 | [],_=>rfl
 |
  c :: cs,h=>by
  simp only [resC]
  rw [res_still (n:=10) (h c (by simp)),resC_still fun v hv=>h v (by simp [hv])]
theorem res_agg_still {σ : Store} {cs : List V} (h : ∀ v ∈ cs,v.still = true) : resolve σ FD (.agg cs) = some (.agg cs):=by
 show (cs.mapM (resolve σ 11)).map V.agg = _
 rw [mapM_still (n:=10) h];rfl
theorem po_toS {T : Nat → Option Fn} {n f bytes : Nat} {z : List V} {α : Type} [Inhabited α] {cl : α → List V} {l : List α} (hT : T n = some (toSF z bytes z.length f)) (hb : bytes ≤ 1024) (hl : l.length ≤ 1048576)
  (hcl : ∀ x ∈ l,(cl x).length = z.length ∧ (∀ v ∈ cl x,v.still = true) ∧ (cl x).all V.leaf = true) (hpo : ∀ x ∈ l,PO T f [.agg (cl x)] (.agg (cl x))) : PO T n [.sl z.length (l.map cl)] (.sl z.length (l.map cl)):=by

 refine po_end2 (fun x _=>x == f) hT rfl rfl ?_
 dsimp only [toSF,oN,oS,oG,oK,oA,oH,oV,cI]
 refine ew ?_
 have hbl : l.length * bytes ≤ 1048576 * 1024:=Nat.mul_le_mul hl hb
 refine ⟨by omega,?_⟩
 refine loop_at (fun x _=>x == f) (α:=Nat × Store × List (List V)) (fun q=>⟨argE [.sl z.length (l.map cl),.any,.any,.msl 0 0 l.length,iv (q.1 : Nat)],q.2.1,0,0,[],[]⟩) (fun q=>q.1 ≤ l.length ∧ q.2.2.length = q.1 ∧ objAt q.2.1 0 = some ⟨z.length,q.2.2 ++ List.replicate (l.length - q.1) z⟩ ∧ OwRs 1 q.2.1 q.2.2 ((l.take q.1).map cl) ∧ 1 ≤ q.2.1.length) (fun q=>l.length - q.1) rfl (0,[some ⟨z.length,List.replicate l.length z⟩],[]) ?_ ?_ ?_
 ·exact ⟨by omega,rfl,rfl,by simpa using owRs_nil,by simp⟩
 ·(refine Fg_env ?_;exact fgW)
 ·rintro ⟨i,s,A⟩ ⟨hi,hA,h0,hO,hs⟩
  dsimp only at hi hA h0 hO hs
  refine ew1 @h0 ?_
  refine brK_dec (fun hc=>?_) fun hc=>?_ <;> (refine ew3 @hc @mg @h0 ?_)
  ·have hil : i < l.length:=by omega
   have hx:=getD_mem hil
   obtain ⟨x,hxe⟩ : ∃ x,l.getD i default = x:=⟨_,rfl⟩
   have hts:=take_map_succ cl l hil
   rw [hxe] at hx hts ⊢
   obtain ⟨e1,e2,e3⟩:=hcl x hx
   have e4 : ∀ σ : Store,resC σ (cl x) = some (cl x):=fun σ=>resC_still e2
   have e5 : ∀ σ : Store,resolve σ FD (.agg (cl x)) = some (.agg (cl x)):=fun σ=>res_agg_still e2
   have eb : (f == f) = true:=by simp
   refine ew3 @e1 @e4 @eb ?_
   refine RefK_got (hpo x hx) (by (refine ew1 @e5 ?_;try with_reducible exact True.intro)) ?_
   intro r σ2 os g
   obtain ⟨cs,rfl,k1⟩:=g.ow.agg_inv
   have g0:=g.at 0 (by omega) h0
   have gl:=g.len
   have lf:=cells_agg (k1.leaf e3)
   have cl1 : cs.length = z.length:=by rw [k1.len,e1]
   have r1:=rep_get A z hA hil
   have r2:=rep_set A z cs hA hil
   refine ew5 @g0 @lf @cl1 @r1 @List.drop_length.{0} ?_
   rw [r2]
   refine ⟨(i + 1,σ2.set 0 (some ⟨z.length,(A ++ [cs]) ++ List.replicate (l.length - (i + 1)) z⟩),A ++ [cs]),by dsimp only;omega,⟨by dsimp only;omega,by simp [hA],?_,?_,by simp;omega⟩,by (refine Fg_env ?_;exact fgW)⟩
   ·dsimp only;exact objAt_seteq (by omega)
   ·dsimp only
    rw [hts]
    exact (hO.got g hs).set (by omega)
  ·have ei : i = l.length:=by omega
   subst ei
   rw [Nat.sub_self,List.replicate_zero,List.append_nil] at h0
   rw [List.take_length] at hO
   have:=hO.fin h0 (by omega)
   rw [List.length_map] at this
   exact this
def F_laws_eqPoint : Fn:=⟨2,17,[.tmp 4],(.seq (.reg false 2 [oN 2 (.box (.t 0)),oK 3 1 (.box (.t 1)),oK 4 2 (.mov (.c (.bool false)))]) (.seq (.seq (.reg false 0 [oN 5 (.fld 0 (.t 2)),oN 6 (.load 3 true (.t 5)),oN 7 (.fld 0 (.t 3)),oN 8 (.load 3 true (.t 7)),oN 9 (.call 40 [(.t 6),(.t 8)]),oN 10 (.un .not (.t 9))]) (.cond (.t 10) (.seq (.reg false 0 [oN 4 (.mov (.c (.bool false)))]) .ret) .skip)) (.seq (.seq (.reg false 0 [oN 11 (.fld 3 (.t 2)),oN 12 (.load 3 true (.t 11)),oN 13 (.fld 3 (.t 3)),oN 14 (.load 3 true (.t 13)),oN 15 (.call 40 [(.t 12),(.t 14)]),oN 16 (.un .not (.t 15))]) (.cond (.t 16) (.seq (.reg false 0 [oN 4 (.mov (.c (.bool false)))]) .ret) .skip)) (.seq (.reg false 0 [oN 4 (.mov (.c (.bool true)))]) .ret))))⟩
structure D_laws_eqPoint (T : Nat → Option Fn) : Prop where
 hT : T 33 = some F_laws_eqPoint
 d_laws_eqRat : D_laws_eqRat T
def F_laws_eqPointS : Fn:=⟨2,27,[.tmp 4],(.seq (.reg false 0 [oN 4 (.mov (.c (.bool false)))]) (.seq (.seq (.reg false 0 [oN 6 (oV 0),oN 7 (.len (.t 6)),oN 8 (oV 1),oN 9 (.len (.t 8)),oN 10 (.bin .neq (.t 7) (.t 9))]) (.cond (.t 10) (.seq (.reg false 0 [oN 4 (.mov (.c (.bool false)))]) .ret) .skip)) (.seq (.seq (.reg false 0 [oN 5 (.mov (cI 0))]) (.block 0 (.loop (.seq (.seq (.reg false 0 [oN 11 (oV 5),oN 12 (oV 0),oN 13 (.len (.t 12)),oN 14 (.bin .lss (.t 11) (.t 13))]) (.cond (.t 14) .skip (.exit 0))) (.seq (.block 1 (.seq (.reg true 0 [oN 17 (oV 0),oN 18 (oV 5),oA 19 0 (.idx 6 (.t 17) (.t 18)) [0,1],oA 20 0 (.load 6 true (.t 19)) [2],oN 21 (oV 1),oN 22 (oV 5),oA 23 0 (.idx 6 (.t 21) (.t 22)) [4,5],oA 24 0 (.load 6 true (.t 23)) [6],oA 25 0 (.call 33 [(.t 20),(.t 24)]) [3,7],oA 26 0 (.un .not (.t 25)) [8]]) (.cond (.t 26) (.seq (.reg false 0 [oN 4 (.mov (.c (.bool false)))]) .ret) .skip))) (.reg false 0 [oN 15 (oV 5),oN 16 (.bin .add (.t 15) (cI 1)),oN 5 (oV 16)])))))) (.seq (.reg false 0 [oN 4 (.mov (.c (.bool true)))]) .ret))))⟩
structure D_laws_eqPointS (T : Nat → Option Fn) : Prop where
 hT : T 13 = some F_laws_eqPointS
 d_laws_eqPoint : D_laws_eqPoint T
def F_laws_szLink : Fn:=⟨2,24,[.tmp 4],(.seq (.reg false 1 [oN 2 (.box (.t 0)),oK 4 1 (.mov (cI 0))]) (.seq (.reg false 0 [oN 5 (.fld 2 (.t 2)),oN 6 (.load 3 true (.t 5)),oN 7 (oV 1),oN 8 (.call 46 [(.t 6),(.t 7)]),oN 1 (oV 8)]) (.seq (.seq (.reg false 0 [oN 9 (oV 1),oN 10 (.bin .lss (.t 9) (cI 0))]) (.cond (.t 10) (.seq (.reg false 0 [oN 4 (.mov (cI (-1)))]) .ret) .skip)) (.seq (.reg false 0 [oN 11 (.fld 5 (.t 2)),oN 12 (.load 3 true (.t 11)),oN 13 (oV 1),oN 14 (.call 46 [(.t 12),(.t 13)]),oN 1 (oV 14)]) (.seq (.seq (.reg false 0 [oN 15 (oV 1),oN 16 (.bin .lss (.t 15) (cI 0))]) (.cond (.t 16) (.seq (.reg false 0 [oN 4 (.mov (cI (-1)))]) .ret) .skip)) (.seq (.reg false 0 [oN 17 (.fld 8 (.t 2)),oN 18 (.load 3 true (.t 17)),oN 19 (oV 1),oN 20 (.call 46 [(.t 18),(.t 19)]),oN 1 (oV 20)]) (.seq (.seq (.reg false 0 [oN 21 (oV 1),oN 22 (.bin .lss (.t 21) (cI 0))]) (.cond (.t 22) (.seq (.reg false 0 [oN 4 (.mov (cI (-1)))]) .ret) .skip)) (.seq (.reg false 0 [oN 23 (oV 1),oN 4 (oV 23)]) .ret))))))))⟩
structure D_laws_szLink (T : Nat → Option Fn) : Prop where
 hT : T 43 = some F_laws_szLink
 d_laws_szRat : D_laws_szRat T
def F_laws_toLink : Fn:=⟨1,23,[.cell 2 11 true],(.seq (.reg false 2 [oN 1 (.box (.t 0)),oK 2 1 (.alloc [.int .i64 0,.int .i64 0,.bool false,.nils,.nils,.bool false,.nils,.nils,.bool false,.nils,.nils])]) (.seq (.reg false 1 [oN 3 (.alloc [.int .i64 0,.int .i64 0,.bool false,.nils,.nils,.bool false,.nils,.nils,.bool false,.nils,.nils])]) (.seq (.reg false 0 [oN 4 (.fld 0 (.t 1)),oN 5 (.load 1 false (.t 4)),oN 6 (.fld 0 (.t 3)),oS (.store 1 (.t 6) (.t 5))]) (.seq (.reg false 0 [oN 7 (.fld 1 (.t 1)),oN 8 (.load 1 false (.t 7)),oN 9 (.fld 1 (.t 3)),oS (.store 1 (.t 9) (.t 8))]) (.seq (.reg false 0 [oN 10 (.fld 2 (.t 1)),oN 11 (.load 3 true (.t 10)),oN 12 (.call 48 [(.t 11)]),oN 13 (.fld 2 (.t 3)),oS (.store 3 (.t 13) (.t 12))]) (.seq (.reg false 0 [oN 14 (.fld 5 (.t 1)),oN 15 (.load 3 true (.t 14)),oN 16 (.call 48 [(.t 15)]),oN 17 (.fld 5 (.t 3)),oS (.store 3 (.t 17) (.t 16))]) (.seq (.reg false 0 [oN 18 (.fld 8 (.t 1)),oN 19 (.load 3 true (.t 18)),oN 20 (.call 48 [(.t 19)]),oN 21 (.fld 8 (.t 3)),oS (.store 3 (.t 21) (.t 20))]) (.seq (.reg false 0 [oN 22 (.load 11 true (.t 3)),oS (.store 11 (.t 2) (.t 22))]) .ret))))))))⟩
structure D_laws_toLink (T : Nat → Option Fn) : Prop where
 hT : T 44 = some F_laws_toLink
 d_laws_toRat : D_laws_toRat T
def F_laws_eqLink : Fn:=⟨2,33,[.tmp 4],(.seq (.reg false 2 [oN 2 (.box (.t 0)),oK 3 1 (.box (.t 1)),oK 4 2 (.mov (.c (.bool false)))]) (.seq (.seq (.reg false 0 [oN 5 (.fld 0 (.t 2)),oN 6 (.load 1 false (.t 5)),oN 7 (.fld 0 (.t 3)),oN 8 (.load 1 false (.t 7)),oN 9 (.bin .neq (.t 6) (.t 8))]) (.cond (.t 9) (.seq (.reg false 0 [oN 4 (.mov (.c (.bool false)))]) .ret) .skip)) (.seq (.seq (.reg false 0 [oN 10 (.fld 1 (.t 2)),oN 11 (.load 1 false (.t 10)),oN 12 (.fld 1 (.t 3)),oN 13 (.load 1 false (.t 12)),oN 14 (.bin .neq (.t 11) (.t 13))]) (.cond (.t 14) (.seq (.reg false 0 [oN 4 (.mov (.c (.bool false)))]) .ret) .skip)) (.seq (.seq (.reg false 0 [oN 15 (.fld 2 (.t 2)),oN 16 (.load 3 true (.t 15)),oN 17 (.fld 2 (.t 3)),oN 18 (.load 3 true (.t 17)),oN 19 (.call 40 [(.t 16),(.t 18)]),oN 20 (.un .not (.t 19))]) (.cond (.t 20) (.seq (.reg false 0 [oN 4 (.mov (.c (.bool false)))]) .ret) .skip)) (.seq (.seq (.reg false 0 [oN 21 (.fld 5 (.t 2)),oN 22 (.load 3 true (.t 21)),oN 23 (.fld 5 (.t 3)),oN 24 (.load 3 true (.t 23)),oN 25 (.call 40 [(.t 22),(.t 24)]),oN 26 (.un .not (.t 25))]) (.cond (.t 26) (.seq (.reg false 0 [oN 4 (.mov (.c (.bool false)))]) .ret) .skip)) (.seq (.seq (.reg false 0 [oN 27 (.fld 8 (.t 2)),oN 28 (.load 3 true (.t 27)),oN 29 (.fld 8 (.t 3)),oN 30 (.load 3 true (.t 29)),oN 31 (.call 40 [(.t 28),(.t 30)]),oN 32 (.un .not (.t 31))]) (.cond (.t 32) (.seq (.reg false 0 [oN 4 (.mov (.c (.bool false)))]) .ret) .skip)) (.seq (.reg false 0 [oN 4 (.mov (.c (.bool true)))]) .ret)))))))⟩
structure D_laws_eqLink (T : Nat → Option Fn) : Prop where
 hT : T 16 = some F_laws_eqLink
 d_laws_eqRat : D_laws_eqRat T
def F_laws_szLinkS : Fn:=⟨2,27,[.tmp 4],(.seq (.reg false 0 [oN 4 (.mov (cI 0))]) (.seq (.reg false 0 [oN 6 (oV 1),oN 7 (oV 0),oN 8 (.len (.t 7)),oN 9 (.bin .sub (.t 6) (.t 8)),oN 1 (oV 9)]) (.seq (.seq (.reg false 0 [oN 10 (oV 1),oN 11 (.bin .lss (.t 10) (cI 0))]) (.cond (.t 11) (.seq (.reg false 0 [oN 4 (.mov (cI (-1)))]) .ret) .skip)) (.seq (.seq (.reg false 0 [oN 5 (.mov (cI 0))]) (.block 0 (.loop (.seq (.seq (.reg false 0 [oN 12 (oV 5),oN 13 (oV 0),oN 14 (.len (.t 13)),oN 15 (.bin .lss (.t 12) (.t 14))]) (.cond (.t 15) .skip (.exit 0))) (.seq (.block 1 (.seq (.reg false 0 [oN 18 (oV 0),oN 19 (oV 5),oN 20 (.idx 11 (.t 18) (.t 19)),oN 21 (.load 11 true (.t 20)),oN 22 (oV 1),oN 23 (.call 43 [(.t 21),(.t 22)]),oN 1 (oV 23)]) (.seq (.reg false 0 [oN 24 (oV 1),oN 25 (.bin .lss (.t 24) (cI 0))]) (.cond (.t 25) (.seq (.reg false 0 [oN 4 (.mov (cI (-1)))]) .ret) .skip)))) (.reg false 0 [oN 16 (oV 5),oN 17 (.bin .add (.t 16) (cI 1)),oN 5 (oV 17)])))))) (.seq (.reg false 0 [oN 26 (oV 1),oN 4 (oV 26)]) .ret)))))⟩
structure D_laws_szLinkS (T : Nat → Option Fn) : Prop where
 hT : T 19 = some F_laws_szLinkS
 d_laws_szLink : D_laws_szLink T
def F_laws_toLinkS : Fn:=⟨1,23,[.tmp 2],(.seq (.reg false 0 [oN 2 (.mov (.c (.nils)))]) (.seq (.reg false 1 [oK 5 1 (oV 0),oK 6 1 (.len (.t 5)),oN 7 (.make [.int .i64 0,.int .i64 0,.bool false,.nils,.nils,.bool false,.nils,.nils,.bool false,.nils,.nils] 184 (.t 6)),oK 3 1 (oV 7)]) (.seq (.seq (.reg false 0 [oN 4 (.mov (cI 0))]) (.block 0 (.loop (.seq (.seq (.reg false 0 [oN 8 (oV 4),oN 9 (oV 0),oN 10 (.len (.t 9)),oN 11 (.bin .lss (.t 8) (.t 10))]) (.cond (.t 11) .skip (.exit 0))) (.seq (.block 1 (.reg false 0 [oN 14 (oV 3),oN 15 (oV 4),oN 16 (oV 0),oN 17 (oV 4),oN 18 (.idx 11 (.t 16) (.t 17)),oN 19 (.load 11 true (.t 18)),oN 20 (.call 44 [(.t 19)]),oN 21 (.idx 11 (.t 14) (.t 15)),oS (.store 11 (.t 21) (.t 20))])) (.reg false 0 [oN 12 (oV 4),oN 13 (.bin .add (.t 12) (cI 1)),oN 4 (oV 13)])))))) (.seq (.reg false 0 [oN 22 (oV 3),oN 2 (oV 22)]) .ret))))⟩
structure D_laws_toLinkS (T : Nat → Option Fn) : Prop where
 hT : T 21 = some F_laws_toLinkS
 d_laws_toLink : D_laws_toLink T
def F_laws_eqLinkS : Fn:=⟨2,27,[.tmp 4],(.seq (.reg false 0 [oN 4 (.mov (.c (.bool false)))]) (.seq (.seq (.reg false 0 [oN 6 (oV 0),oN 7 (.len (.t 6)),oN 8 (oV 1),oN 9 (.len (.t 8)),oN 10 (.bin .neq (.t 7) (.t 9))]) (.cond (.t 10) (.seq (.reg false 0 [oN 4 (.mov (.c (.bool false)))]) .ret) .skip)) (.seq (.seq (.reg false 0 [oN 5 (.mov (cI 0))]) (.block 0 (.loop (.seq (.seq (.reg false 0 [oN 11 (oV 5),oN 12 (oV 0),oN 13 (.len (.t 12)),oN 14 (.bin .lss (.t 11) (.t 13))]) (.cond (.t 14) .skip (.exit 0))) (.seq (.block 1 (.seq (.reg true 0 [oN 17 (oV 0),oN 18 (oV 5),oA 19 0 (.idx 11 (.t 17) (.t 18)) [0,1],oA 20 0 (.load 11 true (.t 19)) [2],oN 21 (oV 1),oN 22 (oV 5),oA 23 0 (.idx 11 (.t 21) (.t 22)) [4,5],oA 24 0 (.load 11 true (.t 23)) [6],oA 25 0 (.call 16 [(.t 20),(.t 24)]) [3,7],oA 26 0 (.un .not (.t 25)) [8]]) (.cond (.t 26) (.seq (.reg false 0 [oN 4 (.mov (.c (.bool false)))]) .ret) .skip))) (.reg false 0 [oN 15 (oV 5),oN 16 (.bin .add (.t 15) (cI 1)),oN 5 (oV 16)])))))) (.seq (.reg false 0 [oN 4 (.mov (.c (.bool true)))]) .ret))))⟩
structure D_laws_eqLinkS (T : Nat → Option Fn) : Prop where
 hT : T 23 = some F_laws_eqLinkS
 d_laws_eqLink : D_laws_eqLink T
theorem c_eqPoint {T : Nat → Option Fn} (h : D_laws_eqPoint T) {x y : Pt} (hx : x.wf:=by first | omega | assumption | (simp;omega)) (hy : y.wf:=by first | omega | assumption | (simp;omega)) : PF T 33 [ptV x,ptV y] (.bool (decide (x = y))):=by
 obtain ⟨w0,w1⟩:=hx
 obtain ⟨v0,v1⟩:=hy
 refine pf_end (fun _ _=>false) h.hT rfl rfl ?_
 dsimp only [F_laws_eqPoint,oN,oS,oG,oK,oA,oH,oV,cI]
 refine ev ?_
 refine PFK_of (c_eqRat h.d_laws_eqRat (y:=x.x) (z:=y.x) w0 v0) ?_
 refine ev ?_
 refine brK_dec (fun hb0=>?_) fun hb0=>?_ <;> refine ev1 @hb0 ?_
 rotate_left
 ·cases x;cases y;simp_all
 refine PFK_of (c_eqRat h.d_laws_eqRat (y:=x.y) (z:=y.y) w1 v1) ?_
 refine ev ?_
 refine brK_dec (fun hb1=>?_) fun hb1=>?_ <;> refine ev1 @hb1 ?_
 rotate_left
 ·cases x;cases y;simp_all
 ·cases x;cases y;simp_all
theorem c_eqPointS {T : Nat → Option Fn} (h : D_laws_eqPointS T) {a b : List Pt} (ha : wfL Pt.wf a:=by first | omega | assumption | (simp;omega)) (hb : wfL Pt.wf b:=by first | omega | assumption | (simp;omega)) : PF T 13 [ptsV a,ptsV b] (.bool (decide (a = b))):=by
 have l1:=ha.1
 have l2:=hb.1
 refine pf_end (fun _ _=>false) h.hT rfl rfl ?_
 dsimp only [F_laws_eqPointS,oN,oS,oG,oK,oA,oH,oV,cI]
 refine ev ?_
 refine brK_dec (fun h1=>?_) fun h1=>?_ <;> refine ev1 @h1 ?_
 ·have h1 : a.length = b.length:=by omega
  refine loop_at (fun _ _=>false) (α:=Nat) (fun i=>⟨argE [ptsV a,ptsV b,.any,.any,.any,iv (i : Nat)],[],0,0,[],[]⟩) (fun i=>i ≤ a.length ∧ ∀ j,j < i → a.getD j default = b.getD j default) (fun i=>a.length - i) rfl 0 ?_ ?_ ?_
  ·exact ⟨by omega,by intro j hj;omega⟩
  ·(refine Fg_env ?_;exact fgV)
  ·rintro i ⟨hi,hj⟩
   refine ev ?_
   refine brK_dec (fun h2=>?_) fun h2=>?_ <;> refine ev2 @h2 @mg ?_
   ·refine PFK_of (c_eqPoint h.d_laws_eqPoint (x:=a.getD i default) (y:=b.getD i default) (ha.at_ (by omega)) (hb.at_ (by omega))) ?_
    refine ev ?_
    refine brK_dec (fun h3=>?_) fun h3=>?_ <;> refine ev1 @h3 ?_
    ·refine ⟨i + 1,by omega,⟨by omega,fun j hj'=>?_⟩,by (refine Fg_env ?_;exact fgV)⟩
     by_cases e : j = i
     ·subst e;exact h3
     ·exact hj j (by omega)
    ·have : ¬ a = b:=fun e=>h3 (by rw [e])
     simp [this]
   ·have : a = b:=getD_ext' h1 fun j h=>hj j (by omega)
    simp [this]
 ·have : ¬ a = b:=fun e=>h1 (by rw [e])
  simp [this]
theorem c_szLink {T : Nat → Option Fn} (h : D_laws_szLink T) {x : Lk} {left : Int} (hw : x.wf:=by first | omega | assumption | (simp;omega)) (h0 : 0 ≤ left ∧ left ≤ 1048576:=by first | omega | assumption | (simp;omega)) : PF T 43 [lkV x,iv left] (iv (szr left x.sz)):=by
 obtain ⟨w0,w1,w2⟩:=hw
 refine pf_end (fun _ _=>false) h.hT rfl rfl ?_
 dsimp only [F_laws_szLink,oN,oS,oG,oK,oA,oH,oV,cI]
 refine ev ?_
 refine PFK_of (c_szRat h.d_laws_szRat (r:=x.w) w0 ⟨by omega,by omega⟩) ?_
 refine ev ?_
 have k0:=@szr_le left (x.w.sz)
 refine brK_dec (fun hb0=>?_) fun hb0=>?_ <;> refine ev1 @hb0 ?_
 ·rw [show x.sz = (x.w.sz) + (x.dx.sz + x.dy.sz) from by (unfold Lk.sz;omega),szr_neg hb0 h0.1]
 refine PFK_of (c_szRat h.d_laws_szRat (r:=x.dx) w1 ⟨by omega,by omega⟩) ?_
 refine ev ?_
 rw [szr_add hb0]
 have k1:=@szr_le left (x.w.sz + x.dx.sz)
 refine brK_dec (fun hb1=>?_) fun hb1=>?_ <;> refine ev1 @hb1 ?_
 ·rw [show x.sz = (x.w.sz + x.dx.sz) + (x.dy.sz) from by (unfold Lk.sz;omega),szr_neg hb1 h0.1]
 refine PFK_of (c_szRat h.d_laws_szRat (r:=x.dy) w2 ⟨by omega,by omega⟩) ?_
 refine ev ?_
 rw [szr_add hb1]
 have k2:=@szr_le left (x.w.sz + x.dx.sz + x.dy.sz)
 refine brK_dec (fun hb2=>?_) fun hb2=>?_ <;> refine ev1 @hb2 ?_
 ·rw [show x.sz = x.w.sz + x.dx.sz + x.dy.sz from rfl,szr_neg0 hb2 h0.1]
 ·rfl
theorem c_toLink {T : Nat → Option Fn} (h : D_laws_toLink T) {x : Lk} (hl : x.sz ≤ 1048576:=by first | omega | assumption | (simp;omega)) : PF T 44 [lkV x] (lkV x):=by
 unfold Lk.sz at hl
 refine pf_end (fun _ _=>false) h.hT rfl rfl ?_
 dsimp only [F_laws_toLink,oN,oS,oG,oK,oA,oH,oV,cI]
 refine ev ?_
 refine PFK_of (c_toRat h.d_laws_toRat (r:=x.w) (by omega)) ?_
 refine ev ?_
 refine PFK_of (c_toRat h.d_laws_toRat (r:=x.dx) (by omega)) ?_
 refine ev ?_
 refine PFK_of (c_toRat h.d_laws_toRat (r:=x.dy) (by omega)) ?_
 (refine ev ?_;try with_reducible exact True.intro)
theorem c_eqLink {T : Nat → Option Fn} (h : D_laws_eqLink T) {x y : Lk} (hx : x.wf:=by first | omega | assumption | (simp;omega)) (hy : y.wf:=by first | omega | assumption | (simp;omega)) : PF T 16 [lkV x,lkV y] (.bool (decide (x = y))):=by
 obtain ⟨w0,w1,w2⟩:=hx
 obtain ⟨v0,v1,v2⟩:=hy
 refine pf_end (fun _ _=>false) h.hT rfl rfl ?_
 dsimp only [F_laws_eqLink,oN,oS,oG,oK,oA,oH,oV,cI]
 refine ev ?_
 refine brK_dec (fun hb0=>?_) fun hb0=>?_ <;> refine ev1 @hb0 ?_
 rotate_left
 ·cases x;cases y;simp_all
 refine brK_dec (fun hb1=>?_) fun hb1=>?_ <;> refine ev1 @hb1 ?_
 rotate_left
 ·cases x;cases y;simp_all
 refine PFK_of (c_eqRat h.d_laws_eqRat (y:=x.w) (z:=y.w) w0 v0) ?_
 refine ev ?_
 refine brK_dec (fun hb2=>?_) fun hb2=>?_ <;> refine ev1 @hb2 ?_
 rotate_left
 ·cases x;cases y;simp_all
 refine PFK_of (c_eqRat h.d_laws_eqRat (y:=x.dx) (z:=y.dx) w1 v1) ?_
 refine ev ?_
 refine brK_dec (fun hb3=>?_) fun hb3=>?_ <;> refine ev1 @hb3 ?_
 rotate_left
 ·cases x;cases y;simp_all
 refine PFK_of (c_eqRat h.d_laws_eqRat (y:=x.dy) (z:=y.dy) w2 v2) ?_
 refine ev ?_
 refine brK_dec (fun hb4=>?_) fun hb4=>?_ <;> refine ev1 @hb4 ?_
 rotate_left
 ·cases x;cases y;simp_all
 ·cases x;cases y;simp_all
theorem c_szLinkS {T : Nat → Option Fn} (h : D_laws_szLinkS T) {l : List Lk} {left : Int} (hw : wfL Lk.wf l:=by first | omega | assumption | (simp;omega)) (h0 : 0 ≤ left ∧ left ≤ 1048576:=by first | omega | assumption | (simp;omega)) : PF T 19 [lksV l,iv left] (iv (szr left (szL Lk.sz l))):=by
 have hlen:=hw.1
 refine pf_end (fun _ _=>false) h.hT rfl rfl ?_
 dsimp only [F_laws_szLinkS,oN,oS,oG,oK,oA,oH,oV,cI]
 refine ev ?_
 refine brK_dec (fun hb=>?_) fun hb=>?_ <;> refine ev1 @hb ?_
 ·rw [szr_no (by rw [szL_eq];omega)]
 refine loop_at (fun _ _=>false) (α:=Nat) (fun i=>⟨argE [lksV l,iv (left - (l.length : Nat) - (sumTo Lk.sz l i : Nat)),.any,.any,.any,iv (i : Nat)],[],0,0,[],[]⟩) (fun i=>i ≤ l.length ∧ (l.length : Int) + (sumTo Lk.sz l i : Nat) ≤ left) (fun i=>l.length - i) rfl 0 ?_ ?_ ?_
 ·rw [sumTo_zero];omega
 ·(refine Fg_env ?_) <;> (try (refine ev1 @sumTo_zero ?_)) <;> (repeat' (first | refine ⟨?_,?_⟩ | exact EvV_int (by omega) | exact EvV_of (by simp) | exact EvV_nil _))
 ·rintro i ⟨hi,hs⟩
  refine ev ?_
  refine brK_dec (fun hc=>?_) fun hc=>?_ <;> refine ev2 @hc @mg ?_
  ·refine PFK_of (c_szLink h.d_laws_szLink (x:=l.getD i default) (hw.at_ (by omega)) ⟨by omega,by omega⟩) ?_
   refine ev ?_
   have k1:=sumTo_mono Lk.sz (l:=l) (i:=i) (by omega)
   have k2:=sumTo_succ Lk.sz (l:=l) (i:=i) (by omega)
   refine brK_dec (fun hd=>?_) fun hd=>?_ <;> refine ev1 @hd ?_
   ·have:=szr_lt hd (by omega)
    rw [szr_no (left:=left) (by rw [szL_eq];omega)]
   ·have e1 : szr (left - (l.length : Nat) - (sumTo Lk.sz l i : Nat)) (Lk.sz (l.getD i default)) = left - (l.length : Nat) - (sumTo Lk.sz l (i + 1) : Nat):=by
     rw [szr_ok (szr_nlt hd)];omega
    rw [show (l.getD i default).sz = Lk.sz (l.getD i default) from rfl,e1] at hd ⊢
    exact ⟨i + 1,by omega,⟨by omega,by omega⟩,by (refine Fg_env ?_;exact fgV)⟩
  ·have : i = l.length:=by omega
   subst this
   rw [sumTo_all] at hs ⊢
   rw [szr_ok (by rw [szL_eq];omega)];rw [szL_eq]
   congr 1;omega
theorem c_toLinkS {T : Nat → Option Fn} (h : D_laws_toLinkS T) {l : List Lk} (hl : szL Lk.sz l ≤ 1048576:=by first | omega | assumption | (simp;omega)) : PF T 21 [lksV l] (lksV l):=by
 rw [szL_eq] at hl
 refine pf_end (fun _ _=>false) h.hT rfl rfl ?_
 dsimp only [F_laws_toLinkS,oN,oS,oG,oK,oA,oH,oV,cI]
 refine ev ?_
 refine ⟨by omega,?_⟩
 refine loop_at (fun _ _=>false) (α:=Nat) (fun i=>⟨argE [lksV l,.any,.any,.msl 0 0 l.length,iv (i : Nat)],[some ⟨11,fillR Lk.cells l [iv 0,iv 0,.bool false,.nils,.nils,.bool false,.nils,.nils,.bool false,.nils,.nils] i⟩],0,0,[],[]⟩) (fun i=>i ≤ l.length) (fun i=>l.length - i) rfl 0 ?_ ?_ ?_
 ·omega
 ·(refine Fg_env ?_) <;> (try (refine ev1 @fillR_zero ?_)) <;> (repeat' (first | refine ⟨?_,?_⟩ | exact EvV_int (by omega) | exact EvV_of (by simp) | exact EvV_nil _))
 ·intro i hi
  have e1:=fillR_len Lk.cells l [iv 0,iv 0,.bool false,.nils,.nils,.bool false,.nils,.nils,.bool false,.nils,.nils] hi
  refine ev1 @e1 ?_
  refine brK_dec (fun hb=>?_) fun hb=>?_ <;> refine ev3 @hb @e1 @mg ?_
  ·have k1:=sumTo_mono Lk.sz (l:=l) (i:=i) (by omega)
   refine PFK_of (c_toLink h.d_laws_toLink (x:=l.getD i default) (by first | omega | (change Lk.sz _ ≤ _;omega))) ?_
   have e0:=fillR_get Lk.cells l [iv 0,iv 0,.bool false,.nils,.nils,.bool false,.nils,.nils,.bool false,.nils,.nils] (i:=i) (by omega)
   refine ev2 @e0 @e1 ?_
   have e2:=fillR_set Lk.cells l [iv 0,iv 0,.bool false,.nils,.nils,.bool false,.nils,.nils,.bool false,.nils,.nils] (i:=i) (by omega)
   refine ⟨i + 1,by omega,by omega,Fg_env' ?_ (by rw [← e2])⟩
   refine ev ?_
   repeat' (first | refine ⟨?_,?_⟩ | exact EvV_int (by omega) | exact EvV_of (by simp))
  ·have : i = l.length:=by omega
   subst this
   rw [fillR_all,resO_st (still_map (f:=Lk.cells) (l:=l) (by intro x _ v hv;simp at hv;rcases hv with rfl | rfl | rfl | rfl | rfl | rfl | rfl | rfl | rfl | rfl | rfl <;> rfl)) (by simp),List.drop_zero,List.take_of_length_le (by simp)];rfl
theorem c_eqLinkS {T : Nat → Option Fn} (h : D_laws_eqLinkS T) {a b : List Lk} (ha : wfL Lk.wf a:=by first | omega | assumption | (simp;omega)) (hb : wfL Lk.wf b:=by first | omega | assumption | (simp;omega)) : PF T 23 [lksV a,lksV b] (.bool (decide (a = b))):=by
 have l1:=ha.1
 have l2:=hb.1
 refine pf_end (fun _ _=>false) h.hT rfl rfl ?_
 dsimp only [F_laws_eqLinkS,oN,oS,oG,oK,oA,oH,oV,cI]
 refine ev ?_
 refine brK_dec (fun h1=>?_) fun h1=>?_ <;> refine ev1 @h1 ?_
 ·have h1 : a.length = b.length:=by omega
  refine loop_at (fun _ _=>false) (α:=Nat) (fun i=>⟨argE [lksV a,lksV b,.any,.any,.any,iv (i : Nat)],[],0,0,[],[]⟩) (fun i=>i ≤ a.length ∧ ∀ j,j < i → a.getD j default = b.getD j default) (fun i=>a.length - i) rfl 0 ?_ ?_ ?_
  ·exact ⟨by omega,by intro j hj;omega⟩
  ·(refine Fg_env ?_;exact fgV)
  ·rintro i ⟨hi,hj⟩
   refine ev ?_
   refine brK_dec (fun h2=>?_) fun h2=>?_ <;> refine ev2 @h2 @mg ?_
   ·refine PFK_of (c_eqLink h.d_laws_eqLink (x:=a.getD i default) (y:=b.getD i default) (ha.at_ (by omega)) (hb.at_ (by omega))) ?_
    refine ev ?_
    refine brK_dec (fun h3=>?_) fun h3=>?_ <;> refine ev1 @h3 ?_
    ·refine ⟨i + 1,by omega,⟨by omega,fun j hj'=>?_⟩,by (refine Fg_env ?_;exact fgV)⟩
     by_cases e : j = i
     ·subst e;exact h3
     ·exact hj j (by omega)
    ·have : ¬ a = b:=fun e=>h3 (by rw [e])
     simp [this]
   ·have : a = b:=getD_ext' h1 fun j h=>hj j (by omega)
    simp [this]
 ·have : ¬ a = b:=fun e=>h1 (by rw [e])
  simp [this]
def F_laws_markPointS : Fn:=⟨2,69,[.tmp 4],(.seq (.reg false 0 [oN 4 (.mov (cI 0))]) (.seq (.seq (.reg false 0 [oN 5 (.mov (cI 0))]) (.block 0 (.loop (.seq (.seq (.reg false 0 [oN 6 (oV 5),oN 7 (oV 0),oN 8 (.len (.t 7)),oN 9 (.bin .lss (.t 6) (.t 8))]) (.cond (.t 9) .skip (.exit 0))) (.seq (.block 1 (.seq (.reg false 0 [oN 12 (oV 0),oN 13 (oV 5),oN 14 (oV 1),oN 15 (.bin .rem (.t 14) (cI 3)),oN 16 (.bin .eql (.t 15) (cI 0)),oN 17 (.idx 6 (.t 12) (.t 13)),oN 18 (.fld 0 (.t 17)),oN 19 (.fld 0 (.t 18)),oN 20 (.fld 0 (.t 19)),oS (.store 1 (.t 20) (.t 16))]) (.seq (.reg false 0 [oN 21 (oV 1),oN 22 (.bin .add (.t 21) (cI 1)),oN 1 (oV 22)]) (.seq (.reg false 0 [oN 23 (oV 0),oN 24 (oV 5),oN 25 (.idx 6 (.t 23) (.t 24)),oN 26 (.fld 0 (.t 25)),oN 27 (.fld 0 (.t 26)),oN 28 (.fld 1 (.t 27)),oN 29 (.load 1 false (.t 28)),oN 30 (oV 1),oN 31 (.call 57 [(.t 29),(.t 30)]),oN 1 (oV 31)]) (.seq (.reg false 0 [oN 32 (oV 0),oN 33 (oV 5),oN 34 (.idx 6 (.t 32) (.t 33)),oN 35 (.fld 0 (.t 34)),oN 36 (.fld 2 (.t 35)),oN 37 (.load 1 false (.t 36)),oN 38 (oV 1),oN 39 (.call 57 [(.t 37),(.t 38)]),oN 1 (oV 39)]) (.seq (.reg false 0 [oN 40 (oV 0),oN 41 (oV 5),oN 42 (oV 1),oN 43 (.bin .rem (.t 42) (cI 3)),oN 44 (.bin .eql (.t 43) (cI 0)),oN 45 (.idx 6 (.t 40) (.t 41)),oN 46 (.fld 3 (.t 45)),oN 47 (.fld 0 (.t 46)),oN 48 (.fld 0 (.t 47)),oS (.store 1 (.t 48) (.t 44))]) (.seq (.reg false 0 [oN 49 (oV 1),oN 50 (.bin .add (.t 49) (cI 1)),oN 1 (oV 50)]) (.seq (.reg false 0 [oN 51 (oV 0),oN 52 (oV 5),oN 53 (.idx 6 (.t 51) (.t 52)),oN 54 (.fld 3 (.t 53)),oN 55 (.fld 0 (.t 54)),oN 56 (.fld 1 (.t 55)),oN 57 (.load 1 false (.t 56)),oN 58 (oV 1),oN 59 (.call 57 [(.t 57),(.t 58)]),oN 1 (oV 59)]) (.reg false 0 [oN 60 (oV 0),oN 61 (oV 5),oN 62 (.idx 6 (.t 60) (.t 61)),oN 63 (.fld 3 (.t 62)),oN 64 (.fld 2 (.t 63)),oN 65 (.load 1 false (.t 64)),oN 66 (oV 1),oN 67 (.call 57 [(.t 65),(.t 66)]),oN 1 (oV 67)]))))))))) (.reg false 0 [oN 10 (oV 5),oN 11 (.bin .add (.t 10) (cI 1)),oN 5 (oV 11)])))))) (.seq (.reg false 0 [oN 68 (oV 1),oN 4 (oV 68)]) .ret)))⟩
structure D_laws_markPointS (T : Nat → Option Fn) : Prop where
 hT : T 334 = some F_laws_markPointS
 d_laws_markIntS : D_laws_markIntS T
def F_laws_markLinkS : Fn:=⟨2,111,[.tmp 4],(.seq (.reg false 0 [oN 4 (.mov (cI 0))]) (.seq (.seq (.reg false 0 [oN 5 (.mov (cI 0))]) (.block 0 (.loop (.seq (.seq (.reg false 0 [oN 6 (oV 5),oN 7 (oV 0),oN 8 (.len (.t 7)),oN 9 (.bin .lss (.t 6) (.t 8))]) (.cond (.t 9) .skip (.exit 0))) (.seq (.block 1 (.seq (.reg false 0 [oN 12 (oV 0),oN 13 (oV 5),oN 14 (oV 1),oN 15 (.idx 11 (.t 12) (.t 13)),oN 16 (.fld 0 (.t 15)),oS (.store 1 (.t 16) (.t 14))]) (.seq (.reg false 0 [oN 17 (oV 1),oN 18 (.bin .add (.t 17) (cI 1)),oN 1 (oV 18)]) (.seq (.reg false 0 [oN 19 (oV 0),oN 20 (oV 5),oN 21 (oV 1),oN 22 (.idx 11 (.t 19) (.t 20)),oN 23 (.fld 1 (.t 22)),oS (.store 1 (.t 23) (.t 21))]) (.seq (.reg false 0 [oN 24 (oV 1),oN 25 (.bin .add (.t 24) (cI 1)),oN 1 (oV 25)]) (.seq (.reg false 0 [oN 26 (oV 0),oN 27 (oV 5),oN 28 (oV 1),oN 29 (.bin .rem (.t 28) (cI 3)),oN 30 (.bin .eql (.t 29) (cI 0)),oN 31 (.idx 11 (.t 26) (.t 27)),oN 32 (.fld 2 (.t 31)),oN 33 (.fld 0 (.t 32)),oN 34 (.fld 0 (.t 33)),oS (.store 1 (.t 34) (.t 30))]) (.seq (.reg false 0 [oN 35 (oV 1),oN 36 (.bin .add (.t 35) (cI 1)),oN 1 (oV 36)]) (.seq (.reg false 0 [oN 37 (oV 0),oN 38 (oV 5),oN 39 (.idx 11 (.t 37) (.t 38)),oN 40 (.fld 2 (.t 39)),oN 41 (.fld 0 (.t 40)),oN 42 (.fld 1 (.t 41)),oN 43 (.load 1 false (.t 42)),oN 44 (oV 1),oN 45 (.call 57 [(.t 43),(.t 44)]),oN 1 (oV 45)]) (.seq (.reg false 0 [oN 46 (oV 0),oN 47 (oV 5),oN 48 (.idx 11 (.t 46) (.t 47)),oN 49 (.fld 2 (.t 48)),oN 50 (.fld 2 (.t 49)),oN 51 (.load 1 false (.t 50)),oN 52 (oV 1),oN 53 (.call 57 [(.t 51),(.t 52)]),oN 1 (oV 53)]) (.seq (.reg false 0 [oN 54 (oV 0),oN 55 (oV 5),oN 56 (oV 1),oN 57 (.bin .rem (.t 56) (cI 3)),oN 58 (.bin .eql (.t 57) (cI 0)),oN 59 (.idx 11 (.t 54) (.t 55)),oN 60 (.fld 5 (.t 59)),oN 61 (.fld 0 (.t 60)),oN 62 (.fld 0 (.t 61)),oS (.store 1 (.t 62) (.t 58))]) (.seq (.reg false 0 [oN 63 (oV 1),oN 64 (.bin .add (.t 63) (cI 1)),oN 1 (oV 64)]) (.seq (.reg false 0 [oN 65 (oV 0),oN 66 (oV 5),oN 67 (.idx 11 (.t 65) (.t 66)),oN 68 (.fld 5 (.t 67)),oN 69 (.fld 0 (.t 68)),oN 70 (.fld 1 (.t 69)),oN 71 (.load 1 false (.t 70)),oN 72 (oV 1),oN 73 (.call 57 [(.t 71),(.t 72)]),oN 1 (oV 73)]) (.seq (.reg false 0 [oN 74 (oV 0),oN 75 (oV 5),oN 76 (.idx 11 (.t 74) (.t 75)),oN 77 (.fld 5 (.t 76)),oN 78 (.fld 2 (.t 77)),oN 79 (.load 1 false (.t 78)),oN 80 (oV 1),oN 81 (.call 57 [(.t 79),(.t 80)]),oN 1 (oV 81)]) (.seq (.reg false 0 [oN 82 (oV 0),oN 83 (oV 5),oN 84 (oV 1),oN 85 (.bin .rem (.t 84) (cI 3)),oN 86 (.bin .eql (.t 85) (cI 0)),oN 87 (.idx 11 (.t 82) (.t 83)),oN 88 (.fld 8 (.t 87)),oN 89 (.fld 0 (.t 88)),oN 90 (.fld 0 (.t 89)),oS (.store 1 (.t 90) (.t 86))]) (.seq (.reg false 0 [oN 91 (oV 1),oN 92 (.bin .add (.t 91) (cI 1)),oN 1 (oV 92)]) (.seq (.reg false 0 [oN 93 (oV 0),oN 94 (oV 5),oN 95 (.idx 11 (.t 93) (.t 94)),oN 96 (.fld 8 (.t 95)),oN 97 (.fld 0 (.t 96)),oN 98 (.fld 1 (.t 97)),oN 99 (.load 1 false (.t 98)),oN 100 (oV 1),oN 101 (.call 57 [(.t 99),(.t 100)]),oN 1 (oV 101)]) (.reg false 0 [oN 102 (oV 0),oN 103 (oV 5),oN 104 (.idx 11 (.t 102) (.t 103)),oN 105 (.fld 8 (.t 104)),oN 106 (.fld 2 (.t 105)),oN 107 (.load 1 false (.t 106)),oN 108 (oV 1),oN 109 (.call 57 [(.t 107),(.t 108)]),oN 1 (oV 109)]))))))))))))))))) (.reg false 0 [oN 10 (oV 5),oN 11 (.bin .add (.t 10) (cI 1)),oN 5 (oV 11)])))))) (.seq (.reg false 0 [oN 110 (oV 1),oN 4 (oV 110)]) .ret)))⟩
structure D_laws_markLinkS (T : Nat → Option Fn) : Prop where
 hT : T 118 = some F_laws_markLinkS
 d_laws_markIntS : D_laws_markIntS T
def R.ct (x : R) : Nat:=1 + x.mag.length + x.den.length
def R.mk3 (k : Int) (x : R) : R:=⟨decide ((k).tmod 3 = 0),cnt x.mag.length (k + 1),cnt x.den.length (k + 1 + x.mag.length)⟩
def Pt.ct (x : Pt) : Nat:=1 + x.x.mag.length + x.x.den.length + 1 + x.y.mag.length + x.y.den.length
def Pt.mk3 (k : Int) (x : Pt) : Pt:=⟨⟨decide ((k).tmod 3 = 0),cnt x.x.mag.length (k + 1),cnt x.x.den.length (k + 1 + x.x.mag.length)⟩,⟨decide ((k + 1 + x.x.mag.length + x.x.den.length).tmod 3 = 0),cnt x.y.mag.length (k + 1 + x.x.mag.length + x.x.den.length + 1),cnt x.y.den.length (k + 1 + x.x.mag.length + x.x.den.length + 1 + x.y.mag.length)⟩⟩
theorem mk_markPointS {T : Nat → Option Fn} (h : D_laws_markPointS T) {l : List Pt} {k : Int} (hl : szL Pt.sz l ≤ 1000000000:=by first | omega | assumption | (simp;omega)) (hk : 0 ≤ k ∧ k + cnL Pt.ct l l.length ≤ 1000000000000:=by first | omega | assumption | (simp;omega)) :
  Mk T 334 (ptsV l) k (ptsV (mkL Pt.mk3 Pt.ct k l)) (k + cnL Pt.ct l l.length):=by
 refine mk_iff fun σ v os ho hn=>?_
 have hll : l.length ≤ 1000000000:=by unfold szL at hl;omega
 rcases ho.sl_inv with ⟨e,rfl,rfl⟩ | ⟨o,R0,os',rfl,_,_,hos,_⟩
 ·have el : l = []:=by simpa using e
  subst el
  have : ∃ r σ',Run T (.fn 334 [.sl 6 [],iv k] σ) (.fn r σ') ∧ (r = iv k ∧ σ' = σ):=by
   refine run_end (fun _ _=>false) h.hT rfl rfl ?_
   dsimp only [F_laws_markPointS,oN,oS,oG,oK,oA,oH,oV,cI,St.enter,List.length_cons,List.length_nil,Nat.zero_add]
   refine ew ?_
   refine loop_at (fun _ _=>false) (α:=Nat) (fun i=>⟨argE [.sl 6 [],iv k,.any,.any,.any,iv 0],σ,σ.length,0,[],[]⟩) (fun i=>i = 0) (fun i=>i) rfl 0 ?_ ?_ ?_
   ·rfl
   ·(refine Fg_env ?_;exact fgW)
   ·rintro i rfl
    refine ew ?_
    refine brK_dec (fun hc=>absurd hc (by omega)) fun hc=>?_
    (refine ew ?_;try with_reducible exact True.intro)
  obtain ⟨r,σ',h2,rfl,rfl⟩:=this
  exact ⟨σ',by simpa [cnL] using h2,ho,Fr.refl _ _⟩
 ·rw [List.length_map] at ho ⊢
  have : ∃ r σ',Run T (.fn 334 [.msl o 0 l.length,iv k] σ) (.fn r σ') ∧ (r = iv (k + cnL Pt.ct l l.length) ∧ OwV σ' (.msl o 0 l.length) (ptsV (mkTo Pt.mk3 Pt.ct k l l.length)) os ∧ Fr os σ σ'):=by
   refine run_end (fun x d=>x == 57) h.hT rfl rfl ?_
   dsimp only [F_laws_markPointS,oN,oS,oG,oK,oA,oH,oV,cI,St.enter,List.length_cons,List.length_nil,Nat.zero_add]
   refine ew ?_
   refine loop_at (fun x d=>x == 57) (α:=Nat × Store) (fun q=>⟨argE [.msl o 0 l.length,iv (k + cnL Pt.ct l q.1),.any,.any,.any,iv (q.1 : Nat)],q.2,σ.length,0,[],[]⟩) (fun q=>q.1 ≤ l.length ∧ OwV q.2 (.msl o 0 l.length) (ptsV (mkTo Pt.mk3 Pt.ct k l q.1)) os ∧ Fr os σ q.2) (fun q=>l.length - q.1) rfl (0,σ) ?_ ?_ ?_
   ·exact ⟨by omega,by rw [mkTo_0];exact ho,Fr.refl _ _⟩
   ·(refine Fg_env ?_) <;> (try (refine ew1 @cnL_0 ?_)) <;> (repeat' (first | refine ⟨?_,?_⟩ | exact EvV_int (by omega) | exact EvV_of (by simp) | exact EvV_nil _))
   ·rintro ⟨i,s⟩ ⟨hi,h2,h3⟩
    dsimp only at hi h2 h3
    have hls:=h3.len
    obtain ⟨A,hob,hM⟩:=h2.obj
    refine ew1 @hob ?_
    refine brK_dec (fun hc=>?_) fun hc=>?_
    ·have hil : i < l.length:=by omega
     obtain ⟨o',M',cs,oc,hv,hob',hM',hRi,hcs,hoc,hoo,hno,hre⟩:=h2.row_inv hn (i:=i) (mg? (by rw [mkTo_len _ _ _ _ hi];exact hil))
     rw [List.length_map,mkTo_len _ _ _ _ hi] at hv
     cases hv
     rw [hob] at hob'
     cases hob'
     rw [mkTo_at _ _ _ _ hil] at hcs
     obtain ⟨x,hx⟩ : ∃ x,l.getD i default = x:=⟨_,rfl⟩
     rw [hx] at hcs
     have hcn:=cnL_s Pt.ct l hil
     have hcl:=cnL_le Pt.ct l (i:=i + 1) hil
     have hms:=mkTo_set Pt.mk3 Pt.ct k l hil
     rw [hx] at hcn hms
     rw [hcn] at hcl
     obtain ⟨kk,hkk⟩ : ∃ kk,k + (cnL Pt.ct l i : Int) = kk:=⟨_,rfl⟩
     obtain ⟨c0,c1,c2,c3,c4,c5,rfl⟩ : ∃ c0 c1 c2 c3 c4 c5,cs = [c0,c1,c2,c3,c4,c5]:=by
      have:=hcs.ow.len
      match cs,this with
      | [a0,a1,a2,a3,a4,a5],_=>exact ⟨a0,a1,a2,a3,a4,a5,rfl⟩
     have hlo:=objAt_lt hob
     have rs : ∀ r,(A.set i r)[i]? = some r:=fun r=>by rw [List.getElem?_set_self (by omega)]
     have hct : Pt.ct x = 1 + x.x.mag.length + x.x.den.length + 1 + x.y.mag.length + x.y.den.length:=rfl
     have hxs : Pt.sz x ≤ 1000000000:=by
      have:=szL_at Pt.sz hil
      rw [hx] at this
      omega
     simp only [Pt.sz,R.sz] at hxs
     have F0 : Fr (o :: oc) s s:=Fr.refl _ _
     have hcs:=hcs.sca 0 (.bool (decide ((kk).tmod 3 = 0))) rfl
     refine ew7 @hkk @hc @hob @hRi @hlo @rs @List.set_set.{0} ?_
     have hcs:=hcs.set (x:=some ⟨6,A.set i [.bool (decide ((kk).tmod 3 = 0)),c1,c2,c3,c4,c5]⟩) hno
     have G0:=F0.trans (fr_set (σ:=s) (o:=o) (x:=some ⟨6,A.set i [.bool (decide ((kk).tmod 3 = 0)),c1,c2,c3,c4,c5]⟩) (by simp))
     obtain ⟨s1,hr,hcs,hf1⟩:=hcs.call 1 (mk_markIntS h.d_laws_markIntS (l:=x.x.mag) (k:=kk + 1) (by omega) (by omega)) rfl rfl
     refine RefK_mk hr rfl hf1.len (by simp) ?_
     have hb1:=(hf1.old o (by simpa using hlo) hno).trans (objAt_seteq hlo)
     have hl1:=objAt_lt hb1
     have F1:=G0.trans (hf1.mono (by simp +contextual))
     refine ew4 @hb1 @rs @hl1 @List.set_set.{0} ?_
     have G1:=F1
     obtain ⟨s2,hr,hcs,hf2⟩:=hcs.call 2 (mk_markIntS h.d_laws_markIntS (l:=x.x.den) (k:=kk + 1 + x.x.mag.length) (by omega) (by omega)) rfl rfl
     refine RefK_mk hr rfl hf2.len (by simp) ?_
     have hb2:=(hf2.old o hl1 hno).trans hb1
     have hl2:=objAt_lt hb2
     have F2:=G1.trans (hf2.mono (by simp +contextual))
     have hcs:=hcs.sca 3 (.bool (decide ((kk + 1 + x.x.mag.length + x.x.den.length).tmod 3 = 0))) rfl
     refine ew4 @hb2 @rs @hl2 @List.set_set.{0} ?_
     have hcs:=hcs.set (x:=some ⟨6,A.set i [.bool (decide ((kk).tmod 3 = 0)),c1,c2,.bool (decide ((kk + 1 + x.x.mag.length + x.x.den.length).tmod 3 = 0)),c4,c5]⟩) hno
     have G2:=F2.trans (fr_set (σ:=s2) (o:=o) (x:=some ⟨6,A.set i [.bool (decide ((kk).tmod 3 = 0)),c1,c2,.bool (decide ((kk + 1 + x.x.mag.length + x.x.den.length).tmod 3 = 0)),c4,c5]⟩) (by simp))
     obtain ⟨s3,hr,hcs,hf3⟩:=hcs.call 4 (mk_markIntS h.d_laws_markIntS (l:=x.y.mag) (k:=kk + 1 + x.x.mag.length + x.x.den.length + 1) (by omega) (by omega)) rfl rfl
     refine RefK_mk hr rfl hf3.len (by simp) ?_
     have hb3:=(hf3.old o (by simpa using hl2) hno).trans (objAt_seteq hl2)
     have hl3:=objAt_lt hb3
     have F3:=G2.trans (hf3.mono (by simp +contextual))
     refine ew4 @hb3 @rs @hl3 @List.set_set.{0} ?_
     have G3:=F3
     obtain ⟨s4,hr,hcs,hf4⟩:=hcs.call 5 (mk_markIntS h.d_laws_markIntS (l:=x.y.den) (k:=kk + 1 + x.x.mag.length + x.x.den.length + 1 + x.y.mag.length) (by omega) (by omega)) rfl rfl
     refine RefK_mk hr rfl hf4.len (by simp) ?_
     have hb4:=(hf4.old o hl3 hno).trans hb3
     have hl4:=objAt_lt hb4
     have F4:=G3.trans (hf4.mono (by simp +contextual))
     refine ew4 @hb4 @rs @hl4 @List.set_set.{0} ?_
     refine ⟨(i + 1,s4),by dsimp only;omega,⟨by dsimp only;omega,?_,?_⟩,by (refine Fg_env ?_;exact fgW)⟩
     ·dsimp only
      rw [← hms,hkk]
      show OwV _ _ (.sl 6 (List.map Pt.cells _)) _
      rw [List.map_set]
      exact hre _ _ _ hcs hb4 F4
     ·exact h3.trans (F4.mono (by simpa using ⟨hoo,hoc⟩))
    ·have : i = l.length:=by omega
     subst this
     refine ew1 @hc ?_
     exact ⟨h2,h3⟩
  obtain ⟨r,σ',h2,rfl,h3,h4⟩:=this
  rw [mkTo_all] at h3
  exact ⟨σ',h2,h3,h4⟩
def Lk.ct (x : Lk) : Nat:=1 + 1 + 1 + x.w.mag.length + x.w.den.length + 1 + x.dx.mag.length + x.dx.den.length + 1 + x.dy.mag.length + x.dy.den.length
def Lk.mk3 (k : Int) (x : Lk) : Lk:=⟨k,k + 1,⟨decide ((k + 1 + 1).tmod 3 = 0),cnt x.w.mag.length (k + 1 + 1 + 1),cnt x.w.den.length (k + 1 + 1 + 1 + x.w.mag.length)⟩,⟨decide ((k + 1 + 1 + 1 + x.w.mag.length + x.w.den.length).tmod 3 = 0),cnt x.dx.mag.length (k + 1 + 1 + 1 + x.w.mag.length + x.w.den.length + 1),cnt x.dx.den.length (k + 1 + 1 + 1 + x.w.mag.length + x.w.den.length + 1 + x.dx.mag.length)⟩,⟨decide ((k + 1 + 1 + 1 + x.w.mag.length + x.w.den.length + 1 + x.dx.mag.length + x.dx.den.length).tmod 3 = 0),cnt x.dy.mag.length (k + 1 + 1 + 1 + x.w.mag.length + x.w.den.length + 1 + x.dx.mag.length + x.dx.den.length + 1),cnt x.dy.den.length (k + 1 + 1 + 1 + x.w.mag.length + x.w.den.length + 1 + x.dx.mag.length + x.dx.den.length + 1 + x.dy.mag.length)⟩⟩
theorem mk_markLinkS {T : Nat → Option Fn} (h : D_laws_markLinkS T) {l : List Lk} {k : Int} (hl : szL Lk.sz l ≤ 1000000000:=by first | omega | assumption | (simp;omega)) (hk : 0 ≤ k ∧ k + cnL Lk.ct l l.length ≤ 1000000000000:=by first | omega | assumption | (simp;omega)) :
  Mk T 118 (lksV l) k (lksV (mkL Lk.mk3 Lk.ct k l)) (k + cnL Lk.ct l l.length):=by
 refine mk_iff fun σ v os ho hn=>?_
 have hll : l.length ≤ 1000000000:=by unfold szL at hl;omega
 rcases ho.sl_inv with ⟨e,rfl,rfl⟩ | ⟨o,R0,os',rfl,_,_,hos,_⟩
 ·have el : l = []:=by simpa using e
  subst el
  have : ∃ r σ',Run T (.fn 118 [.sl 11 [],iv k] σ) (.fn r σ') ∧ (r = iv k ∧ σ' = σ):=by
   refine run_end (fun _ _=>false) h.hT rfl rfl ?_
   dsimp only [F_laws_markLinkS,oN,oS,oG,oK,oA,oH,oV,cI,St.enter,List.length_cons,List.length_nil,Nat.zero_add]
   refine ew ?_
   refine loop_at (fun _ _=>false) (α:=Nat) (fun i=>⟨argE [.sl 11 [],iv k,.any,.any,.any,iv 0],σ,σ.length,0,[],[]⟩) (fun i=>i = 0) (fun i=>i) rfl 0 ?_ ?_ ?_
   ·rfl
   ·(refine Fg_env ?_;exact fgW)
   ·rintro i rfl
    refine ew ?_
    refine brK_dec (fun hc=>absurd hc (by omega)) fun hc=>?_
    (refine ew ?_;try with_reducible exact True.intro)
  obtain ⟨r,σ',h2,rfl,rfl⟩:=this
  exact ⟨σ',by simpa [cnL] using h2,ho,Fr.refl _ _⟩
 ·rw [List.length_map] at ho ⊢
  have : ∃ r σ',Run T (.fn 118 [.msl o 0 l.length,iv k] σ) (.fn r σ') ∧ (r = iv (k + cnL Lk.ct l l.length) ∧ OwV σ' (.msl o 0 l.length) (lksV (mkTo Lk.mk3 Lk.ct k l l.length)) os ∧ Fr os σ σ'):=by
   refine run_end (fun x d=>x == 57) h.hT rfl rfl ?_
   dsimp only [F_laws_markLinkS,oN,oS,oG,oK,oA,oH,oV,cI,St.enter,List.length_cons,List.length_nil,Nat.zero_add]
   refine ew ?_
   refine loop_at (fun x d=>x == 57) (α:=Nat × Store) (fun q=>⟨argE [.msl o 0 l.length,iv (k + cnL Lk.ct l q.1),.any,.any,.any,iv (q.1 : Nat)],q.2,σ.length,0,[],[]⟩) (fun q=>q.1 ≤ l.length ∧ OwV q.2 (.msl o 0 l.length) (lksV (mkTo Lk.mk3 Lk.ct k l q.1)) os ∧ Fr os σ q.2) (fun q=>l.length - q.1) rfl (0,σ) ?_ ?_ ?_
   ·exact ⟨by omega,by rw [mkTo_0];exact ho,Fr.refl _ _⟩
   ·(refine Fg_env ?_) <;> (try (refine ew1 @cnL_0 ?_)) <;> (repeat' (first | refine ⟨?_,?_⟩ | exact EvV_int (by omega) | exact EvV_of (by simp) | exact EvV_nil _))
   ·rintro ⟨i,s⟩ ⟨hi,h2,h3⟩
    dsimp only at hi h2 h3
    have hls:=h3.len
    obtain ⟨A,hob,hM⟩:=h2.obj
    refine ew1 @hob ?_
    refine brK_dec (fun hc=>?_) fun hc=>?_
    ·have hil : i < l.length:=by omega
     obtain ⟨o',M',cs,oc,hv,hob',hM',hRi,hcs,hoc,hoo,hno,hre⟩:=h2.row_inv hn (i:=i) (mg? (by rw [mkTo_len _ _ _ _ hi];exact hil))
     rw [List.length_map,mkTo_len _ _ _ _ hi] at hv
     cases hv
     rw [hob] at hob'
     cases hob'
     rw [mkTo_at _ _ _ _ hil] at hcs
     obtain ⟨x,hx⟩ : ∃ x,l.getD i default = x:=⟨_,rfl⟩
     rw [hx] at hcs
     have hcn:=cnL_s Lk.ct l hil
     have hcl:=cnL_le Lk.ct l (i:=i + 1) hil
     have hms:=mkTo_set Lk.mk3 Lk.ct k l hil
     rw [hx] at hcn hms
     rw [hcn] at hcl
     obtain ⟨kk,hkk⟩ : ∃ kk,k + (cnL Lk.ct l i : Int) = kk:=⟨_,rfl⟩
     obtain ⟨c0,c1,c2,c3,c4,c5,c6,c7,c8,c9,c10,rfl⟩ : ∃ c0 c1 c2 c3 c4 c5 c6 c7 c8 c9 c10,cs = [c0,c1,c2,c3,c4,c5,c6,c7,c8,c9,c10]:=by
      have:=hcs.ow.len
      match cs,this with
      | [a0,a1,a2,a3,a4,a5,a6,a7,a8,a9,a10],_=>exact ⟨a0,a1,a2,a3,a4,a5,a6,a7,a8,a9,a10,rfl⟩
     have hlo:=objAt_lt hob
     have rs : ∀ r,(A.set i r)[i]? = some r:=fun r=>by rw [List.getElem?_set_self (by omega)]
     have hct : Lk.ct x = 1 + 1 + 1 + x.w.mag.length + x.w.den.length + 1 + x.dx.mag.length + x.dx.den.length + 1 + x.dy.mag.length + x.dy.den.length:=rfl
     have hxs : Lk.sz x ≤ 1000000000:=by
      have:=szL_at Lk.sz hil
      rw [hx] at this
      omega
     simp only [Lk.sz,R.sz] at hxs
     have F0 : Fr (o :: oc) s s:=Fr.refl _ _
     have hcs:=hcs.sca 0 (.int .i64 (kk)) rfl
     have hcs:=hcs.sca 1 (.int .i64 (kk + 1)) rfl
     have hcs:=hcs.sca 2 (.bool (decide ((kk + 1 + 1).tmod 3 = 0))) rfl
     refine ew7 @hkk @hc @hob @hRi @hlo @rs @List.set_set.{0} ?_
     have hcs:=hcs.set (x:=some ⟨11,A.set i [.int .i64 (kk),.int .i64 (kk + 1),.bool (decide ((kk + 1 + 1).tmod 3 = 0)),c3,c4,c5,c6,c7,c8,c9,c10]⟩) hno
     have G0:=F0.trans (fr_set (σ:=s) (o:=o) (x:=some ⟨11,A.set i [.int .i64 (kk),.int .i64 (kk + 1),.bool (decide ((kk + 1 + 1).tmod 3 = 0)),c3,c4,c5,c6,c7,c8,c9,c10]⟩) (by simp))
     obtain ⟨s1,hr,hcs,hf1⟩:=hcs.call 3 (mk_markIntS h.d_laws_markIntS (l:=x.w.mag) (k:=kk + 1 + 1 + 1) (by omega) (by omega)) rfl rfl
     refine RefK_mk hr rfl hf1.len (by simp) ?_
     have hb1:=(hf1.old o (by simpa using hlo) hno).trans (objAt_seteq hlo)
     have hl1:=objAt_lt hb1
     have F1:=G0.trans (hf1.mono (by simp +contextual))
     refine ew4 @hb1 @rs @hl1 @List.set_set.{0} ?_
     have G1:=F1
     obtain ⟨s2,hr,hcs,hf2⟩:=hcs.call 4 (mk_markIntS h.d_laws_markIntS (l:=x.w.den) (k:=kk + 1 + 1 + 1 + x.w.mag.length) (by omega) (by omega)) rfl rfl
     refine RefK_mk hr rfl hf2.len (by simp) ?_
     have hb2:=(hf2.old o hl1 hno).trans hb1
     have hl2:=objAt_lt hb2
     have F2:=G1.trans (hf2.mono (by simp +contextual))
     have hcs:=hcs.sca 5 (.bool (decide ((kk + 1 + 1 + 1 + x.w.mag.length + x.w.den.length).tmod 3 = 0))) rfl
     refine ew4 @hb2 @rs @hl2 @List.set_set.{0} ?_
     have hcs:=hcs.set (x:=some ⟨11,A.set i [.int .i64 (kk),.int .i64 (kk + 1),.bool (decide ((kk + 1 + 1).tmod 3 = 0)),c3,c4,.bool (decide ((kk + 1 + 1 + 1 + x.w.mag.length + x.w.den.length).tmod 3 = 0)),c6,c7,c8,c9,c10]⟩) hno
     have G2:=F2.trans (fr_set (σ:=s2) (o:=o) (x:=some ⟨11,A.set i [.int .i64 (kk),.int .i64 (kk + 1),.bool (decide ((kk + 1 + 1).tmod 3 = 0)),c3,c4,.bool (decide ((kk + 1 + 1 + 1 + x.w.mag.length + x.w.den.length).tmod 3 = 0)),c6,c7,c8,c9,c10]⟩) (by simp))
     obtain ⟨s3,hr,hcs,hf3⟩:=hcs.call 6 (mk_markIntS h.d_laws_markIntS (l:=x.dx.mag) (k:=kk + 1 + 1 + 1 + x.w.mag.length + x.w.den.length + 1) (by omega) (by omega)) rfl rfl
     refine RefK_mk hr rfl hf3.len (by simp) ?_
     have hb3:=(hf3.old o (by simpa using hl2) hno).trans (objAt_seteq hl2)
     have hl3:=objAt_lt hb3
     have F3:=G2.trans (hf3.mono (by simp +contextual))
     refine ew4 @hb3 @rs @hl3 @List.set_set.{0} ?_
     have G3:=F3
     obtain ⟨s4,hr,hcs,hf4⟩:=hcs.call 7 (mk_markIntS h.d_laws_markIntS (l:=x.dx.den) (k:=kk + 1 + 1 + 1 + x.w.mag.length + x.w.den.length + 1 + x.dx.mag.length) (by omega) (by omega)) rfl rfl
     refine RefK_mk hr rfl hf4.len (by simp) ?_
     have hb4:=(hf4.old o hl3 hno).trans hb3
     have hl4:=objAt_lt hb4
     have F4:=G3.trans (hf4.mono (by simp +contextual))
     have hcs:=hcs.sca 8 (.bool (decide ((kk + 1 + 1 + 1 + x.w.mag.length + x.w.den.length + 1 + x.dx.mag.length + x.dx.den.length).tmod 3 = 0))) rfl
     refine ew4 @hb4 @rs @hl4 @List.set_set.{0} ?_
     have hcs:=hcs.set (x:=some ⟨11,A.set i [.int .i64 (kk),.int .i64 (kk + 1),.bool (decide ((kk + 1 + 1).tmod 3 = 0)),c3,c4,.bool (decide ((kk + 1 + 1 + 1 + x.w.mag.length + x.w.den.length).tmod 3 = 0)),c6,c7,.bool (decide ((kk + 1 + 1 + 1 + x.w.mag.length + x.w.den.length + 1 + x.dx.mag.length + x.dx.den.length).tmod 3 = 0)),c9,c10]⟩) hno
     have G4:=F4.trans (fr_set (σ:=s4) (o:=o) (x:=some ⟨11,A.set i [.int .i64 (kk),.int .i64 (kk + 1),.bool (decide ((kk + 1 + 1).tmod 3 = 0)),c3,c4,.bool (decide ((kk + 1 + 1 + 1 + x.w.mag.length + x.w.den.length).tmod 3 = 0)),c6,c7,.bool (decide ((kk + 1 + 1 + 1 + x.w.mag.length + x.w.den.length + 1 + x.dx.mag.length + x.dx.den.length).tmod 3 = 0)),c9,c10]⟩) (by simp))
     obtain ⟨s5,hr,hcs,hf5⟩:=hcs.call 9 (mk_markIntS h.d_laws_markIntS (l:=x.dy.mag) (k:=kk + 1 + 1 + 1 + x.w.mag.length + x.w.den.length + 1 + x.dx.mag.length + x.dx.den.length + 1) (by omega) (by omega)) rfl rfl
     refine RefK_mk hr rfl hf5.len (by simp) ?_
     have hb5:=(hf5.old o (by simpa using hl4) hno).trans (objAt_seteq hl4)
     have hl5:=objAt_lt hb5
     have F5:=G4.trans (hf5.mono (by simp +contextual))
     refine ew4 @hb5 @rs @hl5 @List.set_set.{0} ?_
     have G5:=F5
     obtain ⟨s6,hr,hcs,hf6⟩:=hcs.call 10 (mk_markIntS h.d_laws_markIntS (l:=x.dy.den) (k:=kk + 1 + 1 + 1 + x.w.mag.length + x.w.den.length + 1 + x.dx.mag.length + x.dx.den.length + 1 + x.dy.mag.length) (by omega) (by omega)) rfl rfl
     refine RefK_mk hr rfl hf6.len (by simp) ?_
     have hb6:=(hf6.old o hl5 hno).trans hb5
     have hl6:=objAt_lt hb6
     have F6:=G5.trans (hf6.mono (by simp +contextual))
     refine ew4 @hb6 @rs @hl6 @List.set_set.{0} ?_
     refine ⟨(i + 1,s6),by dsimp only;omega,⟨by dsimp only;omega,?_,?_⟩,by (refine Fg_env ?_;exact fgW)⟩
     ·dsimp only
      rw [← hms,hkk]
      show OwV _ _ (.sl 11 (List.map Lk.cells _)) _
      rw [List.map_set]
      exact hre _ _ _ hcs hb6 F6
     ·exact h3.trans (F6.mono (by simpa using ⟨hoo,hoc⟩))
    ·have : i = l.length:=by omega
     subst this
     refine ew1 @hc ?_
     exact ⟨h2,h3⟩
  obtain ⟨r,σ',h2,rfl,h3,h4⟩:=this
  rw [mkTo_all] at h3
  exact ⟨σ',h2,h3,h4⟩
def Pa.ct (x : Pa) : Nat:=1 + 1 + x.share.mag.length + x.share.den.length + 1 + x.dx.mag.length + x.dx.den.length + 1 + x.dy.mag.length + x.dy.den.length
def Pa.mk3 (k : Int) (x : Pa) : Pa:=⟨k,⟨decide ((k + 1).tmod 3 = 0),cnt x.share.mag.length (k + 1 + 1),cnt x.share.den.length (k + 1 + 1 + x.share.mag.length)⟩,⟨decide ((k + 1 + 1 + x.share.mag.length + x.share.den.length).tmod 3 = 0),cnt x.dx.mag.length (k + 1 + 1 + x.share.mag.length + x.share.den.length + 1),cnt x.dx.den.length (k + 1 + 1 + x.share.mag.length + x.share.den.length + 1 + x.dx.mag.length)⟩,⟨decide ((k + 1 + 1 + x.share.mag.length + x.share.den.length + 1 + x.dx.mag.length + x.dx.den.length).tmod 3 = 0),cnt x.dy.mag.length (k + 1 + 1 + x.share.mag.length + x.share.den.length + 1 + x.dx.mag.length + x.dx.den.length + 1),cnt x.dy.den.length (k + 1 + 1 + x.share.mag.length + x.share.den.length + 1 + x.dx.mag.length + x.dx.den.length + 1 + x.dy.mag.length)⟩⟩
def Cd.ct (x : Cd) : Nat:=1 + 1 + x.total.mag.length + x.total.den.length + cnL Pa.ct x.ps x.ps.length
def Cd.mk3 (k : Int) (x : Cd) : Cd:=⟨k,⟨decide ((k + 1).tmod 3 = 0),cnt x.total.mag.length (k + 1 + 1),cnt x.total.den.length (k + 1 + 1 + x.total.mag.length)⟩,mkL Pa.mk3 Pa.ct (k + 1 + 1 + x.total.mag.length + x.total.den.length) x.ps⟩
def Tn.ct (x : Tn) : Nat:=1 + 1 + cnL Lk.ct x.own x.own.length + 1 + 1 + x.cond.total.mag.length + x.cond.total.den.length + cnL Pa.ct x.cond.ps x.cond.ps.length + cnL Lk.ct x.msgs x.msgs.length + 1 + x.energy.mag.length + x.energy.den.length
def Tn.mk3 (k : Int) (x : Tn) : Tn:=⟨k,k + 1,mkL Lk.mk3 Lk.ct (k + 1 + 1) x.own,⟨k + 1 + 1 + cnL Lk.ct x.own x.own.length,⟨decide ((k + 1 + 1 + cnL Lk.ct x.own x.own.length + 1).tmod 3 = 0),cnt x.cond.total.mag.length (k + 1 + 1 + cnL Lk.ct x.own x.own.length + 1 + 1),cnt x.cond.total.den.length (k + 1 + 1 + cnL Lk.ct x.own x.own.length + 1 + 1 + x.cond.total.mag.length)⟩,mkL Pa.mk3 Pa.ct (k + 1 + 1 + cnL Lk.ct x.own x.own.length + 1 + 1 + x.cond.total.mag.length + x.cond.total.den.length) x.cond.ps⟩,mkL Lk.mk3 Lk.ct (k + 1 + 1 + cnL Lk.ct x.own x.own.length + 1 + 1 + x.cond.total.mag.length + x.cond.total.den.length + cnL Pa.ct x.cond.ps x.cond.ps.length) x.msgs,⟨decide ((k + 1 + 1 + cnL Lk.ct x.own x.own.length + 1 + 1 + x.cond.total.mag.length + x.cond.total.den.length + cnL Pa.ct x.cond.ps x.cond.ps.length + cnL Lk.ct x.msgs x.msgs.length).tmod 3 = 0),cnt x.energy.mag.length (k + 1 + 1 + cnL Lk.ct x.own x.own.length + 1 + 1 + x.cond.total.mag.length + x.cond.total.den.length + cnL Pa.ct x.cond.ps x.cond.ps.length + cnL Lk.ct x.msgs x.msgs.length + 1),cnt x.energy.den.length (k + 1 + 1 + cnL Lk.ct x.own x.own.length + 1 + 1 + x.cond.total.mag.length + x.cond.total.den.length + cnL Pa.ct x.cond.ps x.cond.ps.length + cnL Lk.ct x.msgs x.msgs.length + 1 + x.energy.mag.length)⟩⟩
def Bi.ct2 (x : Bi) : Nat:=x.mag.length
def R.ct2 (x : R) : Nat:=Bi.ct2 x.num + x.den.length
def Pt.ct2 (x : Pt) : Nat:=x.x.ct2 + x.y.ct2
def Lk.ct2 (x : Lk) : Nat:=x.w.ct2 + x.dx.ct2 + x.dy.ct2
def Cd.ct2 (x : Cd) : Nat:=x.total.ct2 + cnL Pa.ct x.ps x.ps.length
theorem szL_memb {α : Type} {f : α → Nat} {l : List α} {x : α} {n : Nat} (h : szL f l ≤ n) (hx : x ∈ l) : f x ≤ n:=by
 have : ∀ l : List α,x ∈ l → f x ≤ (l.map f).sum:=by
  intro l
  induction l with
  | nil=>intro h;simp at h
  |
   cons y l ih =>
   intro h
   rw [List.map_cons,List.sum_cons]
   rcases List.mem_cons.1 h with rfl | h
   ·omega
   ·have:=ih h;omega
 have:=this l hx
 unfold szL at h
 omega
theorem po_toLink {T : Nat → Option Fn} (h : D_laws_toLink T) {x : Lk} (hl : x.sz ≤ 1048576:=by first | omega | assumption | (simp;omega)) : PO T 44 [lkV x] (lkV x):=by
 simp only [Lk.sz,R.sz] at hl
 refine po_end2 (fun x d=>x == 48) h.hT rfl rfl ?_
 dsimp only [F_laws_toLink,oN,oS,oG,oK,oA,oH,oV,cI,St.enter,List.length_cons,List.length_nil,Nat.zero_add]
 refine ew ?_
 have O:=fun s : Store=>@ow_nil 3 s
 replace O:=fun s=>(O s).int .i64 x.a
 replace O:=fun s=>(O s).int .i64 x.b
 refine RefK_got (po_toRat h.d_laws_toRat (r:=x.w) (by first | omega | (simp only [Lk.sz,R.sz];omega))) (by (refine ew ?_;try with_reducible exact True.intro)) ?_
 intro r σ1 os g
 have lq : 3 ≤ σ1.length:=g.len
 have B0:=g.at 0 (by simp) rfl
 have B1:=g.at 1 (by simp) rfl
 have B2:=g.at 2 (by simp) rfl
 replace O:=(O _).got g (by simp)
 obtain ⟨a0,d0,_,_,rfl,_,k1,k2⟩:=g.ow.rat_inv
 replace O:=O.flat rfl
 have la:=k1.leaf rfl
 have ld:=k2.leaf rfl
 have lfs:=And.intro la ld
 have fc:=fun q=>cells_agg (cs:=[.bool x.w.neg,a0,d0]) (by simp [la,ld,show ∀ b,V.leaf (.bool b) = true from fun _=>rfl]) q
 clear g
 refine ew6 @B0 @B1 @B2 @lq @lfs @fc ?_
 refine RefK_got (po_toRat h.d_laws_toRat (r:=x.dx) (by first | omega | (simp only [Lk.sz,R.sz];omega))) (by (refine ew6 @B0 @B1 @B2 @lq @lfs @fc ?_;try with_reducible exact True.intro)) ?_
 intro r σ2 os g
 have lp:=lq
 replace lq : 3 ≤ σ2.length:=by have:=g.len;simp at this;omega
 replace B0:=(g.old 0 (by simp;omega)).trans ((objAt_setne (by decide)).trans B0)
 replace B1:=(g.old 1 (by simp;omega)).trans ((objAt_setne (by decide)).trans B1)
 replace B2:=(g.old 2 (by simp;omega)).trans (objAt_seteq (by omega))
 replace O:=(O.set (by decide)).got g (by simp;omega)
 obtain ⟨a1,d1,_,_,rfl,_,k1,k2⟩:=g.ow.rat_inv
 replace O:=O.flat rfl
 have la:=k1.leaf rfl
 have ld:=k2.leaf rfl
 replace lfs:=And.intro lfs (And.intro la ld)
 replace fc:=fun q=>cells_agg (cs:=[.bool x.dx.neg,a1,d1]) (by simp [la,ld,show ∀ b,V.leaf (.bool b) = true from fun _=>rfl]) q
 clear g
 refine ew6 @B0 @B1 @B2 @lq @lfs @fc ?_
 refine RefK_got (po_toRat h.d_laws_toRat (r:=x.dy) (by first | omega | (simp only [Lk.sz,R.sz];omega))) (by (refine ew6 @B0 @B1 @B2 @lq @lfs @fc ?_;try with_reducible exact True.intro)) ?_
 intro r σ3 os g
 have lp:=lq
 replace lq : 3 ≤ σ3.length:=by have:=g.len;simp at this;omega
 replace B0:=(g.old 0 (by simp;omega)).trans ((objAt_setne (by decide)).trans B0)
 replace B1:=(g.old 1 (by simp;omega)).trans ((objAt_setne (by decide)).trans B1)
 replace B2:=(g.old 2 (by simp;omega)).trans (objAt_seteq (by omega))
 replace O:=(O.set (by decide)).got g (by simp;omega)
 obtain ⟨a2,d2,_,_,rfl,_,k1,k2⟩:=g.ow.rat_inv
 replace O:=O.flat rfl
 have la:=k1.leaf rfl
 have ld:=k2.leaf rfl
 replace lfs:=And.intro lfs (And.intro la ld)
 replace fc:=fun q=>cells_agg (cs:=[.bool x.dy.neg,a2,d2]) (by simp [la,ld,show ∀ b,V.leaf (.bool b) = true from fun _=>rfl]) q
 clear g
 refine ew6 @B0 @B1 @B2 @lq @lfs @fc ?_
 exact ((O.set (by decide)).set (by decide)).fin
theorem po_toLinkS {T : Nat → Option Fn} (h : D_laws_toLinkS T) {l : List Lk} (hl : szL Lk.sz l ≤ 1048576:=by first | omega | assumption | (simp;omega)) : PO T 21 [lksV l] (lksV l):=by
 have hll : l.length ≤ 1048576:=by unfold szL at hl;omega
 exact po_toS (cl:=Lk.cells) (z:=[iv 0,iv 0,.bool false,.nils,.nils,.bool false,.nils,.nils,.bool false,.nils,.nils]) (h.hT.trans rfl) (by decide) hll (fun x hx=>⟨rfl,st_Lk l _ (List.mem_map.2 ⟨x,hx,rfl⟩),rfl⟩) fun x hx=>po_toLink h.d_laws_toLink (x:=x) (szL_memb (f:=Lk.sz) hl hx)
def F_spec_l02Trim : Fn:=⟨1,21,[.tmp 2],(.seq (.reg false 0 [oN 2 (.mov (.c (.nils)))]) (.seq (.reg false 0 [oN 4 (oV 0),oN 5 (.len (.t 4)),oN 3 (oV 5)]) (.seq (.block 0 (.loop (.seq (.seq (.reg false 0 [oN 6 (oV 3),oN 7 (.bin .gtr (.t 6) (cI 0)),oN 8 (oV 7),oG 8 true 9 (oV 0),oG 8 true 10 (oV 3),oG 8 true 11 (.bin .sub (.t 10) (cI 1)),oG 8 true 12 (.idx 1 (.t 9) (.t 11)),oG 8 true 13 (.load 1 false (.t 12)),oG 8 true 14 (.bin .eql (.t 13) (cI 0)),oN 15 (.pick (.t 8) (.t 14) (.c (.bool false)))]) (.cond (.t 15) .skip (.exit 0))) (.block 1 (.reg false 0 [oN 16 (oV 3),oN 17 (.bin .sub (.t 16) (cI 1)),oN 3 (oV 17)]))))) (.seq (.reg false 0 [oN 18 (oV 0),oN 19 (oV 3),oN 20 (.slice 1 (.t 18) none (some (.t 19))),oN 2 (oV 20)]) .ret))))⟩
structure D_spec_l02Trim (T : Nat → Option Fn) : Prop where
 hT : T 71 = some F_spec_l02Trim
def F_spec_l02Cmp : Fn:=⟨2,41,[.tmp 4],(.seq (.reg false 0 [oN 4 (.mov (cI 0))]) (.seq (.seq (.reg false 0 [oN 6 (oV 0),oN 7 (.len (.t 6)),oN 8 (oV 1),oN 9 (.len (.t 8)),oN 10 (.bin .neq (.t 7) (.t 9))]) (.cond (.t 10) (.seq (.seq (.reg false 0 [oN 11 (oV 0),oN 12 (.len (.t 11)),oN 13 (oV 1),oN 14 (.len (.t 13)),oN 15 (.bin .lss (.t 12) (.t 14))]) (.cond (.t 15) (.seq (.reg false 0 [oN 4 (.mov (cI (-1)))]) .ret) .skip)) (.seq (.reg false 0 [oN 4 (.mov (cI 1))]) .ret)) .skip)) (.seq (.seq (.reg false 0 [oN 16 (oV 0),oN 17 (.len (.t 16)),oN 18 (.bin .sub (.t 17) (cI 1)),oN 5 (oV 18)]) (.block 0 (.loop (.seq (.seq (.reg false 0 [oN 19 (oV 5),oN 20 (.bin .geq (.t 19) (cI 0))]) (.cond (.t 20) .skip (.exit 0))) (.seq (.block 1 (.seq (.seq (.reg true 0 [oN 23 (oV 0),oN 24 (oV 5),oA 25 0 (.idx 1 (.t 23) (.t 24)) [0,1],oA 26 0 (.load 1 false (.t 25)) [2],oN 27 (oV 1),oN 28 (oV 5),oA 29 0 (.idx 1 (.t 27) (.t 28)) [4,5],oA 30 0 (.load 1 false (.t 29)) [6],oA 31 0 (.bin .lss (.t 26) (.t 30)) [3,7]]) (.cond (.t 31) (.seq (.reg false 0 [oN 4 (.mov (cI (-1)))]) .ret) .skip)) (.seq (.reg true 0 [oN 32 (oV 0),oN 33 (oV 5),oA 34 0 (.idx 1 (.t 32) (.t 33)) [0,1],oA 35 0 (.load 1 false (.t 34)) [2],oN 36 (oV 1),oN 37 (oV 5),oA 38 0 (.idx 1 (.t 36) (.t 37)) [4,5],oA 39 0 (.load 1 false (.t 38)) [6],oA 40 0 (.bin .gtr (.t 35) (.t 39)) [3,7]]) (.cond (.t 40) (.seq (.reg false 0 [oN 4 (.mov (cI 1))]) .ret) .skip)))) (.reg false 0 [oN 21 (oV 5),oN 22 (.bin .sub (.t 21) (cI 1)),oN 5 (oV 22)])))))) (.seq (.reg false 0 [oN 4 (.mov (cI 0))]) .ret))))⟩
structure D_spec_l02Cmp (T : Nat → Option Fn) : Prop where
 hT : T 146 = some F_spec_l02Cmp
def F_spec_l02Add : Fn:=⟨2,55,[.tmp 4],(.seq (.reg false 0 [oN 4 (.mov (.c (.nils)))]) (.seq (.reg false 1 [oN 9 (.mkSl 1 [.int .i64 0] 0 []),oK 5 1 (oV 9)]) (.seq (.reg false 0 [oN 6 (.mov (cI 0))]) (.seq (.seq (.reg false 0 [oN 7 (.mov (cI 0))]) (.block 0 (.loop (.seq (.seq (.reg false 0 [oN 10 (oV 7),oN 11 (oV 0),oN 12 (.len (.t 11)),oN 13 (.bin .lss (.t 10) (.t 12)),oN 14 (oV 13),oG 14 false 15 (oV 7),oG 14 false 16 (oV 1),oG 14 false 17 (.len (.t 16)),oG 14 false 18 (.bin .lss (.t 15) (.t 17)),oN 19 (.pick (.t 14) (.c (.bool true)) (.t 18)),oN 20 (oV 19),oG 20 false 21 (oV 6),oG 20 false 22 (.bin .gtr (.t 21) (cI 0)),oN 23 (.pick (.t 20) (.c (.bool true)) (.t 22))]) (.cond (.t 23) .skip (.exit 0))) (.seq (.block 1 (.seq (.reg false 0 [oN 26 (oV 6),oN 8 (oV 26)]) (.seq (.seq (.reg false 0 [oN 27 (oV 7),oN 28 (oV 0),oN 29 (.len (.t 28)),oN 30 (.bin .lss (.t 27) (.t 29))]) (.cond (.t 30) (.reg false 0 [oN 31 (oV 8),oN 32 (oV 0),oN 33 (oV 7),oN 34 (.idx 1 (.t 32) (.t 33)),oN 35 (.load 1 false (.t 34)),oN 36 (.bin .add (.t 31) (.t 35)),oN 8 (oV 36)]) .skip)) (.seq (.seq (.reg false 0 [oN 37 (oV 7),oN 38 (oV 1),oN 39 (.len (.t 38)),oN 40 (.bin .lss (.t 37) (.t 39))]) (.cond (.t 40) (.reg false 0 [oN 41 (oV 8),oN 42 (oV 1),oN 43 (oV 7),oN 44 (.idx 1 (.t 42) (.t 43)),oN 45 (.load 1 false (.t 44)),oN 46 (.bin .add (.t 41) (.t 45)),oN 8 (oV 46)]) .skip)) (.seq (.reg false 2 [oK 47 2 (oV 5),oK 48 2 (oV 8),oK 49 2 (.bin .rem (.t 48) (cI 1000000000)),oN 50 (.mkSl 1 [.int .i64 0] 1 [(0,(.t 49))]),oK 51 1 (.app 1 8 (.t 47) (.t 50)),oK 5 2 (oV 51)]) (.reg false 0 [oN 52 (oV 8),oN 53 (.bin .quo (.t 52) (cI 1000000000)),oN 6 (oV 53)])))))) (.reg false 0 [oN 24 (oV 7),oN 25 (.bin .add (.t 24) (cI 1)),oN 7 (oV 25)])))))) (.seq (.reg false 0 [oN 54 (oV 5),oN 4 (oV 54)]) .ret)))))⟩
structure D_spec_l02Add (T : Nat → Option Fn) : Prop where
 hT : T 209 = some F_spec_l02Add
def F_spec_l02Sub : Fn:=⟨2,42,[.tmp 4],(.seq (.reg false 0 [oN 4 (.mov (.c (.nils)))]) (.seq (.reg false 1 [oN 9 (.mkSl 1 [.int .i64 0] 0 []),oK 5 1 (oV 9)]) (.seq (.reg false 0 [oN 6 (.mov (cI 0))]) (.seq (.seq (.reg false 0 [oN 10 (oV 0),oN 11 (.len (.t 10)),oN 12 (.mov (cI 0))]) (.block 0 (.loop (.seq (.reg false 0 [oN 13 (.bin .lss (.t 12) (.t 11))]) (.seq (.cond (.t 13) .skip (.exit 0)) (.seq (.block 1 (.seq (.reg false 0 [oN 14 (oV 12),oN 7 (oV 14)]) (.seq (.reg false 0 [oN 15 (oV 0),oN 16 (oV 7),oN 17 (.idx 1 (.t 15) (.t 16)),oN 18 (.load 1 false (.t 17)),oN 19 (oV 6),oN 20 (.bin .sub (.t 18) (.t 19)),oN 8 (oV 20)]) (.seq (.seq (.reg false 0 [oN 21 (oV 7),oN 22 (oV 1),oN 23 (.len (.t 22)),oN 24 (.bin .lss (.t 21) (.t 23))]) (.cond (.t 24) (.reg false 0 [oN 25 (oV 8),oN 26 (oV 1),oN 27 (oV 7),oN 28 (.idx 1 (.t 26) (.t 27)),oN 29 (.load 1 false (.t 28)),oN 30 (.bin .sub (.t 25) (.t 29)),oN 8 (oV 30)]) .skip)) (.seq (.reg false 0 [oN 6 (.mov (cI 0))]) (.seq (.seq (.reg false 0 [oN 31 (oV 8),oN 32 (.bin .lss (.t 31) (cI 0))]) (.cond (.t 32) (.seq (.reg false 0 [oN 33 (oV 8),oN 34 (.bin .add (.t 33) (cI 1000000000)),oN 8 (oV 34)]) (.reg false 0 [oN 6 (.mov (cI 1))])) .skip)) (.reg false 2 [oK 35 2 (oV 5),oK 36 2 (oV 8),oN 37 (.mkSl 1 [.int .i64 0] 1 [(0,(.t 36))]),oK 38 1 (.app 1 8 (.t 35) (.t 37)),oK 5 2 (oV 38)]))))))) (.reg false 0 [oN 39 (.bin .add (.t 12) (cI 1)),oN 12 (oV 39)]))))))) (.seq (.reg false 0 [oN 40 (oV 5),oN 41 (.call 71 [(.t 40)]),oN 4 (oV 41)]) .ret)))))⟩
structure D_spec_l02Sub (T : Nat → Option Fn) : Prop where
 hT : T 149 = some F_spec_l02Sub
 d_spec_l02Trim : D_spec_l02Trim T
def F_spec_l02Mul : Fn:=⟨2,72,[.tmp 4],(.seq (.reg false 0 [oN 4 (.mov (.c (.nils)))]) (.seq (.seq (.reg false 0 [oN 12 (oV 0),oN 13 (.len (.t 12)),oN 14 (.bin .eql (.t 13) (cI 0)),oN 15 (oV 14),oG 15 false 16 (oV 1),oG 15 false 17 (.len (.t 16)),oG 15 false 18 (.bin .eql (.t 17) (cI 0)),oN 19 (.pick (.t 15) (.c (.bool true)) (.t 18))]) (.cond (.t 19) (.seq (.reg false 0 [oN 4 (.mov (.c (.nils)))]) .ret) .skip)) (.seq (.reg false 1 [oK 20 1 (oV 0),oK 21 1 (.len (.t 20)),oK 22 1 (oV 1),oK 23 1 (.len (.t 22)),oK 24 1 (.bin .add (.t 21) (.t 23)),oN 25 (.make [.int .i64 0] 8 (.t 24)),oK 5 1 (oV 25)]) (.seq (.seq (.reg false 0 [oN 26 (oV 0),oN 27 (.len (.t 26)),oN 28 (.mov (cI 0))]) (.block 0 (.loop (.seq (.reg false 0 [oN 29 (.bin .lss (.t 28) (.t 27))]) (.seq (.cond (.t 29) .skip (.exit 0)) (.seq (.block 1 (.seq (.reg false 0 [oN 30 (oV 28),oN 31 (.idx 1 (.t 26) (.t 28)),oN 32 (.load 1 false (.t 31)),oN 6 (oV 30),oN 7 (oV 32)]) (.seq (.reg false 0 [oN 8 (.mov (cI 0))]) (.seq (.seq (.reg false 0 [oN 33 (oV 1),oN 34 (.len (.t 33)),oN 35 (.mov (cI 0))]) (.block 2 (.loop (.seq (.reg false 0 [oN 36 (.bin .lss (.t 35) (.t 34))]) (.seq (.cond (.t 36) .skip (.exit 2)) (.seq (.block 3 (.seq (.reg false 0 [oN 37 (oV 35),oN 38 (.idx 1 (.t 33) (.t 35)),oN 39 (.load 1 false (.t 38)),oN 9 (oV 37),oN 10 (oV 39)]) (.seq (.reg false 0 [oN 40 (oV 5),oN 41 (oV 6),oN 42 (oV 9),oN 43 (.bin .add (.t 41) (.t 42)),oN 44 (.idx 1 (.t 40) (.t 43)),oN 45 (.load 1 false (.t 44)),oN 46 (oV 7),oN 47 (oV 10),oN 48 (.bin .mul (.t 46) (.t 47)),oN 49 (.bin .add (.t 45) (.t 48)),oN 50 (oV 8),oN 51 (.bin .add (.t 49) (.t 50)),oN 11 (oV 51)]) (.seq (.reg false 0 [oN 52 (oV 5),oN 53 (oV 6),oN 54 (oV 9),oN 55 (.bin .add (.t 53) (.t 54)),oN 56 (oV 11),oN 57 (.bin .rem (.t 56) (cI 1000000000)),oN 58 (.idx 1 (.t 52) (.t 55)),oS (.store 1 (.t 58) (.t 57))]) (.reg false 0 [oN 59 (oV 11),oN 60 (.bin .quo (.t 59) (cI 1000000000)),oN 8 (oV 60)]))))) (.reg false 0 [oN 61 (.bin .add (.t 35) (cI 1)),oN 35 (oV 61)]))))))) (.reg false 0 [oN 62 (oV 5),oN 63 (oV 6),oN 64 (oV 1),oN 65 (.len (.t 64)),oN 66 (.bin .add (.t 63) (.t 65)),oN 67 (oV 8),oN 68 (.idx 1 (.t 62) (.t 66)),oS (.store 1 (.t 68) (.t 67))]))))) (.reg false 0 [oN 69 (.bin .add (.t 28) (cI 1)),oN 28 (oV 69)]))))))) (.seq (.reg false 0 [oN 70 (oV 5),oN 71 (.call 71 [(.t 70)]),oN 4 (oV 71)]) .ret)))))⟩
structure D_spec_l02Mul (T : Nat → Option Fn) : Prop where
 hT : T 150 = some F_spec_l02Mul
 d_spec_l02Trim : D_spec_l02Trim T
def F_spec_NatOf : Fn:=⟨1,15,[.tmp 2],(.seq (.reg false 0 [oN 2 (.mov (.c (.nils)))]) (.seq (.reg false 1 [oN 4 (.mkSl 1 [.int .i64 0] 0 []),oK 3 1 (oV 4)]) (.seq (.block 0 (.loop (.seq (.seq (.reg false 0 [oN 5 (oV 0),oN 6 (.bin .gtr (.t 5) (cI 0))]) (.cond (.t 6) .skip (.exit 0))) (.block 1 (.seq (.reg false 2 [oK 7 2 (oV 3),oK 8 2 (oV 0),oK 9 2 (.bin .rem (.t 8) (cI 1000000000)),oN 10 (.mkSl 1 [.int .i64 0] 1 [(0,(.t 9))]),oK 11 1 (.app 1 8 (.t 7) (.t 10)),oK 3 2 (oV 11)]) (.reg false 0 [oN 12 (oV 0),oN 13 (.bin .quo (.t 12) (cI 1000000000)),oN 0 (oV 13)])))))) (.seq (.reg false 0 [oN 14 (oV 3),oN 2 (oV 14)]) .ret))))⟩
structure D_spec_NatOf (T : Nat → Option Fn) : Prop where
 hT : T 67 = some F_spec_NatOf
def F_spec_l01In : Fn:=⟨3,15,[.tmp 6],(.seq (.reg false 0 [oN 6 (.mov (.c (.bool false)))]) (.seq (.reg false 0 [oN 7 (oV 0),oN 8 (oV 1),oN 9 (.bin .geq (.t 7) (.t 8)),oN 10 (oV 9),oG 10 true 11 (oV 0),oG 10 true 12 (oV 2),oG 10 true 13 (.bin .leq (.t 11) (.t 12)),oN 14 (.pick (.t 10) (.t 13) (.c (.bool false))),oN 6 (oV 14)]) .ret))⟩
structure D_spec_l01In (T : Nat → Option Fn) : Prop where
 hT : T 35 = some F_spec_l01In
def F_spec_NatOk : Fn:=⟨1,32,[.tmp 2],(.seq (.reg false 0 [oN 2 (.mov (.c (.bool false)))]) (.seq (.seq (.reg false 0 [oN 5 (oV 0),oN 6 (.len (.t 5)),oN 7 (.mov (cI 0))]) (.block 0 (.loop (.seq (.reg false 0 [oN 8 (.bin .lss (.t 7) (.t 6))]) (.seq (.cond (.t 8) .skip (.exit 0)) (.seq (.block 1 (.seq (.reg false 0 [oN 9 (.idx 1 (.t 5) (.t 7)),oN 10 (.load 1 false (.t 9)),oN 4 (oV 10)]) (.seq (.reg false 0 [oN 11 (oV 4),oN 12 (.call 35 [(.t 11),(cI 0),(cI 999999999)]),oN 13 (.un .not (.t 12))]) (.cond (.t 13) (.seq (.reg false 0 [oN 2 (.mov (.c (.bool false)))]) .ret) .skip)))) (.reg false 0 [oN 14 (.bin .add (.t 7) (cI 1)),oN 7 (oV 14)]))))))) (.seq (.reg false 0 [oN 15 (oV 0),oN 16 (.len (.t 15)),oN 17 (.bin .leq (.t 16) (cI 60)),oN 18 (oV 17),oG 18 true 19 (oV 0),oG 18 true 20 (.len (.t 19)),oG 18 true 21 (.bin .eql (.t 20) (cI 0)),oG 18 true 22 (oV 21),oG 22 false 23 (oV 0),oG 22 false 24 (oV 0),oG 22 false 25 (.len (.t 24)),oG 22 false 26 (.bin .sub (.t 25) (cI 1)),oG 22 false 27 (.idx 1 (.t 23) (.t 26)),oG 22 false 28 (.load 1 false (.t 27)),oG 22 false 29 (.bin .neq (.t 28) (cI 0)),oG 18 true 30 (.pick (.t 22) (.c (.bool true)) (.t 29)),oN 31 (.pick (.t 18) (.t 30) (.c (.bool false))),oN 2 (oV 31)]) .ret)))⟩
structure D_spec_NatOk (T : Nat → Option Fn) : Prop where
 hT : T 121 = some F_spec_NatOk
 d_spec_l01In : D_spec_l01In T
def F_spec_l02Cap : Fn:=⟨1,10,[.tmp 2],(.seq (.reg false 0 [oN 2 (.mov (.c (.nils)))]) (.seq (.reg false 0 [oN 4 (oV 0),oN 5 (.call 71 [(.t 4)]),oN 3 (oV 5)]) (.seq (.seq (.reg false 0 [oN 6 (oV 3),oN 7 (.len (.t 6)),oN 8 (.bin .gtr (.t 7) (cI 60))]) (.cond (.t 8) (.seq (.reg false 0 [oN 2 (.mov (.c (.nils)))]) .ret) .skip)) (.seq (.reg false 0 [oN 9 (oV 3),oN 2 (oV 9)]) .ret))))⟩
structure D_spec_l02Cap (T : Nat → Option Fn) : Prop where
 hT : T 70 = some F_spec_l02Cap
 d_spec_l02Trim : D_spec_l02Trim T
theorem c_l02Trim {T : Nat → Option Fn} (h : D_spec_l02Trim T) {l : List Int} (hl : l.length ≤ 1048576:=by first | omega | assumption | (simp;omega)) : PF T 71 [ints l] (ints (trim l)):=by
 refine pf_end (fun _ _=>false) h.hT rfl rfl ?_
 dsimp only [F_spec_l02Trim,oN,oS,oG,oK,oA,oH,oV,cI]
 refine ev ?_
 refine loop_at (fun _ _=>false) (α:=Nat) (fun n=>⟨argE [ints l,.any,.any,iv (n : Nat)],[],0,0,[],[]⟩) (fun n=>n ≤ l.length ∧ trimN l l.length = trimN l n) (fun n=>n) rfl l.length ?_ ?_ ?_
 ·exact ⟨by omega,rfl⟩
 ·(refine Fg_env ?_;exact fgV)
 ·rintro n ⟨hn,ht⟩
  refine ev ?_
  refine brK_dec (fun hb=>?_) fun hb=>?_ <;> refine ev1 @hb ?_
  ·obtain ⟨m,rfl⟩ : ∃ m,n = m + 1:=⟨n - 1,by omega⟩
   have e1 : ((m + 1 : Nat) : Int) - 1 = (m : Nat):=by omega
   refine ev1 @e1 ?_
   refine brK_dec (fun hc=>?_) fun hc=>?_ <;> refine ev1 @hc ?_
   ·refine ⟨m,by omega,⟨by omega,?_⟩,by (refine Fg_env ?_;exact fgV)⟩
    rw [ht];simp only [trimN,hc,if_true]
   ·rw [trim,ht];simp only [trimN,hc,if_false]
  ·have : n = 0:=by omega
   subst this
   rw [trim,ht]
   simp [trimN,irows]
theorem c_l02Cap {T : Nat → Option Fn} (h : D_spec_l02Cap T) {n : Nat} (hl : (mk n).length ≤ 60:=by first | omega | assumption | (simp;omega)) : PF T 70 [ints (mk n)] (ints (mk n)):=by
 have ct:=c_l02Trim h.d_spec_l02Trim (l:=mk n) (by omega)
 rw [trim_can (can_mk n)] at ct
 have c1 : ¬ (60 : Int) < ((mk n).length : Nat):=by omega
 refine pf_end (fun _ _=>false) h.hT rfl rfl ?_
 dsimp only [F_spec_l02Cap,oN,oS,oG,oK,oA,oH,oV,cI]
 refine ev ?_
 refine PFK_of ct ?_
 (refine ev1 @c1 ?_;try with_reducible exact True.intro)
theorem c_l02Cmp {T : Nat → Option Fn} (h : D_spec_l02Cmp T) {a b : List Int} (ha : Can a) (hb : Can b) (la : a.length ≤ 1048576:=by first | omega | assumption | (simp;omega)) (lb : b.length ≤ 1048576:=by first | omega | assumption | (simp;omega)) : PF T 146 [ints a,ints b] (iv (cmpN (val a) (val b))):=by
 refine pf_end (fun _ _=>false) h.hT rfl rfl ?_
 dsimp only [F_spec_l02Cmp,oN,oS,oG,oK,oA,oH,oV,cI]
 refine ev ?_
 by_cases h1 : ((a.length : Nat) : Int) < (b.length : Nat)
 ·have:=val_lt_of_len ha.1 hb (by omega)
  have h0 : ¬ ((a.length : Nat) : Int) = (b.length : Nat):=by omega
  refine ev2 @h0 @h1 ?_
  simp [cmpN,this]
 by_cases h2 : ((b.length : Nat) : Int) < (a.length : Nat)
 ·have:=val_lt_of_len hb.1 ha (by omega)
  have h3 : ¬ val a < val b:=by omega
  have h0 : ¬ ((a.length : Nat) : Int) = (b.length : Nat):=by omega
  refine ev2 @h0 @h1 ?_
  simp [cmpN,this,h3]
 have hl : a.length = b.length:=by omega
 have h0:=iff_true_intro (show ((a.length : Nat) : Int) = (b.length : Nat) by omega)
 refine ev1 @h0 ?_
 refine loop_at (fun _ _=>false) (α:=Nat) (fun n=>⟨argE [ints a,ints b,.any,.any,.any,iv ((n : Int) - 1)],[],0,0,[],[]⟩) (fun n=>n ≤ a.length ∧ a.drop n = b.drop n) (fun n=>n) rfl a.length ?_ ?_ ?_
 ·exact ⟨by omega,by rw [List.drop_eq_nil_of_le (by omega),List.drop_eq_nil_of_le (by omega)]⟩
 ·(refine Fg_env ?_;exact fgV)
 ·rintro n ⟨hn,hd⟩
  refine ev ?_
  refine brK_dec (fun h3=>?_) fun h3=>?_ <;> refine ev1 @h3 ?_
  ·obtain ⟨m,rfl⟩ : ∃ m,n = m + 1:=⟨n - 1,by omega⟩
   have e1 : ((m + 1 : Nat) : Int) - 1 = (m : Nat):=by omega
   refine ev1 @e1 ?_
   refine brK_dec (fun h4=>?_) fun h4=>?_ <;> refine ev2 @h4 @e1 ?_
   ·have:=val_lt_at ha.1 hb.1 (i:=m) (by omega) (by omega) hd h4
    simp [cmpN,this]
   refine brK_dec (fun h5=>?_) fun h5=>?_ <;> refine ev2 @h5 @e1 ?_
   ·have:=val_lt_at hb.1 ha.1 (i:=m) (by omega) (by omega) hd.symm h5
    have h6 : ¬ val a < val b:=by omega
    simp [cmpN,this,h6]
   have e : a.getD m 0 = b.getD m 0:=by omega
   refine ⟨m,by omega,⟨by omega,?_⟩,by (refine Fg_env ?_;exact fgV)⟩
   rw [drop_getD (by omega),drop_getD (l:=b) (by omega),e,hd]
  ·have : n = 0:=by omega
   subst this
   simp only [List.drop_zero] at hd
   subst hd
   simp [cmpN]
theorem c_l02Add {T : Nat → Option Fn} (h : D_spec_l02Add T) {m n : Nat} (la : (mk m).length ≤ 1000:=by first | omega | assumption | (simp;omega)) (lb : (mk n).length ≤ 1000:=by first | omega | assumption | (simp;omega)) : PF T 209 [ints (mk m),ints (mk n)] (ints (mk (m + n))):=by
 obtain ⟨a,hA⟩ : ∃ a,mk m = a:=⟨_,rfl⟩
 obtain ⟨b,hB⟩ : ∃ b,mk n = b:=⟨_,rfl⟩
 have hva : val a = m:=by rw [← hA,val_mk]
 have hvb : val b = n:=by rw [← hB,val_mk]
 have hba : Lb a:=hA ▸ lb_mk m
 have hbb : Lb b:=hB ▸ lb_mk n
 rw [hA] at la ⊢
 rw [hB] at lb ⊢
 refine pf_endL (fun _ _=>false) h.hT rfl rfl ?_
 dsimp only [F_spec_l02Add,oN,oS,oG,oK,oA,oH,oV,cI]
 refine ev ?_
 refine loop_at (fun _ _=>false) (α:=Nat × Int × List Int) (fun q=>⟨argE [ints a,ints b,.any,.any,.any,slV q.2.2.length,iv q.2.1,iv (q.1 : Nat)],slS 1 (irows q.2.2),0,0,[],[]⟩) (fun q=>q.2.2.length = q.1 ∧ Lb q.2.2 ∧ (0 ≤ q.2.1 ∧ q.2.1 ≤ 1) ∧ val q.2.2 + 1000000000 ^ q.1 * (q.2.1.toNat + val (a.drop q.1) + val (b.drop q.1)) = m + n ∧ (q.1 ≤ max a.length b.length ∨ (q.1 = max a.length b.length + 1 ∧ q.2.1 = 0 ∧ q.2.2.getLast? ≠ some 0))) (fun q=>max a.length b.length + 1 - q.1) rfl (0,0,[]) ?_ ?_ ?_
 ·exact ⟨rfl,lb_nil,⟨by dsimp only;omega,by dsimp only;omega⟩,by simp [val,hva,hvb],by dsimp only;omega⟩
 ·first | ((refine Fg_env ?_;exact fgV);done) | ((refine Fg_re [] (by simp) (by intro p hp;cases hp) rfl ?_) <;> (try (refine ev ?_)) <;> (repeat' (first | exact True.intro | omega | exact CanE_ptr rfl (by simp) | refine ⟨?_,?_⟩ | exact of_eq_true (CanE_nil _ _ _) | exact CanE_of rfl (by simp;done) | exact CanE_of rfl rfl | (refine CanE_msl rfl ?_ rfl;simp [irows];done) | (refine CanE_msl rfl ?_ rfl;simp [irows];omega) | (refine CanE_frz ?_ ?_;(focus ((refine ev ?_;try with_reducible exact True.intro);done));(intro q hq k s0 l0;simp;done))));done)
 ·rintro ⟨i,c,xs⟩ ⟨hl,hlb,hc,hv,hi⟩
  dsimp only at hl hlb hc hv hi
  have hi' : i ≤ max a.length b.length ∨ (i = max a.length b.length + 1 ∧ c = 0):=hi.imp id fun h=>⟨h.1,h.2.1⟩
  have hx : xs.length ≤ 1001:=by omega
  have ea:=val_dropG a i
  have eb:=val_dropG b i
  have ga:=lb_at hba i
  have gb:=lb_at hbb i
  have step:=add_step hl hc.1 ga.1 gb.1 hv ea eb
  have za : a.length ≤ i → a.getD i 0 = 0:=getD_ge
  have zb : b.length ≤ i → b.getD i 0 = 0:=getD_ge
  have key : ∀ t : Int,t = c + a.getD i 0 + b.getD i 0 → ((i : Int) < a.length ∨ (i : Int) < b.length ∨ 0 < c) → ∃ a' : Nat × Int × List Int,a' = (i + 1,t.tdiv 1000000000,xs ++ [t.tmod 1000000000]) ∧
    max a.length b.length + 1 - a'.1 < max a.length b.length + 1 - i ∧ (a'.2.2.length = a'.1 ∧ Lb a'.2.2 ∧ (0 ≤ a'.2.1 ∧ a'.2.1 ≤ 1) ∧ val a'.2.2 + 1000000000 ^ a'.1 * (a'.2.1.toNat + val (a.drop a'.1) + val (b.drop a'.1)) = m + n ∧
     (a'.1 ≤ max a.length b.length ∨ (a'.1 = max a.length b.length + 1 ∧ a'.2.1 = 0 ∧ a'.2.2.getLast? ≠ some 0))):=by
   intro t ht hor
   have ht0 : 0 ≤ t:=by omega
   refine ⟨_,rfl,?_⟩
   dsimp only
   rw [tmod_B ht0,tdiv_B ht0]
   refine ⟨by omega,by simp [hl],lb_snoc (by omega) (by omega) hlb,⟨by omega,by omega⟩,by rw [ht];exact step,?_⟩
   by_cases hlt : i < max a.length b.length
   ·left;omega
   ·right
    have h1:=za (by omega)
    have h2:=zb (by omega)
    refine ⟨by omega,by omega,?_⟩
    intro hlast
    rw [List.getLast?_concat] at hlast
    have:=Option.some.inj hlast
    omega
  have fin : ¬ ((i : Int) < a.length ∨ (i : Int) < b.length ∨ 0 < c) → xs = mk (m + n):=by
   intro hno
   have e1 : val (a.drop i) = 0:=val_drop_ge (by omega)
   have e2 : val (b.drop i) = 0:=val_drop_ge (by omega)
   rw [e1,e2,show c.toNat = 0 by omega] at hv
   simp only [Nat.add_zero,Nat.mul_zero] at hv
   refine (add_can hv hlb ?_).symm
   rw [hA,hB]
   rcases hi with k | k
   ·left;omega
   ·right;exact k.2.2
  by_cases ca : (i : Int) < (a.length : Nat) <;> by_cases cb : (i : Int) < (b.length : Nat) <;> by_cases cc : 0 < c
  ·obtain ⟨_,rfl,k1,k2⟩:=key (c + a.getD i 0 + b.getD i 0) (by omega) (by omega)
   clear key step fin ea eb hi hv hlb hba hbb za zb
   (rcases xs with _ | ⟨x,xs⟩ <;> simp only [List.length_nil,List.length_cons,slV_0,slV_s,slI_nil,slI_cons] at hx ⊢)
   ·refine ev3 @ca @cb @cc ?_
    exact ⟨by omega,_,k1,k2,by (simp only [← irows_snoc];refine Fg_push (k:=1) (still_isnoc _ _) rfl ?_;(try (refine ev ?_));(repeat' (first | exact True.intro | omega | exact CanE_push (by simp) (by simp) (by simp) | refine ⟨?_,?_⟩ | exact CanE_of rfl (by simp))))⟩
   ·refine ev3 @ca @cb @cc ?_
    exact ⟨by omega,_,k1,k2,by (simp only [← irows_snoc];refine Fg_push (k:=2) (still_isnoc _ _) rfl ?_;(try (refine ev ?_));(repeat' (first | exact True.intro | omega | exact CanE_push (by simp) (by simp) (by simp) | refine ⟨?_,?_⟩ | exact CanE_of rfl (by simp))))⟩
  ·obtain ⟨_,rfl,k1,k2⟩:=key (c + a.getD i 0 + b.getD i 0) (by omega) (by omega)
   clear key step fin ea eb hi hv hlb hba hbb za zb
   (rcases xs with _ | ⟨x,xs⟩ <;> simp only [List.length_nil,List.length_cons,slV_0,slV_s,slI_nil,slI_cons] at hx ⊢)
   ·refine ev3 @ca @cb @cc ?_
    exact ⟨by omega,_,k1,k2,by (simp only [← irows_snoc];refine Fg_push (k:=1) (still_isnoc _ _) rfl ?_;(try (refine ev ?_));(repeat' (first | exact True.intro | omega | exact CanE_push (by simp) (by simp) (by simp) | refine ⟨?_,?_⟩ | exact CanE_of rfl (by simp))))⟩
   ·refine ev3 @ca @cb @cc ?_
    exact ⟨by omega,_,k1,k2,by (simp only [← irows_snoc];refine Fg_push (k:=2) (still_isnoc _ _) rfl ?_;(try (refine ev ?_));(repeat' (first | exact True.intro | omega | exact CanE_push (by simp) (by simp) (by simp) | refine ⟨?_,?_⟩ | exact CanE_of rfl (by simp))))⟩
  ·obtain ⟨_,rfl,k1,k2⟩:=key (c + a.getD i 0) (by omega) (by omega)
   clear key step fin ea eb hi hv hlb hba hbb za zb
   (rcases xs with _ | ⟨x,xs⟩ <;> simp only [List.length_nil,List.length_cons,slV_0,slV_s,slI_nil,slI_cons] at hx ⊢)
   ·refine ev3 @ca @cb @cc ?_
    exact ⟨by omega,_,k1,k2,by (simp only [← irows_snoc];refine Fg_push (k:=1) (still_isnoc _ _) rfl ?_;(try (refine ev ?_));(repeat' (first | exact True.intro | omega | exact CanE_push (by simp) (by simp) (by simp) | refine ⟨?_,?_⟩ | exact CanE_of rfl (by simp))))⟩
   ·refine ev3 @ca @cb @cc ?_
    exact ⟨by omega,_,k1,k2,by (simp only [← irows_snoc];refine Fg_push (k:=2) (still_isnoc _ _) rfl ?_;(try (refine ev ?_));(repeat' (first | exact True.intro | omega | exact CanE_push (by simp) (by simp) (by simp) | refine ⟨?_,?_⟩ | exact CanE_of rfl (by simp))))⟩
  ·obtain ⟨_,rfl,k1,k2⟩:=key (c + a.getD i 0) (by omega) (by omega)
   clear key step fin ea eb hi hv hlb hba hbb za zb
   (rcases xs with _ | ⟨x,xs⟩ <;> simp only [List.length_nil,List.length_cons,slV_0,slV_s,slI_nil,slI_cons] at hx ⊢)
   ·refine ev3 @ca @cb @cc ?_
    exact ⟨by omega,_,k1,k2,by (simp only [← irows_snoc];refine Fg_push (k:=1) (still_isnoc _ _) rfl ?_;(try (refine ev ?_));(repeat' (first | exact True.intro | omega | exact CanE_push (by simp) (by simp) (by simp) | refine ⟨?_,?_⟩ | exact CanE_of rfl (by simp))))⟩
   ·refine ev3 @ca @cb @cc ?_
    exact ⟨by omega,_,k1,k2,by (simp only [← irows_snoc];refine Fg_push (k:=2) (still_isnoc _ _) rfl ?_;(try (refine ev ?_));(repeat' (first | exact True.intro | omega | exact CanE_push (by simp) (by simp) (by simp) | refine ⟨?_,?_⟩ | exact CanE_of rfl (by simp))))⟩
  ·obtain ⟨_,rfl,k1,k2⟩:=key (c + b.getD i 0) (by omega) (by omega)
   clear key step fin ea eb hi hv hlb hba hbb za zb
   (rcases xs with _ | ⟨x,xs⟩ <;> simp only [List.length_nil,List.length_cons,slV_0,slV_s,slI_nil,slI_cons] at hx ⊢)
   ·refine ev3 @ca @cb @cc ?_
    exact ⟨by omega,_,k1,k2,by (simp only [← irows_snoc];refine Fg_push (k:=1) (still_isnoc _ _) rfl ?_;(try (refine ev ?_));(repeat' (first | exact True.intro | omega | exact CanE_push (by simp) (by simp) (by simp) | refine ⟨?_,?_⟩ | exact CanE_of rfl (by simp))))⟩
   ·refine ev3 @ca @cb @cc ?_
    exact ⟨by omega,_,k1,k2,by (simp only [← irows_snoc];refine Fg_push (k:=2) (still_isnoc _ _) rfl ?_;(try (refine ev ?_));(repeat' (first | exact True.intro | omega | exact CanE_push (by simp) (by simp) (by simp) | refine ⟨?_,?_⟩ | exact CanE_of rfl (by simp))))⟩
  ·obtain ⟨_,rfl,k1,k2⟩:=key (c + b.getD i 0) (by omega) (by omega)
   clear key step fin ea eb hi hv hlb hba hbb za zb
   (rcases xs with _ | ⟨x,xs⟩ <;> simp only [List.length_nil,List.length_cons,slV_0,slV_s,slI_nil,slI_cons] at hx ⊢)
   ·refine ev3 @ca @cb @cc ?_
    exact ⟨by omega,_,k1,k2,by (simp only [← irows_snoc];refine Fg_push (k:=1) (still_isnoc _ _) rfl ?_;(try (refine ev ?_));(repeat' (first | exact True.intro | omega | exact CanE_push (by simp) (by simp) (by simp) | refine ⟨?_,?_⟩ | exact CanE_of rfl (by simp))))⟩
   ·refine ev3 @ca @cb @cc ?_
    exact ⟨by omega,_,k1,k2,by (simp only [← irows_snoc];refine Fg_push (k:=2) (still_isnoc _ _) rfl ?_;(try (refine ev ?_));(repeat' (first | exact True.intro | omega | exact CanE_push (by simp) (by simp) (by simp) | refine ⟨?_,?_⟩ | exact CanE_of rfl (by simp))))⟩
  ·obtain ⟨_,rfl,k1,k2⟩:=key (c) (by omega) (by omega)
   clear key step fin ea eb hi hv hlb hba hbb za zb
   (rcases xs with _ | ⟨x,xs⟩ <;> simp only [List.length_nil,List.length_cons,slV_0,slV_s,slI_nil,slI_cons] at hx ⊢)
   ·refine ev3 @ca @cb @cc ?_
    exact ⟨by omega,_,k1,k2,by (simp only [← irows_snoc];refine Fg_push (k:=1) (still_isnoc _ _) rfl ?_;(try (refine ev ?_));(repeat' (first | exact True.intro | omega | exact CanE_push (by simp) (by simp) (by simp) | refine ⟨?_,?_⟩ | exact CanE_of rfl (by simp))))⟩
   ·refine ev3 @ca @cb @cc ?_
    exact ⟨by omega,_,k1,k2,by (simp only [← irows_snoc];refine Fg_push (k:=2) (still_isnoc _ _) rfl ?_;(try (refine ev ?_));(repeat' (first | exact True.intro | omega | exact CanE_push (by simp) (by simp) (by simp) | refine ⟨?_,?_⟩ | exact CanE_of rfl (by simp))))⟩
  ·have e:=fin (by omega)
   clear key step fin ea eb hi hv hlb hba hbb za zb
   (rcases xs with _ | ⟨x,xs⟩ <;> simp only [List.length_nil,List.length_cons,slV_0,slV_s,slI_nil,slI_cons] at hx ⊢)
   ·refine ev3 @ca @cb @cc ?_
    rw [← e];exact (LaxV_nil 1 ▸ trivial)
   ·refine ev3 @ca @cb @cc ?_
    rw [← e];exact laxV_refl _
theorem c_l02Mul {T : Nat → Option Fn} (h : D_spec_l02Mul T) {m n : Nat} (la : (mk m).length ≤ 1000:=by first | omega | assumption | (simp;omega)) (lb : (mk n).length ≤ 1000:=by first | omega | assumption | (simp;omega)) : PF T 150 [ints (mk m),ints (mk n)] (ints (mk (m * n))):=by
 obtain ⟨a,hA⟩ : ∃ a,mk m = a:=⟨_,rfl⟩
 obtain ⟨b,hB⟩ : ∃ b,mk n = b:=⟨_,rfl⟩
 have hva : val a = m:=by rw [← hA,val_mk]
 have hvb : val b = n:=by rw [← hB,val_mk]
 have hba : Lb a:=hA ▸ lb_mk m
 have hbb : Lb b:=hB ▸ lb_mk n
 rw [hA] at la ⊢
 rw [hB] at lb ⊢
 refine pf_endL (fun _ _=>false) h.hT rfl rfl ?_
 dsimp only [F_spec_l02Mul,oN,oS,oG,oK,oA,oH,oV,cI]
 refine ev ?_
 by_cases h1 : a.length = 0
 ·have : a = []:=List.eq_nil_of_length_eq_zero h1
  have e : m = 0:=by rw [← hva,this];rfl
  have h1' : ((a.length : Nat) : Int) = 0:=by omega
  refine ev1 @h1' ?_
  rw [e,Nat.zero_mul,mk_zero];exact (LaxV_nil 1 ▸ trivial)
 by_cases h2 : b.length = 0
 ·have : b = []:=List.eq_nil_of_length_eq_zero h2
  have e : n = 0:=by rw [← hvb,this];rfl
  have h1' : ¬ ((a.length : Nat) : Int) = 0:=by omega
  have h2' : ((b.length : Nat) : Int) = 0:=by omega
  refine ev2 @h1' @h2' ?_
  rw [e,Nat.mul_zero,mk_zero];exact (LaxV_nil 1 ▸ trivial)
 have h1' : ¬ ((a.length : Nat) : Int) = 0:=by omega
 have h2' : ¬ ((b.length : Nat) : Int) = 0:=by omega
 refine ev2 @h1' @h2' ?_
 refine ⟨⟨by omega,by omega,by omega⟩,?_⟩
 have eL : ((a.length : Int) + (b.length : Int)).toNat = a.length + b.length:=by omega
 rw [eL,ir_rep]
 refine loop_at (fun _ _=>false) (α:=Nat × List Int) (fun q=>⟨argE [ints a,ints b,.any,.any,.any,.msl 0 0 (a.length + b.length),.any,.any,.any,.any,.any,.any,.any,.any,.any,.any,.any,.any,.any,.any,.any,.any,.any,.any,.any,.any,ints a,iv (a.length : Nat),iv (q.1 : Nat)],[some ⟨1,irows q.2⟩],0,0,[],[]⟩) (fun q=>q.1 ≤ a.length ∧ q.2.length = a.length + b.length ∧ Lb q.2 ∧ val q.2 = val (a.take q.1) * n ∧ ∀ k,q.1 + b.length ≤ k → q.2.getD k 0 = 0) (fun q=>a.length - q.1) rfl (0,List.replicate (a.length + b.length) 0) ?_ ?_ ?_
 ·exact ⟨by omega,by simp,lb_rep _,by rw [val_rep];simp [val],by intro k _;simp [List.getD_eq_getElem?_getD,List.getElem?_replicate];split <;> rfl⟩
 ·(refine Fg_env ?_;exact fgV)
 ·rintro ⟨i,P⟩ ⟨hi,hP,hPb,hv,hz⟩
  dsimp only at hi hP hPb hv hz
  refine ev ?_
  refine brK_dec (fun c1=>?_) fun c1=>?_ <;> refine ev1 @c1 ?_
  ·have ga:=lb_at hba i
   have eA : val (a.take (i + 1)) = val (a.take i) + 1000000000 ^ i * (a.getD i 0).toNat:=by
    rw [take_succ_getD (by omega),val_snoc];congr 3;simp;omega
   refine loop_at (fun _ _=>false) (α:=Nat × Int × List Int) (fun q=>⟨argE [ints a,ints b,.any,.any,.any,.msl 0 0 (a.length + b.length),iv (i : Nat),iv (a.getD i 0),iv q.2.1,.any,.any,.any,.any,.any,.any,.any,.any,.any,.any,.any,.any,.any,.any,.any,.any,.any,ints a,iv (a.length : Nat),iv (i : Nat),.any,.any,.any,.any,ints b,iv (b.length : Nat),iv (q.1 : Nat)],[some ⟨1,irows q.2.2⟩],0,0,[],[]⟩) (fun q=>q.1 ≤ b.length ∧ q.2.2.length = a.length + b.length ∧ Lb q.2.2 ∧ (0 ≤ q.2.1 ∧ q.2.1 < 1000000000) ∧ val q.2.2 + q.2.1.toNat * (1000000000 ^ i * 1000000000 ^ q.1) = val P + (a.getD i 0).toNat * (1000000000 ^ i * val (b.take q.1)) ∧ ∀ k,i + b.length ≤ k → q.2.2.getD k 0 = 0) (fun q=>b.length - q.1) rfl (0,0,P) ?_ ?_ ?_
   ·exact ⟨by omega,hP,hPb,⟨by dsimp only;omega,by dsimp only;omega⟩,by simp [val],hz⟩
   ·(refine Fg_env ?_;exact fgV)
   ·rintro ⟨j,c,D⟩ ⟨hj,hD,hDb,hc,hw,hzD⟩
    dsimp only at hj hD hDb hc hw hzD
    have gb:=lb_at hbb j
    have gd:=lb_at hDb (i + j)
    have hm:=mul_bd ga gb
    by_cases c2 : (j : Int) < (b.length : Nat)
    ·have k2 : (val (D.set (i + j) ((D.getD (i + j) 0 + a.getD i 0 * b.getD j 0 + c) % 1000000000)) + ((D.getD (i + j) 0 + a.getD i 0 * b.getD j 0 + c) / 1000000000).toNat * (1000000000 ^ i * 1000000000 ^ (j + 1))) = val P + (a.getD i 0).toNat * (1000000000 ^ i * val (b.take (j + 1))):=by
      have e1 : val (b.take (j + 1)) = val (b.take j) + 1000000000 ^ j * (b.getD j 0).toNat:=by
       rw [take_succ_getD (by omega),val_snoc];congr 3;simp;omega
      have e2:=val_set (l:=D) (i:=i + j) (d:=(D.getD (i + j) 0 + a.getD i 0 * b.getD j 0 + c) % 1000000000) (by omega)
      have e3 : (a.getD i 0 * b.getD j 0).toNat = (a.getD i 0).toNat * (b.getD j 0).toNat:=Int.toNat_mul ga.1 gb.1
      have e4 : (D.getD (i + j) 0 + a.getD i 0 * b.getD j 0 + c).toNat = c.toNat + (D.getD (i + j) 0).toNat + (a.getD i 0).toNat * (b.getD j 0).toNat:=by
       rw [← e3];omega
      rw [e1,Nat.pow_succ]
      rw [Nat.pow_add] at e2
      have e5 : ((D.getD (i + j) 0 + a.getD i 0 * b.getD j 0 + c) % 1000000000).toNat = (D.getD (i + j) 0 + a.getD i 0 * b.getD j 0 + c).toNat % 1000000000:=by omega
      have e6 : ((D.getD (i + j) 0 + a.getD i 0 * b.getD j 0 + c) / 1000000000).toNat = (D.getD (i + j) 0 + a.getD i 0 * b.getD j 0 + c).toNat / 1000000000:=by omega
      rw [e5] at e2
      rw [e6]
      exact mul_step hw e2 e4
     have k3 : ∀ k,i + b.length ≤ k → (D.set (i + j) ((D.getD (i + j) 0 + a.getD i 0 * b.getD j 0 + c) % 1000000000)).getD k 0 = 0:=by
      intro k hk
      rw [getD_set_int',if_neg (by omega)]
      exact hzD k hk
     have k4:=lb_set (l:=D) (i:=i + j) (d:=(D.getD (i + j) 0 + a.getD i 0 * b.getD j 0 + c) % 1000000000) (by omega) (by omega) hDb
     have t1 : (D.getD (i + j) 0 + a.getD i 0 * b.getD j 0 + c).tmod 1000000000 = (D.getD (i + j) 0 + a.getD i 0 * b.getD j 0 + c) % 1000000000:=tmod_B (by omega)
     have t2 : (D.getD (i + j) 0 + a.getD i 0 * b.getD j 0 + c).tdiv 1000000000 = (D.getD (i + j) 0 + a.getD i 0 * b.getD j 0 + c) / 1000000000:=tdiv_B (by omega)
     have t3 : ((i : Int) + (j : Int)).toNat = i + j:=by omega
     clear hv hz hPb hDb eA hw hzD hba hbb
     refine ev5 @c2 @hD @t1 @t2 @t3 ?_
     refine ⟨(j + 1,(D.getD (i + j) 0 + a.getD i 0 * b.getD j 0 + c) / 1000000000,D.set (i + j) ((D.getD (i + j) 0 + a.getD i 0 * b.getD j 0 + c) % 1000000000)),by dsimp only;omega,⟨by dsimp only;omega,by simp [hD],k4,⟨by dsimp only;omega,by dsimp only;omega⟩,k2,k3⟩,by (refine Fg_env ?_;exact fgV)⟩
    ·have hj2 : j = b.length:=by omega
     subst hj2
     rw [List.take_length] at hw
     have e2:=val_set (l:=D) (i:=i + b.length) (d:=c) (by omega)
     rw [hzD (i + b.length) (Nat.le_refl _),Nat.pow_add] at e2
     have k1 : val (D.set (i + b.length) c) = val (a.take (i + 1)) * n:=by
      rw [eA,Nat.add_mul,← hv,← hvb]
      have : 1000000000 ^ i * (a.getD i 0).toNat * val b = (a.getD i 0).toNat * (1000000000 ^ i * val b):=by rw [Nat.mul_comm (1000000000 ^ i),Nat.mul_assoc]
      rw [this]
      have : c.toNat * (1000000000 ^ i * 1000000000 ^ b.length) = 1000000000 ^ i * 1000000000 ^ b.length * c.toNat:=Nat.mul_comm _ _
      simp only [Int.toNat_zero,Nat.mul_zero,Nat.add_zero] at e2
      omega
     have k2 : ∀ k,(i + 1) + b.length ≤ k → (D.set (i + b.length) c).getD k 0 = 0:=by
      intro k hk
      rw [getD_set_int',if_neg (by omega)]
      exact hzD k (by omega)
     have k3:=lb_set (l:=D) (i:=i + b.length) hc.1 hc.2 hDb
     have t3 : ((i : Int) + (b.length : Int)).toNat = i + b.length:=by omega
     clear hv hz hPb hDb eA hw hzD hba hbb e2
     refine ev3 @c2 @hD @t3 ?_
     exact ⟨(i + 1,D.set (i + b.length) c),by dsimp only;omega,⟨by dsimp only;omega,by simp [hD],k3,k1,k2⟩,by (refine Fg_env ?_;exact fgV)⟩
  ·have hi2 : i = a.length:=by omega
   subst hi2
   rw [List.take_length,hva] at hv
   refine ev1 @hP ?_
   refine PFK_of (c_l02Trim h.d_spec_l02Trim (l:=P) (by omega)) ?_
   refine ev ?_
   rw [trim_mk hPb,hv]
   exact laxV_refl _
theorem c_l01In {T : Nat → Option Fn} (h : D_spec_l01In T) {a b c : Int} : PF T 35 [iv a,iv b,iv c] (.bool (decide (b ≤ a) && decide (a ≤ c))):=by
 refine pf_end (fun _ _=>false) h.hT rfl rfl ?_
 dsimp only [F_spec_l01In,oN,oS,oG,oK,oA,oH,oV,cI]
 refine ev ?_
 by_cases h1 : b ≤ a
 ·(refine ev1 @h1 ?_;try with_reducible exact True.intro)
 ·(refine ev1 @h1 ?_;try with_reducible exact True.intro)
theorem c_sNatOk {T : Nat → Option Fn} (h : D_spec_NatOk T) {l : List Int} (hl : l.length ≤ 9223372036854775807:=by first | omega | assumption | (simp;omega)) : PF T 121 [ints l] (.bool (natOk l)):=by
 refine pf_end (fun _ _=>false) h.hT rfl rfl ?_
 dsimp only [F_spec_NatOk,oN,oS,oG,oK,oA,oH,oV,cI]
 refine ev ?_
 refine loop_at (fun _ _=>false) (α:=Nat) (fun i=>⟨argE [ints l,.any,.any,.any,.any,ints l,iv (l.length : Nat),iv (i : Nat)],[],0,0,[],[]⟩) (fun i=>i ≤ l.length ∧ ∀ j,j < i → 0 ≤ l.getD j 0 ∧ l.getD j 0 < 1000000000) (fun i=>l.length - i) rfl 0 ?_ ?_ ?_
 ·exact ⟨by omega,by intro j hj;omega⟩
 ·(refine Fg_env ?_;exact fgV)
 ·rintro i ⟨hi,hj⟩
  refine ev ?_
  refine brK_dec (fun h2=>?_) fun h2=>?_ <;> refine ev1 @h2 ?_
  ·have bad : ¬ (0 ≤ l.getD i 0 ∧ l.getD i 0 < 1000000000) → natOk l = false:=fun hn=>by
    have : ¬ natOk l = true:=fun e=>by
     have hc:=(natOk_can.1 e).2.1
     exact hn (lb_at hc i)
    simpa using this
   refine PFK_of (c_l01In h.d_spec_l01In) ?_
   by_cases g : 0 ≤ l.getD i 0 ∧ l.getD i 0 < 1000000000
   ·have g1 : 0 ≤ l.getD i 0:=g.1
    have g2 : l.getD i 0 ≤ 999999999:=by omega
    refine ev2 @g1 @g2 ?_
    refine ⟨i + 1,by omega,⟨by omega,fun j hj'=>?_⟩,by (refine Fg_env ?_;exact fgV)⟩
    by_cases e : j = i
    ·subst e;omega
    ·exact hj j (by omega)
   ·rw [bad g]
    have g2 : (decide (0 ≤ l.getD i 0) && decide (l.getD i 0 ≤ 999999999)) = false:=by
     simp only [Bool.and_eq_false_iff,decide_eq_false_iff_not];omega
    (refine ev1 @g2 ?_;try with_reducible exact True.intro)
  ·have hi2 : i = l.length:=by omega
   subst hi2
   have hall : l.all (fun d=>decide (0 ≤ d) && decide (d < 1000000000)) = true:=by
    rw [List.all_eq_true]
    intro d hd
    obtain ⟨j,hj1,rfl⟩:=List.mem_iff_getElem.1 hd
    have:=hj j hj1
    rw [List.getD_eq_getElem?_getD,List.getElem?_eq_getElem hj1] at this
    simpa using this
   unfold natOk
   rw [hall]
   by_cases q1 : ((l.length : Nat) : Int) ≤ 60
   ·have q1' : decide (l.length ≤ 60) = true:=by simp;omega
    rw [q1']
    by_cases q2 : ((l.length : Nat) : Int) = 0
    ·have q2':=iff_true_intro q2
     refine ev2 @q1 @q2' ?_
     have : l = []:=List.eq_nil_of_length_eq_zero (by omega)
     subst this;rfl
    ·refine ev2 @q1 @q2 ?_
     have e1 : ((l.length : Nat) : Int) - 1 = ((l.length - 1 : Nat) : Int):=by omega
     have e2 : ((l.length : Int) - 1).toNat = l.length - 1:=by omega
     have e3 : l.isEmpty = false:=by cases l <;> simp_all
     rw [e3,e2];simp
   ·have q1' : decide (l.length ≤ 60) = false:=by simp;omega
    rw [q1']
    (refine ev1 @q1 ?_;try with_reducible exact True.intro)
theorem c_NatOf {T : Nat → Option Fn} (h : D_spec_NatOf T) {n : Int} (hn : 0 ≤ n ∧ n ≤ 9223372036854775807:=by first | omega | assumption | (simp;omega)) : PF T 67 [iv n] (ints (mk n.toNat)):=by
 have hlen : (mk n.toNat).length ≤ 3:=mk_len_le.2 (by omega)
 refine pf_endL (fun _ _=>false) h.hT rfl rfl ?_
 dsimp only [F_spec_NatOf,oN,oS,oG,oK,oA,oH,oV,cI]
 refine ev ?_
 refine loop_at (fun _ _=>false) (α:=Nat × List Int) (fun q=>⟨argE [iv (q.1 : Nat),.any,.any,slV q.2.length],slS 1 (irows q.2),0,0,[],[]⟩) (fun q=>q.2 ++ mk q.1 = mk n.toNat ∧ q.1 ≤ n.toNat) (fun q=>q.1) rfl (n.toNat,[]) ?_ ?_ ?_
 ·exact ⟨rfl,Nat.le_refl _⟩
 ·first | ((refine Fg_env ?_;exact fgV);done) | ((refine Fg_re [] (by simp) (by intro p hp;cases hp) rfl ?_) <;> (try (refine ev ?_)) <;> (repeat' (first | exact True.intro | omega | exact CanE_ptr rfl (by simp) | refine ⟨?_,?_⟩ | exact of_eq_true (CanE_nil _ _ _) | exact CanE_of rfl (by simp;done) | exact CanE_of rfl rfl | (refine CanE_msl rfl ?_ rfl;simp [irows];done) | (refine CanE_msl rfl ?_ rfl;simp [irows];omega) | (refine CanE_frz ?_ ?_;(focus ((refine ev ?_;try with_reducible exact True.intro);done));(intro q hq k s0 l0;simp;done))));done)
 ·rintro ⟨m,xs⟩ ⟨hm,hle⟩
  dsimp only at hm hle
  have hx : xs.length ≤ 3:=by
   have:=congrArg List.length hm
   simp at this;omega
  have e1 : ((m : Int).tmod 1000000000) = ((m % 1000000000 : Nat) : Int):=by rw [tmod_B (by omega)];omega
  have e2 : ((m : Int).tdiv 1000000000) = ((m / 1000000000 : Nat) : Int):=by rw [tdiv_B (by omega)];omega
  have key : 0 < m → (xs ++ [((m % 1000000000 : Nat) : Int)]) ++ mk (m / 1000000000) = mk n.toNat:=fun h=>by
   rw [← hm,mk_pos (n:=m) (by omega)];simp
  (rcases xs with _ | ⟨x,xs⟩ <;> simp only [List.length_nil,List.length_cons,slV_0,slV_s,slI_nil,slI_cons] at hx ⊢)
  ·refine ev ?_
   refine brK_dec (fun hb=>?_) fun hb=>?_ <;> refine ev3 @hb @e1 @e2 ?_
   ·exact ⟨by omega,(m / 1000000000,[] ++ [((m % 1000000000 : Nat) : Int)]),by dsimp only;omega,⟨key (by omega),by dsimp only;omega⟩,by (simp only [← irows_snoc];refine Fg_push (k:=1) (still_isnoc _ _) rfl ?_;(try (refine ev ?_));(repeat' (first | exact True.intro | omega | exact CanE_push (by simp) (by simp) (by simp) | refine ⟨?_,?_⟩ | exact CanE_of rfl (by simp))))⟩
   ·have e : mk n.toNat = []:=by rw [← hm,show m = 0 by omega,mk_zero];rfl
    rw [e];exact (LaxV_nil 1 ▸ trivial)
  ·refine ev ?_
   refine brK_dec (fun hb=>?_) fun hb=>?_ <;> refine ev3 @hb @e1 @e2 ?_
   ·refine ⟨by omega,(m / 1000000000,(x :: xs) ++ [((m % 1000000000 : Nat) : Int)]),by dsimp only;omega,⟨key (by omega),by dsimp only;omega⟩,by (simp only [← irows_snoc];refine Fg_push (k:=2) (still_isnoc _ _) rfl ?_;(try (refine ev ?_));(repeat' (first | exact True.intro | omega | exact CanE_push (by simp) (by simp) (by simp) | refine ⟨?_,?_⟩ | exact CanE_of rfl (by simp))))⟩
   ·have e : x :: xs = mk n.toNat:=by rw [← hm,show m = 0 by omega,mk_zero];simp
    rw [← e];exact laxV_refl _
abbrev bi (z : Int) : Bi:=⟨decide (z < 0),mk z.natAbs⟩
abbrev sg (neg : Bool) (n : Nat) : Int:=if neg = true then -(n : Int) else n
theorem ln_lt (n : Nat) : n < 1000000000 ^ (mk n).length:=mk_len_le.1 (Nat.le_refl _)
theorem ln_mono {m n : Nat} (h : m ≤ n) : (mk m).length ≤ (mk n).length:=mk_len_le.2 (Nat.lt_of_le_of_lt h (ln_lt n))
theorem ln_mul (m n : Nat) : (mk (m * n)).length ≤ (mk m).length + (mk n).length:=by
 rw [mk_len_le,Nat.pow_add]
 exact Nat.mul_lt_mul_of_lt_of_lt (ln_lt m) (ln_lt n)
theorem ln_add (m n : Nat) : (mk (m + n)).length ≤ max (mk m).length (mk n).length + 1:=by
 rw [mk_len_le,Nat.pow_succ]
 have h1:=Nat.lt_of_lt_of_le (ln_lt m) (Nat.pow_le_pow_right (n:=1000000000) (by omega) (Nat.le_max_left (mk m).length (mk n).length))
 have h2:=Nat.lt_of_lt_of_le (ln_lt n) (Nat.pow_le_pow_right (n:=1000000000) (by omega) (Nat.le_max_right (mk m).length (mk n).length))
 omega
theorem ln_sub (m n : Nat) : (mk (m - n)).length ≤ (mk m).length:=ln_mono (Nat.sub_le m n)
theorem ln_div (m n : Nat) : (mk (m / n)).length ≤ (mk m).length:=ln_mono (Nat.div_le_self m n)
theorem ln_zero : (mk 0).length = 0:=by rw [mk_zero];rfl
theorem ln_pos {n : Nat} : 0 < (mk n).length ↔ 0 < n:=by
 constructor
 ·intro h;rcases Nat.eq_zero_or_pos n with rfl | h1
  ·rw [mk_zero] at h;simp at h
  ·exact h1
 ·intro h;have:=mk_ne (n:=n) (by omega);omega
theorem ln_z {n : Nat} : (mk n).length = 0 ↔ n = 0:=by
 have:=@ln_pos n;omega
theorem ln_imul (x y : Int) : (mk (x * y).natAbs).length ≤ (mk x.natAbs).length + (mk y.natAbs).length:=by
 rw [Int.natAbs_mul];exact ln_mul _ _
theorem ln_iadd (x y : Int) : (mk (x + y).natAbs).length ≤ max (mk x.natAbs).length (mk y.natAbs).length + 1 :=
 Nat.le_trans (ln_mono (Int.natAbs_add_le x y)) (ln_add _ _)
theorem bi_sg (neg : Bool) (n : Nat) (h : 0 < n) : bi (sg neg n) = ⟨neg,mk n⟩:=by
 cases neg
 ·simp [bi,sg]
 ·simp [bi,sg,h]
theorem bi_zero : bi 0 = ⟨false,[]⟩:=by simp [bi,mk_zero]
theorem sg_zero (neg : Bool) : sg neg 0 = 0:=by cases neg <;> simp [sg]
theorem bi_nat (n : Nat) : bi (n : Int) = ⟨false,mk n⟩:=by simp [bi]
theorem sg_mul (x y : Int) : sg (decide (x < 0) != decide (y < 0)) (x.natAbs * y.natAbs) = x * y:=by
 rw [← Int.natAbs_mul]
 by_cases x0 : x = 0
 ·subst x0;simp [sg]
 by_cases y0 : y = 0
 ·subst y0;simp [sg]
 rcases (show x < 0 ∨ 0 < x by omega) with h | h <;> rcases (show y < 0 ∨ 0 < y by omega) with k | k
 ·have:=Int.mul_pos_of_neg_of_neg h k
  simp only [sg,h,k,decide_true,bne_self_eq_false,Bool.false_eq_true,if_false];omega
 ·have:=Int.mul_neg_of_neg_of_pos h k
  have k' : ¬ y < 0:=by omega
  simp only [sg,h,k',decide_true,decide_false,Bool.bne_false,if_true];omega
 ·have:=Int.mul_neg_of_pos_of_neg h k
  have h' : ¬ x < 0:=by omega
  simp only [sg,h',k,decide_true,decide_false,Bool.false_bne,if_true];omega
 ·have:=Int.mul_pos h k
  have k' : ¬ y < 0:=by omega
  have h' : ¬ x < 0:=by omega
  simp only [sg,h',k',decide_false,bne_self_eq_false,Bool.false_eq_true,if_false];omega
theorem sg_add_same {x y : Int} (h : decide (x < 0) = decide (y < 0)) : sg (decide (x < 0)) (x.natAbs + y.natAbs) = x + y:=by
 have h' : x < 0 ↔ y < 0:=by simpa using h
 by_cases k : x < 0
 ·have:=h'.1 k;simp only [sg,k,decide_true,if_true];omega
 ·have : ¬ y < 0:=fun q=>k (h'.2 q)
  simp only [sg,k,decide_false,Bool.false_eq_true,if_false];omega
theorem sg_add_diff {x y : Int} (h : decide (x < 0) ≠ decide (y < 0)) (hl : y.natAbs ≤ x.natAbs) : sg (decide (x < 0)) (x.natAbs - y.natAbs) = x + y:=by
 have h' : ¬ (x < 0 ↔ y < 0):=by simpa using h
 by_cases k : x < 0
 ·have : ¬ y < 0:=fun q=>h' ⟨fun _=>q,fun _=>k⟩
  simp only [sg,k,decide_true,if_true];omega
 ·have : y < 0:=Classical.byContradiction fun q=>h' ⟨fun a=>absurd a k,fun a=>absurd a q⟩
  simp only [sg,k,decide_false,Bool.false_eq_true,if_false];omega
end Go.Ml
end
