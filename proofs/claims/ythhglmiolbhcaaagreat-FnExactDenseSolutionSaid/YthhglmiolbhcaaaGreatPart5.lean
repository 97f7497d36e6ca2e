/- A small language for the functions of this claim, its soundness, contracts. -/
import Derived.Test.YthhglmiolbhcaaaGreatPart4
set_option linter.unusedSimpArgs false
set_option linter.unusedVariables false
set_option maxRecDepth 100000
set_option maxHeartbeats 16000000
section
namespace Go.Ml
def MatF (s : Store) (q n c : Nat) (rp : Nat → Nat) (M : MF) : Prop:=Mat s q n c rp (fun x=>(M x).map R.cells) M
def setR (M : MF) (i : Nat) (r : List R) : MF:=fun x=>if x = i then r else M x
theorem MatF.put {s s2 : Store} {q n c k : Nat} {rp : Nat → Nat} {M : MF} {r : List R} (h : MatF s q n c rp M) (hk : k < n) (hr : objAt s2 (rp k) = some ⟨3,r.map R.cells⟩) (ho : ∀ o,o < s.length → o ≠ rp k → objAt s2 o = objAt s o) : MatF s2 q n c rp (setR M k r):=by
 have:=Mat.put h hk hr ho (row_frz r)
 have e : (fun i=>if i = k then r.map R.cells else (M i).map R.cells) = fun x=>(setR M k r x).map R.cells:=by
  funext i;unfold setR;split <;> rfl
 rw [e] at this
 exact this
theorem MatF.swap {s : Store} {q n c k p : Nat} {rp : Nat → Nat} {M : MF} (h : MatF s q n c rp M) (hk : k < n) (hp : p < n) {rows : List (List V)} (hrows : rows = ((orow n c rp).set k [.msl (rp p) 0 c]).set p [.msl (rp k) 0 c]) {s2 : Store} (hq : objAt s2 q = some ⟨1,rows⟩) (ho : ∀ o,o ≠ q → o < s.length → objAt s2 o = objAt s o) :
  MatF s2 q n c (fun x=>if x = p then rp k else if x = k then rp p else rp x) (rrSwap M k p):=by
 have:=Mat.swap h hk hp hrows hq ho
 have e : (fun x=>if x = p then (M k).map R.cells else if x = k then (M p).map R.cells else (M x).map R.cells) = fun x=>(rrSwap M k p x).map R.cells:=by
  funext i;unfold rrSwap;split
  ·rfl
  ·split <;> rfl
 rw [e] at this
 exact this
theorem MatF.ext {s : Store} {q n c : Nat} {rp : Nat → Nat} {M M2 : MF} (h : MatF s q n c rp M) (e : ∀ i,i < n → M i = M2 i) : MatF s q n c rp M2 :=
 ⟨h.inj,h.out,fun i hi=>by rw [← e i hi];exact h.row i hi,fun i hi=>by rw [← e i hi];exact h.cel i hi⟩
theorem allOk_all (n : Nat) (M : MF) : (((List.range n).map M).all fun r=>r.all R.ok) = allOk n M:=by
 rw [Bool.eq_iff_iff,allOk_iff,List.all_eq_true]
 constructor
 ·intro h i hi;exact h _ (List.mem_map.2 ⟨i,List.mem_range.2 hi,rfl⟩)
 ·intro h r hr
  obtain ⟨i,hi,rfl⟩:=List.mem_map.1 hr
  exact h i (List.mem_range.1 hi)
theorem mixL_self {α : Type} (a : List α) (j : Nat) : mixL a a j = a:=List.take_append_drop j a
theorem rn_l09Copy {T : Nat → Option Fn} (h : D_spec_l09Copy T) {σ : Store} {m : List (List R)} {C : Nat} (h0 : 0 < m.length) (h10 : m.length ≤ 10) (hC0 : 0 < C) (hC : C ≤ 1048576) (hok : OkM m.length C (mF m)) :
  ∃ q σ' rp,Run T (.fn 325 [ratssV m] σ) (.fn (.msl q 0 m.length) σ') ∧ MatF σ' q m.length C rp (mF m) ∧ (∀ o,o < σ.length → objAt σ' o = objAt σ o) ∧ σ.length ≤ σ'.length:=by
 have : ∃ r σ',Run T (.fn 325 [ratssV m] σ) (.fn r σ') ∧ ∃ q rp,r = .msl q 0 m.length ∧ MatF σ' q m.length C rp (mF m) ∧ (∀ o,o < σ.length → objAt σ' o = objAt σ o) ∧ σ.length ≤ σ'.length:=by
  refine run_end (fun _ _=>false) h.hT rfl rfl ?_
  dsimp only [F_spec_l09Copy,oN,oS,oG,oK,oA,oH,oV,cI,St.enter,List.length_cons,List.length_nil,Nat.zero_add]
  refine ew ?_
  refine loop_at (fun _ _=>false) (α:=Nat × Store × V × Nat × (Nat → Nat)) (fun q=>⟨argE [.any,.any,.any,q.2.2.1,.any,.any,.any,.any,.any,.any,ratssV m,iv (m.length : Nat),iv (q.1 : Nat)],q.2.1,σ.length,0,[],[]⟩) (fun q=>q.1 ≤ m.length ∧ ((q.1 = 0 ∧ q.2.2.1 = .nils) ∨ (0 < q.1 ∧ q.2.2.1 = .msl q.2.2.2.1 0 q.1 ∧ MatF q.2.1 q.2.2.2.1 q.1 C q.2.2.2.2 (mF m))) ∧ (∀ o,o < σ.length → objAt q.2.1 o = objAt σ o) ∧ σ.length ≤ q.2.2.2.1 ∧ σ.length ≤ q.2.1.length) (fun q=>m.length - q.1) rfl (0,σ ++ [none],.nils,σ.length,fun _=>0) ?_ ?_ ?_
  ·exact ⟨by omega,.inl ⟨rfl,rfl⟩,fun o ho=>objAt_snoc_lt ho,Nat.le_refl _,by simp⟩
  ·(refine Fg_env ?_;exact fgW)
  ·rintro ⟨i,s,v3,q,rp⟩ ⟨hi,hM,hso,hsq,hsl⟩
   dsimp only at hi hM hso hsq hsl
   by_cases hcc : (i : Int) < (m.length : Nat)
   ·have hil : i < m.length:=by omega
    have hai : (m.map fun r=>[ratsV r]).getD i [] = [ratsV (m.getD i default)]:=mg (f:=fun r : List R=>[ratsV r]) hil
    obtain ⟨hri,hrc⟩:=hok i hil
    have emf : mF m i = m.getD i default:=rfl
    rw [emf] at hri hrc
    generalize m.getD i default = r at *
    refine ew2 @hcc @hai ?_
    refine loop_at (fun _ _=>false) (α:=Nat × Store × V × List R) (fun q=>⟨argE [.any,.any,.any,v3,.any,.any,q.2.2.1,.any,.any,.any,ratssV m,iv (m.length : Nat),iv (i : Nat),.any,.any,.any,.any,ratsV r,iv (r.length : Nat),iv (q.1 : Nat)],q.2.1,σ.length,0,[],[]⟩) (fun q=>q.1 ≤ r.length ∧ (∀ p,p < s.length → objAt q.2.1 p = objAt s p) ∧ s.length ≤ q.2.1.length ∧ RowN q.2.1 s.length q.2.2.1 q.2.2.2 ∧ q.2.2.2 = r.take q.1) (fun q=>r.length - q.1) rfl (0,s ++ [none],.nils,[]) ?_ ?_ ?_
    ·exact ⟨by omega,fun p hp=>objAt_snoc_lt hp,by simp,.inl ⟨rfl,rfl⟩,rfl⟩
    ·(refine Fg_env ?_;exact fgW)
    ·rintro ⟨j,t,v6,L⟩ ⟨hj,hf,hst,hR,hL⟩
     dsimp only at hj hf hst hR hL
     have hLl : L.length = j:=by rw [hL,List.length_take];omega
     by_cases hcj : (j : Int) < (r.length : Nat)
     ·have hjl : j < r.length:=by omega
      have hrj : (r.map R.cells).getD j [] = (r.getD j default).cells:=mg hjl
      have ex:=take_snoc hjl
      rw [← hL] at ex
      have cc:=c_l04Copy h.d_spec_l04Copy (r:=r.getD j default) (by have:=cn_len (hrc _ (getD_mem hjl));unfold R.sz;omega)
      generalize r.getD j default = x at *
      rcases hR with ⟨rfl,rfl⟩ | ⟨pr,rfl,hnp,hp⟩
      ·refine ew2 @hcj @hrj ?_
       refine PFK_of cc ?_
       refine ew ?_
       refine ⟨by omega,?_⟩
       refine ⟨(j + 1,?st2,.msl (t.length + 1 + 1) 0 1,[] ++ [x]),?c1,⟨?c2,?c4,?c5,.inr ⟨_,rfl,?c6,?c7⟩,ex.symm⟩,?c3⟩
       case c3=>dsimp only;(refine Fg_env ?_;exact fgW)
       case c1=>dsimp only;omega
       case c2=>dsimp only;omega
       case c4 =>
        dsimp only
        intro p hp
        rw [← hf p hp]
        exact obE
       case c5=>simp;omega
       case c6=>omega
       case c7=>exact objAt_seteq (by simp <;> omega)
      ·have hpl:=objAt_lt hp
       refine ew3 @hcj @hrj @hp ?_
       refine PFK_of cc ?_
       refine ew1 @hp ?_
       refine ⟨by omega,?_⟩
       refine ⟨(j + 1,?st3,.msl (t.length + 1 + 1) 0 (L.length + 1),L ++ [x]),?c1,⟨?c2,?c4,?c5,.inr ⟨_,by rw [List.length_append];rfl,?c6,?c7⟩,ex.symm⟩,?c3⟩
       case c3=>dsimp only;(refine Fg_env ?_;exact fgW)
       case c1=>dsimp only;omega
       case c2=>dsimp only;omega
       case c4 =>
        dsimp only
        intro p hp
        rw [← hf p hp]
        exact obE
       case c5=>simp;omega
       case c6=>omega
       case c7 =>
        dsimp only
        rw [List.map_append]
        exact objAt_seteq (by simp <;> omega)
     ·have hje : j = r.length:=by omega
      rw [hje,List.take_length] at hL
      subst hL
      rcases hR with ⟨rfl,rfl⟩ | ⟨pr,rfl,hnp,hp⟩
      ·simp at hri;omega
      have hpl:=objAt_lt hp
      rcases hM with ⟨rfl,rfl⟩ | ⟨hi0,rfl,hM⟩
      ·refine ew2 @hcj @hp ?_
       refine ⟨by omega,?_⟩
       refine ⟨(0 + 1,?st4,.msl (t.length + 1) 0 1,t.length + 1,fun x=>if x = 0 then pr else rp x),?c1,⟨?c2,.inr ⟨by omega,rfl,?c4⟩,?c5,?c6,?c7⟩,?c3⟩
       case c3=>dsimp only;(refine Fg_env ?_;exact fgW)
       case c1=>dsimp only;omega
       case c2=>dsimp only;omega
       case c4 =>
        dsimp only
        refine matF_snoc (s:=s) (q:=0) (.inl rfl) ?_ ?_ (by omega) (fun o ho _=>?_)
        ·rw [objAt_seteq (by simp)]
         rw [hri];rfl
        ·rw [emf,← hp]
         exact obE
        ·rw [← hf o ho]
         exact obE
       case c5 =>
        dsimp only
        intro o ho
        rw [← hso o ho,← hf o (by omega)]
        exact obE
       case c6=>dsimp only;omega
       case c7=>simp;omega
      ·have hq:=hM.out
       have hql:=hM.lt.1
       have hoc:=orow_len i C rp
       have hqt:=(hf q hql).trans hq
       refine ew4 @hcj @hp @hqt @hoc ?_
       refine ⟨by omega,?_⟩
       refine ⟨(i + 1,?st5,.msl (t.length + 1) 0 (i + 1),t.length + 1,fun x=>if x = i then pr else rp x),?c1,⟨?c2,.inr ⟨by omega,rfl,?c4⟩,?c5,?c6,?c7⟩,?c3⟩
       case c3=>dsimp only;(refine Fg_env ?_;exact fgW)
       case c1=>dsimp only;omega
       case c2=>dsimp only;omega
       case c4 =>
        dsimp only
        refine matF_snoc (s:=s) (q:=q) (.inr hM) ?_ ?_ (by omega) (fun o ho hne=>?_)
        ·rw [objAt_seteq (by simp)]
         rw [hri]
        ·have : pr ≠ q:=by omega
         rw [emf,← hp]
         exact obE
        ·rw [← hf o ho]
         exact obE
       case c5 =>
        dsimp only
        intro o ho
        have : o ≠ q:=by omega
        rw [← hso o ho,← hf o (by omega)]
        exact obE
       case c6=>dsimp only;omega
       case c7=>simp;omega
   ·have hie : i = m.length:=by omega
    subst hie
    rcases hM with ⟨h1,_⟩ | ⟨_,rfl,hM⟩
    ·omega
    refine ew1 @hcc ?_
    exact ⟨q,rp,rfl,hM,hso,hsl⟩
 obtain ⟨r,σ',h1,q,rp,rfl,h2⟩:=this
 exact ⟨q,σ',rp,h1,h2⟩
theorem MatF.cell {s : Store} {q n c : Nat} {rp : Nat → Nat} {M : MF} (h : MatF s q n c rp M) (hl : ∀ i,i < n → (M i).length = c) {i j : Nat} (hi : i < n) (hj : j < c) : ((M i).map R.cells)[j]? = some (elF M i j).cells:=by
 have hjl : j < (M i).length:=by rw [hl i hi];exact hj
 rw [mg? hjl];rfl
theorem mixL_cell {a b : List R} {j : Nat} (h : a.length = b.length) (hj : j < b.length) : ((mixL a b j).map R.cells)[j]? = some (b.getD j default).cells:=by
 rw [mg? (by rw [mixL_len h];exact hj),mixL_at h (Nat.le_refl _) (by omega)]
theorem mixL_setc {a b : List R} {j : Nat} {x : R} (h : a.length = b.length) (hj : j < b.length) (hx : a.getD j default = x) : ((mixL a b j).map R.cells).set j x.cells = (mixL a b (j + 1)).map R.cells:=by
 rw [← List.map_set,mixL_set h hj hx]
theorem setR_eq (M : MF) (i : Nat) (r : List R) : setR M i r i = r:=if_pos rfl
theorem setR_ne {M : MF} {i x : Nat} {r : List R} (h : x ≠ i) : setR M i r x = M x:=if_neg h
theorem setR_set (M : MF) (i : Nat) (r r2 : List R) : setR (setR M i r) i r2 = setR M i r2:=by
 funext x;unfold setR;split <;> rfl
theorem Mat.resN {s : Store} {q n c : Nat} {rp : Nat → Nat} {A : Nat → List (List V)} {M : MF} (h : Mat s q n c rp A M) (hl : ∀ i,i < n → (M i).length = c) (k : Nat) : resolve s (k + 5) (.msl q 0 n) = some (ratssV ((List.range n).map M)):=by
 rw [resolve]
 simp only [h.out]
 rw [if_pos (by rw [orow_len];omega),List.drop_zero,List.take_of_length_le (by rw [orow_len];omega)]
 have : ((orow n c rp).mapM fun (r : List V)=>r.mapM (resolve s (k + 4))) = some ((List.range n).map fun i=>[ratsV (M i)]):=by
  unfold orow
  rw [List.mapM_map]
  refine mapM_some fun i hi=>?_
  have hi:=List.mem_range.1 hi
  have h1:=(h.cel i hi).resN (h.row i hi) k
  rw [hl i hi] at h1
  simp only [Function.comp,List.mapM_cons,List.mapM_nil]
  rw [h1];rfl
 rw [this,Option.map_some]
 unfold ratssV
 rw [List.map_map]
 rfl
theorem setR_self (M : MF) (i : Nat) : setR M i (M i) = M:=by
 funext x;unfold setR
 by_cases e : x = i
 ·rw [if_pos e,e]
 ·rw [if_neg e]
theorem MatF.rowk {s : Store} {q n c k : Nat} {rp : Nat → Nat} {M : MF} {r : List R} (h : MatF s q n c rp M) (hk : k < n) (e : M k = r) : objAt s (rp k) = some ⟨3,r.map R.cells⟩:=by
 have:=h.row k hk
 rw [← e];exact this
theorem rn_l09Copy0 {T : Nat → Option Fn} (h : D_spec_l09Copy T) {m : List (List R)} (h0 : m.length = 0) : ∃ σ',Run T (.fn 325 [ratssV m] []) (.fn .nils σ'):=by
 have : ∃ r σ',Run T (.fn 325 [ratssV m] []) (.fn r σ') ∧ r = .nils:=by
  refine run_end (fun _ _=>false) h.hT rfl rfl ?_
  dsimp only [F_spec_l09Copy,oN,oS,oG,oK,oA,oH,oV,cI,St.enter,List.length_cons,List.length_nil,Nat.zero_add]
  refine ew ?_
  refine loop_at (fun _ _=>false) (α:=Nat) (fun i=>⟨argE [.any,.any,.any,.nils,.any,.any,.any,.any,.any,.any,ratssV m,iv (m.length : Nat),iv (i : Nat)],[none],0,0,[],[]⟩) (fun i=>i = 0) (fun i=>i) rfl 0 ?_ ?_ ?_
  ·rfl
  ·(refine Fg_env ?_;exact fgW)
  ·rintro i rfl
   have hcc : ¬ (((0 : Nat) : Int) < (m.length : Nat)):=by omega
   (refine ew1 @hcc ?_;try with_reducible exact True.intro)
 obtain ⟨r,σ',h1,rfl⟩:=this
 exact ⟨σ',h1⟩
theorem c_sReduceRows {T : Nat → Option Fn} (h : D_spec_ReduceRows T) {m : List (List R)} {c : Int} (hw : wfL (wfL R.wf) m) (hz : rrC m c = true → szL (szL R.sz) m ≤ 1048576) (hcw : c ≤ 9223372036854775807) : PF T 310 [ratssV m,iv c] (.tup [ratssV (rrM m c),.bool (rrB m c)]):=by
 have c1:=c_sIsMatrix h.d_spec_IsMatrix (m:=m) (cols:=c) hw hcw
 have hml:=hw.1
 cases hc : rrC m c
 ·obtain ⟨e1,e2⟩:=rrV_bad hc
  rw [e1,e2]
  unfold rrC at hc
  generalize matOk m c = x at c1 hc
  have hx : x = false ∨ x = true:=by cases x <;> simp
  refine pf_endL (fun _ _=>false) h.hT rfl rfl ?_
  dsimp only [F_spec_ReduceRows,oN,oS,oG,oK,oA,oH,oV,cI]
  refine ev ?_
  refine PFK_of c1 ?_
  rcases hx with hx | hx
  ·refine ev1 @hx ?_
   exact of_eq_true (by simp [LaxV,LaxL,ratssV])
  ·have hlt : c < (m.length : Nat):=by
    rw [hx,Bool.true_and,decide_eq_false_iff_not] at hc
    omega
   refine ev2 @hx @hlt ?_
   exact of_eq_true (by simp [LaxV,LaxL,ratssV])
 obtain ⟨h10,hnc,hmo,hok⟩:=rrC_ok hc
 rw [hmo] at c1
 have hlt : ¬ c < (m.length : Nat):=by omega
 obtain ⟨C,rfl⟩ : ∃ C : Nat,c = C:=⟨c.toNat,by omega⟩
 rw [Int.toNat_natCast] at hok
 have hrl : ∀ i,i < m.length → (m.getD i default).length = C:=fun i hi=>(hok i hi).1
 rcases Nat.eq_zero_or_pos m.length with h0 | h0
 ·obtain ⟨e1,e2⟩:=rrV_some hc (M:=mF m) (by rw [h0];rfl)
  rw [h0] at e1
  rw [e1,e2]
  obtain ⟨s1,cr⟩:=rn_l09Copy0 h.d_spec_l09Copy h0
  refine pf_endL (fun x d=>(x == 325 && d == 26)) h.hT rfl rfl ?_
  dsimp only [F_spec_ReduceRows,oN,oS,oG,oK,oA,oH,oV,cI]
  refine ew ?_
  refine PFK_of c1 ?_
  refine ew1 @hlt ?_
  refine RefK_mk cr rfl (by simp) (by simp) ?_
  refine ew ?_
  refine loop_at (fun x d=>(x == 325 && d == 26)) (α:=Nat) (fun k=>⟨argE [.any,.any,.any,.any,.any,.any,.nils,.any,.any,.any,.any,.any,.any,.any,.any,.any,.any,.any,.any,.any,.any,.any,.any,.any,.any,.any,.any,.any,iv 0,iv (k : Nat)],s1,0,0,[],[]⟩) (fun k=>k = 0) (fun k=>k) rfl 0 ?_ ?_ ?_
  ·rfl
  ·(refine Fg_env ?_;exact fgW)
  ·rintro k hk
   have hcc : ¬ ((k : Int) < 0):=by omega
   refine ew1 @hcc ?_
   exact of_eq_true (by simp [LaxV,LaxL,ratssV])
 have hC:=mat_bd (hz hc) h0 hrl
 clear hw hz hml
 obtain ⟨qo,s1,rp1,cr,hM1,_,_⟩:=rn_l09Copy h.d_spec_l09Copy (σ:=[]) h0 h10 (by omega) hC hok
 refine pf_endL (fun x d=>(x == 325 && d == 26)) h.hT rfl rfl ?_
 dsimp only [F_spec_ReduceRows,oN,oS,oG,oK,oA,oH,oV,cI]
 refine ew ?_
 refine PFK_of c1 ?_
 refine ew1 @hlt ?_
 refine RefK_mk cr rfl (by simp) (by simp) ?_
 have hq1:=hM1.out
 refine ew1 @hq1 ?_
 refine loop_at (fun x d=>(x == 325 && d == 26)) (α:=Nat × Store × (Nat → Nat) × MF) (fun q=>⟨argE [.any,iv C,.any,.any,.any,.any,.msl qo 0 m.length,.any,.any,.any,.any,.any,.any,.any,.any,.any,.any,.any,.any,.any,.any,.any,.any,.any,.any,.any,.any,.any,iv (m.length : Nat),iv (q.1 : Nat)],q.2.1,0,0,[],[]⟩) (fun q=>q.1 ≤ m.length ∧ MatF q.2.1 qo m.length C q.2.2.1 q.2.2.2 ∧ rrIt m.length (mF m) q.1 = some q.2.2.2 ∧ OkM m.length C q.2.2.2) (fun q=>m.length - q.1) rfl (0,s1,rp1,mF m) ?_ ?_ ?_
 ·exact ⟨by omega,hM1,rfl,hok⟩
 ·(refine Fg_env ?_;exact fgW)
 ·clear hM1 hok hrl cr hq1
  rintro ⟨k,s,rp,M⟩ ⟨hk,hM,hIt,hOk⟩
  dsimp only at hk hM hIt hOk
  by_cases hck : (k : Int) < (m.length : Nat)
  ·have hkl : k < m.length:=by omega
   have hkC : k < C:=by omega
   have hql:=hM.lt.1
   have hq:=hM.out
   refine ew1 @hck ?_
   refine loop_at (fun x d=>(x == 325 && d == 26)) (α:=Nat) (fun p=>⟨argE [.any,iv C,.any,.any,.any,.any,.msl qo 0 m.length,iv (k : Nat),iv (p : Nat),.any,.any,.any,.any,.any,.any,.any,.any,.any,.any,.any,.any,.any,.any,.any,.any,.any,.any,.any,iv (m.length : Nat),iv (k : Nat)],s,0,0,[],[]⟩) (fun p=>k ≤ p ∧ p ≤ m.length ∧ rrP M k (m.length - p) p = rrPv m.length M k) (fun p=>m.length - p) rfl k ?_ ?_ ?_
   ·exact ⟨Nat.le_refl _,by omega,rfl⟩
   ·(refine Fg_env ?_;exact fgW)
   ·rintro p ⟨hkp,hpn,hP⟩
    by_cases hcp : (p : Int) < (m.length : Nat)
    ·have hpl : p < m.length:=by omega
     have gA:=hM.cell (fun i hi=>(hOk i hi).1) hpl hkC
     have hxc:=hOk.el hpl hkC
     have cs:=c_sRatSign h.d_spec_RatSign (cn_wf hxc)
     have hzz:=rrP_z (M:=M) (k:=k) hpl
     have hnz:=rrP_n (M:=M) (k:=k) hpl
     unfold sgnR at hzz hnz
     obtain ⟨x,hx⟩ : ∃ x,elF M p k = x:=⟨_,rfl⟩
     rw [hx] at gA cs hzz hnz hxc
     have O1:=And.intro hq (hM.row p hpl)
     have G1:=And.intro (orow_at (c:=C) (rp:=rp) hpl) gA
     refine ew3 @hcp @O1 @G1 ?_
     refine PFK_of cs ?_
     by_cases hs : signQ x.q = 0
     ·refine ew1 @hs ?_
      exact ⟨p + 1,by omega,⟨by omega,by omega,(hzz hs).symm.trans hP⟩,by (refine Fg_env ?_;exact fgW)⟩
     ·have hPv:=(hnz hs).symm.trans hP
      have hpn' : ¬ ((p : Int) = (m.length : Nat)):=by omega
      have gk:=orow_at (c:=C) (rp:=rp) hkl
      obtain ⟨w,gS1⟩ : ∃ w,((orow m.length C rp).set k [V.msl (rp p) 0 C])[p]? = some [w]:=by rw [orow_set];exact ⟨_,orow_at hpl⟩
      have gS2 : (((orow m.length C rp).set k [V.msl (rp p) 0 C]).set p [.msl (rp k) 0 C])[k]? = some [.msl (rp p) 0 C]:=by
       rw [orow_set,orow_set,orow_at hkl]
       by_cases e : k = p
       ·subst e;simp
       ·rw [if_neg e,if_pos rfl]
      have hnq:=hM.ne hpl
      have hpq:=hM.lt.2 p hpl
      refine ew5 (And.intro hs hpn') @O1 @G1 (And.intro gk (And.intro gS1 gS2)) @List.set_set.{0} ?_
      have hl2 : (s.set qo (some ⟨1,((orow m.length C rp).set k [V.msl (rp p) 0 C]).set p [.msl (rp k) 0 C]⟩)).length = s.length:=by simp
      have hM2:=hM.swap hkl hpl rfl (s2:=s.set qo (some ⟨1,((orow m.length C rp).set k [V.msl (rp p) 0 C]).set p [.msl (rp k) 0 C]⟩)) (objAt_seteq hql) (fun o h _=>objAt_setne h)
      generalize s.set qo (some ⟨1,((orow m.length C rp).set k [V.msl (rp p) 0 C]).set p [.msl (rp k) 0 C]⟩) = s2 at *
      rw [← hl2]
      have hp1 : rrPv m.length M k < m.length:=hPv ▸ hpl
      have e1 : rrSwap M k p = rrOne m.length M k:=by unfold rrOne;rw [← hPv]
      rw [e1] at hM2
      have hOk1:=hOk.one hkl hp1
      have exk : elF (rrOne m.length M k) k k = x:=by
       rw [← hx,← e1]
       unfold elF rrSwap
       by_cases e : k = p
       ·rw [if_pos e,e]
       ·rw [if_neg e,if_pos rfl]
      have hL1:=fun i hi=>(hOk1 i hi).1
      have e2w : rrTwo m.length M k = setR (rrOne m.length M k) k (rrDiv (rrOne m.length M k k) k):=rfl
      have hOk2:=hOk.two hkl hp1
      have hstep : rrIt m.length (mF m) (k + 1) = rrStep m.length M k:=rrIt_s hIt
      have hsf:=@rrStep_f m.length M k
      have hst:=rrStep_t (n:=m.length) (M:=M) (k:=k) hp1
      have hOks:=fun M'=>hOk.step (M':=M') hkl
      generalize (fun x=>if x = p then rp k else if x = k then rp p else rp x) = rp2 at hM2
      have hDl:=rrDiv_len (rrOne m.length M k k) k
      have hDa:=fun j hj=>rrDiv_at (rrOne m.length M k k) k (j:=j) hj
      have hlk:=hL1 k hkl
      have hel:=fun j hj=>hOk1.el hkl (j:=j) hj
      rw [show (rrOne m.length M k k).getD k default = x from exk] at hDa
      generalize rrTwo m.length M k = M2 at *
      generalize hM1 : rrOne m.length M k = M1 at *
      clear hs hzz hnz cs O1 G1 gk gS1 gS2 hnq hpq hpn' hM hOk gA hx hP hPv hp1 e1 hql hl2 hIt w hq
      have hrq:=hM2.ne hkl
      have hrl2:=hM2.lt.2 k hkl
      have gk:=orow_at (c:=C) (rp:=rp2) hkl
      generalize hD : rrDiv (M1 k) k = D at *
      refine loop_at (fun x d=>(x == 325 && d == 26)) (α:=Nat × Store) (fun q=>⟨argE [.any,iv C,.any,.any,.any,.any,.msl qo 0 m.length,iv (k : Nat),.any,.any,.ptr s2.length 0 0,.any,.any,.any,.any,.any,.any,.any,.any,.any,.any,.any,.any,.any,.any,.any,.any,.any,iv (m.length : Nat),iv (k : Nat),.any,.any,.any,.any,.any,.any,.any,.any,.any,.any,.any,.any,.any,.any,.any,.any,.any,.any,.any,.any,.any,.any,.any,.any,.any,.any,.any,.any,.any,.any,.any,.any,.any,.any,.any,.any,.any,.any,.any,.any,.any,.any,.any,.any,.any,.any,.any,.any,.any,.any,iv (C : Nat),iv (q.1 : Nat)],q.2,0,0,[],[]⟩) (fun q=>q.1 ≤ C ∧ MatF q.2 qo m.length C rp2 (setR M1 k (mixL D (M1 k) q.1)) ∧ objAt q.2 s2.length = some ⟨3,[x.cells]⟩) (fun q=>C - q.1) rfl (0,(s2 ++ [none]).set s2.length (some ⟨3,[x.cells]⟩)) ?_ ?_ ?_
      ·refine ⟨Nat.zero_le _,?_,by rw [set_snoc];exact objAt_snoc _ _⟩
       rw [mixL_0,setR_self,set_snoc]
       exact hM2.fr fun o ho=>objAt_snoc_lt ho
      ·(refine Fg_env ?_;exact fgW)
      ·rintro ⟨j,t⟩ ⟨hj,hMt,hbx⟩
       dsimp only at hj hMt hbx
       have hqt:=hMt.out
       have hqs:=hMt.lt.1
       have hrs:=hMt.lt.2 k hkl
       have hrt:=hMt.rowk hkl (setR_eq _ _ _)
       by_cases hcj : (j : Int) < (C : Nat)
       ·have hjl : j < C:=by omega
        have cy:=hel j hjl
        have hz:=hDa j (by omega)
        rw [show (M1 k).getD j default = elF M1 k j from rfl] at hz
        have gB:=mixL_cell (a:=D) (b:=M1 k) (j:=j) (by omega) (by omega)
        rw [show (M1 k).getD j default = elF M1 k j from rfl] at gB
        have gS:=mixL_setc (a:=D) (b:=M1 k) (j:=j) (by omega) (by omega) hz
        have cd:=c_sRatDiv h.d_spec_RatDiv (cn_wf cy) (cn_wf hxc)
        generalize elF M1 k j = y at *
        generalize divR y x = z at *
        have hbs:=objAt_lt hbx
        refine ew3 @hcj (And.intro hqt (And.intro hrt hbx)) (And.intro gk gB) ?_
        refine PFK_of cd ?_
        refine ew2 (And.intro hqt (And.intro hrt hbx)) (And.intro gk gB) ?_
        refine ⟨by unfold OkA;rfl,?_⟩
        refine ⟨(j + 1,?st),?c1,⟨?c2,?c4,?c5⟩,?c3⟩
        case c3=>dsimp only;(refine Fg_env ?_;exact fgW)
        case c1=>dsimp only;omega
        case c2=>dsimp only;omega
        case c4 =>
         dsimp only
         have:=hMt.put (k:=k) (r:=mixL D (M1 k) (j + 1)) hkl (s2:=t.set (rp2 k) (some ⟨3,((mixL D (M1 k) j).map R.cells).set j z.cells⟩)) (by rw [objAt_seteq hrs,gS]) (fun o _ ho=>objAt_setne ho)
         rw [setR_set] at this
         exact this
        case c5 =>
         dsimp only
         rw [objAt_setne (by omega)]
         exact hbx
       ·have hje : j = C:=by omega
        rw [hje,← hlk,mixL_all _ _ (by omega) (by omega),← e2w,hlk] at hMt
        clear hbx hrt hrl2 hqs hrs hD hDl hDa
        refine ew2 @hcj @hqt ?_
        have et : rrTri M2 k k = M2 k:=if_pos rfl
        have hl22:=fun i hi=>(hOk2 i hi).1
        rw [← rrMix_0 M2 k] at hMt
        refine loop_at (fun x d=>(x == 325 && d == 26)) (α:=Nat × Store) (fun q=>⟨argE [.any,iv C,.any,.any,.any,.any,.msl qo 0 m.length,iv (k : Nat),.any,.any,.any,.any,.any,.any,.any,.any,.any,.any,.any,.any,.any,.any,.any,.any,.any,.any,.any,.any,iv (m.length : Nat),iv (k : Nat),.any,.any,.any,.any,.any,.any,.any,.any,.any,.any,.any,.any,.any,.any,.any,.any,.any,.any,.any,.any,.any,.any,.any,.any,.any,.any,.any,.any,.any,.any,.any,.any,.any,.any,.any,.any,.any,.any,.any,.any,.any,.any,.any,.any,.any,.any,.any,.any,.any,.any,.any,.any,.any,.any,.any,.any,.any,.any,.any,.any,.any,.any,.any,.any,.any,.any,.any,.any,.any,.any,.any,iv (m.length : Nat),iv (q.1 : Nat)],q.2,0,0,[],[]⟩) (fun q=>q.1 ≤ m.length ∧ MatF q.2 qo m.length C rp2 (rrMix M2 k q.1)) (fun q=>m.length - q.1) rfl (0,t) ?_ ?_ ?_
        ·exact ⟨Nat.zero_le _,hMt⟩
        ·(refine Fg_env ?_;exact fgW)
        ·clear hMt hqt hM2
         rintro ⟨i,t⟩ ⟨hi,hMt⟩
         dsimp only at hi hMt
         have hqt:=hMt.out
         by_cases hci : (i : Int) < (m.length : Nat)
         ·have hil : i < m.length:=by omega
          have hOm:=hOk2.mix hkl i
          have hlm:=fun x hx=>(hOm x hx).1
          have emi : rrMix M2 k i i = M2 i:=if_neg (Nat.lt_irrefl _)
          have emk : rrMix M2 k i k = M2 k:=by
           unfold rrMix
           split
           ·exact et
           ·rfl
          have gC:=hMt.cell hlm hil hkC
          rw [show elF (rrMix M2 k i) i k = elF M2 i k by unfold elF;rw [emi],emi] at gC
          have hrt:=hMt.rowk hil emi
          have cy:=hOk2.el hil hkC
          have gi:=orow_at (c:=C) (rp:=rp2) hil
          have etr : rrTri M2 k i = if i = k then M2 k else rrSub (M2 i) (M2 k) (elF M2 i k):=rfl
          have emx : ∀ x,setR (rrMix M2 k i) i (rrTri M2 k i) x = rrMix M2 k (i + 1) x:=fun x=>by
           unfold setR rrMix
           by_cases e : x = i
           ·rw [if_pos e,if_pos (by omega),e]
           ·by_cases e2 : x < i
            ·rw [if_neg e,if_pos e2,if_pos (by omega)]
            ·rw [if_neg e,if_neg e2,if_neg (by omega)]
          have hTl : (rrTri M2 k i).length = (M2 i).length:=by
           rw [etr]
           split
           ·rw [hl22 k hkl,hl22 i hil]
           ·rw [rrSub_len]
          have hTa:=fun j hj=>rrSub_at (M2 i) (M2 k) (elF M2 i k) (j:=j) hj
          have helk:=fun j hj=>hOk2.el hkl (j:=j) hj
          have heli:=fun j hj=>hOk2.el hil (j:=j) hj
          have hli:=hl22 i hil
          have hlkk:=hl22 k hkl
          generalize elF M2 i k = y at *
          have hqs:=hMt.lt.1
          have hrl3:=hMt.lt.2 i hil
          refine ew3 @hci (And.intro hqt hrt) (And.intro gi gC) ?_
          refine loop_at (fun x d=>(x == 325 && d == 26)) (α:=Nat × Store) (fun q=>⟨argE [.any,iv C,.any,.any,.any,.any,.msl qo 0 m.length,iv (k : Nat),.any,.any,.any,.any,iv (i : Nat),.ptr t.length 0 0,.any,.any,.any,.any,.any,.any,.any,.any,.any,.any,.any,.any,.any,.any,iv (m.length : Nat),iv (k : Nat),.any,.any,.any,.any,.any,.any,.any,.any,.any,.any,.any,.any,.any,.any,.any,.any,.any,.any,.any,.any,.any,.any,.any,.any,.any,.any,.any,.any,.any,.any,.any,.any,.any,.any,.any,.any,.any,.any,.any,.any,.any,.any,.any,.any,.any,.any,.any,.any,.any,.any,.any,.any,.any,.any,.any,.any,.any,.any,.any,.any,.any,.any,.any,.any,.any,.any,.any,.any,.any,.any,.any,iv (m.length : Nat),iv (i : Nat),.any,.any,.any,.any,.any,.any,.any,.any,.any,.any,.any,.any,.any,iv (C : Nat),iv (q.1 : Nat)],q.2,0,0,[],[]⟩) (fun q=>q.1 ≤ C ∧ MatF q.2 qo m.length C rp2 (setR (rrMix M2 k i) i (mixL (rrTri M2 k i) (M2 i) q.1)) ∧ objAt q.2 t.length = some ⟨3,[y.cells]⟩) (fun q=>C - q.1) rfl (0,t ++ [some (⟨3,[y.cells]⟩ : Obj)]) ?_ ?_ ?_
          ·refine ⟨Nat.zero_le _,?_,objAt_snoc _ _⟩
           rw [mixL_0,← emi,setR_self]
           exact hMt.fr fun o ho=>objAt_snoc_lt ho
          ·(refine Fg_env ?_;exact fgW)
          ·clear hrt hqt gC
           rintro ⟨j,u⟩ ⟨hj,hMu,hbx⟩
           dsimp only at hj hMu hbx
           by_cases hcj2 : (j : Int) < (C : Nat)
           ·have hjl : j < C:=by omega
            by_cases hik : i = k
            ·have hik' : ((i : Int) = (k : Nat)) = True:=eq_true (by omega)
             have e0 : rrTri M2 k i = M2 i:=by rw [etr,if_pos hik,hik]
             refine ew2 @hcj2 @hik' ?_
             refine ⟨(j + 1,u),by dsimp only;omega,⟨by dsimp only;omega,?_,hbx⟩,by (refine Fg_env ?_;exact fgW)⟩
             dsimp only
             rw [e0,mixL_self] at hMu ⊢
             exact hMu
            ·have hik' : ((i : Int) = (k : Nat)) = False:=eq_false (by omega)
             have e0 : rrTri M2 k i = rrSub (M2 i) (M2 k) y:=by rw [etr,if_neg hik]
             have hqu:=hMu.out
             have hru:=hMu.rowk hil (setR_eq _ _ _)
             have hku:=hMu.rowk hkl ((setR_ne (fun e=>hik e.symm)).trans emk)
             have hrs:=hMu.lt.2 i hil
             have hbs:=objAt_lt hbx
             have hz:=hTa j (by omega)
             rw [← e0,show (M2 i).getD j default = elF M2 i j from rfl,show (M2 k).getD j default = elF M2 k j from rfl,mulR_comm] at hz
             have gB:=mixL_cell (a:=rrTri M2 k i) (b:=M2 i) (j:=j) hTl (by omega)
             rw [show (M2 i).getD j default = elF M2 i j from rfl] at gB
             have gK : ((M2 k).map R.cells)[j]? = some (elF M2 k j).cells:=mg? (by omega)
             have gS:=mixL_setc (a:=rrTri M2 k i) (b:=M2 i) (j:=j) hTl (by omega) hz
             have cm:=c_sRatMul h.d_spec_RatMul (cn_wf cy) (cn_wf (helk j hjl))
             have cs:=c_sRatSub h.d_spec_RatSub (cn_wf (heli j hjl)) (cn_wf (mulR_cn y (elF M2 k j)))
             generalize elF M2 k j = r at *
             generalize elF M2 i j = x2 at *
             generalize mulR y r = mm at *
             generalize subR x2 mm = z at *
             refine ew4 @hcj2 @hik' (And.intro hqu (And.intro hru (And.intro hku hbx))) (And.intro gi (And.intro gk (And.intro gB gK))) ?_
             refine PFK_of cm ?_
             refine ew ?_
             refine PFK_of cs ?_
             refine ew2 (And.intro hqu (And.intro hru (And.intro hku hbx))) (And.intro gi (And.intro gk (And.intro gB gK))) ?_
             refine ⟨by unfold OkA;rfl,?_⟩
             refine ⟨(j + 1,?st3),?c1,⟨?c2,?c4,?c5⟩,?c3⟩
             case c3=>dsimp only;(refine Fg_env ?_;exact fgW)
             case c1=>dsimp only;omega
             case c2=>dsimp only;omega
             case c4 =>
              dsimp only
              have:=hMu.put (k:=i) (r:=mixL (rrTri M2 k i) (M2 i) (j + 1)) hil (s2:=u.set (rp2 i) (some ⟨3,((mixL (rrTri M2 k i) (M2 i) j).map R.cells).set j z.cells⟩)) (by rw [objAt_seteq hrs,gS]) (fun o _ ho=>objAt_setne ho)
              rw [setR_set] at this
              exact this
             case c5 =>
              dsimp only
              rw [objAt_setne (by omega)]
              exact hbx
           ·have hje2 : j = C:=by omega
            rw [hje2,← hli,mixL_all _ _ (by omega) (by omega),hli] at hMu
            refine ew1 @hcj2 ?_
            exact ⟨(i + 1,u),by dsimp only;omega,⟨by dsimp only;omega,hMu.ext fun x _=>emx x⟩,by (refine Fg_env ?_;exact fgW)⟩
         ·have hie : i = m.length:=by omega
          subst hie
          have em : ∀ x,x < m.length → rrMix M2 k m.length x = rrTri M2 k x:=fun x hx=>by unfold rrMix;rw [if_pos hx]
          have hM3:=hMt.ext em
          have hOk3:=hOk2.tri hkl
          have Rf:=hM3.res fun i hi=>(hOk3 i hi).1
          have hms:=mat_sz (m:=(List.range m.length).map (rrTri M2 k)) (n:=C) (fun r hr=>by
           obtain ⟨i,hi,rfl⟩:=List.mem_map.1 hr
           have:=hOk3 i (List.mem_range.1 hi)
           exact ⟨this.2,by omega⟩) hC (by simpa using h10)
          have c2:=c_sIsMatrix h.d_spec_IsMatrix (m:=(List.range m.length).map (rrTri M2 k)) (cols:=(C : Nat)) hms.2 hcw
          rw [matOk_of (fun r hr=>by
           obtain ⟨i,hi,rfl⟩:=List.mem_map.1 hr
           have:=(hOk3 i (List.mem_range.1 hi)).1
           omega) (by simpa using h10),allOk_all] at c2
          cases ha : allOk m.length (rrTri M2 k)
          ·rw [ha] at c2
           obtain ⟨e1,e2⟩:=rrV_none hc (hstep.trans (hsf ha)) hkl
           rw [e1,e2]
           refine ew2 @hci @Rf ?_
           refine PFK_of c2 ?_
           refine ew ?_
           exact of_eq_true (by simp [LaxV,LaxL,ratssV])
          ·rw [ha] at c2
           have hnx:=hst ha
           refine ew2 @hci @Rf ?_
           refine PFK_of c2 ?_
           refine ew ?_
           exact ⟨(k + 1,t,rp2,rrTri M2 k),by dsimp only;omega,⟨by dsimp only;omega,hM3,hstep.trans hnx,hOks _ hnx⟩,by (refine Fg_env ?_;exact fgW)⟩
    ·have hpe : p = m.length:=by omega
     have hnn : rrStep m.length M k = none:=rrStep_p (by rw [← hP,hpe,Nat.sub_self];exact Nat.lt_irrefl _)
     obtain ⟨e1,e2⟩:=rrV_none hc ((rrIt_s hIt).trans hnn) hkl
     rw [e1,e2]
     have hpe' : ((p : Int) = (m.length : Nat)) = True:=eq_true (by omega)
     refine ew3 @hcp @hpe' @hq ?_
     exact of_eq_true (by simp [LaxV,LaxL,ratssV])
  ·have hke : k = m.length:=by omega
   subst hke
   obtain ⟨e1,e2⟩:=rrV_some hc hIt
   rw [e1,e2]
   have Rf:=(r1_mslO s qo 0 m.length).symm.trans (hM.resN (fun i hi=>(hOk i hi).1) 6)
   refine ew2 @hck @Rf ?_
   exact laxV_refl _
def F_spec_SolveSystem : Fn:=⟨2,73,[.tmp 4,.tmp 5],(.seq (.reg false 0 [oN 4 (.mov (.c (.nils))),oN 5 (.mov (.c (.bool false)))]) (.seq (.seq (.reg false 0 [oN 13 (oV 0),oN 14 (oV 0),oN 15 (.len (.t 14)),oN 16 (.call 91 [(.t 13),(.t 15)]),oN 17 (.un .not (.t 16)),oN 18 (oV 17),oG 18 false 19 (oV 1),oG 18 false 20 (.len (.t 19)),oG 18 false 21 (oV 0),oG 18 false 22 (.len (.t 21)),oG 18 false 23 (.bin .neq (.t 20) (.t 22)),oN 24 (.pick (.t 18) (.c (.bool true)) (.t 23))]) (.cond (.t 24) (.seq (.reg false 0 [oN 4 (.mov (.c (.nils))),oN 5 (.mov (.c (.bool false)))]) .ret) .skip)) (.seq (.reg false 0 [oN 25 (oV 0),oN 26 (.call 325 [(.t 25)]),oN 6 (oV 26)]) (.seq (.seq (.reg false 0 [oN 27 (oV 6),oN 28 (.len (.t 27)),oN 29 (.mov (cI 0))]) (.block 0 (.loop (.seq (.reg false 0 [oN 30 (.bin .lss (.t 29) (.t 28))]) (.seq (.cond (.t 30) .skip (.exit 0)) (.seq (.block 1 (.seq (.reg false 0 [oN 31 (oV 29),oN 7 (oV 31)]) (.reg true 2 [oK 32 2 (oV 6),oK 33 2 (oV 7),oK 34 2 (oV 6),oK 35 2 (oV 7),oA 36 2 (.idx 1 (.t 34) (.t 35)) [2,3],oA 37 2 (.load 1 false (.t 36)) [4],oK 38 2 (oV 1),oK 39 2 (oV 7),oA 40 2 (.idx 3 (.t 38) (.t 39)) [6,7],oA 41 2 (.load 3 true (.t 40)) [8],oA 42 0 (.mkSl 3 [.bool false,.nils,.nils] 1 [(0,(.t 41))]) [9],oA 43 1 (.app 3 56 (.t 37) (.t 42)) [5,10],oA 44 2 (.idx 1 (.t 32) (.t 33)) [0,1,0,1,2,3,4,5,6,7,8,9,10,11],⟨none,none,2,.store 1 (.t 44) (.t 43),[12,11,11,0,1,2,3,4,5,6,7,8,9,10,11]⟩]))) (.reg false 0 [oN 45 (.bin .add (.t 29) (cI 1)),oN 29 (oV 45)]))))))) (.seq (.reg false 0 [oN 47 (oV 6),oN 48 (oV 0),oN 49 (.len (.t 48)),oN 50 (.bin .add (.t 49) (cI 1)),oN 51 (.call 310 [(.t 47),(.t 50)]),oN 46 (oV 51),oN 52 (.extr 0 (.t 46)),oN 53 (.extr 1 (.t 46)),oN 8 (oV 52),oN 9 (oV 53)]) (.seq (.seq (.reg false 0 [oN 54 (oV 9),oN 55 (.un .not (.t 54))]) (.cond (.t 55) (.seq (.reg false 0 [oN 4 (.mov (.c (.nils))),oN 5 (.mov (.c (.bool false)))]) .ret) .skip)) (.seq (.reg false 1 [oN 56 (.mkSl 3 [.bool false,.nils,.nils] 0 []),oK 10 1 (oV 56)]) (.seq (.seq (.reg false 0 [oN 57 (oV 8),oN 58 (.len (.t 57)),oN 59 (.mov (cI 0))]) (.block 2 (.loop (.seq (.reg false 0 [oN 60 (.bin .lss (.t 59) (.t 58))]) (.seq (.cond (.t 60) .skip (.exit 2)) (.seq (.block 3 (.seq (.reg false 0 [oN 61 (.idx 1 (.t 57) (.t 59)),oN 62 (.load 1 false (.t 61)),oN 12 (oV 62)]) (.reg false 2 [oK 63 2 (oV 10),oK 64 2 (oV 12),oK 65 2 (oV 0),oK 66 2 (.len (.t 65)),oK 67 2 (.idx 3 (.t 64) (.t 66)),oK 68 2 (.load 3 true (.t 67)),oN 69 (.mkSl 3 [.bool false,.nils,.nils] 1 [(0,(.t 68))]),oK 70 1 (.app 3 56 (.t 63) (.t 69)),oK 10 2 (oV 70)]))) (.reg false 0 [oN 71 (.bin .add (.t 59) (cI 1)),oN 59 (oV 71)]))))))) (.seq (.reg false 0 [oN 72 (oV 10),oN 4 (oV 72),oN 5 (.mov (.c (.bool true)))]) .ret)))))))))⟩
structure D_spec_SolveSystem (T : Nat → Option Fn) : Prop where
 hT : T 311 = some F_spec_SolveSystem
 d_spec_IsMatrix : D_spec_IsMatrix T
 d_spec_ReduceRows : D_spec_ReduceRows T
 d_spec_l09Copy : D_spec_l09Copy T
def F_impl_SolveSystem : Fn:=⟨2,73,[.tmp 4,.tmp 5],(.seq (.reg false 0 [oN 4 (.mov (.c (.nils))),oN 5 (.mov (.c (.bool false)))]) (.seq (.reg false 0 [oN 15 (oV 0),oN 16 (.len (.t 15)),oN 6 (oV 16)]) (.seq (.seq (.reg false 0 [oN 17 (oV 0),oN 18 (oV 6),oN 19 (.call 93 [(.t 17),(.t 18)]),oN 20 (.un .not (.t 19)),oN 21 (oV 20),oG 21 false 22 (oV 1),oG 21 false 23 (.len (.t 22)),oG 21 false 24 (oV 6),oG 21 false 25 (.bin .neq (.t 23) (.t 24)),oN 26 (.pick (.t 21) (.c (.bool true)) (.t 25))]) (.cond (.t 26) (.seq (.reg false 0 [oN 4 (.mov (.c (.nils))),oN 5 (.mov (.c (.bool false)))]) .ret) .skip)) (.seq (.reg false 1 [oN 27 (.mkSl 1 [.nils] 0 []),oK 7 1 (oV 27)]) (.seq (.seq (.reg false 0 [oN 28 (oV 0),oN 29 (.len (.t 28)),oN 30 (.mov (cI 0))]) (.block 0 (.loop (.seq (.reg false 0 [oN 31 (.bin .lss (.t 30) (.t 29))]) (.seq (.cond (.t 31) .skip (.exit 0)) (.seq (.block 1 (.seq (.reg false 0 [oN 32 (oV 30),oN 33 (.idx 1 (.t 28) (.t 30)),oN 34 (.load 1 false (.t 33)),oN 8 (oV 32),oN 9 (oV 34)]) (.reg true 6 [oK 35 6 (oV 7),oN 36 (.mkSl 3 [.bool false,.nils,.nils] 0 []),oK 37 6 (oV 9),oA 38 1 (.app 3 56 (.t 36) (.t 37)) [1,2],oK 39 6 (oV 1),oK 40 6 (oV 8),oA 41 6 (.idx 3 (.t 39) (.t 40)) [4,5],oA 42 6 (.load 3 true (.t 41)) [6],oA 43 2 (.mkSl 3 [.bool false,.nils,.nils] 1 [(0,(.t 42))]) [7],oA 44 3 (.app 3 56 (.t 38) (.t 43)) [3,8,3],oA 45 4 (.mkSl 1 [.nils] 1 [(0,(.t 44))]) [9],oA 46 5 (.app 1 24 (.t 35) (.t 45)) [0,10,9],oA 7 6 (oV 46) [11,11,0,1,2,3,4,5,6,7,8,9,10,11]]))) (.reg false 0 [oN 47 (.bin .add (.t 30) (cI 1)),oN 30 (oV 47)]))))))) (.seq (.reg false 0 [oN 49 (oV 7),oN 50 (oV 6),oN 51 (.bin .add (.t 50) (cI 1)),oN 52 (.call 243 [(.t 49),(.t 51)]),oN 48 (oV 52),oN 53 (.extr 0 (.t 48)),oN 54 (.extr 1 (.t 48)),oN 10 (oV 53),oN 11 (oV 54)]) (.seq (.seq (.reg false 0 [oN 55 (oV 11),oN 56 (.un .not (.t 55))]) (.cond (.t 56) (.seq (.reg false 0 [oN 4 (.mov (.c (.nils))),oN 5 (.mov (.c (.bool false)))]) .ret) .skip)) (.seq (.reg false 1 [oN 57 (.mkSl 3 [.bool false,.nils,.nils] 0 []),oK 12 1 (oV 57)]) (.seq (.seq (.reg false 0 [oN 58 (oV 10),oN 59 (.len (.t 58)),oN 60 (.mov (cI 0))]) (.block 2 (.loop (.seq (.reg false 0 [oN 61 (.bin .lss (.t 60) (.t 59))]) (.seq (.cond (.t 61) .skip (.exit 2)) (.seq (.block 3 (.seq (.reg false 0 [oN 62 (.idx 1 (.t 58) (.t 60)),oN 63 (.load 1 false (.t 62)),oN 14 (oV 63)]) (.reg false 2 [oK 64 2 (oV 12),oK 65 2 (oV 14),oK 66 2 (oV 6),oK 67 2 (.idx 3 (.t 65) (.t 66)),oK 68 2 (.load 3 true (.t 67)),oN 69 (.mkSl 3 [.bool false,.nils,.nils] 1 [(0,(.t 68))]),oK 70 1 (.app 3 56 (.t 64) (.t 69)),oK 12 2 (oV 70)]))) (.reg false 0 [oN 71 (.bin .add (.t 60) (cI 1)),oN 60 (oV 71)]))))))) (.seq (.reg false 0 [oN 72 (oV 12),oN 4 (oV 72),oN 5 (.mov (.c (.bool true)))]) .ret))))))))))⟩
structure D_impl_SolveSystem (T : Nat → Option Fn) : Prop where
 hT : T 231 = some F_impl_SolveSystem
 d_impl_IsMatrix : D_impl_IsMatrix T
 d_impl_ReduceRows : D_impl_ReduceRows T
theorem rrV_ok {m : List (List R)} {c : Int} (h : rrB m c = true) : ∃ M,rrM m c = (List.range m.length).map M ∧ OkM m.length c.toNat M ∧ rrC m c = true:=by
 cases hc : rrC m c
 ·rw [(rrV_bad hc).2] at h;cases h
 obtain ⟨h10,hcl,hm,hok⟩:=rrC_ok hc
 cases e : rrIt m.length (mF m) m.length with
 | none=>rw [(rrV_none hc e (Nat.le_refl _)).2] at h;cases h
 |
  some M =>
  refine ⟨M,(rrV_some hc e).1,?_,rfl⟩
  have key : ∀ k,k ≤ m.length → ∀ M,rrIt m.length (mF m) k = some M → OkM m.length c.toNat M:=by
   intro k
   induction k with
   | zero=>intro _ M e;cases e;exact hok
   |
    succ k ih =>
    intro hk M e
    cases e2 : rrIt m.length (mF m) k with
    | none=>rw [rrIt_none e2 _ (Nat.le_succ k)] at e;cases e
    | some M0=>rw [rrIt_s e2] at e;exact (ih (by omega) _ e2).step (by omega) e
  exact key _ (Nat.le_refl _) M e
def wideL (n : Nat) (M : MF) : List (List R):=(List.range n).map M
theorem wideL_len (n : Nat) (M : MF) : (wideL n M).length = n:=by simp [wideL]
theorem wideL_at {n i : Nat} {M : MF} (h : i < n) : mF (wideL n M) i = M i:=by
 unfold mF wideL
 rw [List.getD_eq_getElem?_getD,List.getElem?_map,List.getElem?_range h];rfl
theorem rrC_sz {m : List (List R)} {c : Int} (hc : c ≤ 20) (h : rrC m c = true) : szL (szL R.sz) m ≤ 1048576:=by
 obtain ⟨h10,hcl,hm,hok⟩:=rrC_ok h
 have:=(mat_ok (m:=m) (n:=20) (fun r hr=>by
  obtain ⟨i,hi⟩:=List.mem_iff_getElem?.1 hr
  have hil:=(List.getElem?_eq_some_iff.1 hi).1
  have:=hok i hil
  rw [show mF m i = r by unfold mF;rw [List.getD_eq_getElem?_getD,hi];rfl] at this
  exact ⟨this.2,by omega⟩) (Nat.le_refl _) h10).1
 omega
def ssW (m : List (List R)) (b : List R) : MF:=fun i=>m.getD i default ++ [b.getD i default]
def ssC (m : List (List R)) (b : List R) : Bool:=matOk m m.length && decide (b.length = m.length)
def ssL (m : List (List R)) (b : List R) : List (List R):=wideL m.length (ssW m b)
def ssB (m : List (List R)) (b : List R) : Bool:=ssC m b && rrB (ssL m b) ((m.length : Nat) + 1)
def ssX (m : List (List R)) (b : List R) : List R:=if ssB m b = true then (rrM (ssL m b) ((m.length : Nat) + 1)).map fun r=>r.getD m.length default else []
theorem ssB_c {m : List (List R)} {b : List R} (h : ssC m b = false) : ssX m b = [] ∧ ssB m b = false:=by
 have : ssB m b = false:=by unfold ssB;rw [h];rfl
 unfold ssX
 rw [this];exact ⟨rfl,rfl⟩
theorem ssB_r {m : List (List R)} {b : List R} (h : rrB (ssL m b) ((m.length : Nat) + 1) = false) : ssX m b = [] ∧ ssB m b = false:=by
 have : ssB m b = false:=by unfold ssB;rw [h,Bool.and_false]
 unfold ssX
 rw [this];exact ⟨rfl,rfl⟩
theorem ssB_t {m : List (List R)} {b : List R} (h : ssC m b = true) (h2 : rrB (ssL m b) ((m.length : Nat) + 1) = true) : ssX m b = ((rrM (ssL m b) ((m.length : Nat) + 1)).map fun r=>r.getD m.length default) ∧ ssB m b = true:=by
 have : ssB m b = true:=by unfold ssB;rw [h,h2];rfl
 unfold ssX
 rw [this];exact ⟨if_pos rfl,rfl⟩
theorem ssC_ok {m : List (List R)} {b : List R} (h : ssC m b = true) : m.length ≤ 10 ∧ b.length = m.length ∧ matOk m m.length = true ∧ ∀ i,i < m.length → (m.getD i default).length = m.length:=by
 unfold ssC at h
 simp only [Bool.and_eq_true,decide_eq_true_eq] at h
 obtain ⟨h1,h2⟩:=matOk_row h.1
 exact ⟨h2,h.2,h.1,fun i hi=>by have:=(h1 i hi).1;omega⟩
theorem ssX_cn (m : List (List R)) (b : List R) : (∀ r ∈ ssX m b,r.cn) ∧ (ssX m b).length ≤ 10:=by
 cases hb : ssB m b
 ·unfold ssX;rw [hb];simp
 ·have h:=hb
  unfold ssB at h
  simp only [Bool.and_eq_true] at h
  obtain ⟨h10,hbl,hm,hl⟩:=ssC_ok h.1
  obtain ⟨M,e,hok,hc⟩:=rrV_ok h.2
  rw [(ssB_t h.1 h.2).1,e]
  have hw : (ssL m b).length = m.length:=wideL_len _ _
  refine ⟨fun r hr=>?_,by simp [hw];omega⟩
  rw [List.map_map] at hr
  obtain ⟨i,hi,rfl⟩:=List.mem_map.1 hr
  have hi:=List.mem_range.1 hi
  have:=hok i hi
  exact this.2 _ (getD_mem (by rw [this.1];omega))
theorem ssL_wf {m : List (List R)} {b : List R} (hm : wfL (wfL R.wf) m) (hb : wfL R.wf b) (hl : ∀ i,i < m.length → (m.getD i default).length = m.length) (hbl : b.length = m.length) (h10 : m.length ≤ 10) : wfL (wfL R.wf) (ssL m b):=by
 refine ⟨by rw [show (ssL m b).length = m.length from wideL_len _ _];omega,fun r hr=>?_⟩
 obtain ⟨i,hi,rfl⟩:=List.mem_map.1 hr
 have hi:=List.mem_range.1 hi
 have hrow:=hm.2 _ (getD_mem hi)
 refine ⟨by unfold ssW;rw [List.length_append,hl i hi];simp;omega,fun x hx=>?_⟩
 rcases List.mem_append.1 hx with hx | hx
 ·exact hrow.2 x hx
 ·rw [List.mem_singleton.1 hx];exact hb.2 _ (getD_mem (by omega))
theorem ivm_ok {m : List (List R)} (h : matOk m m.length = true) : m.length ≤ 10 ∧ ∀ i,i < m.length → (m.getD i default).length = m.length ∧ ∀ x ∈ m.getD i default,x.cn:=by
 obtain ⟨h1,h2⟩:=matOk_row h
 refine ⟨h2,fun i hi=>⟨by have:=(h1 i hi).1;omega,fun x hx=>?_⟩⟩
 obtain ⟨j,hj⟩:=List.mem_iff_getElem?.1 hx
 have hl:=(List.getElem?_eq_some_iff.1 hj).1
 have:=(h1 i hi).2 j hl
 rw [List.getD_eq_getElem?_getD (l:=m.getD i default),hj] at this
 exact cn_ok this
theorem owR_drop {σ : Store} : ∀ (n : Nat) {A T : List (List V)} {os : List Nat},OwR σ A T os → ∃ os',OwR σ (A.drop n) (T.drop n) os' ∧ os'.Sublist os
 | 0,A,T,os,h=>⟨os,h,List.Sublist.refl _⟩
 |
  n + 1,A,[],os,h=>by
  simp only [OwR] at h
  obtain ⟨rfl,rfl⟩:=h
  exact ⟨[],by simp [OwR],List.Sublist.refl _⟩
 |
  n + 1,A,t :: T,os,h=>by
  simp only [OwR] at h
  obtain ⟨v,vs',o1,o2,rfl,rfl,h1,h2⟩:=h
  obtain ⟨os',k1,k2⟩:=owR_drop n h2
  exact ⟨os',k1,k2.trans (List.sublist_append_right _ _)⟩
theorem owR_at {σ : Store} : ∀ {i : Nat} {A T : List (List V)} {os : List Nat},OwR σ A T os → i < T.length → ∃ os',OwL σ (A.getD i []) (T.getD i []) os' ∧ os'.Sublist os
 | i,A,[],os,h,hi=>absurd hi (Nat.not_lt_zero _)
 |
  0,A,t :: T,os,h,hi=>by
  simp only [OwR] at h
  obtain ⟨v,vs',o1,o2,rfl,rfl,h1,h2⟩:=h
  exact ⟨o1,h1,List.sublist_append_left _ _⟩
 |
  i + 1,A,t :: T,os,h,hi=>by
  simp only [OwR] at h
  obtain ⟨v,vs',o1,o2,rfl,rfl,h1,h2⟩:=h
  obtain ⟨os',k1,k2⟩:=owR_at h2 (by simpa using hi)
  exact ⟨os',k1,k2.trans (List.sublist_append_right _ _)⟩
theorem OwF.col {s : Store} {A : Nat → List (List V)} {M : MF} {f : Nat → List Nat} {n c j : Nat} (ho : OwF s A M f fun i=>i < n) (hl : ∀ i,i < n → (M i).length = c) (hj : j < c) :
  ∀ m,m ≤ n → ∃ os,OwR s ((List.range m).map fun i=>(A i).getD j []) (((List.range m).map fun i=>(M i).getD j default).map R.cells) os ∧ os.Nodup ∧ ∀ o ∈ os,∃ i,i < m ∧ o ∈ f i
 | 0,_=>⟨[],by simp [OwR],.nil,by simp⟩
 |
  m + 1,hm=>by
  obtain ⟨os,k1,k2,k3⟩:=OwF.col ho hl hj m (by omega)
  have hm' : m < n:=by omega
  obtain ⟨o2,h1,h2⟩:=owR_at (ho.ow m hm') (i:=j) (by rw [List.length_map,hl m hm'];exact hj)
  rw [mg (by rw [hl m hm'];exact hj)] at h1
  refine ⟨os ++ o2,?_,?_,fun o h=>?_⟩
  ·rw [List.range_succ,List.map_append,List.map_append,List.map_append]
   exact owR_append k1 (owR_1 h1)
  ·rw [List.nodup_append]
   refine ⟨k2,(ho.nd m hm').sublist h2,fun x hx y hy e=>?_⟩
   subst e
   obtain ⟨i,hi,hi2⟩:=k3 x hx
   exact ho.ap i m (by omega) hm' (by omega) x hi2 (h2.subset hy)
  ·rcases List.mem_append.1 h with h | h
   ·obtain ⟨i,hi,k⟩:=k3 o h;exact ⟨i,by omega,k⟩
   ·exact ⟨m,by omega,h2.subset h⟩
theorem OwF.drop {s : Store} {A : Nat → List (List V)} {M : MF} {f : Nat → List Nat} {n : Nat} (ho : OwF s A M f fun i=>i < n) (d : Nat) : ∃ f',OwF s (fun i=>(A i).drop d) (fun i=>(M i).drop d) f' (fun i=>i < n) ∧ ∀ i,i < n → ∀ o ∈ f' i,o ∈ f i:=by
 have h : ∀ i,∃ os',i < n → OwR s ((A i).drop d) (((M i).drop d).map R.cells) os' ∧ os'.Sublist (f i):=fun i=>by
  by_cases hi : i < n
  ·obtain ⟨os',k1,k2⟩:=owR_drop d (ho.ow i hi)
   rw [← List.map_drop] at k1
   exact ⟨os',fun _=>⟨k1,k2⟩⟩
  ·exact ⟨[],fun h=>absurd h hi⟩
 refine ⟨fun i=>Classical.choose (h i),⟨fun i hi=>?_,fun i hi=>?_,fun i j hi hj hne o h1 h2=>?_⟩,fun i hi o h1=>?_⟩
 ·exact (Classical.choose_spec (h i) hi).1
 ·exact (ho.nd i hi).sublist (Classical.choose_spec (h i) hi).2
 ·exact ho.ap i j hi hj hne o ((Classical.choose_spec (h i) hi).2.subset h1) ((Classical.choose_spec (h j) hj).2.subset h2)
 ·exact (Classical.choose_spec (h i) hi).2.subset h1
theorem owR_mat {σ : Store} {c : Nat} (hc : 0 < c) : ∀ {RR : List (List R)} {rows : List (List V)} {os : List Nat},OwR σ rows (RR.map fun r=>[ratsV r]) os → os.Nodup → (∀ r ∈ RR,r.length = c) →
  ∃
   (rp : Nat → Nat) (A : Nat → List (List V)) (f : Nat → List Nat),rows = orow RR.length c rp ∧ (∀ i,i < RR.length → objAt σ (rp i) = some ⟨3,A i⟩ ∧ OwR σ (A i) ((mF RR i).map R.cells) (f i) ∧ (f i).Nodup ∧ rp i ∈ os ∧ ∀ o ∈ f i,o ∈ os) ∧
   (∀ i j,i < RR.length → j < RR.length → rp i = rp j → i = j) ∧ ∀ i j,i < RR.length → j < RR.length → i ≠ j → ∀ o ∈ f i,o ∉ f j
 |
  [],rows,os,h,_,_=>by
  simp only [List.map_nil,OwR] at h
  obtain ⟨rfl,rfl⟩:=h
  exact ⟨fun _=>0,fun _=>[],fun _=>[],rfl,fun i hi=>absurd hi (Nat.not_lt_zero _),fun i j hi=>absurd hi (Nat.not_lt_zero _),fun i j hi=>absurd hi (Nat.not_lt_zero _)⟩
 |
  r :: RR,rows,os,h,hn,hl=>by
  simp only [List.map_cons,OwR] at h
  obtain ⟨v,vs',o1,o2,rfl,rfl,h1,h2⟩:=h
  rw [List.nodup_append] at hn
  obtain ⟨n1,n2,n3⟩:=hn
  obtain ⟨w,vs,o3,o4,rfl,rfl,h3,h4⟩:=h1.inv
  obtain ⟨rfl,rfl⟩:=h4.nil_inv
  have hr:=hl r (by simp)
  unfold ratsV at h3
  rcases h3.sl_inv with ⟨e,_,_⟩ | ⟨p,A0,f0,rfl,hp,hA,rfl,hR⟩
  ·have:=congrArg List.length e
   simp at this
   rw [this] at hr
   simp at hr
   omega
  rw [List.append_nil] at n1 n3
  rw [List.nodup_cons] at n1
  obtain ⟨rp,A,f,e,k1,k2,k3⟩:=owR_mat hc h2 n2 fun r hr=>hl r (by simp [hr])
  refine ⟨fun i=>match i with | 0=>p | i + 1=>rp i,fun i=>match i with | 0=>A0 | i + 1=>A i,fun i=>match i with | 0=>f0 | i + 1=>f i,?_,fun i hi=>?_,fun i j hi hj e=>?_,fun i j hi hj hne o h1 h2=>?_⟩
  ·rw [e,List.length_cons,List.length_map,hr]
   unfold orow
   rw [List.range_succ_eq_map,List.map_cons,List.map_map]
   rfl
  ·cases i with
   | zero=>exact ⟨hp,hR,n1.2,by simp,fun o h=>by simp [h]⟩
   |
    succ i =>
    obtain ⟨a,b,c,d,e⟩:=k1 i (by simpa using hi)
    exact ⟨a,b,c,by simp [d],fun o h=>by simp [e o h]⟩
  ·cases i with
   |
    zero =>
    cases j with
    | zero=>rfl
    |
     succ j =>
     have:=(k1 j (by simpa using hj)).2.2.2.1
     exact absurd e fun e=>n3 p (by simp) _ this e
   |
    succ i =>
    cases j with
    |
     zero =>
     have:=(k1 i (by simpa using hi)).2.2.2.1
     exact absurd e fun e=>n3 p (by simp) _ this e.symm
    | succ j=>rw [k2 i j (by simpa using hi) (by simpa using hj) e]
  ·cases i with
   |
    zero =>
    cases j with
    | zero=>exact hne rfl
    | succ j=>exact n3 o (by simp [show o ∈ f0 from h1]) o ((k1 j (by simpa using hj)).2.2.2.2 o h2) rfl
   |
    succ i =>
    cases j with
    | zero=>exact n3 o (by simp [show o ∈ f0 from h2]) o ((k1 i (by simpa using hi)).2.2.2.2 o h1) rfl
    | succ j=>exact k3 i j (by simpa using hi) (by simpa using hj) (by omega) o h1 h2
theorem owV_mat {σ : Store} {c : Nat} (hc : 0 < c) {RR : List (List R)} {v : V} {os : List Nat} (h : OwV σ v (ratssV RR) os) (hn : os.Nodup) (hl : ∀ r ∈ RR,r.length = c) (hne : 0 < RR.length) :
  ∃ (q : Nat) (rp : Nat → Nat) (A : Nat → List (List V)) (f : Nat → List Nat),v = .msl q 0 RR.length ∧ Mat σ q RR.length c rp A (mF RR) ∧ OwF σ A (mF RR) f (fun i=>i < RR.length) ∧ ∀ i,i < RR.length → ∀ o ∈ f i,o ∈ os:=by
 unfold ratssV at h
 rcases h.sl_inv with ⟨e,_,_⟩ | ⟨q,rows,os',rfl,hq,_,rfl,hR⟩
 ·rw [List.map_eq_nil_iff] at e
  subst e
  exact absurd hne (Nat.lt_irrefl _)
 rw [List.nodup_cons] at hn
 obtain ⟨rp,A,f,e,k1,k2,k3⟩:=owR_mat hc hR hn.2 hl
 refine ⟨q,rp,A,f,by rw [List.length_map],⟨k2,by rw [hq,e],fun i hi=>(k1 i hi).1,fun i hi=>(row_ow (k1 i hi).2.1).1⟩,⟨fun i hi=>(k1 i hi).2.1,fun i hi=>(k1 i hi).2.2.1,k3⟩,fun i hi o ho=>by simp [(k1 i hi).2.2.2.2 o ho]⟩
theorem po_lax {T : Nat → Option Fn} {f : Nat} {as as' : List V} {t : V} (h : PO T f as t) (ha : LaxL as as') : PO T f as' t:=by
 obtain ⟨r,σ',os,h1,h2,h3,h4⟩:=h
 exact ⟨r,σ',os,.laxF ha h1 (laxV_refl _),h2,h3,h4⟩
theorem rrE {m : List (List R)} {c : Int} (h0 : m.length = 0) (hc : 0 ≤ c) : rrM m c = [] ∧ rrB m c = true:=by
 have em : m = []:=List.eq_nil_of_length_eq_zero h0
 subst em
 have hC : rrC [] c = true:=by
  unfold rrC
  rw [decide_eq_true (by simpa using hc),Bool.and_true]
  rfl
 obtain ⟨e1,e2⟩:=rrV_some hC (M:=mF []) rfl
 exact ⟨e1,e2⟩
theorem OkA_lst {ops : List OpI} {L : Nat} {acc : List Acc} (l : List Nat) (l0 : List Acc) (hn : l.Nodup) (hl : ∀ o ∈ l,o < L) (he : acc = l0.map (renA (gN l L))) (h : OkA l.length ops l0) : OkA L ops acc:=OkA_ren (gN_inj hl hn) (gN_lt hl) he h
theorem po_iSolveSystem {T : Nat → Option Fn} (h : D_impl_SolveSystem T) {m : List (List R)} {b : List R} (wm : wfL (wfL R.wf) m) (wb : wfL R.wf b) : PO T 231 [ratssV m,ratsV b] (.tup [ratsV (ssX m b),.bool (ssB m b)]):=by
 have lm:=wm.1
 have lb:=wb.1
 have c1:=c_iIsMatrix h.d_impl_IsMatrix (m:=m) (cols:=(m.length : Nat)) wm (by omega)
 cases hc : ssC m b
 ·obtain ⟨e1,e2⟩:=ssB_c hc
  rw [e1,e2]
  unfold ssC at hc
  generalize matOk m (m.length : Nat) = x at c1 hc
  have hx : x = false ∨ x = true:=by cases x <;> simp
  refine po_end2 (fun _ _=>false) h.hT rfl rfl ?_
  dsimp only [F_impl_SolveSystem,oN,oS,oG,oK,oA,oH,oV,cI,St.enter,List.length_cons,List.length_nil,Nat.zero_add]
  refine ew ?_
  refine PFK_of c1 ?_
  rcases hx with hx | hx
  ·refine ew1 @hx ?_
   exact (fin_nil (sz:=3)).tup1
  ·have hlt : (((b.length : Nat) : Int) = (m.length : Nat)) = False:=eq_false fun e=>by
    rw [hx,Bool.true_and,decide_eq_false_iff_not] at hc;omega
   refine ew2 @hx @hlt ?_
   exact (fin_nil (sz:=3)).tup1
 obtain ⟨h10,hbl,hmo,hml⟩:=ssC_ok hc
 rw [hmo] at c1
 have hlt : (((b.length : Nat) : Int) = (m.length : Nat)) = True:=eq_true (by omega)
 have wW:=ssL_wf wm wb hml hbl h10
 have hWl : (ssL m b).length = m.length:=wideL_len _ _
 have PR:=po_iReduceRows h.d_impl_ReduceRows (m:=ssL m b) (c:=(m.length : Nat) + 1) wW (fun hc=>rrC_sz (by omega) hc) (by omega)
 clear lm lb wm wb
 rcases Nat.eq_zero_or_pos m.length with h0 | h0
 ·obtain ⟨e1,e2⟩:=rrE (m:=ssL m b) (c:=(m.length : Nat) + 1) (by omega) (by omega)
  obtain ⟨e3,e4⟩:=ssB_t hc e2
  rw [e3,e4,e1]
  rw [e1,e2] at PR
  have PR0:=po_lax (as':=[.nils,iv ((m.length : Nat) + 1)]) PR (by
   rw [show ssL m b = [] from List.eq_nil_of_length_eq_zero (by omega)]
   simp only [LaxL,LaxV]
   exact ⟨_,_,rfl,.inl ⟨rfl,.inl rfl⟩,_,_,rfl,rfl,rfl⟩)
  refine po_end2 (fun x d=>x == 243) h.hT rfl rfl ?_
  dsimp only [F_impl_SolveSystem,oN,oS,oG,oK,oA,oH,oV,cI,St.enter,List.length_cons,List.length_nil,Nat.zero_add]
  refine ew ?_
  refine PFK_of c1 ?_
  refine ew1 @hlt ?_
  refine loop_at (fun x d=>x == 243) (α:=Nat) (fun i=>⟨argE [.any,.any,.any,.any,.any,.any,iv (m.length : Nat),.nils,.any,.any,.any,.any,.any,.any,.any,.any,.any,.any,.any,.any,.any,.any,.any,.any,.any,.any,.any,.any,ratssV m,iv (m.length : Nat),iv (i : Nat)],[none],0,0,[],[]⟩) (fun i=>i = 0) (fun i=>i) rfl 0 ?_ ?_ ?_
  ·rfl
  ·(refine Fg_env ?_;exact fgW)
  ·rintro i hi
   have hcc : ¬ ((i : Int) < (m.length : Nat)):=by omega
   refine ew1 @hcc ?_
   refine RefK_got PR0 (by (refine ew ?_;try with_reducible exact True.intro)) ?_
   intro r s1 o1 G
   obtain ⟨v,rfl,G1⟩:=G.tup1
   have hv:=G1.ow
   rcases hv.sl_inv with ⟨_,rfl,_⟩ | ⟨p,R0,os,rfl,hp,_⟩
   ·refine ew ?_
    refine loop_at (fun x d=>x == 243) (α:=Nat) (fun k=>⟨argE [.any,.any,.any,.any,.any,.any,.any,.any,.any,.any,.any,.any,.nils,.any,.any,.any,.any,.any,.any,.any,.any,.any,.any,.any,.any,.any,.any,.any,.any,.any,.any,.any,.any,.any,.any,.any,.any,.any,.any,.any,.any,.any,.any,.any,.any,.any,.any,.any,.any,.any,.any,.any,.any,.any,.any,.any,.any,.any,.sl 1 [],iv 0,iv (k : Nat)],s1 ++ [none],0,0,[],[]⟩) (fun k=>k = 0) (fun k=>k) rfl 0 ?_ ?_ ?_
    ·rfl
    ·(refine Fg_env ?_;exact fgW)
    ·rintro k hk
     have hcc : ¬ ((k : Int) < 0):=by omega
     refine ew1 @hcc ?_
     exact (fin_nil (sz:=3)).tup1
   ·refine ew1 @hp ?_
    refine loop_at (fun x d=>x == 243) (α:=Nat) (fun k=>⟨argE [.any,.any,.any,.any,.any,.any,.any,.any,.any,.any,.any,.any,.nils,.any,.any,.any,.any,.any,.any,.any,.any,.any,.any,.any,.any,.any,.any,.any,.any,.any,.any,.any,.any,.any,.any,.any,.any,.any,.any,.any,.any,.any,.any,.any,.any,.any,.any,.any,.any,.any,.any,.any,.any,.any,.any,.any,.any,.any,.msl p 0 0,iv 0,iv (k : Nat)],s1 ++ [none],0,0,[],[]⟩) (fun k=>k = 0) (fun k=>k) rfl 0 ?_ ?_ ?_
    ·rfl
    ·(refine Fg_env ?_;exact fgW)
    ·rintro k hk
     have hcc : ¬ ((k : Int) < 0):=by omega
     refine ew1 @hcc ?_
     exact (fin_nil (sz:=3)).tup1
 refine po_end2 (fun x d=>x == 243) h.hT rfl rfl ?_
 dsimp only [F_impl_SolveSystem,oN,oS,oG,oK,oA,oH,oV,cI,St.enter,List.length_cons,List.length_nil,Nat.zero_add]
 refine ew ?_
 refine PFK_of c1 ?_
 refine ew1 @hlt ?_
 refine loop_at (fun x d=>x == 243) (α:=Nat × Store × V × Nat × (Nat → Nat)) (fun q=>⟨argE [.any,ratsV b,.any,.any,.any,.any,iv (m.length : Nat),q.2.2.1,.any,.any,.any,.any,.any,.any,.any,.any,.any,.any,.any,.any,.any,.any,.any,.any,.any,.any,.any,.any,ratssV m,iv (m.length : Nat),iv (q.1 : Nat)],q.2.1,0,0,[],[]⟩) (fun q=>q.1 ≤ m.length ∧ ((q.1 = 0 ∧ q.2.2.1 = .nils) ∨ (0 < q.1 ∧ q.2.2.1 = .msl q.2.2.2.1 0 q.1 ∧ Mat q.2.1 q.2.2.2.1 q.1 (m.length + 1) q.2.2.2.2 (fun x=>(ssW m b x).map R.cells) (ssW m b)))) (fun q=>m.length - q.1) rfl (0,[none],.nils,0,fun _=>0) ?_ ?_ ?_
 ·exact ⟨by omega,.inl ⟨rfl,rfl⟩⟩
 ·(refine Fg_env ?_;exact fgW)
 ·rintro ⟨i,s,v7,qo,rp⟩ ⟨hi,hM⟩
  dsimp only at hi hM
  by_cases hcc : (i : Int) < (m.length : Nat)
  ·have hil : i < m.length:=by omega
   have hib : (i : Int) < (b.length : Nat):=by omega
   have hai : (m.map fun r=>[ratsV r]).getD i [] = [ratsV (m.getD i default)]:=mg (f:=fun r : List R=>[ratsV r]) hil
   have hbi : (b.map R.cells).getD i [] = (b.getD i default).cells:=mg (by omega)
   have hri:=hml i hil
   have emf : (ssW m b i).map R.cells = (m.getD i default).map R.cells ++ [(b.getD i default).cells]:=by unfold ssW;rw [List.map_append];rfl
   generalize m.getD i default = r at *
   generalize b.getD i default = y at *
   have hne : (r.map R.cells = []) = False:=eq_false fun e=>by
    have:=congrArg List.length e
    simp at this
    subst this
    simp at hri;omega
   rcases hM with ⟨rfl,rfl⟩ | ⟨hi0,rfl,hM⟩
   ·refine ew3 @hcc (And.intro hai hbi) @hne ?_
    refine ⟨⟨by omega,by omega⟩,⟨by omega,by omega⟩,by decide,?_,?_⟩
    ·have hn0 : 0 ≤ List.length s:=Nat.zero_le _
     generalize List.length s = z at hn0 ⊢
     revert z
     refine OkA_allN _ _ 0 (fun n hn=>?_) (fun n hn=>?_) ?_
     ·simp only [sh];split <;> omega
     ·simp [shA,sh];try omega
     ·unfold OkA;decide +kernel
    refine ⟨(0 + 1,?st,.msl (s.length + 5) 0 1,s.length + 5,fun x=>if x = 0 then s.length + 3 else rp x),?c1,⟨?c2,.inr ⟨by omega,rfl,?c4⟩⟩,?c3⟩
    case c3=>dsimp only;(refine Fg_env ?_;exact fgW)
    case c1=>dsimp only;omega
    case c2=>dsimp only;omega
    case c4 =>
     dsimp only
     refine matF_snoc (s:=s) (q:=0) (.inl rfl) ?_ ?_ (by omega) (fun o ho _=>?_)
     ·rw [objAt_seteq (by simp)]
      rw [hri];rfl
     ·rw [emf]
      exact obE
     ·exact obE
   ·have hq:=hM.out
    have hql:=hM.lt.1
    have hoc:=orow_len i (m.length + 1) rp
    refine ew5 @hcc (And.intro hai hbi) @hne @hq @hoc ?_
    refine ⟨⟨by omega,by omega⟩,⟨by omega,by omega⟩,⟨by omega,by omega⟩,?_,?_⟩
    ·refine OkA_lst [qo,s.length + 1,s.length + 2,s.length + 3,s.length + 4,s.length + 5] [⟨12,[],[],false⟩,⟨11,[0,4],[0,5],false⟩,⟨10,[],[4],false⟩,⟨9,[1,2],[1,3],false⟩,⟨8,[],[2],false⟩,⟨7,[],[],false⟩,⟨6,[],[],false⟩,⟨5,[],[],false⟩,⟨4,[],[],false⟩,⟨3,[],[1],false⟩,⟨2,[],[],false⟩,⟨1,[],[],false⟩,⟨0,[],[],false⟩] ?_ ?_ rfl ?_
     ·simp;omega
     ·simp;omega
     ·show OkA 6 _ _
      unfold OkA;decide +kernel
    refine ⟨(i + 1,?st2,.msl (s.length + 5) 0 (i + 1),s.length + 5,fun x=>if x = i then s.length + 3 else rp x),?c1,⟨?c2,.inr ⟨by omega,rfl,?c4⟩⟩,?c3⟩
    case c3=>dsimp only;(refine Fg_env ?_;exact fgW)
    case c1=>dsimp only;omega
    case c2=>dsimp only;omega
    case c4 =>
     dsimp only
     refine matF_snoc (s:=s) (q:=qo) (.inr hM) ?_ ?_ (by omega) (fun o ho hne=>?_)
     ·rw [objAt_seteq (by simp)]
      rw [hri]
     ·rw [emf]
      have : s.length + 3 ≠ qo:=by omega
      exact obE
     ·exact obE
  ·have hie : i = m.length:=by omega
   subst hie
   rcases hM with ⟨h1,_⟩ | ⟨_,rfl,hM⟩
   ·omega
   have Rf:=hM.res fun i hi=>by unfold ssW;rw [List.length_append,hml i hi];rfl
   have Rf : resolve s FD (.msl qo 0 m.length) = some (ratssV (ssL m b)):=Rf
   refine ew2 @hcc @Rf ?_
   refine RefK_got PR (by (refine ew1 @Rf ?_;try with_reducible exact True.intro)) ?_
   intro r s1 o1 G
   cases hb : rrB (ssL m b) ((m.length : Nat) + 1)
   ·obtain ⟨e1,e2⟩:=ssB_r hb
    rw [e1,e2]
    rw [hb] at G
    obtain ⟨v,rfl,G1⟩:=G.tup1
    refine ew ?_
    exact (fin_nil (sz:=3)).tup1
   obtain ⟨e1,e2⟩:=ssB_t hc hb
   rw [e1,e2]
   rw [hb] at G
   obtain ⟨v,rfl,G1⟩:=G.tup1
   obtain ⟨M,eM,hOM,_⟩:=rrV_ok hb
   rw [hWl] at eM hOM
   have hlM : ∀ i,i < m.length → (M i).length = m.length + 1:=fun i hi=>by have:=(hOM i hi).1;omega
   have hRl : (rrM (ssL m b) ((m.length : Nat) + 1)).length = m.length:=by rw [eM];simp
   obtain ⟨q2,rp2,A,f,rfl,hM2,hO,hfo⟩:=owV_mat (c:=m.length + 1) (by omega) G1.ow G1.nd (fun r hr=>by
    rw [eM] at hr
    obtain ⟨i,hi,rfl⟩:=List.mem_map.1 hr
    exact hlM i (List.mem_range.1 hi)) (by omega)
   rw [hRl] at hM2 hO hfo ⊢
   have hmf : ∀ i,i < m.length → mF (rrM (ssL m b) ((m.length : Nat) + 1)) i = M i:=fun i hi=>by rw [eM];exact wideL_at hi
   have hM2:=hM2.ext hmf
   have hO:=hO.ext (M2:=M) (S2:=fun i=>i < m.length) fun i hi=>⟨hi,hmf i hi⟩
   have hq2:=hM2.out
   have hql2:=hM2.lt.1
   rw [eM,List.map_map]
   clear hM Rf eM hmf PR
   refine ew1 @hq2 ?_
   refine loop_at (fun x d=>x == 243) (α:=Nat × Store × V × Nat) (fun q=>⟨argE [.any,.any,.any,.any,.any,.any,iv (m.length : Nat),.any,.any,.any,.any,.any,q.2.2.1,.any,.any,.any,.any,.any,.any,.any,.any,.any,.any,.any,.any,.any,.any,.any,.any,.any,.any,.any,.any,.any,.any,.any,.any,.any,.any,.any,.any,.any,.any,.any,.any,.any,.any,.any,.any,.any,.any,.any,.any,.any,.any,.any,.any,.any,.msl q2 0 m.length,iv (m.length : Nat),iv (q.1 : Nat)],q.2.1,0,0,[],[]⟩) (fun q=>q.1 ≤ m.length ∧ ((q.1 = 0 ∧ q.2.2.1 = .nils) ∨ (0 < q.1 ∧ q.2.2.1 = .msl q.2.2.2 0 q.1 ∧ objAt q.2.1 q.2.2.2 = some ⟨3,(List.range q.1).map fun x=>(A x).getD m.length []⟩ ∧ s1.length ≤ q.2.2.2)) ∧ (∀ o,o < s1.length → objAt q.2.1 o = objAt s1 o) ∧ s1.length ≤ q.2.1.length) (fun q=>m.length - q.1) rfl (0,s1 ++ [none],.nils,0) ?_ ?_ ?_
   ·exact ⟨Nat.zero_le _,.inl ⟨rfl,rfl⟩,fun o ho=>objAt_snoc_lt ho,by simp⟩
   ·(refine Fg_env ?_;exact fgW)
   ·rintro ⟨i,u,v12,p⟩ ⟨hi,hL,huo,hul⟩
    dsimp only at hi hL huo hul
    by_cases hci : (i : Int) < (m.length : Nat)
    ·have hil : i < m.length:=by omega
     obtain ⟨a1,a2,gA,ka1,ka2⟩:=hM2.cell hlM hil (j:=m.length) (by omega)
     have gA2 : (A i)[m.length]? = some ((A i).getD m.length []):=getQ (by rw [(hM2.cel i hil).1,hlM i hil];omega)
     have eA : (A i).getD m.length [] = [.bool (elF M i m.length).neg,a1,a2]:=by
      rw [gA] at gA2;exact (Option.some.inj gA2).symm
     have hqu:=(huo q2 hql2).trans hq2
     have hru:=(huo _ (hM2.lt.2 i hil)).trans (hM2.row i hil)
     have gi:=orow_at (c:=m.length + 1) (rp:=rp2) hil
     have lx:=And.intro ka1.leaf ka2.leaf
     have es : ((List.range (i + 1)).map fun x=>(A x).getD m.length []) = ((List.range i).map fun x=>(A x).getD m.length []) ++ [[.bool (elF M i m.length).neg,a1,a2]]:=by
      rw [List.range_succ,List.map_append,List.map_cons,List.map_nil,eA]
     generalize elF M i m.length = x at *
     have hnn : (m.length : Int) < (m.length : Nat) + 1:=by omega
     rcases hL with ⟨rfl,rfl⟩ | ⟨hi0,rfl,hp,hpl⟩
     ·refine ew4 @hci (And.intro hqu hru) (And.intro gi gA) @lx ?_
      refine ⟨by omega,?_⟩
      refine ⟨(0 + 1,?st3,.msl (u.length + 1) 0 1,u.length + 1),?c1,⟨?c2,.inr ⟨by omega,rfl,?c4,?c5⟩,?c6,?c7⟩,?c3⟩
      case c3=>dsimp only;(refine Fg_env ?_;exact fgW)
      case c1=>dsimp only;omega
      case c2=>dsimp only;omega
      case c4 =>
       dsimp only
       rw [es]
       exact objAt_seteq (by simp <;> omega)
      case c5=>dsimp only;omega
      case c6 =>
       dsimp only
       intro o ho
       rw [← huo o ho]
       exact obE
      case c7=>simp;omega
     ·have hpu:=objAt_lt hp
      have hrl : ((List.range i).map fun x=>(A x).getD m.length []).length = i:=by simp
      refine ew6 @hci (And.intro hqu hru) (And.intro gi gA) @lx @hp @hrl ?_
      refine ⟨by omega,?_⟩
      refine ⟨(i + 1,?st4,.msl (u.length + 1) 0 (i + 1),u.length + 1),?c1,⟨?c2,.inr ⟨by omega,rfl,?c4,?c5⟩,?c6,?c7⟩,?c3⟩
      case c3=>dsimp only;(refine Fg_env ?_;exact fgW)
      case c1=>dsimp only;omega
      case c2=>dsimp only;omega
      case c4 =>
       dsimp only
       rw [es]
       exact objAt_seteq (by simp <;> omega)
      case c5=>dsimp only;omega
      case c6 =>
       dsimp only
       intro o ho
       have : o ≠ p:=by omega
       rw [← huo o ho]
       exact obE
      case c7=>simp;omega
    ·have hie : i = m.length:=by omega
     rcases hL with ⟨h1,_⟩ | ⟨_,rfl,hp,hpl⟩
     ·omega
     obtain ⟨os,k1,k2,k3⟩:=hO.col hlM (j:=m.length) (by omega) m.length (Nat.le_refl _)
     have hlt : ∀ o ∈ os,o < s1.length:=fun o ho=>k1.lt o ho
     subst hie
     refine ew1 @hci ?_
     refine Fin.tup1 (fin_of (os:=p :: os) ?_ (List.nodup_cons.2 ⟨fun hm=>by have:=hlt p hm;omega,k2⟩))
     unfold ratsV
     simp only [OwV]
     refine .inr ⟨p,_,os,by simp,hp,rfl,?_⟩
     exact k1.frame fun o ho=>huo o (hlt o ho)
def lrow (n : Nat) (rp : Nat → Nat) (M : MF) : List (List V):=(List.range n).map fun x=>[.msl (rp x) 0 (M x).length]
theorem lrow_len (n : Nat) (rp : Nat → Nat) (M : MF) : (lrow n rp M).length = n:=by simp [lrow]
theorem lrow_at {n : Nat} {rp : Nat → Nat} {M : MF} {i : Nat} (h : i < n) : (lrow n rp M)[i]? = some [.msl (rp i) 0 (M i).length]:=by
 unfold lrow;rw [List.getElem?_map,List.getElem?_range h];rfl
theorem lrow_set {n : Nat} {rp : Nat → Nat} {M : MF} {i p : Nat} {r : List R} : (lrow n rp M).set i [.msl p 0 r.length] = lrow n (fun x=>if x = i then p else rp x) (setR M i r):=by
 apply List.ext_getElem?
 intro x
 unfold lrow setR
 rw [List.getElem?_set]
 simp only [List.length_map,List.length_range,List.getElem?_map]
 by_cases h : i = x
 ·subst h
  by_cases hn : i < n
  ·simp [hn]
  ·rw [if_pos rfl,if_neg hn,List.getElem?_eq_none (by simpa using hn)];rfl
 ·rw [if_neg h]
  by_cases hn : x < n
  ·rw [List.getElem?_range hn];simp only [Option.map_some];rw [if_neg (fun e : x = i=>h e.symm),if_neg fun e : x = i=>h e.symm]
  ·rw [List.getElem?_eq_none (by simpa using hn)];rfl
structure MatL (s : Store) (q n : Nat) (rp : Nat → Nat) (M : MF) : Prop where
 inj : ∀ i j,i < n → j < n → rp i = rp j → i = j
 out : objAt s q = some ⟨1,lrow n rp M⟩
 row : ∀ i,i < n → objAt s (rp i) = some ⟨3,(M i).map R.cells⟩
theorem MatF.toL {s : Store} {q n c : Nat} {rp : Nat → Nat} {M : MF} (h : MatF s q n c rp M) (hl : ∀ i,i < n → (M i).length = c) : MatL s q n rp M:=by
 refine ⟨h.inj,?_,h.row⟩
 rw [h.out]
 congr 2
 unfold orow lrow
 exact List.map_congr_left fun x hx=>by rw [hl x (List.mem_range.1 hx)]
theorem MatL.lt {s : Store} {q n : Nat} {rp : Nat → Nat} {M : MF} (h : MatL s q n rp M) : q < s.length ∧ ∀ i,i < n → rp i < s.length:=⟨objAt_lt h.out,fun i hi=>objAt_lt (h.row i hi)⟩
theorem MatL.ne {s : Store} {q n : Nat} {rp : Nat → Nat} {M : MF} (h : MatL s q n rp M) {i : Nat} (hi : i < n) : rp i ≠ q:=fun e=>by
 have:=h.row i hi
 rw [e,h.out] at this;cases this
theorem MatL.ext {s : Store} {q n : Nat} {rp : Nat → Nat} {M M2 : MF} (h : MatL s q n rp M) (e : ∀ i,M i = M2 i) : MatL s q n rp M2:=by
 have : M = M2:=funext e
 subst this;exact h
theorem MatL.res {s : Store} {q n : Nat} {rp : Nat → Nat} {M : MF} (h : MatL s q n rp M) : resolve s FD (.msl q 0 n) = some (ratssV ((List.range n).map M)):=by
 show resolve s (11 + 1) _ = _
 rw [resolve]
 simp only [h.out]
 rw [if_pos (by rw [lrow_len];omega),List.drop_zero,List.take_of_length_le (by rw [lrow_len];omega)]
 have : ((lrow n rp M).mapM fun (r : List V)=>r.mapM (resolve s 11)) = some ((List.range n).map fun i=>[ratsV (M i)]):=by
  unfold lrow
  rw [List.mapM_map]
  refine mapM_some fun i hi=>?_
  have hi:=List.mem_range.1 hi
  have h1:=(row_frz (s:=s) (M i)).resN (h.row i hi) 7
  simp only [Function.comp,List.mapM_cons,List.mapM_nil]
  rw [h1];rfl
 rw [this,Option.map_some]
 unfold ratssV
 rw [List.map_map]
 rfl
theorem MatL.put {s s2 : Store} {q n i p : Nat} {rp : Nat → Nat} {M : MF} {r : List R} (h : MatL s q n rp M) (hi : i < n) (hq : objAt s2 q = some ⟨1,(lrow n rp M).set i [.msl p 0 r.length]⟩) (hp : objAt s2 p = some ⟨3,r.map R.cells⟩) (hpl : s.length ≤ p)
  (ho : ∀ o,o < s.length → o ≠ q → o ≠ rp i → objAt s2 o = objAt s o) : MatL s2 q n (fun x=>if x = i then p else rp x) (setR M i r):=by
 refine ⟨fun x y hx hy e=>?_,by rw [hq,lrow_set],fun x hx=>?_⟩
 ·by_cases h1 : x = i <;> by_cases h2 : y = i
  ·omega
  ·rw [if_pos h1,if_neg h2] at e
   have:=h.lt.2 y hy;omega
  ·rw [if_neg h1,if_pos h2] at e
   have:=h.lt.2 x hx;omega
  ·rw [if_neg h1,if_neg h2] at e
   exact h.inj x y hx hy e
 ·by_cases h1 : x = i
  ·subst h1;rw [if_pos rfl,setR_eq];exact hp
  ·rw [if_neg h1,setR_ne h1,ho _ (h.lt.2 x hx) (h.ne hx) fun e=>h1 (h.inj x i hx hi e)]
   exact h.row x hx
theorem c_sSolveSystem {T : Nat → Option Fn} (h : D_spec_SolveSystem T) {m : List (List R)} {b : List R} (wm : wfL (wfL R.wf) m) (wb : wfL R.wf b) : PF T 311 [ratssV m,ratsV b] (.tup [ratsV (ssX m b),.bool (ssB m b)]):=by
 have lm:=wm.1
 have lb:=wb.1
 have c1:=c_sIsMatrix h.d_spec_IsMatrix (m:=m) (cols:=(m.length : Nat)) wm (by omega)
 cases hc : ssC m b
 ·obtain ⟨e1,e2⟩:=ssB_c hc
  rw [e1,e2]
  unfold ssC at hc
  generalize matOk m (m.length : Nat) = x at c1 hc
  have hx : x = false ∨ x = true:=by cases x <;> simp
  refine pf_endL (fun _ _=>false) h.hT rfl rfl ?_
  dsimp only [F_spec_SolveSystem,oN,oS,oG,oK,oA,oH,oV,cI]
  refine ev ?_
  refine PFK_of c1 ?_
  rcases hx with hx | hx
  ·refine ev1 @hx ?_
   exact of_eq_true (by simp [LaxV,LaxL,ratsV])
  ·have hlt : (((b.length : Nat) : Int) = (m.length : Nat)) = False:=eq_false fun e=>by
    rw [hx,Bool.true_and,decide_eq_false_iff_not] at hc;omega
   refine ev2 @hx @hlt ?_
   exact of_eq_true (by simp [LaxV,LaxL,ratsV])
 obtain ⟨h10,hbl,hmo,hml⟩:=ssC_ok hc
 rw [hmo] at c1
 have hlt : (((b.length : Nat) : Int) = (m.length : Nat)) = True:=eq_true (by omega)
 have wW:=ssL_wf wm wb hml hbl h10
 have hWl : (ssL m b).length = m.length:=wideL_len _ _
 have PR:=c_sReduceRows h.d_spec_ReduceRows (m:=ssL m b) (c:=(m.length : Nat) + 1) wW (fun hc=>rrC_sz (by omega) hc) (by omega)
 have hokm:=(ivm_ok hmo).2
 clear lm lb wm wb
 rcases Nat.eq_zero_or_pos m.length with h0 | h0
 ·obtain ⟨e1,e2⟩:=rrE (m:=ssL m b) (c:=(m.length : Nat) + 1) (by omega) (by omega)
  obtain ⟨e3,e4⟩:=ssB_t hc e2
  rw [e3,e4,e1]
  rw [e1,e2] at PR
  have PR0 : PF T 310 [.nils,iv ((m.length : Nat) + 1)] (.tup [ratssV [],.bool true]):=by
   refine .laxF (args:=[ratssV (ssL m b),iv ((m.length : Nat) + 1)]) (r:=.tup [ratssV [],.bool true]) ?_ PR (laxV_refl _)
   rw [show ssL m b = [] from List.eq_nil_of_length_eq_zero (by omega)]
   simp only [LaxL,LaxV]
   exact ⟨_,_,rfl,.inl ⟨rfl,.inl rfl⟩,_,_,rfl,rfl,rfl⟩
  obtain ⟨s1,cr⟩:=rn_l09Copy0 h.d_spec_l09Copy h0
  refine pf_endL (fun x d=>x == 325) h.hT rfl rfl ?_
  dsimp only [F_spec_SolveSystem,oN,oS,oG,oK,oA,oH,oV,cI]
  refine ew ?_
  refine PFK_of c1 ?_
  refine ew1 @hlt ?_
  refine RefK_mk cr rfl (by simp) (by simp) ?_
  refine ew ?_
  refine loop_at (fun x d=>x == 325) (α:=Nat) (fun i=>⟨argE [ratssV m,.any,.any,.any,.any,.any,.nils,.any,.any,.any,.any,.any,.any,.any,.any,.any,.any,.any,.any,.any,.any,.any,.any,.any,.any,.any,.any,.any,iv 0,iv (i : Nat)],s1,0,0,[],[]⟩) (fun i=>i = 0) (fun i=>i) rfl 0 ?_ ?_ ?_
  ·rfl
  ·(refine Fg_env ?_;exact fgW)
  ·rintro i hi
   have hcc : ¬ ((i : Int) < 0):=by omega
   refine ew1 @hcc ?_
   refine PFK_of PR0 ?_
   refine ew ?_
   refine loop_at (fun x d=>x == 325) (α:=Nat) (fun k=>⟨argE [.any,.any,.any,.any,.any,.any,.any,.any,.any,.any,.nils,.any,.any,.any,.any,.any,.any,.any,.any,.any,.any,.any,.any,.any,.any,.any,.any,.any,.any,.any,.any,.any,.any,.any,.any,.any,.any,.any,.any,.any,.any,.any,.any,.any,.any,.any,.any,.any,.any,.any,.any,.any,.any,.any,.any,.any,.any,ratssV [],iv 0,iv (k : Nat)],s1 ++ [none],0,0,[],[]⟩) (fun k=>k = 0) (fun k=>k) rfl 0 ?_ ?_ ?_
   ·rfl
   ·(refine Fg_env ?_;exact fgW)
   ·rintro k hk
    have hcc : ¬ ((k : Int) < 0):=by omega
    refine ew1 @hcc ?_
    exact of_eq_true (by simp [LaxV,LaxL,ratsV])
 obtain ⟨qo,s1,rp1,cr,hM1,_,_⟩:=rn_l09Copy h.d_spec_l09Copy (σ:=[]) h0 h10 h0 (by omega) (fun i hi=>hokm i hi)
 have hM0:=hM1.toL (fun i hi=>(hokm i hi).1)
 have hq1:=hM0.out
 refine pf_endL (fun x d=>x == 325) h.hT rfl rfl ?_
 dsimp only [F_spec_SolveSystem,oN,oS,oG,oK,oA,oH,oV,cI]
 refine ew ?_
 refine PFK_of c1 ?_
 refine ew1 @hlt ?_
 refine RefK_mk cr rfl (by simp) (by simp) ?_
 refine ew1 @hq1 ?_
 refine loop_at (fun x d=>x == 325) (α:=Nat × Store × (Nat → Nat)) (fun q=>⟨argE [ratssV m,ratsV b,.any,.any,.any,.any,.msl qo 0 m.length,.any,.any,.any,.any,.any,.any,.any,.any,.any,.any,.any,.any,.any,.any,.any,.any,.any,.any,.any,.any,.any,iv (m.length : Nat),iv (q.1 : Nat)],q.2.1,0,0,[],[]⟩) (fun q=>q.1 ≤ m.length ∧ MatL q.2.1 qo m.length q.2.2 (fun x=>if x < q.1 then ssW m b x else mF m x)) (fun q=>m.length - q.1) rfl (0,s1,rp1) ?_ ?_ ?_
 ·exact ⟨Nat.zero_le _,hM0.ext fun x=>(if_neg (Nat.not_lt_zero _)).symm⟩
 ·(refine Fg_env ?_;exact fgW)
 ·clear hM1 hM0 hq1 cr
  rintro ⟨i,s,rp⟩ ⟨hi,hM⟩
  dsimp only at hi hM
  have hq:=hM.out
  have hql:=hM.lt.1
  by_cases hcc : (i : Int) < (m.length : Nat)
  ·have hil : i < m.length:=by omega
   have hib : (i : Int) < (b.length : Nat):=by omega
   have hbi : (b.map R.cells).getD i [] = (b.getD i default).cells:=mg (by omega)
   have hri:=(hokm i hil).1
   have emf : (if i < i then ssW m b i else mF m i) = m.getD i default:=if_neg (Nat.lt_irrefl _)
   have eW : ssW m b i = m.getD i default ++ [b.getD i default]:=rfl
   have hrow:=hM.row i hil
   have gi:=lrow_at (rp:=rp) (M:=fun x=>if x < i then ssW m b x else mF m x) hil
   rw [emf] at hrow gi
   rw [hri] at gi
   generalize m.getD i default = r at *
   generalize b.getD i default = y at *
   have hrs:=hM.lt.2 i hil
   have hrq:=hM.ne hil
   refine ew5 @hcc (And.intro hq hrow) (And.intro gi hbi) @numK_any @or_sc ?_
   refine ⟨⟨by omega,by omega⟩,?_,?_⟩
   ·refine OkA_lst [qo,rp i,s.length,s.length + 1] [⟨13,[0],[0],false⟩,⟨12,[0],[],false⟩,⟨11,[1,2],[1,3],false⟩,⟨10,[],[2],false⟩,⟨9,[],[],false⟩,⟨8,[],[],false⟩,⟨7,[],[],false⟩,⟨6,[],[],false⟩,⟨5,[0],[],false⟩,⟨4,[0],[],false⟩,⟨3,[],[],false⟩,⟨2,[],[],false⟩,⟨1,[],[],false⟩,⟨0,[],[],false⟩] ?_ ?_ rfl ?_
    ·simp;omega
    ·simp;omega
    ·show OkA 4 _ _
     unfold OkA;decide +kernel
   refine ⟨(i + 1,?st,fun x=>if x = i then s.length + 1 else rp x),?c1,⟨?c2,?c4⟩,?c3⟩
   case c3=>dsimp only;(refine Fg_env ?_;exact fgW)
   case c1=>dsimp only;omega
   case c2=>dsimp only;omega
   case c4 =>
    dsimp only
    have ef : setR (fun x=>if x < i then ssW m b x else mF m x) i (r ++ [y]) = fun x=>if x < i + 1 then ssW m b x else mF m x:=by
     funext x
     unfold setR
     by_cases e : x = i
     ·rw [if_pos e,if_pos (by omega),e,eW]
     ·by_cases e2 : x < i
      ·rw [if_neg e]
       dsimp only
       rw [if_pos e2,if_pos (by omega)]
      ·rw [if_neg e]
       dsimp only
       rw [if_neg e2,if_neg (by omega)]
    rw [← ef]
    have n1 : s.length + 1 ≠ qo:=by omega
    have n2 : s.length + 1 ≠ rp i:=by omega
    refine hM.put hil (p:=s.length + 1) ?_ ?_ (by omega) (fun o ho h1 h2=>?_)
    ·have el : (r ++ [y]).length = m.length + 1:=by simp [hri]
     rw [el,objAt_seteq (by simp;omega)]
     try rw [hri]
    ·rw [List.map_append]
     simp (disch:=first | omega | (simp only [List.length_append,List.length_set,List.length_cons,List.length_nil];omega)) only [EVs]
     rfl
    ·exact obE
  ·have hie : i = m.length:=by omega
   subst hie
   have Rf:=hM.res
   rw [show (List.range m.length).map (fun x=>if x < m.length then ssW m b x else mF m x) = ssL m b from List.map_congr_left fun x hx=>if_pos (List.mem_range.1 hx)] at Rf
   refine ew2 @hcc @Rf ?_
   refine PFK_of PR ?_
   cases hb : rrB (ssL m b) ((m.length : Nat) + 1)
   ·obtain ⟨e1,e2⟩:=ssB_r hb
    rw [e1,e2]
    refine ew ?_
    exact of_eq_true (by simp [LaxV,LaxL,ratsV])
   obtain ⟨e1,e2⟩:=ssB_t hc hb
   rw [e1,e2]
   obtain ⟨M,eM,hOM,_⟩:=rrV_ok hb
   rw [hWl] at eM hOM
   have hlR : ∀ i,i < m.length → ((rrM (ssL m b) ((m.length : Nat) + 1)).getD i default).length = m.length + 1:=fun i hi=>by
    have:=(hOM i hi).1
    rw [eM,show ((List.range m.length).map M).getD i default = M i from wideL_at hi];omega
   have hRl : (rrM (ssL m b) ((m.length : Nat) + 1)).length = m.length:=by rw [eM];simp
   clear eM hOM hM Rf hq hql PR
   generalize rrM (ssL m b) ((m.length : Nat) + 1) = RR at *
   refine ew ?_
   refine loop_at (fun x d=>x == 325) (α:=Nat × Store × V × List R) (fun q=>⟨argE [ratssV m,.any,.any,.any,.any,.any,.any,.any,.any,.any,q.2.2.1,.any,.any,.any,.any,.any,.any,.any,.any,.any,.any,.any,.any,.any,.any,.any,.any,.any,.any,.any,.any,.any,.any,.any,.any,.any,.any,.any,.any,.any,.any,.any,.any,.any,.any,.any,.any,.any,.any,.any,.any,.any,.any,.any,.any,.any,.any,ratssV RR,iv (m.length : Nat),iv (q.1 : Nat)],q.2.1,0,0,[],[]⟩) (fun q=>q.1 ≤ m.length ∧ RowN q.2.1 0 q.2.2.1 q.2.2.2 ∧ q.2.2.2 = (RR.take q.1).map fun r=>r.getD m.length default) (fun q=>m.length - q.1) rfl (0,killAll (s.set qo none) (reachO s (objAt s qo)) ++ [none],.nils,[]) ?_ ?_ ?_
   ·exact ⟨Nat.zero_le _,.inl ⟨rfl,rfl⟩,rfl⟩
   ·(refine Fg_env ?_) <;> (try (refine ew1 @hRl ?_)) <;> (repeat' (first | refine ⟨?_,?_⟩ | exact EvV_int (by omega) | exact EvV_of (by simp) | exact EvV_nil _))
   ·rintro ⟨i,t,v10,L⟩ ⟨hi,hR,hL⟩
    dsimp only at hi hR hL
    by_cases hci : (i : Int) < (m.length : Nat)
    ·have hil : i < m.length:=by omega
     have hiR : (i : Int) < (RR.length : Nat):=by omega
     have hai : (RR.map fun r=>[ratsV r]).getD i [] = [ratsV (RR.getD i default)]:=mg (f:=fun r : List R=>[ratsV r]) (by omega)
     have hri:=hlR i hil
     have hrj : ((RR.getD i default).map R.cells).getD m.length [] = ((RR.getD i default).getD m.length default).cells:=mg (by omega)
     have ex : (RR.take (i + 1)).map (fun r=>r.getD m.length default) = (RR.take i).map (fun r=>r.getD m.length default) ++ [(RR.getD i default).getD m.length default]:=by
      rw [take_snoc (by omega),List.map_append];rfl
     rw [← hL] at ex
     have hLl : L.length = i:=by rw [hL,List.length_map,List.length_take];omega
     generalize RR.getD i default = r at *
     generalize r.getD m.length default = x at *
     have hnr : (m.length : Int) < (r.length : Nat):=by omega
     rcases hR with ⟨rfl,rfl⟩ | ⟨pr,rfl,hnp,hp⟩
     ·refine ew2 @hci (And.intro hai hrj) ?_
      refine ⟨by omega,?_⟩
      refine ⟨(i + 1,?st2,.msl (t.length + 1) 0 1,[] ++ [x]),?c1,⟨?c2,.inr ⟨_,rfl,?c6,?c7⟩,ex.symm⟩,?c3⟩
      case c3=>dsimp only;(refine Fg_env ?_;exact fgW)
      case c1=>dsimp only;omega
      case c2=>dsimp only;omega
      case c6=>omega
      case c7=>exact objAt_seteq (by simp <;> omega)
     ·have hpl:=objAt_lt hp
      refine ew3 @hci (And.intro hai hrj) @hp ?_
      refine ⟨by omega,?_⟩
      refine ⟨(i + 1,?st3,.msl (t.length + 1) 0 (L.length + 1),L ++ [x]),?c1,⟨?c2,.inr ⟨_,by rw [List.length_append];rfl,?c6,?c7⟩,ex.symm⟩,?c3⟩
      case c3=>dsimp only;(refine Fg_env ?_;exact fgW)
      case c1=>dsimp only;omega
      case c2=>dsimp only;omega
      case c6=>omega
      case c7 =>
       dsimp only
       rw [List.map_append]
       exact objAt_seteq (by simp <;> omega)
    ·have hie : i = m.length:=by omega
     rw [hie,← hRl,List.take_length] at hL
     rw [hRl] at hL
     rw [← hL]
     rcases hR with ⟨rfl,rfl⟩ | ⟨pr,rfl,hnp,hp⟩
     ·refine ew1 @hci ?_
      exact of_eq_true (by simp [LaxV,LaxL,ratsV])
     ·have Rf : resO1 t 0 L.length (some ⟨3,L.map R.cells⟩) = some (ratsV L):=by
       have:=resO1_st (σ:=t) (st_R L) (s:=0) (l:=L.length) (n:=3) (by simp)
       rw [List.drop_zero,List.take_of_length_le (by simp)] at this
       exact this
      refine ew3 @hci @hp @Rf ?_
      exact laxV_refl _
theorem Mat.snoc {s s2 : Store} {q q2 p2 i c : Nat} {rp : Nat → Nat} {A : Nat → List (List V)} {M : MF} (h : i = 0 ∨ (0 < i ∧ Mat s q i c rp A M)) (hq : objAt s2 q2 = some ⟨1,orow i c rp ++ [[.msl p2 0 c]]⟩) (hp : objAt s2 p2 = some ⟨3,A i⟩) (hok : RowOk s2 (A i) (M i)) (hpl : s.length ≤ p2)
  (old : ∀ o,o < s.length → o ≠ q → objAt s2 o = objAt s o) : Mat s2 q2 (i + 1) c (fun x=>if x = i then p2 else rp x) A M:=by
 have hlt : ∀ x,x < i → rp x < s.length ∧ rp x ≠ q:=fun x hx=>by
  rcases h with h | ⟨_,h⟩
  ·omega
  ·exact ⟨h.lt.2 x hx,h.ne hx⟩
 refine ⟨fun x y hx hy e=>?_,?_,fun x hx=>?_,fun x hx=>?_⟩
 ·by_cases h1 : x = i
  ·by_cases h2 : y = i
   ·omega
   ·rw [if_pos h1,if_neg h2] at e
    have:=(hlt y (by omega)).1
    omega
  ·by_cases h2 : y = i
   ·rw [if_neg h1,if_pos h2] at e
    have:=(hlt x (by omega)).1
    omega
   ·rw [if_neg h1,if_neg h2] at e
    rcases h with h | ⟨_,h⟩
    ·omega
    ·exact h.inj x y (by omega) (by omega) e
 ·rw [hq]
  unfold orow
  rw [List.range_succ,List.map_append]
  congr 2
  congr 1
  ·refine List.map_congr_left fun x hx=>?_
   have:=List.mem_range.1 hx
   show [V.msl (rp x) 0 c] = [V.msl (if x = i then p2 else rp x) 0 c]
   rw [if_neg (by omega)]
  ·simp
 ·by_cases h1 : x = i
  ·subst h1;rw [if_pos rfl];exact hp
  ·rw [if_neg h1]
   have hxi : x < i:=by omega
   rcases h with h | ⟨_,h⟩
   ·omega
   ·exact (old _ (hlt x hxi).1 (hlt x hxi).2).trans (h.row x hxi)
 ·by_cases h1 : x = i
  ·subst h1;exact hok
  ·rcases h with h | ⟨hi0,h⟩
   ·omega
   ·exact (h.cel x (by omega)).fr (h.kpq hi0 fun o h1 h2=>old o h2 h1)
theorem RowOk.drop {s : Store} {A : List (List V)} {r : List R} (h : RowOk s A r) (d : Nat) : RowOk s (A.drop d) (r.drop d):=by
 refine ⟨by rw [List.length_drop,List.length_drop,h.1],fun j hj=>?_⟩
 rw [List.length_drop] at hj
 have:=h.2 (d + j) (by omega)
 rw [List.getD_eq_getElem?_getD,List.getElem?_drop,List.getD_eq_getElem?_getD,List.getElem?_drop,← List.getD_eq_getElem?_getD,← List.getD_eq_getElem?_getD]
 exact this
theorem MatA.res1 {s : Store} {q : Nat} {Z : List (Nat × List R)} (h : ∀ x ∈ Z,objAt s x.1 = some ⟨3,x.2.map R.cells⟩) (hq : objAt s q = some ⟨1,Z.map zrow⟩) : resO1 s 0 Z.length (some ⟨1,Z.map zrow⟩) = some (ratssV (Z.map (·.2))):=by
 have : resolve s 11 (.msl q 0 Z.length) = some (ratssV (Z.map (·.2))):=by
  show resolve s (8 + 2 + 1) _ = _
  unfold resolve
  simp only [hq]
  rw [if_pos (by simp),List.drop_zero,List.take_of_length_le (by simp),MatA.map h]
  rfl
 rw [← this,r1_mslO,hq]
def ptz : List V:=[.bool false,.nils,.nils,.bool false,.nils,.nils]
def keepO (σ : Store) (p : Nat) (ob : Obj) (os : List Nat) : Store:=(List.range σ.length).map fun k=>if k = p then some ob else if k ∈ os then objAt σ k else none
def keepW (σ : Store) (p n : Nat) (os : List Nat) : Win:=(List.range σ.length).map fun k=>if k = p then some (p,0,n) else if k ∈ os then (objAt σ k).map (fun ob=>(k,0,ob.rows.length)) else none
theorem keepO_at {σ : Store} {p : Nat} {ob : Obj} {os : List Nat} {k : Nat} (hk : k < σ.length) : objAt (keepO σ p ob os) k = if k = p then some ob else if k ∈ os then objAt σ k else none:=by
 simp only [objAt,keepO,List.getElem?_map,List.getElem?_range hk]
 rfl
theorem keepW_at {σ : Store} {p n : Nat} {os : List Nat} {k : Nat} (hk : k < σ.length) : (keepW σ p n os)[k]? = some (if k = p then some (p,0,n) else if k ∈ os then (objAt σ k).map (fun ob=>(k,0,ob.rows.length)) else none):=by
 unfold keepW
 rw [List.getElem?_map,List.getElem?_range hk];rfl
theorem keepW_inv {σ : Store} {p n : Nat} {os : List Nat} {k o s l : Nat} (h : (keepW σ p n os)[k]? = some (some (o,s,l))) : k < σ.length ∧ o = k ∧ s = 0 ∧ ((k = p ∧ l = n) ∨ (k ≠ p ∧ k ∈ os ∧ ∃ ob,objAt σ k = some ob ∧ l = ob.rows.length)):=by
 have hk : k < σ.length:=by
  have:=(List.getElem?_eq_some_iff.1 h).1
  unfold keepW at this;simpa using this
 rw [keepW_at hk] at h
 refine ⟨hk,?_⟩
 by_cases e : k = p
 ·rw [if_pos e] at h
  simp only [Option.some.injEq,Prod.mk.injEq] at h
  exact ⟨by omega,h.2.1.symm,.inl ⟨e,h.2.2.symm⟩⟩
 ·rw [if_neg e] at h
  by_cases m : k ∈ os
  ·rw [if_pos m] at h
   simp only [Option.some.injEq,Option.map_eq_some_iff] at h
   obtain ⟨ob,h1,h2⟩:=h
   simp only [Prod.mk.injEq] at h2
   exact ⟨h2.1.symm,h2.2.1.symm,.inr ⟨e,m,ob,h1,h2.2.2.symm⟩⟩
  ·rw [if_neg m] at h
   cases h
theorem owV_ints_can {σ : Store} {v : V} {l : List Int} {os os2 : List Nat} {p n : Nat} (h : OwV σ v (ints l) os) (hm : ∀ o ∈ os,o ∈ os2 ∧ o ≠ p) : CanV (keepW σ p n os2) σ v v:=by
 rcases h.ints_inv with ⟨_,rfl,_⟩ | ⟨o,rfl,h1,rfl⟩
 ·exact canV_still rfl
 ·obtain ⟨m1,m2⟩:=hm o (by simp)
  simp only [CanV]
  refine .inl ⟨o,0,l.length,?_,Nat.zero_le _,by omega,by rw [Nat.sub_zero]⟩
  rw [keepW_at (objAt_lt h1),if_neg m2,if_pos m1,h1]
  simp [ir_len]
theorem owL_R0 {σ : Store} : OwL σ (⟨R0,R0⟩ : Pt).cells (⟨R0,R0⟩ : Pt).cells [] :=
 owL_bool (owL_v (o1:=[]) owV_ints0 (owL_v (o1:=[]) owV_ints0 (owL_bool (owL_v (o1:=[]) owV_ints0 (owL_v (o1:=[]) owV_ints0 owL_nil)))))
def F_spec_DenseSolution : Fn:=⟨1,85,[.tmp 2,.tmp 3],(.seq (.reg false 0 [oN 2 (.mov (.c (.nils))),oN 3 (.mov (.c (.bool false)))]) (.seq (.seq (.reg false 0 [oN 15 (oV 0),oN 16 (.call 193 [(.t 15)]),oN 17 (.un .not (.t 16))]) (.cond (.t 17) (.seq (.reg false 0 [oN 2 (.mov (.c (.nils))),oN 3 (.mov (.c (.bool false)))]) .ret) .skip)) (.seq (.reg false 0 [oN 18 (oV 0),oN 19 (.call 337 [(.t 18)]),oN 4 (oV 19)]) (.seq (.reg false 0 [oN 21 (oV 0),oN 22 (.call 335 [(.t 21)]),oN 20 (oV 22),oN 23 (.extr 0 (.t 20)),oN 24 (.extr 1 (.t 20)),oN 5 (oV 23),oN 6 (oV 24)]) (.seq (.reg false 0 [oN 26 (oV 4),oN 27 (oV 5),oN 28 (.call 311 [(.t 26),(.t 27)]),oN 25 (oV 28),oN 29 (.extr 0 (.t 25)),oN 30 (.extr 1 (.t 25)),oN 7 (oV 29),oN 8 (oV 30)]) (.seq (.reg false 0 [oN 32 (oV 4),oN 33 (oV 6),oN 34 (.call 311 [(.t 32),(.t 33)]),oN 31 (oV 34),oN 35 (.extr 0 (.t 31)),oN 36 (.extr 1 (.t 31)),oN 9 (oV 35),oN 10 (oV 36)]) (.seq (.reg false 0 [oN 37 (oV 0),oN 38 (.call 222 [(.t 37)]),oN 11 (oV 38)]) (.seq (.seq (.reg false 0 [oN 39 (oV 8),oN 40 (.un .not (.t 39)),oN 41 (oV 40),oG 41 false 42 (oV 10),oG 41 false 43 (.un .not (.t 42)),oN 44 (.pick (.t 41) (.c (.bool true)) (.t 43)),oN 45 (oV 44),oG 45 false 46 (oV 7),oG 45 false 47 (.len (.t 46)),oG 45 false 48 (oV 11),oG 45 false 49 (.len (.t 48)),oG 45 false 50 (.bin .neq (.t 47) (.t 49)),oN 51 (.pick (.t 45) (.c (.bool true)) (.t 50))]) (.cond (.t 51) (.seq (.reg false 0 [oN 2 (.mov (.c (.nils))),oN 3 (.mov (.c (.bool false)))]) .ret) .skip)) (.seq (.reg false 1 [oK 52 1 (.call 36 [(cI 0)]),oK 53 1 (.call 36 [(cI 0)]),oK 54 1 (.build [.bool false,.nils,.nils,.bool false,.nils,.nils] [(0,3,(.t 52)),(3,3,(.t 53))]),oN 55 (.mkSl 6 [.bool false,.nils,.nils,.bool false,.nils,.nils] 1 [(0,(.t 54))]),oK 12 1 (oV 55)]) (.seq (.seq (.reg false 0 [oN 56 (oV 11),oN 57 (.len (.t 56)),oN 58 (.mov (cI 0))]) (.block 0 (.loop (.seq (.reg false 0 [oN 59 (.bin .lss (.t 58) (.t 57))]) (.seq (.cond (.t 59) .skip (.exit 0)) (.seq (.block 1 (.seq (.reg false 0 [oN 60 (oV 58),oN 61 (.idx 1 (.t 56) (.t 58)),oN 62 (.load 1 false (.t 61)),oN 13 (oV 60),oN 14 (oV 62)]) (.seq (.block 2 (.loop (.seq (.seq (.reg false 0 [oN 63 (oV 12),oN 64 (.len (.t 63)),oN 65 (oV 14),oN 66 (.bin .lss (.t 64) (.t 65))]) (.cond (.t 66) .skip (.exit 2))) (.block 3 (.reg false 2 [oK 67 2 (oV 12),oK 68 2 (.build [.bool false,.nils,.nils,.bool false,.nils,.nils] []),oN 69 (.mkSl 6 [.bool false,.nils,.nils,.bool false,.nils,.nils] 1 [(0,(.t 68))]),oK 70 1 (.app 6 112 (.t 67) (.t 69)),oK 12 2 (oV 70)]))))) (.reg true 2 [oK 71 2 (oV 12),oK 72 2 (oV 7),oK 73 2 (oV 13),oA 74 2 (.idx 3 (.t 72) (.t 73)) [1,2],oA 75 2 (.load 3 true (.t 74)) [3],oK 76 2 (oV 9),oK 77 2 (oV 13),oA 78 2 (.idx 3 (.t 76) (.t 77)) [5,6],oA 79 2 (.load 3 true (.t 78)) [7],oA 80 2 (.build [.bool false,.nils,.nils,.bool false,.nils,.nils] [(0,3,(.t 75)),(3,3,(.t 79))]) [4,8],oA 81 0 (.mkSl 6 [.bool false,.nils,.nils,.bool false,.nils,.nils] 1 [(0,(.t 80))]) [9],oA 82 1 (.app 6 112 (.t 71) (.t 81)) [0,10],oA 12 2 (oV 82) [11,11,0,1,2,3,4,5,6,7,8,9,10,11]])))) (.reg false 0 [oN 83 (.bin .add (.t 58) (cI 1)),oN 58 (oV 83)]))))))) (.seq (.reg false 0 [oN 84 (oV 12),oN 2 (oV 84),oN 3 (.mov (.c (.bool true)))]) .ret)))))))))))⟩
structure D_spec_DenseSolution (T : Nat → Option Fn) : Prop where
 hT : T 391 = some F_spec_DenseSolution
 d_spec_RatFromInt : D_spec_RatFromInt T
 d_spec_IsLinkSet : D_spec_IsLinkSet T
 d_spec_NodesOf : D_spec_NodesOf T
 d_spec_SolveSystem : D_spec_SolveSystem T
 d_spec_InformationVectors : D_spec_InformationVectors T
 d_spec_InformationMatrix : D_spec_InformationMatrix T
def F_impl_DenseSolution : Fn:=⟨1,101,[.tmp 2,.tmp 3],(.seq (.reg false 0 [oN 2 (.mov (.c (.nils))),oN 3 (.mov (.c (.bool false)))]) (.seq (.seq (.reg false 0 [oN 16 (oV 0),oN 17 (.call 89 [(.t 16)]),oN 18 (.un .not (.t 17))]) (.cond (.t 18) (.seq (.reg false 0 [oN 2 (.mov (.c (.nils))),oN 3 (.mov (.c (.bool false)))]) .ret) .skip)) (.seq (.reg false 0 [oN 19 (oV 0),oN 20 (.call 180 [(.t 19)]),oN 4 (oV 20)]) (.seq (.reg false 0 [oN 21 (oV 0),oN 22 (.call 275 [(.t 21)]),oN 5 (oV 22)]) (.seq (.reg false 0 [oN 24 (oV 0),oN 25 (.call 276 [(.t 24)]),oN 23 (oV 25),oN 26 (.extr 0 (.t 23)),oN 27 (.extr 1 (.t 23)),oN 6 (oV 26),oN 7 (oV 27)]) (.seq (.seq (.reg false 0 [oN 28 (oV 5),oN 29 (.len (.t 28)),oN 30 (oV 4),oN 31 (.len (.t 30)),oN 32 (.bin .neq (.t 29) (.t 31)),oN 33 (oV 32),oG 33 false 34 (oV 6),oG 33 false 35 (.len (.t 34)),oG 33 false 36 (oV 4),oG 33 false 37 (.len (.t 36)),oG 33 false 38 (.bin .neq (.t 35) (.t 37)),oN 39 (.pick (.t 33) (.c (.bool true)) (.t 38)),oN 40 (oV 39),oG 40 false 41 (oV 7),oG 40 false 42 (.len (.t 41)),oG 40 false 43 (oV 4),oG 40 false 44 (.len (.t 43)),oG 40 false 45 (.bin .neq (.t 42) (.t 44)),oN 46 (.pick (.t 40) (.c (.bool true)) (.t 45))]) (.cond (.t 46) (.seq (.reg false 0 [oN 2 (.mov (.c (.nils))),oN 3 (.mov (.c (.bool false)))]) .ret) .skip)) (.seq (.reg false 0 [oN 48 (oV 5),oN 49 (oV 6),oN 50 (.call 231 [(.t 48),(.t 49)]),oN 47 (oV 50),oN 51 (.extr 0 (.t 47)),oN 52 (.extr 1 (.t 47)),oN 8 (oV 51),oN 9 (oV 52)]) (.seq (.reg false 0 [oN 54 (oV 5),oN 55 (oV 7),oN 56 (.call 231 [(.t 54),(.t 55)]),oN 53 (oV 56),oN 57 (.extr 0 (.t 53)),oN 58 (.extr 1 (.t 53)),oN 10 (oV 57),oN 11 (oV 58)]) (.seq (.seq (.reg false 0 [oN 59 (oV 9),oN 60 (.un .not (.t 59)),oN 61 (oV 60),oG 61 false 62 (oV 11),oG 61 false 63 (.un .not (.t 62)),oN 64 (.pick (.t 61) (.c (.bool true)) (.t 63))]) (.cond (.t 64) (.seq (.reg false 0 [oN 2 (.mov (.c (.nils))),oN 3 (.mov (.c (.bool false)))]) .ret) .skip)) (.seq (.reg false 0 [oN 12 (.mov (cI 1))]) (.seq (.seq (.reg false 0 [oN 65 (oV 4),oN 66 (.len (.t 65)),oN 67 (.bin .gtr (.t 66) (cI 0))]) (.cond (.t 67) (.reg false 0 [oN 68 (oV 4),oN 69 (oV 4),oN 70 (.len (.t 69)),oN 71 (.bin .sub (.t 70) (cI 1)),oN 72 (.idx 1 (.t 68) (.t 71)),oN 73 (.load 1 false (.t 72)),oN 74 (.bin .add (.t 73) (cI 1)),oN 12 (oV 74)]) .skip)) (.seq (.reg false 1 [oK 75 1 (oV 12),oN 76 (.make [.bool false,.nils,.nils,.bool false,.nils,.nils] 112 (.t 75)),oK 13 1 (oV 76)]) (.seq (.reg false 0 [oN 77 (oV 13),oN 78 (.call 186 []),oN 79 (.idx 6 (.t 77) (cI 0)),oS (.store 6 (.t 79) (.t 78))]) (.seq (.seq (.reg false 0 [oN 80 (oV 4),oN 81 (.len (.t 80)),oN 82 (.mov (cI 0))]) (.block 0 (.loop (.seq (.reg false 0 [oN 83 (.bin .lss (.t 82) (.t 81))]) (.seq (.cond (.t 83) .skip (.exit 0)) (.seq (.block 1 (.seq (.reg false 0 [oN 84 (oV 82),oN 85 (.idx 1 (.t 80) (.t 82)),oN 86 (.load 1 false (.t 85)),oN 14 (oV 84),oN 15 (oV 86)]) (.reg true 0 [oN 87 (oV 13),oN 88 (oV 15),oN 89 (oV 8),oN 90 (oV 14),oA 91 0 (.idx 3 (.t 89) (.t 90)) [2,3],oA 92 0 (.load 3 true (.t 91)) [4],oN 93 (oV 10),oN 94 (oV 14),oA 95 0 (.idx 3 (.t 93) (.t 94)) [6,7],oA 96 0 (.load 3 true (.t 95)) [8],oA 97 0 (.build [.bool false,.nils,.nils,.bool false,.nils,.nils] [(0,3,(.t 92)),(3,3,(.t 96))]) [5,9],oA 98 0 (.idx 6 (.t 87) (.t 88)) [0,1,0,1,2,3,4,5,6,7,8,9,10],⟨none,none,0,.store 6 (.t 98) (.t 97),[11,10,0,1,2,3,4,5,6,7,8,9,10]⟩]))) (.reg false 0 [oN 99 (.bin .add (.t 82) (cI 1)),oN 82 (oV 99)]))))))) (.seq (.reg false 0 [oN 100 (oV 13),oN 2 (oV 100),oN 3 (.mov (.c (.bool true)))]) .ret)))))))))))))))⟩
structure D_impl_DenseSolution (T : Nat → Option Fn) : Prop where
 hT : T 269 = some F_impl_DenseSolution
 d_impl_IsLinkSet : D_impl_IsLinkSet T
 d_impl_nodesOf : D_impl_nodesOf T
 d_impl_zeroPoint : D_impl_zeroPoint T
 d_impl_SolveSystem : D_impl_SolveSystem T
 d_impl_InformationMatrix : D_impl_InformationMatrix T
 d_impl_InformationVectors : D_impl_InformationVectors T
def FinR (σ : Store) (r t : V) : Prop:=∃ (W : Win) (σ2 : Store) (r2 : V) (os : List Nat),ReS W σ σ2 ∧ CanV W σ r r2 ∧ OwV σ2 r2 t os ∧ os.Nodup
theorem po_endR {T : Nat → Option Fn} {f : Nat} {F : Fn} {args : List V} {t : V} (rf : Nat → Nat → Bool) (hT : T f = some F) (hl : args.length = F.nargs) (hk : F.body.okC = true)
  (h : wp T rf F.body (fun e st=>endW F.res e (fun r σ=>FinR σ r t) st) (St.enter args [])) : PO T f args t:=by
 obtain ⟨r,σ',h1,W,σ2,r2,os,h2,h3,h4,h5⟩:=run_end rf hT hl hk h
 exact .of (.reF W (laxL_refl _) h1 h2 h3) h4 h5
theorem reS_own {p n : Nat} {σ : Store} {A A' : List (List V)} {os : List Nat} (h : objAt σ p = some ⟨n,A⟩) (hl : A'.length = A.length) (hs : ∀ o ∈ os,∀ ob,objAt σ o = some ob → stillR ob.rows)
  (hr : ∀ (i : Nat) (r r2 : List V),A[i]? = some r → A'[i]? = some r2 → CanL (keepW σ p A.length os) σ r r2) : ReS (keepW σ p A.length os) σ (keepO σ p ⟨n,A'⟩ os):=by
 refine ⟨by unfold keepO keepW;simp,?_,?_,?_⟩
 ·intro i j o s l s' l' hi hj
  rw [← (keepW_inv hi).2.1,← (keepW_inv hj).2.1]
 ·intro k o s l hk
  obtain ⟨hlt,rfl,rfl,hk2⟩:=keepW_inv hk
  rcases hk2 with ⟨rfl,rfl⟩ | ⟨e,m,ob,h1,rfl⟩
  ·refine ⟨_,⟨n,A'⟩,h,by simp,by show objAt (keepO _ _ _ _) _ = _;rw [keepO_at hlt,if_pos rfl],rfl,hl,fun i r r2 h1 h2=>hr i r r2 (by simpa using h1) h2⟩
  ·refine ⟨ob,ob,h1,by simp,by show objAt (keepO _ _ _ _) _ = _;rw [keepO_at hlt,if_neg e,if_pos m,h1],rfl,rfl,fun i r r2 h2 h3=>?_⟩
   rw [Nat.zero_add,h3] at h2
   simp only [Option.some.injEq] at h2
   subst h2
   exact canL_still fun v hv=>hs o m ob h1 r2 (List.mem_of_getElem? h3) v hv
 ·intro k hk
  have hlt : k < σ.length:=by
   have:=(List.getElem?_eq_some_iff.1 hk).1
   unfold keepW at this;simpa using this
  rw [keepW_at hlt] at hk
  show objAt (keepO _ _ _ _) _ = _
  rw [keepO_at hlt]
  by_cases e : k = p
  ·rw [if_pos e] at hk;cases hk
  ·rw [if_neg e] at hk ⊢
   by_cases m : k ∈ os
   ·rw [if_pos m] at hk ⊢
    cases ho : objAt σ k
    ·rfl
    ·rw [ho] at hk;cases hk
   ·rw [if_neg m]
theorem owR_parts {σ : Store} : ∀ {ts rows : List (List V)} {os : List Nat},OwR σ rows ts os → os.Nodup → ∃ f : Nat → List Nat,(∀ i,i < ts.length → OwL σ (rows.getD i []) (ts.getD i []) (f i) ∧ (f i).Nodup ∧ ∀ o ∈ f i,o ∈ os) ∧ ∀ i j,i < ts.length → j < ts.length → i ≠ j → ∀ o ∈ f i,o ∉ f j
 | [],rows,os,h,_=>⟨fun _=>[],fun i hi=>absurd hi (Nat.not_lt_zero _),fun i j hi=>absurd hi (Nat.not_lt_zero _)⟩
 |
  t :: ts,rows,os,h,hn=>by
  simp only [OwR] at h
  obtain ⟨v,vs',o1,o2,rfl,rfl,h1,h2⟩:=h
  rw [List.nodup_append] at hn
  obtain ⟨n1,n2,n3⟩:=hn
  obtain ⟨f,k1,k2⟩:=owR_parts h2 n2
  refine ⟨fun i=>match i with | 0=>o1 | i + 1=>f i,fun i hi=>?_,fun i j hi hj hne o h1 h2=>?_⟩
  ·cases i with
   | zero=>exact ⟨h1,n1,fun o h=>by simp [show o ∈ o1 from h]⟩
   |
    succ i =>
    obtain ⟨a,b,c⟩:=k1 i (by simpa using hi)
    exact ⟨a,b,fun o h=>by simp [c o h]⟩
  ·cases i with
   |
    zero =>
    cases j with
    | zero=>exact hne rfl
    | succ j=>exact n3 o h1 o ((k1 j (by simpa using hj)).2.2 o h2) rfl
   |
    succ i =>
    cases j with
    | zero=>exact n3 o h2 o ((k1 i (by simpa using hi)).2.2 o h1) rfl
    | succ j=>exact k2 i j (by simpa using hi) (by simpa using hj) (by omega) o h1 h2
theorem owR_fam {σ : Store} {c t : Nat → List V} {f : Nat → List Nat} : ∀ m : Nat,(∀ j,j < m → OwL σ (c j) (t j) (f j)) → (∀ j,j < m → (f j).Nodup) → (∀ i j,i < m → j < m → i ≠ j → ∀ o ∈ f i,o ∉ f j) →
  ∃ os,OwR σ ((List.range m).map c) ((List.range m).map t) os ∧ os.Nodup ∧ ∀ o,o ∈ os ↔ ∃ j,j < m ∧ o ∈ f j
 | 0,_,_,_=>⟨[],by simp [OwR],.nil,by simp⟩
 |
  m + 1,h1,h2,h3=>by
  obtain ⟨os,k1,k2,k3⟩:=owR_fam m (fun j hj=>h1 j (by omega)) (fun j hj=>h2 j (by omega)) fun i j hi hj=>h3 i j (by omega) (by omega)
  refine ⟨os ++ f m,?_,?_,fun o=>⟨fun h=>?_,fun h=>?_⟩⟩
  ·rw [List.range_succ,List.map_append,List.map_append]
   exact owR_append k1 (owR_1 (h1 m (Nat.lt_succ_self _)))
  ·rw [List.nodup_append]
   refine ⟨k2,h2 m (Nat.lt_succ_self _),fun x hx y hy e=>?_⟩
   subst e
   obtain ⟨i,hi,hi2⟩:=(k3 x).1 hx
   exact h3 i m (by omega) (Nat.lt_succ_self _) (by omega) x hi2 hy
  ·rcases List.mem_append.1 h with h | h
   ·obtain ⟨i,hi,k⟩:=(k3 o).1 h;exact ⟨i,by omega,k⟩
   ·exact ⟨m,Nat.lt_succ_self _,h⟩
  ·obtain ⟨i,hi,k⟩:=h
   by_cases e : i = m
   ·subst e;exact List.mem_append_right _ k
   ·exact List.mem_append_left _ ((k3 o).2 ⟨i,by omega,k⟩)
def dsC (s : List Lk) : Bool:=lksOk s && decide ((imV s).length = (nodesM s).length) && decide ((ivX s).length = (nodesM s).length) && decide ((ivY s).length = (nodesM s).length)
def dsB (s : List Lk) : Bool:=dsC s && ssB (imV s) (ivX s) && ssB (imV s) (ivY s)
def dsAt (ns : List Int) (xs ys : List R) : Nat → Nat → Pt
 | 0,j=>if j = 0 then ⟨intR 0,intR 0⟩ else ⟨R0,R0⟩
 | k + 1,j=>if (j : Int) = ns.getD k default then ⟨xs.getD k default,ys.getD k default⟩ else dsAt ns xs ys k j
def dsH (ns : List Int) : Nat → Nat
 | 0=>1
 | k + 1=>(ns.getD k default).toNat + 1
def dsP (s : List Lk) : List Pt:=(List.range (dsH (nodesM s) (nodesM s).length)).map (dsAt (nodesM s) (ssX (imV s) (ivX s)) (ssX (imV s) (ivY s)) (nodesM s).length)
def dsV (s : List Lk) : List Pt:=if dsB s = true then dsP s else []
theorem dsV_f {s : List Lk} (h : dsB s = false) : dsV s = []:=by unfold dsV;rw [h];rfl
theorem dsV_t {s : List Lk} (h : dsB s = true) : dsV s = dsP s:=if_pos h
theorem ssX_len {m : List (List R)} {b : List R} (h : ssB m b = true) : (ssX m b).length = m.length:=by
 have h':=h
 unfold ssB at h'
 simp only [Bool.and_eq_true] at h'
 obtain ⟨M,e,_,_⟩:=rrV_ok h'.2
 rw [(ssB_t h'.1 h'.2).1,e]
 simp [show (ssL m b).length = m.length from wideL_len _ _]
theorem getD_cn {l : List R} (h : ∀ r ∈ l,r.cn) (i : Nat) : (l.getD i default).cn:=by
 rcases Nat.lt_or_ge i l.length with hi | hi
 ·exact h _ (getD_mem hi)
 ·rw [List.getD_eq_getElem?_getD,List.getElem?_eq_none hi];exact cn_0
theorem dsAt_cn {ns : List Int} {xs ys : List R} (hx : ∀ r ∈ xs,r.cn) (hy : ∀ r ∈ ys,r.cn) : ∀ k j,(dsAt ns xs ys k j).x.cn ∧ (dsAt ns xs ys k j).y.cn
 |
  0,j=>by
  simp only [dsAt]
  split
  ·exact ⟨intR_cn (by decide),intR_cn (by decide)⟩
  ·exact ⟨cn_0,cn_0⟩
 |
  k + 1,j=>by
  simp only [dsAt]
  split
  ·exact ⟨getD_cn hx k,getD_cn hy k⟩
  ·exact dsAt_cn hx hy k j
theorem dsH_le (s : List Lk) (k : Nat) (hk : k ≤ (nodesM s).length) : 1 ≤ dsH (nodesM s) k ∧ dsH (nodesM s) k ≤ 10:=by
 cases k with
 | zero=>exact ⟨Nat.le_refl _,by simp only [dsH];omega⟩
 |
  succ k =>
  have:=nodesM_rng (l:=s) (getD_mem (l:=nodesM s) (i:=k) (by omega))
  simp only [dsH]
  omega
theorem dsH_lt (s : List Lk) {k : Nat} (hk : k < (nodesM s).length) : (dsH (nodesM s) k : Int) ≤ (nodesM s).getD k default:=by
 have ha:=nodesM_asc s
 have hr:=nodesM_rng (l:=s) (getD_mem (l:=nodesM s) (i:=k) hk)
 cases k with
 | zero=>simp only [dsH];omega
 |
  succ k =>
  have h0:=nodesM_rng (l:=s) (getD_mem (l:=nodesM s) (i:=k) (by omega))
  unfold Asc at ha
  have:=List.pairwise_iff_getElem.1 ha k (k + 1) (by omega) hk (by omega)
  have e1 : (nodesM s).getD k default = (nodesM s)[k]'(by omega):=by rw [List.getD_eq_getElem?_getD,List.getElem?_eq_getElem (by omega)];rfl
  have e2 : (nodesM s).getD (k + 1) default = (nodesM s)[k + 1]'hk:=by rw [List.getD_eq_getElem?_getD,List.getElem?_eq_getElem hk];rfl
  simp only [dsH]
  omega
theorem dsV_ok (s : List Lk) : szL Pt.sz (dsV s) ≤ 100000 ∧ wfL Pt.wf (dsV s):=by
 unfold dsV
 split
 ·have h1:=ssX_cn (imV s) (ivX s)
  have h2:=ssX_cn (imV s) (ivY s)
  have hl:=dsH_le s (nodesM s).length (Nat.le_refl _)
  have hc : ∀ p ∈ dsP s,p.x.cn ∧ p.y.cn:=fun p hp=>by
   obtain ⟨j,_,rfl⟩:=List.mem_map.1 hp
   exact dsAt_cn h1.1 h2.1 _ _
  have hlen : (dsP s).length ≤ 10:=by unfold dsP;simp;omega
  refine ⟨?_,by omega,fun p hp=>⟨cn_wf (hc p hp).1,cn_wf (hc p hp).2⟩⟩
  have:=szL_bd (f:=Pt.sz) (k:=96) (l:=dsP s) fun p hp=>by
   have a:=cn_len (hc p hp).1
   have b:=cn_len (hc p hp).2
   unfold Pt.sz R.sz
   omega
  have : (dsP s).length * 97 ≤ 10 * 97:=Nat.mul_le_mul_right _ hlen
  omega
 ·exact ⟨by simp [szL],by simp [wfL]⟩
def dsF (n0 : List V) (ns : List Int) (z : List V) (cx cy : Nat → List V) : Nat → Nat → List V
 | 0,j=>if j = 0 then z else n0
 | k + 1,j=>if (j : Int) = ns.getD k default then cx k ++ cy k else dsF n0 ns z cx cy k j
def dsO (ns : List Int) (oz : List Nat) (fx fy : Nat → List Nat) : Nat → Nat → List Nat
 | 0,j=>if j = 0 then oz else []
 | k + 1,j=>if (j : Int) = ns.getD k default then fx k ++ fy k else dsO ns oz fx fy k j
theorem dsF_set {n0 : List V} {ns : List Int} {z : List V} {cx cy : Nat → List V} {k D v : Nat} (hv : ns.getD k default = (v : Int)) : ((List.range D).map (dsF n0 ns z cx cy k)).set v (cx k ++ cy k) = (List.range D).map (dsF n0 ns z cx cy (k + 1)):=by
 apply List.ext_getElem?
 intro x
 rw [List.getElem?_set]
 simp only [List.length_map,List.length_range,List.getElem?_map]
 by_cases h : v = x
 ·subst h
  by_cases hn : v < D
  ·rw [if_pos rfl,if_pos hn,List.getElem?_range hn]
   simp only [Option.map_some,dsF]
   rw [if_pos hv.symm]
  ·rw [if_pos rfl,if_neg hn,List.getElem?_eq_none (by simpa using hn)];rfl
 ·rw [if_neg h]
  by_cases hn : x < D
  ·rw [List.getElem?_range hn]
   simp only [Option.map_some,dsF]
   rw [if_neg (by omega)]
  ·rw [List.getElem?_eq_none (by simpa using hn)];rfl
section
variable {σ : Store} {ns : List Int} {xs ys : List R} {z : List V} {cx cy : Nat → List V} {oz : List Nat} {fx fy : Nat → List Nat}
theorem dsO_mem : ∀ k j,∀ o ∈ dsO ns oz fx fy k j,o ∈ oz ∨ ∃ i,i < k ∧ (o ∈ fx i ∨ o ∈ fy i)
 |
  0,j,o,h=>by
  simp only [dsO] at h
  split at h
  ·exact .inl h
  ·cases h
 |
  k + 1,j,o,h=>by
  simp only [dsO] at h
  split at h
  ·rcases List.mem_append.1 h with h | h
   ·exact .inr ⟨k,by omega,.inl h⟩
   ·exact .inr ⟨k,by omega,.inr h⟩
  ·rcases dsO_mem k j o h with h | ⟨i,hi,h⟩
   ·exact .inl h
   ·exact .inr ⟨i,by omega,h⟩
variable {n : Nat} (hz : OwL σ z (⟨intR 0,intR 0⟩ : Pt).cells oz) (hx : ∀ i,i < n → OwL σ (cx i) (xs.getD i default).cells (fx i)) (hy : ∀ i,i < n → OwL σ (cy i) (ys.getD i default).cells (fy i))
include hz hx hy in
theorem dsF_ow : ∀ k,k ≤ n → ∀ j,OwL σ (dsF (⟨R0,R0⟩ : Pt).cells ns z cx cy k j) (dsAt ns xs ys k j).cells (dsO ns oz fx fy k j)
 |
  0,_,j=>by
  simp only [dsF,dsAt,dsO]
  by_cases h : j = 0
  ·rw [if_pos h,if_pos h,if_pos h];exact hz
  ·rw [if_neg h,if_neg h,if_neg h];exact owL_R0
 |
  k + 1,hk,j=>by
  simp only [dsF,dsAt,dsO]
  by_cases h : (j : Int) = ns.getD k default
  ·rw [if_pos h,if_pos h,if_pos h]
   exact owL_append (hx k (by omega)) (hy k (by omega))
  ·rw [if_neg h,if_neg h,if_neg h]
   exact dsF_ow k (by omega) j
variable (nz : oz.Nodup) (nx : ∀ i,i < n → (fx i).Nodup) (ny : ∀ i,i < n → (fy i).Nodup) (axx : ∀ i j,i < n → j < n → i ≠ j → ∀ o ∈ fx i,o ∉ fx j) (ayy : ∀ i j,i < n → j < n → i ≠ j → ∀ o ∈ fy i,o ∉ fy j)
 (axy : ∀ i j,i < n → j < n → ∀ o ∈ fx i,o ∉ fy j) (azx : ∀ i,i < n → ∀ o ∈ oz,o ∉ fx i) (azy : ∀ i,i < n → ∀ o ∈ oz,o ∉ fy i)
include nz nx ny axy in
theorem dsO_nd : ∀ k,k ≤ n → ∀ j,(dsO ns oz fx fy k j).Nodup
 |
  0,_,j=>by
  simp only [dsO]
  split
  ·exact nz
  ·exact .nil
 |
  k + 1,hk,j=>by
  simp only [dsO]
  split
  ·rw [List.nodup_append]
   exact ⟨nx k (by omega),ny k (by omega),fun x h1 y h2 e=>axy k k (by omega) (by omega) x h1 (e ▸ h2)⟩
  ·exact dsO_nd k (by omega) j
include axx ayy axy azx azy in
theorem dsO_ap : ∀ k,k ≤ n → ∀ i j,i ≠ j → ∀ o ∈ dsO ns oz fx fy k i,o ∉ dsO ns oz fx fy k j
 |
  0,_,i,j,hne,o,h1,h2=>by
  simp only [dsO] at h1 h2
  split at h1
  ·split at h2
   ·omega
   ·cases h2
  ·cases h1
 |
  k + 1,hk,i,j,hne,o,h1,h2=>by
  have key : ∀ o,o ∈ fx k ++ fy k → ∀ j,o ∉ dsO ns oz fx fy k j:=fun o h j hm=>by
   rcases dsO_mem k j o hm with hm | ⟨i,hi,hm⟩
   ·rcases List.mem_append.1 h with h | h
    ·exact azx k (by omega) o hm h
    ·exact azy k (by omega) o hm h
   ·rcases List.mem_append.1 h with h | h
    ·rcases hm with hm | hm
     ·exact axx k i (by omega) (by omega) (by omega) o h hm
     ·exact axy k i (by omega) (by omega) o h hm
    ·rcases hm with hm | hm
     ·exact axy i k (by omega) (by omega) o hm h
     ·exact ayy k i (by omega) (by omega) (by omega) o h hm
  simp only [dsO] at h1 h2
  by_cases c1 : (i : Int) = ns.getD k default
  ·rw [if_pos c1] at h1
   rw [if_neg (by omega)] at h2
   exact key o h1 j h2
  ·rw [if_neg c1] at h1
   by_cases c2 : (j : Int) = ns.getD k default
   ·rw [if_pos c2] at h2
    exact key o h2 i h1
   ·rw [if_neg c2] at h2
    exact dsO_ap k (by omega) i j hne o h1 h2
end
theorem rat_can {σ : Store} {c : List V} {x : R} {os os2 : List Nat} {p n : Nat} (h : OwL σ c x.cells os) (hm : ∀ o ∈ os,o ∈ os2 ∧ o ≠ p) : CanL (keepW σ p n os2) σ c c:=by
 obtain ⟨cs,rfl,b⟩:=h.bool_inv
 obtain ⟨v1,cs,o1,o2,rfl,rfl,c1,d⟩:=b.inv
 obtain ⟨v2,cs,o3,o4,rfl,rfl,e,f⟩:=d.inv
 obtain ⟨rfl,rfl⟩:=f.nil_inv
 have k1:=owV_ints_can (n:=n) c1 fun o ho=>hm o (by simp [ho])
 have k2:=owV_ints_can (n:=n) e fun o ho=>hm o (by simp [ho])
 simp only [CanL]
 exact ⟨_,_,rfl,canV_still rfl,_,_,rfl,k1,_,_,rfl,k2,rfl⟩
theorem canL_app {W : Win} {σ : Store} : ∀ {a a2 b b2 : List V},CanL W σ a a2 → CanL W σ b b2 → CanL W σ (a ++ b) (a2 ++ b2)
 | [],a2,b,b2,h,k=>by simp only [CanL] at h;subst h;exact k
 |
  v :: a,a2,b,b2,h,k=>by
  simp only [CanL] at h
  obtain ⟨y,ys,rfl,h1,h2⟩:=h
  simp only [List.cons_append,CanL]
  exact ⟨y,ys ++ b2,rfl,h1,canL_app h2 k⟩
theorem nil_can {W : Win} {σ : Store} : CanL W σ ptz (⟨R0,R0⟩ : Pt).cells:=by
 show CanL W σ [.bool false,.nils,.nils,.bool false,.nils,.nils] [.bool false,.sl 1 [],.sl 1 [],.bool false,.sl 1 [],.sl 1 []]
 simp only [CanL,CanV]
 exact ⟨_,_,rfl,rfl,_,_,rfl,.inr ⟨1,rfl⟩,_,_,rfl,.inr ⟨1,rfl⟩,_,_,rfl,rfl,_,_,rfl,.inr ⟨1,rfl⟩,_,_,rfl,.inr ⟨1,rfl⟩,rfl⟩
theorem dsF_can {σ : Store} {ns : List Int} {xs ys : List R} {z1 z2 : List V} {cx cy : Nat → List V} {oz1 oz2 : List Nat} {fx fy : Nat → List Nat} {n p m : Nat} {os2 : List Nat}
  (hz1 : OwL σ z1 (intR 0).cells oz1) (hz2 : OwL σ z2 (intR 0).cells oz2) (hx : ∀ i,i < n → OwL σ (cx i) (xs.getD i default).cells (fx i)) (hy : ∀ i,i < n → OwL σ (cy i) (ys.getD i default).cells (fy i)) :
  ∀ k,k ≤ n → ∀ j,(∀ o ∈ dsO ns (oz1 ++ oz2) fx fy k j,o ∈ os2 ∧ o ≠ p) → CanL (keepW σ p m os2) σ (dsF ptz ns (z1 ++ z2) cx cy k j) (dsF (⟨R0,R0⟩ : Pt).cells ns (z1 ++ z2) cx cy k j)
 |
  0,_,j,hm=>by
  simp only [dsO] at hm
  simp only [dsF]
  by_cases h : j = 0
  ·rw [if_pos h,if_pos h]
   rw [if_pos h] at hm
   exact canL_app (rat_can hz1 fun o ho=>hm o (List.mem_append_left _ ho)) (rat_can hz2 fun o ho=>hm o (List.mem_append_right _ ho))
  ·rw [if_neg h,if_neg h]
   exact nil_can
 |
  k + 1,hk,j,hm=>by
  simp only [dsO] at hm
  simp only [dsF]
  by_cases h : (j : Int) = ns.getD k default
  ·rw [if_pos h,if_pos h]
   rw [if_pos h] at hm
   exact canL_app (rat_can (hx k (by omega)) fun o ho=>hm o (List.mem_append_left _ ho)) (rat_can (hy k (by omega)) fun o ho=>hm o (List.mem_append_right _ ho))
  ·rw [if_neg h,if_neg h]
   rw [if_neg h] at hm
   exact dsF_can hz1 hz2 hx hy k (by omega) j hm
theorem ds_fin {σ : Store} {ns : List Int} {xs ys : List R} {z1 z2 : List V} {cx cy : Nat → List V} {oz1 oz2 : List Nat} {fx fy : Nat → List Nat} {n D p : Nat} {b : Bool} (hp : objAt σ p = some ⟨6,(List.range D).map (dsF ptz ns (z1 ++ z2) cx cy n)⟩)
  (hz1 : OwL σ z1 (intR 0).cells oz1) (hz2 : OwL σ z2 (intR 0).cells oz2) (hx : ∀ i,i < n → OwL σ (cx i) (xs.getD i default).cells (fx i)) (hy : ∀ i,i < n → OwL σ (cy i) (ys.getD i default).cells (fy i))
  (nz : (oz1 ++ oz2).Nodup) (nx : ∀ i,i < n → (fx i).Nodup) (ny : ∀ i,i < n → (fy i).Nodup) (axx : ∀ i j,i < n → j < n → i ≠ j → ∀ o ∈ fx i,o ∉ fx j) (ayy : ∀ i j,i < n → j < n → i ≠ j → ∀ o ∈ fy i,o ∉ fy j)
  (axy : ∀ i j,i < n → j < n → ∀ o ∈ fx i,o ∉ fy j) (azx : ∀ i,i < n → ∀ o ∈ oz1 ++ oz2,o ∉ fx i) (azy : ∀ i,i < n → ∀ o ∈ oz1 ++ oz2,o ∉ fy i) :
  FinR σ (.tup [.msl p 0 D,.bool b]) (.tup [ptsV ((List.range D).map (dsAt ns xs ys n)),.bool b]):=by
 have hpl:=objAt_lt hp
 have hz : OwL σ (z1 ++ z2) (⟨intR 0,intR 0⟩ : Pt).cells (oz1 ++ oz2):=owL_append hz1 hz2
 have kinds : ∀ i,i < n → (∀ o ∈ fx i,∃ l,objAt σ o = some ⟨1,irows l⟩) ∧ ∀ o ∈ fy i,∃ l,objAt σ o = some ⟨1,irows l⟩:=fun i hi=>⟨(cell_ow (hx i hi)).2,(cell_ow (hy i hi)).2⟩
 have kz : ∀ o ∈ oz1 ++ oz2,∃ l,objAt σ o = some ⟨1,irows l⟩:=fun o ho=>by
  rcases List.mem_append.1 ho with h | h
  ·exact (cell_ow hz1).2 o h
  ·exact (cell_ow hz2).2 o h
 have hkind : ∀ j,∀ o ∈ dsO ns (oz1 ++ oz2) fx fy n j,(∃ l,objAt σ o = some ⟨1,irows l⟩) ∧ o ≠ p:=fun j o ho=>by
  have h1 : ∃ l,objAt σ o = some ⟨1,irows l⟩:=by
   rcases dsO_mem n j o ho with h | ⟨i,hi,h | h⟩
   ·exact kz o h
   ·exact (kinds i hi).1 o h
   ·exact (kinds i hi).2 o h
  refine ⟨h1,fun e=>?_⟩
  obtain ⟨l,hl⟩:=h1
  rw [e,hp] at hl
  cases hl
 obtain ⟨os,k1,k2,k3⟩:=owR_fam (σ:=σ) (f:=dsO ns (oz1 ++ oz2) fx fy n) D (fun j _=>dsF_ow hz hx hy n (Nat.le_refl _) j) (fun j _=>dsO_nd nz nx ny axy n (Nat.le_refl _) j) (fun i j _ _=>dsO_ap axx ayy axy azx azy n (Nat.le_refl _) i j)
 have hk2 : ∀ j,j < D → ∀ o ∈ dsO ns (oz1 ++ oz2) fx fy n j,o ∈ os ∧ o ≠ p:=fun j hj o ho=>⟨(k3 o).2 ⟨j,hj,ho⟩,(hkind j o ho).2⟩
 have hpo : p ∉ os:=fun h=>by
  obtain ⟨j,_,h⟩:=(k3 p).1 h
  exact (hkind j p h).2 rfl
 have hst : ∀ o ∈ os,∀ ob,objAt σ o = some ob → stillR ob.rows:=fun o ho ob e=>by
  obtain ⟨j,_,h⟩:=(k3 o).1 ho
  obtain ⟨l,hl⟩:=(hkind j o h).1
  rw [hl] at e
  cases e
  exact ir_still _
 have hR:=reS_own (A':=(List.range D).map (dsF (⟨R0,R0⟩ : Pt).cells ns (z1 ++ z2) cx cy n)) hp (by simp) hst (fun i r r2 h1 h2=>by
  rw [List.getElem?_map] at h1 h2
  by_cases hi : i < D
  ·rw [List.getElem?_range hi] at h1 h2
   simp only [Option.map_some,Option.some.injEq] at h1 h2
   subst h1
   subst h2
   exact dsF_can hz1 hz2 hx hy n (Nat.le_refl _) i (hk2 i hi)
  ·rw [List.getElem?_eq_none (by simpa using hi)] at h1
   cases h1)
 refine ⟨_,_,.tup [.msl p 0 D,.bool b],p :: os,hR,?_,?_,List.nodup_cons.2 ⟨hpo,k2⟩⟩
 ·simp only [CanV,CanL]
  refine ⟨_,rfl,_,_,rfl,.inl ⟨p,0,((List.range D).map (dsF ptz ns (z1 ++ z2) cx cy n)).length,?_,Nat.le_refl _,by simp,by rw [Nat.sub_zero]⟩,_,_,rfl,rfl,rfl⟩
  rw [keepW_at hpl,if_pos rfl]
 ·have hv : OwV (keepO σ p ⟨6,(List.range D).map (dsF (⟨R0,R0⟩ : Pt).cells ns (z1 ++ z2) cx cy n)⟩ os) (.msl p 0 D) (ptsV ((List.range D).map (dsAt ns xs ys n))) (p :: os):=by
   unfold ptsV
   simp only [OwV]
   refine .inr ⟨p,(List.range D).map (dsF (⟨R0,R0⟩ : Pt).cells ns (z1 ++ z2) cx cy n),os,by simp,by rw [keepO_at hpl,if_pos rfl],rfl,?_⟩
   rw [List.map_map]
   exact k1.frame fun o ho=>by rw [keepO_at (k1.lt o ho),if_neg (fun e : o = p=>hpo (by rw [← e];exact ho)),if_pos ho]
  have:=owV_tup (owL_v hv (owL_bool (b:=b) owL_nil))
  rwa [List.append_nil] at this
theorem dsF_hi {ns : List Int} {z : List V} {cx cy : Nat → List V} {n : Nat} (hHl : ∀ k,k < n → (dsH ns k : Int) ≤ ns.getD k default) : ∀ k,k ≤ n → ∀ j,dsH ns k ≤ j → dsF ptz ns z cx cy k j = ptz
 | 0,_,j,hj=>by simp only [dsH] at hj;simp only [dsF];rw [if_neg (by omega)]
 |
  k + 1,hk,j,hj=>by
  have h1:=hHl k (by omega)
  simp only [dsH] at hj
  simp only [dsF]
  rw [if_neg (by omega)]
  exact dsF_hi hHl k (by omega) j (by omega)
theorem dsH_mono {ns : List Int} {n : Nat} (hHl : ∀ k,k < n → (dsH ns k : Int) ≤ ns.getD k default) : ∀ j,j ≤ n → ∀ i,i ≤ j → dsH ns i ≤ dsH ns j
 | 0,_,i,hi=>by
           have : i = 0:=by omega
           subst this;exact Nat.le_refl _
 |
  j + 1,hj,i,hi=>by
  by_cases e : i = j + 1
  ·subst e;exact Nat.le_refl _
  ·have h1:=dsH_mono hHl j (by omega) i (by omega)
   have h2:=hHl j (by omega)
   have h3 : dsH ns (j + 1) = (ns.getD j default).toNat + 1:=rfl
   omega
theorem dsF_0 {ns : List Int} {z : List V} {cx cy : Nat → List V} {d : Nat} : (List.range (d + 1)).map (dsF ptz ns z cx cy 0) = z :: List.replicate d ptz:=by
 rw [List.range_succ_eq_map,List.map_cons,List.map_map]
 simp only [dsF,if_true]
 congr 1
 apply List.ext_getElem?
 intro i
 rw [List.getElem?_map,List.getElem?_replicate]
 by_cases h : i < d
 ·rw [List.getElem?_range h,if_pos h]
  simp [dsF]
 ·rw [List.getElem?_eq_none (by simpa using h),if_neg h];rfl
end Go.Ml
end
section
namespace Go.Ml
theorem po_iDenseSolution {T : Nat → Option Fn} (h : D_impl_DenseSolution T) {S : List Lk} (hw : wfL Lk.wf S) (hl : S.length ≤ 1048576) : PO T 269 [lksV S] (.tup [ptsV (dsV S),.bool (dsB S)]):=by
 have ci:=c_iIsLinkSet h.d_impl_IsLinkSet hw
 obtain ⟨x,hb⟩ : ∃ x,lksOk S = x:=⟨_,rfl⟩
 rw [hb] at ci
 have hx : x = false ∨ x = true:=by cases x <;> simp
 rcases hx with hx | hx
 ·have hf : dsB S = false:=by unfold dsB dsC;rw [hb,hx];rfl
  rw [dsV_f hf,hf]
  refine po_end2 (fun _ _=>false) h.hT rfl rfl ?_
  dsimp only [F_impl_DenseSolution,oN,oS,oG,oK,oA,oH,oV,cI,St.enter,List.length_cons,List.length_nil,Nat.zero_add]
  refine ew ?_
  refine PFK_of ci ?_
  refine ew1 @hx ?_
  exact (fin_nil (sz:=6)).tup1
 have hb : lksOk S = true:=by rw [hb,hx]
 have cn:=(po_inodesOf h.d_impl_nodesOf (l:=S) hw).frz (dep_ints _ _)
 rw [← nodesM_t hb] at cn
 have cm:=(po_iInformationMatrix h.d_impl_InformationMatrix hw hl).frz (dep_ratss _ _)
 have cv:=(po_iInformationVectors h.d_impl_InformationVectors hw hl).frz (dep_tup2 (dep_rats _ _) (dep_rats _ _))
 have wm:=(imV_ok S).2
 have wx:=rs_wf (ivX_cn S).1.1 (by have:=(ivX_cn S).1.2;omega)
 have wy:=rs_wf (ivX_cn S).2.1 (by have:=(ivX_cn S).2.2;omega)
 have PX':=po_iSolveSystem h.d_impl_SolveSystem (m:=imV S) (b:=ivX S) wm wx
 have PY':=po_iSolveSystem h.d_impl_SolveSystem (m:=imV S) (b:=ivY S) wm wy
 have hnl:=nodesM_len S
 cases hc : dsC S
 ·have hf : dsB S = false:=by unfold dsB;rw [hc];rfl
  rw [dsV_f hf,hf]
  have hc' : ¬ ((imV S).length = (nodesM S).length ∧ (ivX S).length = (nodesM S).length ∧ (ivY S).length = (nodesM S).length):=fun ⟨a,b,c⟩=>by
   unfold dsC at hc
   rw [hb,decide_eq_true a,decide_eq_true b,decide_eq_true c] at hc
   cases hc
  clear PX' PY' hc hf wm wx wy
  generalize imV S = m at *
  generalize ivX S = bx at *
  generalize ivY S = b2 at *
  refine po_end2 (fun _ _=>false) h.hT rfl rfl ?_
  dsimp only [F_impl_DenseSolution,oN,oS,oG,oK,oA,oH,oV,cI,St.enter,List.length_cons,List.length_nil,Nat.zero_add]
  refine ew ?_
  refine PFK_of ci ?_
  refine ew1 @hx ?_
  refine PFK_of cn ?_
  refine ew ?_
  refine PFK_of cm ?_
  refine ew ?_
  refine PFK_of cv ?_
  by_cases h1 : m.length = (nodesM S).length
  ·have h1' : ((m.length : Int) = ((nodesM S).length : Nat)) = True:=eq_true (by omega)
   by_cases h2 : bx.length = (nodesM S).length
   ·have h2' : ((bx.length : Int) = ((nodesM S).length : Nat)) = True:=eq_true (by omega)
    have h3' : ((b2.length : Int) = ((nodesM S).length : Nat)) = False:=eq_false fun e=>hc' ⟨h1,h2,by omega⟩
    refine ew3 @h1' @h2' @h3' ?_
    exact (fin_nil (sz:=6)).tup1
   ·have h2' : ((bx.length : Int) = ((nodesM S).length : Nat)) = False:=eq_false (by omega)
    refine ew2 @h1' @h2' ?_
    exact (fin_nil (sz:=6)).tup1
  ·have h1' : ((m.length : Int) = ((nodesM S).length : Nat)) = False:=eq_false (by omega)
   refine ew1 @h1' ?_
   exact (fin_nil (sz:=6)).tup1
 have hcc:=hc
 unfold dsC at hcc
 simp only [Bool.and_eq_true,decide_eq_true_eq] at hcc
 obtain ⟨⟨⟨_,lm⟩,lx⟩,ly⟩:=hcc
 have h1' : (((imV S).length : Int) = ((nodesM S).length : Nat)) = True:=eq_true (by omega)
 have h2' : (((ivX S).length : Int) = ((nodesM S).length : Nat)) = True:=eq_true (by omega)
 have h3' : (((ivY S).length : Int) = ((nodesM S).length : Nat)) = True:=eq_true (by omega)
 cases hB : dsB S
 ·rw [dsV_f hB]
  have hB' : ¬ (ssB (imV S) (ivX S) = true ∧ ssB (imV S) (ivY S) = true):=fun ⟨a,b⟩=>by
   unfold dsB at hB
   rw [hc,a,b] at hB
   cases hB
  have px:=PX'.frz (dep_tup2 (dep_rats _ _) (dep_bool _ _))
  have py:=PY'.frz (dep_tup2 (dep_rats _ _) (dep_bool _ _))
  clear hc hB PX' PY' wm wx wy
  generalize ssX (imV S) (ivX S) = X at *
  generalize ssX (imV S) (ivY S) = Y at *
  obtain ⟨bx,hbx⟩ : ∃ b,ssB (imV S) (ivX S) = b:=⟨_,rfl⟩
  obtain ⟨b2,hby⟩ : ∃ b,ssB (imV S) (ivY S) = b:=⟨_,rfl⟩
  rw [hbx] at px hB'
  rw [hby] at py hB'
  generalize imV S = m at *
  generalize ivX S = vx at *
  generalize ivY S = vy at *
  refine po_end2 (fun _ _=>false) h.hT rfl rfl ?_
  dsimp only [F_impl_DenseSolution,oN,oS,oG,oK,oA,oH,oV,cI,St.enter,List.length_cons,List.length_nil,Nat.zero_add]
  refine ew ?_
  refine PFK_of ci ?_
  refine ew1 @hx ?_
  refine PFK_of cn ?_
  refine ew ?_
  refine PFK_of cm ?_
  refine ew ?_
  refine PFK_of cv ?_
  refine ew3 @h1' @h2' @h3' ?_
  refine PFK_of px ?_
  refine ew ?_
  refine PFK_of py ?_
  have hbb : bx = false ∨ (bx = true ∧ b2 = false):=by cases bx <;> cases b2 <;> simp_all
  rcases hbb with hbb | ⟨hbb,hb2⟩
  ·refine ew1 @hbb ?_
   exact (fin_nil (sz:=6)).tup1
  ·refine ew2 @hbb @hb2 ?_
   exact (fin_nil (sz:=6)).tup1
 rw [dsV_t hB]
 have hB2:=hB
 unfold dsB at hB2
 simp only [Bool.and_eq_true] at hB2
 have lX:=ssX_len hB2.1.2
 have lY:=ssX_len hB2.2
 rw [hB2.1.2] at PX'
 rw [hB2.2] at PY'
 have hH:=dsH_le S
 have hHl:=fun k (hk : k < (nodesM S).length)=>dsH_lt S hk
 unfold dsP
 have hrng:=fun i (hi : i < (nodesM S).length)=>nodesM_rng (l:=S) (getD_mem (l:=nodesM S) (i:=i) hi)
 clear hc hB hB2 wm wx wy
 generalize ssX (imV S) (ivX S) = X at *
 generalize ssX (imV S) (ivY S) = Y at *
 generalize imV S = m at *
 generalize ivX S = vx at *
 generalize ivY S = vy at *
 generalize nodesM S = ns at *
 refine po_endR (fun x d=>x == 231 || x == 186) h.hT rfl rfl ?_
 dsimp only [F_impl_DenseSolution,oN,oS,oG,oK,oA,oH,oV,cI,St.enter,List.length_cons,List.length_nil,Nat.zero_add]
 refine ew ?_
 refine PFK_of ci ?_
 refine ew1 @hx ?_
 refine PFK_of cn ?_
 refine ew ?_
 refine PFK_of cm ?_
 refine ew ?_
 refine PFK_of cv ?_
 refine ew3 @h1' @h2' @h3' ?_
 refine RefK_got PX' (by (refine ew ?_;try with_reducible exact True.intro)) ?_
 intro r s1 o1 G
 obtain ⟨v1,rfl,G1⟩:=G.tup1
 clear G
 refine ew ?_
 refine RefK_got PY' (by (refine ew ?_;try with_reducible exact True.intro)) ?_
 intro r s2 o2 G
 obtain ⟨v2,rfl,G2⟩:=G.tup1
 clear G
 refine ew ?_
 rcases Nat.eq_zero_or_pos ns.length with h0 | h0
 ·have hpos : (0 < (ns.length : Int)) = False:=eq_false (by omega)
  have hres : (List.range (dsH ns ns.length)).map (dsAt ns X Y ns.length) = (List.range 1).map (dsAt ns X Y 0):=by rw [h0];rfl
  rw [hres]
  clear G1 G2 PX' PY' hres
  refine ew1 @hpos ?_
  refine ⟨by decide,?_⟩
  generalize hp : s2.length = p
  refine RefK_got (po_zeroPoint h.d_impl_zeroPoint) (by (refine ew ?_;try with_reducible exact True.intro)) ?_
  intro r q3 o3 G3
  obtain ⟨_,rfl,hQ3⟩:=G3.ow.agg_inv
  obtain ⟨x1,x2,x3,x4,rfl⟩:=hQ3.pt
  have gl : p + 1 ≤ q3.length:=by have:=G3.len;simp at this;omega
  have Lp : objAt q3 p = some ⟨6,List.replicate 1 [.bool false,.nils,.nils,.bool false,.nils,.nils]⟩:=(G3.old p (by simp;omega)).trans (by rw [← hp];exact objAt_snoc _ _)
  have LF:=OwL.leaf hQ3 rfl
  simp only [List.all_cons,List.all_nil,Bool.and_true,Bool.and_eq_true] at LF
  have fz : ∀ o ∈ o3,p + 1 ≤ o:=fun o ho=>by have:=G3.fresh o ho;simp at this;omega
  have nz:=G3.nd
  obtain ⟨w1,w2,oz1,oz2,ew1',rfl,hz1,hz2⟩:=owL_split (ts:=(intR 0).cells) (ts':=(intR 0).cells) hQ3
  have hw1 : w1.length = 3:=hz1.len
  obtain ⟨e1,e2⟩:=List.append_inj (show [V.bool (intR 0).neg,x1,x2] ++ [V.bool (intR 0).neg,x3,x4] = w1 ++ w2 from ew1') (by rw [hw1];rfl)
  subst e1
  subst e2
  clear G3 hQ3
  refine ew3 @Lp @LF @hp ?_
  have hql : p < q3.length:=by omega
  refine loop_at (fun x d=>x == 231 || x == 186) (α:=Nat) (fun k=>⟨argE [.any,.any,.any,.any,ints ns,.any,.any,.any,.any,.any,.any,.any,.any,.msl p 0 1,.any,.any,.any,.any,.any,.any,.any,.any,.any,.any,.any,.any,.any,.any,.any,.any,.any,.any,.any,.any,.any,.any,.any,.any,.any,.any,.any,.any,.any,.any,.any,.any,.any,.any,.any,.any,.any,.any,.any,.any,.any,.any,.any,.any,.any,.any,.any,.any,.any,.any,.any,.any,.any,.any,.any,.any,.any,.any,.any,.any,.any,.any,.any,.any,.any,.any,ints ns,iv (ns.length : Nat),iv (k : Nat)],q3.set p (some ⟨6,[[V.bool (intR 0).neg,x1,x2] ++ [V.bool (intR 0).neg,x3,x4]]⟩),0,0,[],[]⟩) (fun k=>k = 0) (fun k=>1 - k) rfl 0 ?_ ?_ ?_
  ·rfl
  ·(refine Fg_env ?_;exact fgW)
  ·rintro k hk
   have hck : ¬ ((k : Int) < (ns.length : Nat)):=by omega
   refine ew1 @hck ?_
   have hup : objAt (q3.set p (some ⟨6,[[V.bool (intR 0).neg,x1,x2] ++ [V.bool (intR 0).neg,x3,x4]]⟩)) p = some ⟨6,(List.range 1).map (dsF ptz ns ([V.bool (intR 0).neg,x1,x2] ++ [V.bool (intR 0).neg,x3,x4]) (fun _=>[]) (fun _=>[]) 0)⟩:=by
    rw [show (1 : Nat) = 0 + 1 from rfl,dsF_0]
    exact objAt_seteq hql
   have up1 : ∀ o ∈ oz1 ++ oz2,objAt (q3.set p (some ⟨6,[[V.bool (intR 0).neg,x1,x2] ++ [V.bool (intR 0).neg,x3,x4]]⟩)) o = objAt q3 o:=fun o ho=>objAt_setne (by have:=fz o ho;omega)
   exact ds_fin (n:=0) (D:=1) (fx:=fun _=>[]) (fy:=fun _=>[]) hup (hz1.frame fun o ho=>up1 o (List.mem_append_left _ ho)) (hz2.frame fun o ho=>up1 o (List.mem_append_right _ ho)) (fun i hi=>absurd hi (Nat.not_lt_zero _)) (fun i hi=>absurd hi (Nat.not_lt_zero _)) nz (fun i hi=>absurd hi (Nat.not_lt_zero _)) (fun i hi=>absurd hi (Nat.not_lt_zero _))
    (fun i j hi=>absurd hi (Nat.not_lt_zero _)) (fun i j hi=>absurd hi (Nat.not_lt_zero _)) (fun i j hi=>absurd hi (Nat.not_lt_zero _)) (fun i hi=>absurd hi (Nat.not_lt_zero _)) (fun i hi=>absurd hi (Nat.not_lt_zero _))
 obtain ⟨n',hn'⟩ : ∃ n',ns.length = n' + 1:=⟨ns.length - 1,by omega⟩
 have hD : dsH ns ns.length = (ns.getD n' default).toNat + 1:=by rw [hn'];rfl
 obtain ⟨d,hd⟩ : ∃ d : Nat,ns.getD n' 0 = (d : Int):=⟨(ns.getD n' 0).toNat,by have:=hrng n' (by omega);rw [show ns.getD n' default = ns.getD n' 0 from rfl] at this;omega⟩
 rw [show ns.getD n' default = (d : Int) from hd,Int.toNat_natCast] at hD
 have hd9:=(hH ns.length (Nat.le_refl _)).2
 have hpos : (0 < (ns.length : Int)) = True:=eq_true (by omega)
 have tn : ((ns.length : Int) - 1).toNat = n':=by omega
 have t1 : ((d : Int) + 1).toNat = d + 1:=by omega
 have hge : (0 : Int) ≤ (ns.length : Int) - 1:=by omega
 have hv1:=G1.ow
 have hv2:=G2.ow
 unfold ratsV at hv1 hv2
 rcases hv1.sl_inv with ⟨e,_,_⟩ | ⟨px,rX,oX,rfl,hpx,hrX,hoX,hRX⟩
 ·have:=congrArg List.length e
  simp at this
  rw [this] at lX
  simp at lX
  omega
 rcases hv2.sl_inv with ⟨e,_,_⟩ | ⟨py,rY,oY,rfl,hpy,hrY,hoY,hRY⟩
 ·have:=congrArg List.length e
  simp at this
  rw [this] at lY
  simp at lY
  omega
 have nd1:=G1.nd
 rw [hoX,List.nodup_cons] at nd1
 have nd2:=G2.nd
 rw [hoY,List.nodup_cons] at nd2
 obtain ⟨fx,kx1,kx2⟩:=owR_parts hRX nd1.2
 obtain ⟨fy,ky1,ky2⟩:=owR_parts hRY nd2.2
 have fr2:=G2.fresh
 have old2:=G2.old
 rw [List.length_map] at hrX hrY
 simp only [List.length_map] at kx1 kx2 ky1 ky2
 rw [List.length_map] at *
 have hlX : X.length = ns.length:=by omega
 have hlY : Y.length = ns.length:=by omega
 refine ew4 @hpos @tn @hd @t1 ?_
 refine ⟨⟨by omega,by omega,by omega⟩,?_⟩
 have old1 : ∀ o,o < s1.length → objAt s2 o = objAt s1 o:=old2
 have hs12 : s1.length ≤ s2.length:=G2.len
 have hpx2 : objAt s2 px = some ⟨3,rX⟩:=(old1 px (objAt_lt hpx)).trans hpx
 have hpxl:=objAt_lt hpx
 have hpyl:=objAt_lt hpy
 have kxl : ∀ i,i < X.length → ∀ o ∈ fx i,o < s1.length:=fun i hi=>(kx1 i hi).1.lt
 have kyl : ∀ i,i < Y.length → ∀ o ∈ fy i,o < s2.length:=fun i hi=>(ky1 i hi).1.lt
 have kyf : ∀ i,i < Y.length → ∀ o ∈ fy i,s1.length ≤ o:=fun i hi o ho=>fr2 o (by rw [hoY];exact List.mem_cons_of_mem _ ((ky1 i hi).2.2 o ho))
 clear hv1 hv2 hRX hRY nd1 nd2 fr2 hoX hoY old2 PX' PY' G1 G2
 generalize hp : s2.length = p
 refine RefK_got (po_zeroPoint h.d_impl_zeroPoint) (by (refine ew ?_;try with_reducible exact True.intro)) ?_
 intro r q3 o3 G3
 obtain ⟨_,rfl,hQ3⟩:=G3.ow.agg_inv
 obtain ⟨x1,x2,x3,x4,rfl⟩:=hQ3.pt
 have gl : p + 1 ≤ q3.length:=by have:=G3.len;simp at this;omega
 have Lp : objAt q3 p = some ⟨6,List.replicate (d + 1) [.bool false,.nils,.nils,.bool false,.nils,.nils]⟩:=(G3.old p (by simp;omega)).trans (by rw [← hp];exact objAt_snoc _ _)
 have LF:=OwL.leaf hQ3 rfl
 simp only [List.all_cons,List.all_nil,Bool.and_true,Bool.and_eq_true] at LF
 have hq3 : ∀ o,o < s2.length → objAt q3 o = objAt s2 o:=fun o ho=>(G3.old o (by simp;omega)).trans (objAt_snoc_lt ho)
 have fz : ∀ o ∈ o3,p + 1 ≤ o:=fun o ho=>by have:=G3.fresh o ho;simp at this;omega
 have nz:=G3.nd
 have hzl:=hQ3.lt
 obtain ⟨w1,w2,oz1,oz2,ew1',rfl,hz1,hz2⟩:=owL_split (ts:=(intR 0).cells) (ts':=(intR 0).cells) hQ3
 have hw1 : w1.length = 3:=hz1.len
 obtain ⟨e1,e2⟩:=List.append_inj (show [V.bool (intR 0).neg,x1,x2] ++ [V.bool (intR 0).neg,x3,x4] = w1 ++ w2 from ew1') (by rw [hw1];rfl)
 subst e1
 subst e2
 clear G3 hQ3
 refine ew4 @t1 @Lp @LF @hp ?_
 have hql : p < q3.length:=by omega
 have hDd : d + 1 = dsH ns ns.length:=hD.symm
 obtain ⟨z,hzz⟩ : ∃ z,z = [V.bool (intR 0).neg,x1,x2] ++ [V.bool (intR 0).neg,x3,x4]:=⟨_,rfl⟩
 have hz6 : [V.bool (intR 0).neg,x1,x2,V.bool (intR 0).neg,x3,x4] = z:=hzz.symm
 rw [hz6]
 refine loop_at (fun x d=>x == 231 || x == 186) (α:=Nat × Store) (fun q=>⟨argE [.any,.any,.any,.any,ints ns,.any,.any,.any,.msl px 0 X.length,.any,.msl py 0 Y.length,.any,.any,.msl p 0 (d + 1),.any,.any,.any,.any,.any,.any,.any,.any,.any,.any,.any,.any,.any,.any,.any,.any,.any,.any,.any,.any,.any,.any,.any,.any,.any,.any,.any,.any,.any,.any,.any,.any,.any,.any,.any,.any,.any,.any,.any,.any,.any,.any,.any,.any,.any,.any,.any,.any,.any,.any,.any,.any,.any,.any,.any,.any,.any,.any,.any,.any,.any,.any,.any,.any,.any,.any,ints ns,iv (ns.length : Nat),iv (q.1 : Nat)],q.2,0,0,[],[]⟩) (fun q=>q.1 ≤ ns.length ∧ objAt q.2 p = some ⟨6,(List.range (d + 1)).map (dsF ptz ns z (fun i=>rX.getD i []) (fun i=>rY.getD i []) q.1)⟩ ∧ (∀ o,o < q3.length → o ≠ p → objAt q.2 o = objAt q3 o) ∧ q3.length ≤ q.2.length) (fun q=>ns.length - q.1) rfl (0,q3.set p (some ⟨6,z :: List.replicate d ptz⟩)) ?_ ?_ ?_
 ·exact ⟨Nat.zero_le _,by rw [dsF_0];exact objAt_seteq hql,fun o _ h=>objAt_setne h,by simp⟩
 ·(refine Fg_env ?_;exact fgW)
 ·clear Lp LF
  rintro ⟨k,u⟩ ⟨hk,hup,huo,hul⟩
  dsimp only at hk hup huo hul
  have hus : ∀ o,o < s2.length → objAt u o = objAt s2 o:=fun o ho=>(huo o (by omega) (by omega)).trans (hq3 o ho)
  have hus1 : ∀ o,o < s1.length → objAt u o = objAt s1 o:=fun o ho=>(hus o (by omega)).trans (old1 o ho)
  by_cases hck : (k : Int) < (ns.length : Nat)
  ·have hkl : k < ns.length:=by omega
   have hkX : (k : Int) < (X.length : Nat):=by omega
   have hkY : (k : Int) < (Y.length : Nat):=by omega
   have hr:=hrng k hkl
   obtain ⟨v,hv⟩ : ∃ v : Nat,ns.getD k 0 = (v : Int):=⟨(ns.getD k 0).toNat,by rw [show ns.getD k default = ns.getD k 0 from rfl] at hr;omega⟩
   have hm:=dsH_mono hHl ns.length (Nat.le_refl _) (k + 1) (by omega)
   have hk1 : dsH ns (k + 1) = (ns.getD k default).toNat + 1:=rfl
   have hlo:=hHl k hkl
   rw [show ns.getD k default = (v : Int) from hv] at hk1 hlo
   rw [Int.toNat_natCast] at hk1
   have hvd : v < d + 1:=by omega
   have hvd' : (v : Int) < ((d + 1 : Nat) : Int):=by omega
   have hrow : ((List.range (d + 1)).map (dsF ptz ns z (fun i=>rX.getD i []) (fun i=>rY.getD i []) k))[v]? = some [.bool false,.nils,.nils,.bool false,.nils,.nils]:=by
    rw [List.getElem?_map,List.getElem?_range hvd]
    simp only [Option.map_some]
    rw [dsF_hi hHl k hk v (by omega)]
    rfl
   have hset:=dsF_set (n0:=ptz) (z:=z) (cx:=fun i=>rX.getD i []) (cy:=fun i=>rY.getD i []) (D:=d + 1) (show ns.getD k default = (v : Int) from hv)
   have hrl : ((List.range (d + 1)).map (dsF ptz ns z (fun i=>rX.getD i []) (fun i=>rY.getD i []) k)).length = d + 1:=by simp
   have okx:=(kx1 k (by omega)).1
   have oky:=(ky1 k (by omega)).1
   rw [mg (by omega)] at okx oky
   have gX : rX[k]? = some (rX.getD k []):=getQ (by omega)
   have gY : rY[k]? = some (rY.getD k []):=getQ (by omega)
   obtain ⟨a1,a2,ex⟩:=okx.rat
   obtain ⟨b1,b2,ey⟩:=oky.rat
   have lx:=okx.leaf rfl
   have ly:=oky.leaf rfl
   rw [ex] at gX lx
   rw [ey] at gY ly
   simp only [List.all_cons,List.all_nil,Bool.and_true,Bool.and_eq_true] at lx ly
   rw [ex,ey] at hset
   have hux:=(hus1 px hpxl).trans hpx
   have huy:=(hus py hpyl).trans hpy
   have hpu : p < u.length:=by omega
   generalize (List.range (d + 1)).map (dsF ptz ns z (fun i=>rX.getD i []) (fun i=>rY.getD i []) k) = rows at *
   generalize (X.getD k default).neg = n1 at *
   generalize (Y.getD k default).neg = n2 at *
   refine ew6 (And.intro hck hv) (And.intro hux (And.intro huy hup)) (And.intro gX (And.intro gY hrow)) (And.intro lx ly) @numK_any @or_sc ?_
   refine ⟨by unfold OkA;rfl,?_⟩
   refine ⟨(k + 1,?st),?c1,⟨?c2,?c4,?c5,?c6⟩,?c3⟩
   case c3=>dsimp only;(refine Fg_env ?_;exact fgW)
   case c1=>dsimp only;omega
   case c2=>dsimp only;omega
   case c4 =>
    dsimp only
    rw [← hset]
    exact objAt_seteq hpu
   case c5 =>
    dsimp only
    intro o h1 h2
    rw [objAt_setne h2]
    exact huo o h1 h2
   case c6=>simp;omega
  ·have hke : k = ns.length:=by omega
   subst hke
   refine ew1 @hck ?_
   rw [hD]
   rw [hzz] at hup
   have up1 : ∀ o ∈ oz1 ++ oz2,objAt u o = objAt q3 o:=fun o ho=>huo o (hzl o ho) (by have:=fz o ho;omega)
   refine ds_fin hup (hz1.frame fun o ho=>up1 o (List.mem_append_left _ ho)) (hz2.frame fun o ho=>up1 o (List.mem_append_right _ ho)) (fx:=fx) (fy:=fy) (fun i hi=>?_) (fun i hi=>?_) nz (fun i hi=>(kx1 i (by omega)).2.1) (fun i hi=>(ky1 i (by omega)).2.1)
    (fun i j hi hj=>kx2 i j (by omega) (by omega)) (fun i j hi hj=>ky2 i j (by omega) (by omega)) (fun i j hi hj o h1 h2=>?_) (fun i hi o h1 h2=>?_) (fun i hi o h1 h2=>?_)
   ·have:=(kx1 i (by omega)).1
    rw [mg (by omega)] at this
    exact this.frame fun o ho=>hus1 o (kxl i (by omega) o ho)
   ·have:=(ky1 i (by omega)).1
    rw [mg (by omega)] at this
    exact this.frame fun o ho=>hus o (kyl i (by omega) o ho)
   ·have:=kxl i (by omega) o h1
    have:=kyf j (by omega) o h2
    omega
   ·have:=fz o h1
    have:=kxl i (by omega) o h2
    omega
   ·have:=fz o h1
    have:=kyl i (by omega) o h2
    omega
theorem map_range_s {α : Type} (f : Nat → α) (a : Nat) : (List.range (a + 1)).map f = (List.range a).map f ++ [f a]:=by
 rw [List.range_succ,List.map_append];rfl
theorem dsF_lo {n0 : List V} {ns : List Int} {z : List V} {cx cy : Nat → List V} {k v : Nat} (hv : ns.getD k default = (v : Int)) : (List.range (v + 1)).map (dsF n0 ns z cx cy (k + 1)) = (List.range v).map (dsF n0 ns z cx cy k) ++ [cx k ++ cy k]:=by
 rw [map_range_s]
 congr 1
 ·apply List.map_congr_left
  intro j hj
  have:=List.mem_range.1 hj
  simp only [dsF]
  rw [if_neg (by omega)]
 ·simp only [dsF]
  rw [if_pos hv.symm]
theorem dsF_lax {ns : List Int} {xs ys : List R} : ∀ n j,LaxL (dsAt ns xs ys n j).cells (dsF ptz ns (⟨intR 0,intR 0⟩ : Pt).cells (fun i=>(xs.getD i default).cells) (fun i=>(ys.getD i default).cells) n j)
 |
  0,j=>by
  simp only [dsAt,dsF]
  by_cases h : j = 0
  ·rw [if_pos h,if_pos h];exact laxL_refl _
  ·rw [if_neg h,if_neg h]
   simp only [LaxL,LaxV,ptz,Pt.cells]
   exact ⟨_,_,rfl,rfl,_,_,rfl,.inl ⟨rfl,.inl rfl⟩,_,_,rfl,.inl ⟨rfl,.inl rfl⟩,_,_,rfl,rfl,_,_,rfl,.inl ⟨rfl,.inl rfl⟩,_,_,rfl,.inl ⟨rfl,.inl rfl⟩,rfl⟩
 |
  n + 1,j=>by
  simp only [dsAt,dsF]
  by_cases h : (j : Int) = ns.getD n default
  ·rw [if_pos h,if_pos h];exact laxL_refl _
  ·rw [if_neg h,if_neg h];exact dsF_lax n j
theorem laxR_map {α : Type} {f g : α → List V} (h : ∀ x,LaxL (f x) (g x)) : ∀ l : List α,LaxR (l.map f) (l.map g)
 | []=>by simp [LaxR]
 |
  x :: l=>by
  simp only [List.map_cons,LaxR]
  exact ⟨_,_,rfl,h x,laxR_map h l⟩
theorem dsV_lax {ns : List Int} {xs ys : List R} {n D : Nat} : LaxV (.tup [ptsV ((List.range D).map (dsAt ns xs ys n)),.bool true]) (.tup [.sl 6 ((List.range D).map (dsF ptz ns (⟨intR 0,intR 0⟩ : Pt).cells (fun i=>(xs.getD i default).cells) (fun i=>(ys.getD i default).cells) n)),.bool true]):=by
 unfold ptsV
 simp only [LaxV,LaxL]
 refine ⟨_,rfl,_,_,rfl,.inr ⟨_,rfl,?_⟩,_,_,rfl,rfl,rfl⟩
 rw [List.map_map]
 exact laxR_map (fun j=>dsF_lax n j) _
theorem dsF_still {ns : List Int} {xs ys : List R} : ∀ n j,(dsF ptz ns (⟨intR 0,intR 0⟩ : Pt).cells (fun i=>(xs.getD i default).cells) (fun i=>(ys.getD i default).cells) n j).all V.still = true
 |
  0,j=>by
  simp only [dsF]
  split <;> rfl
 |
  n + 1,j=>by
  simp only [dsF]
  split
  ·rfl
  ·exact dsF_still n j
theorem dsB_no {S : List Lk} (hb : lksOk S = true) (hB : dsB S = false) : ssB (imV S) (ivX S) = false ∨ (ssB (imV S) (ivX S) = true ∧ ssB (imV S) (ivY S) = false) ∨ (ssB (imV S) (ivX S) = true ∧ ssB (imV S) (ivY S) = true ∧ (ssX (imV S) (ivX S)).length ≠ (nodesM S).length):=by
 cases h1 : ssB (imV S) (ivX S)
 ·exact .inl rfl
 cases h2 : ssB (imV S) (ivY S)
 ·exact .inr (.inl ⟨rfl,rfl⟩)
 refine .inr (.inr ⟨rfl,rfl,fun e=>?_⟩)
 have e1:=ssX_len h1
 have l1 : (ivX S).length = (imV S).length:=by
  have h:=h1;unfold ssB at h;simp only [Bool.and_eq_true] at h;exact (ssC_ok h.1).2.1
 have l2 : (ivY S).length = (imV S).length:=by
  have h:=h2;unfold ssB at h;simp only [Bool.and_eq_true] at h;exact (ssC_ok h.1).2.1
 have : dsB S = true:=by
  unfold dsB dsC
  rw [hb,h1,h2,decide_eq_true (by omega),decide_eq_true (by omega),decide_eq_true (by omega)]
  rfl
 rw [this] at hB
 cases hB
theorem c_sDenseSolution {T : Nat → Option Fn} (h : D_spec_DenseSolution T) {S : List Lk} (hw : wfL Lk.wf S) (hl : S.length ≤ 1048576) : PF T 391 [lksV S] (.tup [ptsV (dsV S),.bool (dsB S)]):=by
 have ci:=c_sIsLinkSet h.d_spec_IsLinkSet hw
 obtain ⟨x,hb⟩ : ∃ x,lksOk S = x:=⟨_,rfl⟩
 rw [hb] at ci
 have hx : x = false ∨ x = true:=by cases x <;> simp
 rcases hx with hx | hx
 ·have hf : dsB S = false:=by unfold dsB dsC;rw [hb,hx];rfl
  rw [dsV_f hf,hf]
  refine pf_endL (fun _ _=>false) h.hT rfl rfl ?_
  dsimp only [F_spec_DenseSolution,oN,oS,oG,oK,oA,oH,oV,cI]
  refine ev ?_
  refine PFK_of ci ?_
  refine ev1 @hx ?_
  exact of_eq_true (by simp [LaxV,LaxL,LaxR])
 have hb : lksOk S = true:=by rw [hb,hx]
 have cn:=c_sNodesOfM h.d_spec_NodesOf hw hl
 have cm:=c_sInformationMatrix h.d_spec_InformationMatrix hw hl
 have cv:=c_sInformationVectors h.d_spec_InformationVectors hw hl
 have wm:=(imV_ok S).2
 have wx:=rs_wf (ivX_cn S).1.1 (by have:=(ivX_cn S).1.2;omega)
 have wy:=rs_wf (ivX_cn S).2.1 (by have:=(ivX_cn S).2.2;omega)
 have px:=c_sSolveSystem h.d_spec_SolveSystem (m:=imV S) (b:=ivX S) wm wx
 have py:=c_sSolveSystem h.d_spec_SolveSystem (m:=imV S) (b:=ivY S) wm wy
 have hnl:=nodesM_len S
 have c0:=c_sRatFromInt h.d_spec_RatFromInt (n:=0) (by omega)
 cases hB : dsB S
 ·rw [dsV_f hB]
  have hno:=dsB_no hb hB
  clear hB wm wx wy
  generalize ssX (imV S) (ivX S) = X at *
  generalize ssX (imV S) (ivY S) = Y at *
  obtain ⟨bx,hbx⟩ : ∃ b,ssB (imV S) (ivX S) = b:=⟨_,rfl⟩
  obtain ⟨b2,hby⟩ : ∃ b,ssB (imV S) (ivY S) = b:=⟨_,rfl⟩
  rw [hbx] at px hno
  rw [hby] at py hno
  generalize imV S = m at *
  generalize ivX S = vx at *
  generalize ivY S = vy at *
  generalize nodesM S = ns at *
  refine pf_endL (fun _ _=>false) h.hT rfl rfl ?_
  dsimp only [F_spec_DenseSolution,oN,oS,oG,oK,oA,oH,oV,cI]
  refine ev ?_
  refine PFK_of ci ?_
  refine ev1 @hx ?_
  refine PFK_of cm ?_
  refine ev ?_
  refine PFK_of cv ?_
  refine ev ?_
  refine PFK_of px ?_
  refine ev ?_
  refine PFK_of py ?_
  refine ev ?_
  refine PFK_of cn ?_
  rcases hno with h1 | ⟨h1,h2⟩ | ⟨h1,h2,h3⟩
  ·refine ev1 @h1 ?_
   exact of_eq_true (by simp [LaxV,LaxL,LaxR])
  ·refine ev2 @h1 @h2 ?_
   exact of_eq_true (by simp [LaxV,LaxL,LaxR])
  ·have h3' : ((X.length : Int) = (ns.length : Nat)) = False:=eq_false (by omega)
   refine ev3 @h1 @h2 @h3' ?_
   exact of_eq_true (by simp [LaxV,LaxL,LaxR])
 rw [dsV_t hB]
 have hB2:=hB
 unfold dsB at hB2
 simp only [Bool.and_eq_true] at hB2
 have lX:=ssX_len hB2.1.2
 have lY:=ssX_len hB2.2
 have hcc:=hB2.1.1
 unfold dsC at hcc
 simp only [Bool.and_eq_true,decide_eq_true_eq] at hcc
 have lm:=hcc.1.1.2
 have hH:=dsH_le S
 have hHl:=fun k (hk : k < (nodesM S).length)=>dsH_lt S hk
 unfold dsP
 have hrng:=fun i (hi : i < (nodesM S).length)=>nodesM_rng (l:=S) (getD_mem (l:=nodesM S) (i:=i) hi)
 obtain ⟨bx,hbx⟩ : ∃ b,ssB (imV S) (ivX S) = b:=⟨_,rfl⟩
 obtain ⟨b2,hby⟩ : ∃ b,ssB (imV S) (ivY S) = b:=⟨_,rfl⟩
 have fbx : bx = true:=by rw [← hbx];exact hB2.1.2
 have fby : b2 = true:=by rw [← hby];exact hB2.2
 rw [hbx] at px
 rw [hby] at py
 clear hbx hby hcc hB hB2 wm wx wy
 generalize ssX (imV S) (ivX S) = X at *
 generalize ssX (imV S) (ivY S) = Y at *
 generalize imV S = m at *
 generalize ivX S = vx at *
 generalize ivY S = vy at *
 generalize nodesM S = ns at *
 have hlX : X.length = ns.length:=by omega
 have hlY : Y.length = ns.length:=by omega
 have hlX' : ((X.length : Int) = (ns.length : Nat)) = True:=eq_true (by omega)
 refine pf_endL (fun x d=>x == 403) h.hT rfl rfl ?_
 dsimp only [F_spec_DenseSolution,oN,oS,oG,oK,oA,oH,oV,cI]
 refine ew ?_
 refine PFK_of ci ?_
 refine ew1 @hx ?_
 refine PFK_of cm ?_
 refine ew ?_
 refine PFK_of cv ?_
 refine ew ?_
 refine PFK_of px ?_
 refine ew ?_
 refine PFK_of py ?_
 refine ew ?_
 refine PFK_of cn ?_
 refine ew3 @fbx @fby @hlX' ?_
 refine PFK_of c0 ?_
 refine ew ?_
 refine PFK_of c0 ?_
 refine ew ?_
 refine loop_at (fun x d=>x == 403) (α:=Nat × Nat × Store × Nat) (fun q=>⟨argE [lksV S,.any,.any,.any,.any,.any,.any,ratsV X,.any,ratsV Y,.any,ints ns,.msl q.2.2.2 0 q.2.1,.any,.any,.any,.any,.any,.any,.any,.any,.any,.any,.any,.any,.any,.any,.any,.any,.any,.any,.any,.any,.any,.any,.any,.any,.any,.any,.any,.any,.any,.any,.any,.any,.any,.any,.any,.any,.any,.any,.any,.any,.any,.any,.any,ints ns,iv (ns.length : Nat),iv (q.1 : Nat)],q.2.2.1,0,0,[],[]⟩) (fun q=>(q.1 ≤ ns.length ∧ q.2.1 = dsH ns q.1) ∧ objAt q.2.2.1 q.2.2.2 = some ⟨6,(List.range (dsH ns q.1)).map (dsF ptz ns (⟨intR 0,intR 0⟩ : Pt).cells (fun i=>(X.getD i default).cells) (fun i=>(Y.getD i default).cells) q.1)⟩) (fun q=>ns.length - q.1) rfl (0,1,[some ⟨6,[(⟨intR 0,intR 0⟩ : Pt).cells]⟩],0) ?_ ?_ ?_
 ·exact ⟨⟨Nat.zero_le _,rfl⟩,rfl⟩
 ·(refine Fg_env ?_;exact fgW)
 ·rintro ⟨k,n1,u,p⟩ ⟨⟨hk,hn1⟩,hup⟩
  dsimp only at hk hn1 hup
  by_cases hck : (k : Int) < (ns.length : Nat)
  ·have hkl : k < ns.length:=by omega
   have hr:=hrng k hkl
   obtain ⟨v,hv⟩ : ∃ v : Nat,ns.getD k 0 = (v : Int):=⟨(ns.getD k 0).toNat,by rw [show ns.getD k default = ns.getD k 0 from rfl] at hr;omega⟩
   have hlo:=hHl k hkl
   have hHk:=hH k hk
   have hk1 : dsH ns (k + 1) = (ns.getD k default).toNat + 1:=rfl
   have hHk1:=(hH (k + 1) (by omega)).2
   rw [show ns.getD k default = (v : Int) from hv] at hk1 hlo
   rw [Int.toNat_natCast] at hk1
   refine ew2 @hck @hv ?_
   refine loop_at (fun x d=>x == 403) (α:=Nat × Store × Nat) (fun q=>⟨argE [lksV S,.any,.any,.any,.any,.any,.any,ratsV X,.any,ratsV Y,.any,ints ns,.msl q.2.2 0 q.1,iv (k : Nat),iv (v : Nat),.any,.any,.any,.any,.any,.any,.any,.any,.any,.any,.any,.any,.any,.any,.any,.any,.any,.any,.any,.any,.any,.any,.any,.any,.any,.any,.any,.any,.any,.any,.any,.any,.any,.any,.any,.any,.any,.any,.any,.any,.any,ints ns,iv (ns.length : Nat),iv (k : Nat)],q.2.1,0,0,[],[]⟩) (fun q=>(dsH ns k ≤ q.1 ∧ q.1 ≤ v) ∧ objAt q.2.1 q.2.2 = some ⟨6,(List.range q.1).map (dsF ptz ns (⟨intR 0,intR 0⟩ : Pt).cells (fun i=>(X.getD i default).cells) (fun i=>(Y.getD i default).cells) k)⟩) (fun q=>v - q.1) rfl (n1,u,p) ?_ ?_ ?_
   ·exact ⟨⟨by dsimp only;omega,by dsimp only;omega⟩,by rw [hn1];exact hup⟩
   ·(refine Fg_env ?_;exact fgW)
   ·clear hup
    rintro ⟨a,w,q⟩ ⟨ha,hq⟩
    dsimp only at ha hq
    have hql:=objAt_lt hq
    by_cases hca : (a : Int) < (v : Nat)
    ·have hs:=map_range_s (dsF ptz ns (⟨intR 0,intR 0⟩ : Pt).cells (fun i=>(X.getD i default).cells) (fun i=>(Y.getD i default).cells) k) a
     rw [dsF_hi hHl k hk a ha.1] at hs
     have hrl : ((List.range a).map (dsF ptz ns (⟨intR 0,intR 0⟩ : Pt).cells (fun i=>(X.getD i default).cells) (fun i=>(Y.getD i default).cells) k)).length = a:=by simp
     have hst : stillR ((List.range a).map (dsF ptz ns (⟨intR 0,intR 0⟩ : Pt).cells (fun i=>(X.getD i default).cells) (fun i=>(Y.getD i default).cells) k)):=by
      intro r hr v hv
      obtain ⟨j,_,rfl⟩:=List.mem_map.1 hr
      exact List.all_eq_true.1 (dsF_still k j) v hv
     generalize (List.range a).map (dsF ptz ns (⟨intR 0,intR 0⟩ : Pt).cells (fun i=>(X.getD i default).cells) (fun i=>(Y.getD i default).cells) k) = rows at *
     refine ew2 @hca @hq ?_
     refine ⟨⟨by omega,by omega⟩,?_⟩
     refine ⟨(a + 1,?st,w.length + 1),?c1,⟨⟨?c2,?c5⟩,?c4⟩,?c3⟩
     case c3 =>
      rw [hrl]
      dsimp only
      (refine Fg_env ?_;exact fgW)
     case c1=>dsimp only;omega
     case c2=>dsimp only;omega
     case c5=>dsimp only;omega
     case c4 =>
      dsimp only
      rw [hs]
      exact objAt_seteq (by simp)
    ·have hea : a = v:=by omega
     subst hea
     have hs:=dsF_lo (n0:=ptz) (z:=(⟨intR 0,intR 0⟩ : Pt).cells) (cx:=fun i=>(X.getD i default).cells) (cy:=fun i=>(Y.getD i default).cells) (show ns.getD k default = (a : Int) from hv)
     have hrl : ((List.range a).map (dsF ptz ns (⟨intR 0,intR 0⟩ : Pt).cells (fun i=>(X.getD i default).cells) (fun i=>(Y.getD i default).cells) k)).length = a:=by simp
     have hkX : (k : Int) < (X.length : Nat):=by omega
     have hkY : (k : Int) < (Y.length : Nat):=by omega
     have mX : (X.map R.cells).getD k [] = (X.getD k default).cells:=mg (by omega)
     have mY : (Y.map R.cells).getD k [] = (Y.getD k default).cells:=mg (by omega)
     generalize (List.range a).map (dsF ptz ns (⟨intR 0,intR 0⟩ : Pt).cells (fun i=>(X.getD i default).cells) (fun i=>(Y.getD i default).cells) k) = rows at *
     refine ew3 @hca @hq (And.intro mX mY) ?_
     refine ⟨⟨by omega,by omega⟩,?_,?_⟩
     ·exact OkA_all3 (aF:=fun q n n1=>[{ i:=12,R:=[],W:=[] },{ i:=11,R:=[q,n],W:=[q,n1] },{ i:=10,R:=[],W:=[n] },{ i:=9,R:=[],W:=[] },{ i:=8,R:=[],W:=[] },{ i:=7,R:=[],W:=[] },{ i:=6,R:=[],W:=[] },{ i:=5,R:=[],W:=[] },{ i:=4,R:=[],W:=[] },{ i:=3,R:=[],W:=[] },{ i:=2,R:=[],W:=[] },{ i:=1,R:=[],W:=[] },{ i:=0,R:=[],W:=[] }]) q w.length (w.length + 1) (w.length + 1 + 1) (nd3 (by omega) (by omega) (by omega)) (lt3 (by omega) (by omega) (by omega)) (fun _ _ _ _=>rfl) (by unfold OkA;rfl)
     refine ⟨(k + 1,a + 1,?st2,w.length + 1),?c1,⟨⟨?c2,?c5⟩,?c4⟩,?c3⟩
     case c3 =>
      rw [hrl]
      dsimp only
      (refine Fg_env ?_;exact fgW)
     case c1=>dsimp only;omega
     case c2=>dsimp only;omega
     case c5=>dsimp only;omega
     case c4 =>
      dsimp only
      rw [hk1,hs]
      exact objAt_seteq (by simp)
  ·have hke : k = ns.length:=by omega
   subst hke
   subst hn1
   have hr : ∀ σ : Store,resO1 σ 0 (dsH ns ns.length) (some ⟨6,(List.range (dsH ns ns.length)).map (dsF ptz ns (⟨intR 0,intR 0⟩ : Pt).cells (fun i=>(X.getD i default).cells) (fun i=>(Y.getD i default).cells) ns.length)⟩) = some (.sl 6 ((List.range (dsH ns ns.length)).map (dsF ptz ns (⟨intR 0,intR 0⟩ : Pt).cells (fun i=>(X.getD i default).cells) (fun i=>(Y.getD i default).cells) ns.length))):=fun σ=>by
    have:=resO1_st (σ:=σ) (n:=6) (s:=0) (l:=dsH ns ns.length) (rows:=(List.range (dsH ns ns.length)).map (dsF ptz ns (⟨intR 0,intR 0⟩ : Pt).cells (fun i=>(X.getD i default).cells) (fun i=>(Y.getD i default).cells) ns.length)) (by
     intro r hr v hv
     obtain ⟨j,_,rfl⟩:=List.mem_map.1 hr
     exact List.all_eq_true.1 (dsF_still _ j) v hv) (by simp)
    rw [List.drop_zero,List.take_of_length_le (by simp)] at this
    exact this
   refine ew3 @hck @hup @hr ?_
   exact dsV_lax
def F_laws_heldPointS : Fn:=⟨2,81,[.tmp 4],(.seq (.reg false 0 [oN 4 (.mov (cI 0))]) (.seq (.seq (.reg false 0 [oN 5 (.mov (cI 0))]) (.block 0 (.loop (.seq (.seq (.reg false 0 [oN 6 (oV 5),oN 7 (oV 0),oN 8 (.len (.t 7)),oN 9 (.bin .lss (.t 6) (.t 8))]) (.cond (.t 9) .skip (.exit 0))) (.seq (.block 1 (.seq (.seq (.reg false 0 [oN 12 (oV 0),oN 13 (oV 5),oN 14 (.idx 6 (.t 12) (.t 13)),oN 15 (.fld 0 (.t 14)),oN 16 (.fld 0 (.t 15)),oN 17 (.fld 0 (.t 16)),oN 18 (.load 1 false (.t 17)),oN 19 (oV 1),oN 20 (.bin .rem (.t 19) (cI 3)),oN 21 (.bin .eql (.t 20) (cI 0)),oN 22 (.beq true (.t 18) (.t 21))]) (.cond (.t 22) (.seq (.reg false 0 [oN 4 (.mov (cI (-1)))]) .ret) .skip)) (.seq (.reg false 0 [oN 23 (oV 1),oN 24 (.bin .add (.t 23) (cI 1)),oN 1 (oV 24)]) (.seq (.reg false 0 [oN 25 (oV 0),oN 26 (oV 5),oN 27 (.idx 6 (.t 25) (.t 26)),oN 28 (.fld 0 (.t 27)),oN 29 (.fld 0 (.t 28)),oN 30 (.fld 1 (.t 29)),oN 31 (.load 1 false (.t 30)),oN 32 (oV 1),oN 33 (.call 59 [(.t 31),(.t 32)]),oN 1 (oV 33)]) (.seq (.seq (.reg false 0 [oN 34 (oV 1),oN 35 (.bin .lss (.t 34) (cI 0))]) (.cond (.t 35) (.seq (.reg false 0 [oN 4 (.mov (cI (-1)))]) .ret) .skip)) (.seq (.reg false 0 [oN 36 (oV 0),oN 37 (oV 5),oN 38 (.idx 6 (.t 36) (.t 37)),oN 39 (.fld 0 (.t 38)),oN 40 (.fld 2 (.t 39)),oN 41 (.load 1 false (.t 40)),oN 42 (oV 1),oN 43 (.call 59 [(.t 41),(.t 42)]),oN 1 (oV 43)]) (.seq (.seq (.reg false 0 [oN 44 (oV 1),oN 45 (.bin .lss (.t 44) (cI 0))]) (.cond (.t 45) (.seq (.reg false 0 [oN 4 (.mov (cI (-1)))]) .ret) .skip)) (.seq (.seq (.reg false 0 [oN 46 (oV 0),oN 47 (oV 5),oN 48 (.idx 6 (.t 46) (.t 47)),oN 49 (.fld 3 (.t 48)),oN 50 (.fld 0 (.t 49)),oN 51 (.fld 0 (.t 50)),oN 52 (.load 1 false (.t 51)),oN 53 (oV 1),oN 54 (.bin .rem (.t 53) (cI 3)),oN 55 (.bin .eql (.t 54) (cI 0)),oN 56 (.beq true (.t 52) (.t 55))]) (.cond (.t 56) (.seq (.reg false 0 [oN 4 (.mov (cI (-1)))]) .ret) .skip)) (.seq (.reg false 0 [oN 57 (oV 1),oN 58 (.bin .add (.t 57) (cI 1)),oN 1 (oV 58)]) (.seq (.reg false 0 [oN 59 (oV 0),oN 60 (oV 5),oN 61 (.idx 6 (.t 59) (.t 60)),oN 62 (.fld 3 (.t 61)),oN 63 (.fld 0 (.t 62)),oN 64 (.fld 1 (.t 63)),oN 65 (.load 1 false (.t 64)),oN 66 (oV 1),oN 67 (.call 59 [(.t 65),(.t 66)]),oN 1 (oV 67)]) (.seq (.seq (.reg false 0 [oN 68 (oV 1),oN 69 (.bin .lss (.t 68) (cI 0))]) (.cond (.t 69) (.seq (.reg false 0 [oN 4 (.mov (cI (-1)))]) .ret) .skip)) (.seq (.reg false 0 [oN 70 (oV 0),oN 71 (oV 5),oN 72 (.idx 6 (.t 70) (.t 71)),oN 73 (.fld 3 (.t 72)),oN 74 (.fld 2 (.t 73)),oN 75 (.load 1 false (.t 74)),oN 76 (oV 1),oN 77 (.call 59 [(.t 75),(.t 76)]),oN 1 (oV 77)]) (.seq (.reg false 0 [oN 78 (oV 1),oN 79 (.bin .lss (.t 78) (cI 0))]) (.cond (.t 79) (.seq (.reg false 0 [oN 4 (.mov (cI (-1)))]) .ret) .skip)))))))))))))) (.reg false 0 [oN 10 (oV 5),oN 11 (.bin .add (.t 10) (cI 1)),oN 5 (oV 11)])))))) (.seq (.reg false 0 [oN 80 (oV 1),oN 4 (oV 80)]) .ret)))⟩
structure D_laws_heldPointS (T : Nat → Option Fn) : Prop where
 hT : T 386 = some F_laws_heldPointS
 d_laws_heldIntS : D_laws_heldIntS T
theorem c_heldPointS {T : Nat → Option Fn} (h : D_laws_heldPointS T) {l : List Pt} {k : Int} (hl : szL Pt.sz l ≤ 1000000000:=by first | omega | assumption | (simp;omega)) (hk : 0 ≤ k ∧ k + cnL Pt.ct l l.length ≤ 1000000000000:=by first | omega | assumption | (simp;omega)) :
  PF T 386 [ptsV (mkL Pt.mk3 Pt.ct k l),iv k] (iv (k + cnL Pt.ct l l.length)):=by
 have hll : l.length ≤ 1000000000:=by unfold szL at hl;omega
 have hml:=mkL_len Pt.mk3 Pt.ct k l
 refine pf_end (fun _ _=>false) h.hT rfl rfl ?_
 dsimp only [F_laws_heldPointS,oN,oS,oG,oK,oA,oH,oV,cI]
 refine ev ?_
 refine loop_at (fun _ _=>false) (α:=Nat) (fun i=>⟨argE [ptsV (mkL Pt.mk3 Pt.ct k l),iv (k + cnL Pt.ct l i),.any,.any,.any,iv (i : Nat)],[],0,0,[],[]⟩) (fun i=>i ≤ l.length) (fun i=>l.length - i) rfl 0 ?_ ?_ ?_
 ·omega
 ·(refine Fg_env ?_) <;> (try (refine ev1 @cnL_0 ?_)) <;> (repeat' (first | refine ⟨?_,?_⟩ | exact EvV_int (by omega) | exact EvV_of (by simp) | exact EvV_nil _))
 ·intro i hi
  refine ev1 @hml ?_
  refine brK_dec (fun hc=>?_) fun hc=>?_
  ·have hil : i < l.length:=by omega
   have hrow:=(mg (f:=Pt.cells) (show i < (mkL Pt.mk3 Pt.ct k l).length by omega)).trans (congrArg Pt.cells (mkL_at Pt.mk3 Pt.ct k l i hil))
   obtain ⟨x,hx⟩ : ∃ x,l.getD i default = x:=⟨_,rfl⟩
   have hcn:=cnL_s Pt.ct l hil
   have hcl:=cnL_le Pt.ct l (i:=i + 1) hil
   have hxs : Pt.sz x ≤ 1000000000:=by
    have:=szL_at Pt.sz hil
    rw [hx] at this
    omega
   rw [hx] at hcn hrow
   rw [hcn] at hcl
   have hct : Pt.ct x = 1 + x.x.mag.length + x.x.den.length + 1 + x.y.mag.length + x.y.den.length:=rfl
   obtain ⟨kk,hkk⟩ : ∃ kk,k + (cnL Pt.ct l i : Int) = kk:=⟨_,rfl⟩
   rw [hkk] at hrow
   have hrow : (List.map Pt.cells (mkL Pt.mk3 Pt.ct k l)).getD i [] = [.bool (decide ((kk).tmod 3 = 0)),ints (cnt x.x.mag.length (kk + 1)),ints (cnt x.x.den.length (kk + 1 + x.x.mag.length)),.bool (decide ((kk + 1 + x.x.mag.length + x.x.den.length).tmod 3 = 0)),ints (cnt x.y.mag.length (kk + 1 + x.x.mag.length + x.x.den.length + 1)),ints (cnt x.y.den.length (kk + 1 + x.x.mag.length + x.x.den.length + 1 + x.y.mag.length))]:=hrow
   simp only [Pt.sz,R.sz] at hxs
   refine ev4 @hc @hrow @hkk @hml ?_
   refine PFK_of (c_heldIntS h.d_laws_heldIntS (n:=x.x.mag.length) (k:=kk + 1) (by omega) (by omega)) ?_
   refine ev2 @hrow @hml ?_
   refine brK_dec (fun hc=>absurd hc (by omega)) fun _=>?_
   refine ev2 @hrow @hml ?_
   refine PFK_of (c_heldIntS h.d_laws_heldIntS (n:=x.x.den.length) (k:=kk + 1 + x.x.mag.length) (by omega) (by omega)) ?_
   refine ev2 @hrow @hml ?_
   refine brK_dec (fun hc=>absurd hc (by omega)) fun _=>?_
   refine ev2 @hrow @hml ?_
   refine PFK_of (c_heldIntS h.d_laws_heldIntS (n:=x.y.mag.length) (k:=kk + 1 + x.x.mag.length + x.x.den.length + 1) (by omega) (by omega)) ?_
   refine ev2 @hrow @hml ?_
   refine brK_dec (fun hc=>absurd hc (by omega)) fun _=>?_
   refine ev2 @hrow @hml ?_
   refine PFK_of (c_heldIntS h.d_laws_heldIntS (n:=x.y.den.length) (k:=kk + 1 + x.x.mag.length + x.x.den.length + 1 + x.y.mag.length) (by omega) (by omega)) ?_
   refine ev2 @hrow @hml ?_
   refine brK_dec (fun hc=>absurd hc (by omega)) fun _=>?_
   refine ev2 @hrow @hml ?_
   exact ⟨i + 1,by omega,by omega,by (refine Fg_env ?_;exact fgV)⟩
  ·have : i = l.length:=by omega
   subst this
   (refine ev1 @hc ?_;try with_reducible exact True.intro)
theorem cnL_bd {α : Type} {c f : α → Nat} {K : Nat} (h : ∀ x,c x ≤ K * (1 + f x)) (l : List α) : cnL c l l.length ≤ K * szL f l:=by
 unfold cnL szL
 rw [List.take_length]
 induction l with
 | nil=>simp
 |
  cons x l ih =>
  rw [List.map_cons,List.sum_cons,List.map_cons,List.sum_cons,List.length_cons]
  have:=h x
  rw [show l.length + 1 + (f x + (l.map f).sum) = (1 + f x) + (l.length + (l.map f).sum) by omega,Nat.mul_add]
  omega
theorem cb_Pt (x : Pt) : Pt.ct x ≤ 5 * (1 + x.sz):=by unfold Pt.ct Pt.sz R.sz;omega
theorem cb_Lk (x : Lk) : Lk.ct x ≤ 5 * (1 + x.sz):=by unfold Lk.ct Lk.sz R.sz;omega
theorem cb_PointS (l : List Pt) : cnL Pt.ct l l.length ≤ 5 * szL Pt.sz l:=cnL_bd cb_Pt l
theorem cb_LinkS (l : List Lk) : cnL Lk.ct l l.length ≤ 5 * szL Lk.sz l:=cnL_bd cb_Lk l
def F_laws_FnExactDenseSolution : Fn:=⟨1,96,[.tmp 2],(.seq (.reg false 0 [oN 2 (.mov (.c (.bool false)))]) (.seq (.reg false 0 [oN 3 (.mov (cI 1048576))]) (.seq (.reg false 0 [oN 14 (oV 0),oN 15 (oV 3),oN 16 (.call 19 [(.t 14),(.t 15)]),oN 3 (oV 16)]) (.seq (.seq (.reg false 0 [oN 17 (oV 3),oN 18 (.bin .lss (.t 17) (cI 0))]) (.cond (.t 18) (.seq (.reg false 0 [oN 2 (.mov (.c (.bool true)))]) .ret) .skip)) (.seq (.reg false 0 [oN 20 (oV 0),oN 21 (.call 21 [(.t 20)]),oN 22 (.call 391 [(.t 21)]),oN 19 (oV 22),oN 23 (.extr 0 (.t 19)),oN 24 (.extr 1 (.t 19)),oN 4 (oV 23),oN 5 (oV 24)]) (.seq (.reg false 0 [oN 25 (oV 0),oN 26 (.call 21 [(.t 25)]),oN 6 (oV 26)]) (.seq (.reg false 0 [oN 28 (oV 6),oN 29 (.call 269 [(.t 28)]),oN 27 (oV 29),oN 30 (.extr 0 (.t 27)),oN 31 (.extr 1 (.t 27)),oN 7 (oV 30),oN 8 (oV 31)]) (.seq (.seq (.reg false 0 [oN 32 (oV 7),oN 33 (oV 4),oN 34 (.call 13 [(.t 32),(.t 33)]),oN 35 (.un .not (.t 34)),oN 36 (oV 35),oG 36 false 37 (oV 8),oG 36 false 38 (oV 5),oG 36 false 39 (.beq true (.t 37) (.t 38)),oN 40 (.pick (.t 36) (.c (.bool true)) (.t 39))]) (.cond (.t 40) (.seq (.reg false 0 [oN 2 (.mov (.c (.bool false)))]) .ret) .skip)) (.seq (.seq (.reg false 0 [oN 41 (oV 6),oN 42 (oV 0),oN 43 (.call 21 [(.t 42)]),oN 44 (.call 23 [(.t 41),(.t 43)]),oN 45 (.un .not (.t 44))]) (.cond (.t 45) (.seq (.reg false 0 [oN 2 (.mov (.c (.bool false)))]) .ret) .skip)) (.seq (.reg false 0 [oN 9 (.mov (cI 1))]) (.seq (.reg false 0 [oN 46 (oV 6),oN 47 (oV 9),oN 48 (.call 118 [(.t 46),(.t 47)]),oN 9 (oV 48)]) (.seq (.seq (.reg false 0 [oN 49 (oV 9),oN 50 (.bin .lss (.t 49) (cI 0)),oN 51 (oV 50),oG 51 false 52 (oV 7),oG 51 false 53 (oV 4),oG 51 false 54 (.call 13 [(.t 52),(.t 53)]),oG 51 false 55 (.un .not (.t 54)),oN 56 (.pick (.t 51) (.c (.bool true)) (.t 55)),oN 57 (oV 56),oG 57 false 58 (oV 8),oG 57 false 59 (oV 5),oG 57 false 60 (.beq true (.t 58) (.t 59)),oN 61 (.pick (.t 57) (.c (.bool true)) (.t 60))]) (.cond (.t 61) (.seq (.reg false 0 [oN 2 (.mov (.c (.bool false)))]) .ret) .skip)) (.seq (.reg false 0 [oN 10 (.mov (cI 1))]) (.seq (.reg false 0 [oN 62 (oV 7),oN 63 (oV 10),oN 64 (.call 334 [(.t 62),(.t 63)]),oN 10 (oV 64)]) (.seq (.reg false 0 [oN 11 (.mov (cI 1))]) (.seq (.reg false 0 [oN 65 (oV 7),oN 66 (oV 11),oN 67 (.call 386 [(.t 65),(.t 66)]),oN 11 (oV 67)]) (.seq (.seq (.reg false 0 [oN 68 (oV 11),oN 69 (.bin .lss (.t 68) (cI 0))]) (.cond (.t 69) (.seq (.reg false 0 [oN 2 (.mov (.c (.bool false)))]) .ret) .skip)) (.seq (.seq (.reg false 0 [oN 70 (oV 11),oN 71 (oV 10),oN 72 (.bin .neq (.t 70) (.t 71))]) (.cond (.t 72) (.seq (.reg false 0 [oN 2 (.mov (.c (.bool false)))]) .ret) .skip)) (.seq (.reg false 0 [oN 74 (oV 0),oN 75 (.call 21 [(.t 74)]),oN 76 (.call 269 [(.t 75)]),oN 73 (oV 76),oN 77 (.extr 0 (.t 73)),oN 78 (.extr 1 (.t 73)),oN 12 (oV 77),oN 13 (oV 78)]) (.seq (.seq (.reg false 0 [oN 79 (oV 12),oN 80 (oV 4),oN 81 (.call 13 [(.t 79),(.t 80)]),oN 82 (.un .not (.t 81)),oN 83 (oV 82),oG 83 false 84 (oV 13),oG 83 false 85 (oV 5),oG 83 false 86 (.beq true (.t 84) (.t 85)),oN 87 (.pick (.t 83) (.c (.bool true)) (.t 86))]) (.cond (.t 87) (.seq (.reg false 0 [oN 2 (.mov (.c (.bool false)))]) .ret) .skip)) (.seq (.reg false 0 [oN 11 (.mov (cI 1))]) (.seq (.reg false 0 [oN 88 (oV 7),oN 89 (oV 11),oN 90 (.call 386 [(.t 88),(.t 89)]),oN 11 (oV 90)]) (.seq (.seq (.reg false 0 [oN 91 (oV 11),oN 92 (.bin .lss (.t 91) (cI 0))]) (.cond (.t 92) (.seq (.reg false 0 [oN 2 (.mov (.c (.bool false)))]) .ret) .skip)) (.seq (.seq (.reg false 0 [oN 93 (oV 11),oN 94 (oV 10),oN 95 (.bin .neq (.t 93) (.t 94))]) (.cond (.t 95) (.seq (.reg false 0 [oN 2 (.mov (.c (.bool false)))]) .ret) .skip)) (.seq (.reg false 0 [oN 2 (.mov (.c (.bool true)))]) .ret)))))))))))))))))))))))))⟩
structure D_laws_FnExactDenseSolution (T : Nat → Option Fn) : Prop where
 hT : T 380 = some F_laws_FnExactDenseSolution
 d_laws_eqPointS : D_laws_eqPointS T
 d_laws_szLinkS : D_laws_szLinkS T
 d_laws_toLinkS : D_laws_toLinkS T
 d_laws_eqLinkS : D_laws_eqLinkS T
 d_laws_markLinkS : D_laws_markLinkS T
 d_impl_DenseSolution : D_impl_DenseSolution T
 d_laws_markPointS : D_laws_markPointS T
 d_laws_heldPointS : D_laws_heldPointS T
 d_spec_DenseSolution : D_spec_DenseSolution T
theorem c_lawFnExactDenseSolution {T : Nat → Option Fn} (h : D_laws_FnExactDenseSolution T) (a : List Lk) (wa : (wfL Lk.wf) a) : PF T 380 [lksV a] (.bool true):=by
 refine PO.frz ?_ (dep_bool 11 _)
 refine po_end2 (fun x d=>(x == 21 && d == 26) || (x == 269 && d == 29) || (x == 118 && d == 48) || (x == 334 && d == 64)) h.hT rfl rfl ?_
 dsimp only [F_laws_FnExactDenseSolution,oN,oS,oG,oK,oA,oH,oV,cI,St.enter,List.length_cons,List.length_nil,Nat.zero_add]
 refine ew ?_
 refine PFK_of (c_szLinkS h.d_laws_szLinkS (l:=a) wa ⟨by omega,by omega⟩) ?_
 refine ew ?_
 have ka:=@szr_le (1048576) (szL Lk.sz a)
 refine brK_dec (fun hba=>?_) fun hba=>?_
 ·refine ew ?_
  exact fin_bool
 have sa:=szr_nlt hba
 refine ew ?_
 have za : szL Lk.sz a ≤ 1048576:=by omega
 have sl : a.length ≤ 1048576:=by have:=szL_eq Lk.sz a;omega
 have hcn:=dsV_ok a
 have zr:=hcn.1
 have wr:=hcn.2
 have:=cb_LinkS a
 have:=cb_PointS (dsV a)
 have PI:=po_iDenseSolution h.d_impl_DenseSolution wa sl
 refine PFK_of (c_toLinkS h.d_laws_toLinkS (l:=a) za) ?_
 refine ew ?_
 refine PFK_of (c_sDenseSolution h.d_spec_DenseSolution wa sl) ?_
 refine ew ?_
 refine RefK_got (po_toLinkS h.d_laws_toLinkS (l:=a) za) (by (refine ew ?_;try with_reducible exact True.intro)) ?_
 intro x0 q1 o1 G
 have hO:=G.ow
 have gn:=G.nd
 have gf:=G.fresh
 have go:=G.old
 have gl:=G.len
 clear G
 have E : Ep ([] : Store) [] [] [] []:=⟨cs_nil,by simp [objAt]⟩
 have E2:=E.got (s1:=([] : Store)) (fun _ _=>rfl) (by simp) (owL_1 hO) (by first | exact gn | simpa using gn) (by first | exact gf | simpa using gf) (by first | exact go | simpa using go)
 have hq : ([] : Store).length + 0 ≤ q1.length:=by first | exact gl | simpa using gl
 clear E gn gf go gl
 have E : Ep q1 [x0] [lksV a] _ []:=E2
 clear E2
 have Rf:=And.intro (E.res 0 rfl rfl (dep_lks _ _)) (fun x=>(E.snoc (x:=x)).res 0 rfl rfl (dep_lks _ _))
 have LF:=E.leaf 0 rfl rfl
 refine ew4 @Rf @LF @numK_any @or_sc ?_
 refine RefK_got (PI) (by (refine ew4 @Rf @LF @numK_any @or_sc ?_;try with_reducible exact True.intro)) ?_
 intro r q2 o2 G
 have hO:=G.ow
 have gn:=G.nd
 have gf:=G.fresh
 have go:=G.old
 have gl:=G.len
 clear G
 obtain ⟨_,rfl,hO0⟩:=hO.tup_inv
 obtain ⟨g0,_,u2_1,v2_1,rfl,rfl,hP2_1,hO2_1⟩:=hO0.inv
 obtain ⟨_,rfl,hO2_2⟩:=hO2_1.bool_inv
 obtain ⟨rfl,rfl⟩:=hO2_2.nil_inv
 simp only [List.append_nil,List.nil_append] at gn gf
 have E2:=E.got (s1:=q1) (fun _ _=>rfl) (by simp) (owL_1 hP2_1) (by first | exact gn | simpa using gn) (by first | exact gf | simpa using gf) (by first | exact go | simpa using go)
 have hq : q1.length + 0 ≤ q2.length:=by first | exact gl | simpa using gl
 clear E gn gf go gl
 have E : Ep q2 [x0,g0] [lksV a,ptsV (dsV a)] _ []:=E2
 clear E2
 replace Rf:=And.intro (E.res 0 rfl rfl (dep_lks _ _)) (And.intro (fun x=>(E.snoc (x:=x)).res 0 rfl rfl (dep_lks _ _)) (And.intro (E.res 1 rfl rfl (dep_pts _ _)) (fun x=>(E.snoc (x:=x)).res 1 rfl rfl (dep_pts _ _))))
 replace LF:=And.intro (E.leaf 0 rfl rfl) (E.leaf 1 rfl rfl)
 refine ew4 @Rf @LF @numK_any @or_sc ?_
 refine PFK_of (c_eqPointS h.d_laws_eqPointS (a:=(dsV a)) (b:=(dsV a)) wr wr) ?_
 refine ew4 @Rf @LF @numK_any @or_sc ?_
 refine PFK_of (c_toLinkS h.d_laws_toLinkS (l:=a) za) ?_
 refine ew4 @Rf @LF @numK_any @or_sc ?_
 refine PFK_of (c_eqLinkS h.d_laws_eqLinkS (a:=a) (b:=a) wa wa) ?_
 refine ew4 @Rf @LF @numK_any @or_sc ?_
 have hk0 : ¬ ((1 + cnL Lk.ct a a.length : Int) < 0):=by omega
 obtain ⟨s3,hr,E2,hl⟩:=E.call 0 (mk_markLinkS h.d_laws_markLinkS (l:=a) (k:=1) (by first | omega | (constructor <;> omega)) (by first | omega | (constructor <;> omega))) rfl rfl
 refine RefK_mk hr rfl hl (by simp) ?_
 clear hr hl E Rf LF
 have E : Ep s3 [x0,g0] [lksV (mkL Lk.mk3 Lk.ct 1 a),ptsV (dsV a)] _ []:=E2
 clear E2
 have Rf:=And.intro (E.res 0 rfl rfl (dep_lks _ _)) (And.intro (fun x=>(E.snoc (x:=x)).res 0 rfl rfl (dep_lks _ _)) (And.intro (E.res 1 rfl rfl (dep_pts _ _)) (fun x=>(E.snoc (x:=x)).res 1 rfl rfl (dep_pts _ _))))
 have LF:=And.intro (E.leaf 0 rfl rfl) (E.leaf 1 rfl rfl)
 refine ew5 @Rf @LF @numK_any @or_sc @hk0 ?_
 refine PFK_of (c_eqPointS h.d_laws_eqPointS (a:=(dsV a)) (b:=(dsV a)) wr wr) ?_
 refine ew5 @Rf @LF @numK_any @or_sc @hk0 ?_
 obtain ⟨s4,hr,E2,hl⟩:=E.call 1 (mk_markPointS h.d_laws_markPointS (l:=(dsV a)) (k:=1) (by first | omega | (constructor <;> omega)) (by first | omega | (constructor <;> omega))) rfl rfl
 refine RefK_mk hr rfl hl (by simp) ?_
 clear hr hl E Rf LF
 have E : Ep s4 [x0,g0] [lksV (mkL Lk.mk3 Lk.ct 1 a),ptsV (mkL Pt.mk3 Pt.ct 1 (dsV a))] _ []:=E2
 clear E2
 have Rf:=And.intro (E.res 0 rfl rfl (dep_lks _ _)) (And.intro (fun x=>(E.snoc (x:=x)).res 0 rfl rfl (dep_lks _ _)) (And.intro (E.res 1 rfl rfl (dep_pts _ _)) (fun x=>(E.snoc (x:=x)).res 1 rfl rfl (dep_pts _ _))))
 have LF:=And.intro (E.leaf 0 rfl rfl) (E.leaf 1 rfl rfl)
 refine ew4 @Rf @LF @numK_any @or_sc ?_
 refine PFK_of (c_heldPointS h.d_laws_heldPointS (l:=(dsV a)) (k:=1) (by first | omega | (constructor <;> omega)) (by first | omega | (constructor <;> omega))) ?_
 refine ew4 @Rf @LF @numK_any @or_sc ?_
 refine brK_dec (fun hc=>absurd hc (by first | omega | (constructor <;> omega))) fun _=>?_
 refine ew4 @Rf @LF @numK_any @or_sc ?_
 refine PFK_of (c_toLinkS h.d_laws_toLinkS (l:=a) za) ?_
 refine ew4 @Rf @LF @numK_any @or_sc ?_
 refine PFK_of (PI.frz (by exact dep_tup2 (dep_pts _ _) (dep_bool _ _))) ?_
 refine ew4 @Rf @LF @numK_any @or_sc ?_
 refine PFK_of (c_eqPointS h.d_laws_eqPointS (a:=(dsV a)) (b:=(dsV a)) wr wr) ?_
 refine ew4 @Rf @LF @numK_any @or_sc ?_
 refine PFK_of (c_heldPointS h.d_laws_heldPointS (l:=(dsV a)) (k:=1) (by first | omega | (constructor <;> omega)) (by first | omega | (constructor <;> omega))) ?_
 refine ew4 @Rf @LF @numK_any @or_sc ?_
 refine brK_dec (fun hc=>absurd hc (by first | omega | (constructor <;> omega))) fun _=>?_
 refine ew4 @Rf @LF @numK_any @or_sc ?_
 exact fin_bool
def OutOk (P : Program) (fid : Nat) (o : OutF) : Prop :=
 ∀ args σ r σ',o.sem args σ r σ' → ∀ w M D (vals : Array Value),rdL w D (XS M D) args vals.toList → SRel w D M σ → Calls P fid vals w (Post M D w σ.length r σ')
def Fits (P : Program) (ν : Nat → Option Nat) (T : Nat → Option Fn) : Prop :=
 ∀ fid f F,ν fid = some f → T f = some F → (∃ fn,P.funcs[fid]? = some fn ∧ trFn P ν fn = some F) ∨ ∃ o,F.body = .lib o ∧ OutOk P fid o
theorem no_lib {T : Nat → Option Fn} {j : Job} {x : Out} (h : Run T j x) : ∀ o st,j ≠ .code (.lib o) st:=by
 induction h with
 | gc ρ hn hρ h ih=>intro o st e;cases e;exact ih o _ rfl
 | forget he ho hk h ih=>intro o st e;cases e;exact ih o _ rfl
 | re W h h' ih=>intro o st e;cases e;exact ih o _ rfl
 | _=>intro o st e;cases e
theorem trC_lib {P : Program} {ν : Nat → Option Nat} {nt : Nat} {o : OutF} : ∀ c : Code,trC P ν nt c ≠ some (.lib o):=by
 intro c h
 unfold trC at h
 cases c <;> simp at h
 all_goals (try (split at h <;> simp at h))
theorem trFn_lib {P : Program} {ν : Nat → Option Nat} {fn : Func} {F : Fn} {o : OutF} (h : trFn P ν fn = some F) (hb : F.body = .lib o) : False:=by
 unfold trFn at h
 split at h <;> first | (cases h;done) | skip
 split at h <;> first | (cases h;done) | skip
 rename_i b rs' hb' hrs'
 split at h <;> first | (cases h;done) | skip
 simp only [Option.some.injEq] at h
 subst h
 simp only [] at hb
 subst hb
 exact trC_lib _ hb'
section
variable {P : Program} {ν : Nat → Option Nat} {T : Nat → Option Fn}
theorem okK_cons {m : Nat} {x : OpI} {l : List OpI} (h : okK m (x :: l) = true) : okK m l = true ∧ ∀ y ∈ l,y.i.makes = true → y.k ≠ x.k ∧ y.k < m:=by
 have hm : ∀ (l : List OpI),okK m l = true → ∀ y ∈ l,y.i.makes = true → y.k < m:=by
  intro l
  induction l with
  | nil=>intro _ y hy;cases hy
  |
   cons z l ih =>
   intro h y hy hmk
   simp only [okK,Bool.and_eq_true] at h
   rcases List.mem_cons.1 hy with rfl | hy
   ·have:=h.1
    rw [if_pos hmk] at this
    simp only [Bool.and_eq_true,decide_eq_true_eq] at this
    exact this.1
   ·exact ih h.2 y hy hmk
 simp only [okK,Bool.and_eq_true] at h
 refine ⟨h.2,fun y hy hmk=>⟨?_,hm l h.2 y hy hmk⟩⟩
 by_cases hx : x.i.makes = true
 ·have:=h.1
  rw [if_pos hx] at this
  simp only [Bool.and_eq_true,decide_eq_true_eq,List.all_eq_true] at this
  have:=this.2 y hy
  simpa [hmk] using this
 ·have:=h.1
  rw [if_neg hx] at this
  simp only [beq_iff_eq] at this
  have:=hm l h.2 y hy hmk
  omega
theorem okK_lt {m : Nat} : ∀ (l : List OpI),okK m l = true → ∀ x ∈ l,x.i.makes = true → x.k < m
 | [],_,y,hy,_=>by cases hy
 |
  z :: l,h,y,hy,hmk=>by
  simp only [okK,Bool.and_eq_true] at h
  rcases List.mem_cons.1 hy with rfl | hy
  ·have:=h.1
   rw [if_pos hmk] at this
   simp only [Bool.and_eq_true,decide_eq_true_eq] at this
   exact this.1
  ·exact okK_lt l h.2 y hy hmk
theorem okK_ne {m : Nat} : ∀ (l : List OpI),okK m l = true → ∀ (i j : Nat) (x y : OpI),l[i]? = some x → l[j]? = some y → i ≠ j → x.i.makes = true → x.k ≠ y.k
 | [],_,i,j,x,y,hx,_,_,_=>by simp at hx
 |
  z :: l,h,i,j,x,y,hx,hy,hij,hmk=>by
  obtain ⟨k1,k2⟩:=okK_cons h
  cases i with
  |
   zero =>
   simp at hx;subst hx
   cases j with
   | zero=>exact absurd rfl hij
   |
    succ j =>
    have hy' : y ∈ l:=List.mem_of_getElem? (by simpa using hy)
    by_cases hmy : y.i.makes = true
    ·exact fun e=>(k2 y hy' hmy).1 e.symm
    ·-- one that makes none has the number m
     have hm : ∀ (l : List OpI),okK m l = true → ∀ y ∈ l,y.i.makes ≠ true → y.k = m:=by
      intro l
      induction l with
      | nil=>intro _ y hy;cases hy
      |
       cons z l ih =>
       intro h y hy hn
       simp only [okK,Bool.and_eq_true] at h
       rcases List.mem_cons.1 hy with rfl | hy
       ·have:=h.1
        rw [if_neg hn] at this
        simpa using this
       ·exact ih h.2 y hy hn
     have:=hm l k1 y hy' hmy
     have h3:=okK_lt _ h z (by simp) hmk
     omega
  |
   succ i =>
   have hx' : x ∈ l:=List.mem_of_getElem? (by simpa using hx)
   cases j with
   |
    zero =>
    simp at hy;subst hy
    exact (k2 x hx' hmk).1
   | succ j=>exact okK_ne l k1 i j x y (by simpa using hx) (by simpa using hy) (by omega) hmk
theorem opsOk_cons {o : OpI} {l : List OpI} {st st1 st2 : St} (h1 : OpOk P ν o st st1) (h2 : OpsOk P ν l st1 st2) : OpsOk P ν (o :: l) st st2:=by
 obtain ⟨a1,a2,a3,a4⟩:=h1
 obtain ⟨b1,b2,b3,b4⟩:=h2
 refine ⟨b1.trans a1,b2.trans a2,Nat.le_trans a3 b3,?_⟩
 intro ops dr nt m k rest htr hk M w0 D0 D a w hs hid Q hQ
 cases rest with
 | nil=>simp [trOps] at htr
 |
  cons r rest =>
  simp only [trOps] at htr
  split at htr <;> first | (cases htr;done) | skip
  rename_i x hx
  split at htr <;> first | (cases htr;done) | skip
  rename_i l' hl'
  simp only [Option.some.injEq,List.cons.injEq] at htr
  obtain ⟨rfl,rfl⟩:=htr
  obtain ⟨k1,k2⟩:=okK_cons hk
  have key:=a4 ops dr nt m k r hx M w0 D0 D a w hs (hid x (by simp)) (wpList P ops Q rest) Q (fun D' a' w' hs' hun=>by
   refine b4 ops dr nt m _ rest hl' k1 M w0 D0 D' a' w' hs' (fun y hy hmk=>?_) Q hQ
   rw [a1]
   obtain ⟨e1,e2⟩:=hid y (by simp [hy]) hmk
   exact ⟨Nat.lt_of_lt_of_le e1 a3,hun _ (Nat.le_add_right _ _) e1 e2 (fun h=>(k2 y hy hmk).1 (by omega))⟩)
  unfold wpList
  split
  ·rename_i hw;rw [if_pos hw] at key;exact .inl key
  ·rename_i hw;rw [if_neg hw] at key;exact key
theorem trC_inv {nt : Nat} {cc : Code} {c : C} (h : trC P ν nt cc = some c) : match c with
  | .skip=>cc = .skip
  | .reg d m l=>∃ id ops,cc = .region id ops d ∧ trOps P ν ops d nt m 0 ops.toList = some l
  | .seq x y=>∃ a b,cc = .seq a b ∧ trC P ν nt a = some x ∧ trC P ν nt b = some y
  | .cond s x y=>∃ o a b,cc = .cond o a b ∧ trS o = some s ∧ trC P ν nt a = some x ∧ trC P ν nt b = some y
  | .block id x=>∃ a,cc = .block id a ∧ trC P ν nt a = some x
  | .loop x=>∃ a,cc = .loop a ∧ trC P ν nt a = some x
  | .exit id=>cc = .exit id
  | .ret=>cc = .ret
  | .lib _=>False:=by
 cases cc with
 | skip=>simp only [trC,Option.some.injEq] at h;subst h;rfl
 |
  region id ops d =>
  simp only [trC,Option.map_eq_some_iff] at h
  obtain ⟨l,h1,rfl⟩:=h
  exact ⟨id,ops,rfl,h1⟩
 |
  seq a b =>
  simp only [trC] at h
  split at h <;> first | (cases h;done) | skip
  rename_i x y h1 h2
  simp only [Option.some.injEq] at h;subst h
  exact ⟨a,b,rfl,h1,h2⟩
 |
  cond o a b =>
  simp only [trC] at h
  split at h <;> first | (cases h;done) | skip
  rename_i s x y h1 h2 h3
  simp only [Option.some.injEq] at h;subst h
  exact ⟨o,a,b,rfl,h1,h2,h3⟩
 |
  block id a =>
  simp only [trC,Option.map_eq_some_iff] at h
  obtain ⟨x,h1,rfl⟩:=h
  exact ⟨a,rfl,h1⟩
 |
  loop a =>
  simp only [trC,Option.map_eq_some_iff] at h
  obtain ⟨x,h1,rfl⟩:=h
  exact ⟨a,rfl,h1⟩
 | exit id=>simp only [trC,Option.some.injEq] at h;subst h;rfl
 | ret=>simp only [trC,Option.some.injEq] at h;subst h;rfl
 | _=>simp [trC] at h
theorem loop_of {c : C} {e : Ex} {st st' : St} (hk : st'.keep = st.keep) (h : LoopOk P ν c e st st') : CodeOk P ν (.loop c) e st st':=by
 refine ⟨hk,?_⟩
 intro nt cc htr M w0 D0 D a w hs Q hQ
 obtain ⟨cb,rfl,hb⟩:=trC_inv htr
 intro b k cs
 obtain ⟨x,a',w',q,harr⟩:=h nt cb hb M w0 D0 D a w hs Q hQ b k cs
 exact ⟨x,a',w',q,.of_steps (.one step_loop) harr⟩
theorem exOf_ne {e : Ex} (h : e ≠ .normal) : exOf e ≠ .normal:=by cases e <;> simp [exOf] at h ⊢
theorem then_of {next : Act → World → Prop} {Q : Exit → Act → World → Prop} {e : Ex} (h : e ≠ .normal) {a : Act} {w : World} (hq : Q (exOf e) a w) : Exit.then next Q (exOf e) a w:=by
 cases e <;> first | (simp at h;done) | exact hq
def getRes (tmps : Array Value) : ResultVar → Sem Value
 | .tmp t=>pure (tmps.getD t undef)
 | .cell q t=>do loadVar t (← asAddr (tmps.getD q undef))
theorem results_eq (fn : Func) (tmps : Array Value) : results fn tmps = (do let vs ← fn.results.mapM (getRes tmps);pure (if h : vs.size = 1 then vs[0] else .tuple vs)):=rfl
theorem fnOk_lib (hT : Fits P ν T) {f : Nat} {args : List V} {σ : Store} {F : Fn} {o : OutF} {r : V} {σ' : Store} (hf : T f = some F) (hb : F.body = .lib o) (h : o.sem args σ r σ') : FnOk P ν f args σ r σ':=by
 intro fid hfid w M D vals hv hS
 rcases hT fid f F hfid hf with ⟨fn,hfn,htr⟩ | ⟨o',e,hO⟩
 ·exact (trFn_lib htr hb).elim
 ·rw [hb] at e
  cases e
  exact hO args σ r σ' h w M D vals hv hS
theorem fnOk_fn (hT : Fits P ν T) {f : Nat} {args : List V} {σ : Store} {F : Fn} {e : Ex} {st' : St} {rs : List V} (hf : T f = some F) (hl : args.length = F.nargs) (hnl : ∀ o,F.body ≠ .lib o)
  (ih : CodeOk P ν F.body e (St.enter args σ) st') (he : e = .normal ∨ e = .ret) (hr : F.res.mapM (Res.get st') = some rs) : FnOk P ν f args σ (packRes rs) st'.objs:=by
 intro fid hfid w M D vals hv hS
 rcases hT fid f F hfid hf with ⟨fn,hfn,htr⟩ | ⟨o,e,_⟩
 case inr=>exact (hnl o e).elim
 unfold trFn at htr
 split at htr <;> first | (cases htr;done) | skip
 rename_i body hbody
 split at htr <;> first | (cases htr;done) | skip
 rename_i b rs' hb hrs'
 split at htr <;> first | (cases htr;done) | skip
 rename_i hle
 simp only [Option.some.injEq] at htr;subst htr
 have hvl : vals.size = args.length:=by simpa using (rdL_length _ _ hv).symm
 refine calls_of_wp hfn hbody ?_
 have hs0 : SR fn.ntmps M w D (St.enter args σ) D { tmps:=vals ++ Array.replicate (fn.ntmps - vals.size) undef,defers:=[] } w:=by
  refine ⟨?_,?_,rfl,hS,Gr.refl _ _,fun o d h=>.inl ⟨o,d,h,rfl⟩,fun o _=>DSle.refl _⟩
  ·intro t
   simp only [St.enter]
   by_cases ht : t < args.length
   ·obtain ⟨y,h1,h2⟩:=rdL_get _ _ hv t args[t] (by simp [ht])
    have e1 : argE args t = args[t]:=by simp [argE,ht]
    rw [e1]
    have e2 : (vals ++ Array.replicate (fn.ntmps - vals.size) undef).getD t undef = y:=by
     rw [Array.getD_eq_getD_getElem?,Array.getElem?_append_left (by omega)]
     rw [← Array.getElem?_toList,h1];rfl
    rw [e2];exact h2
   ·have e1 : argE args t = .any:=by simp [argE,List.getD,List.getElem?_eq_none (Nat.le_of_not_lt ht)]
    rw [e1];simp only [rd]
  ·simp only [Array.size_append,Array.size_replicate];simp only [] at hl;omega
 refine ih.2 fn.ntmps body hb M w D D _ w hs0 _ ?_
 intro D' a' w' hs'
 have hres : ∃ v,(results fn a'.tmps).run P w' = .ok v w' ∧ rd w' D' (XS M D') (packRes rs) v:=by
  have hlist : ∀ (vars : List ResultVar) (rl : List Res) (vl : List V),vars.mapM (trRes P) = some rl → rl.mapM (Res.get st') = some vl →
    ∃ ys : List Value,(vars.mapM (getRes a'.tmps)).run P w' = .ok ys w' ∧ rdL w' D' (XS M D') vl ys:=by
   intro vars
   induction vars with
   | nil=>intro rl vl h1 h2;simp at h1;subst h1;simp at h2;subst h2;exact ⟨[],by simp,by simp [rdL]⟩
   |
    cons x vars ihv =>
    intro rl vl h1 h2
    simp only [List.mapM_cons,Option.pure_def,Option.bind_eq_bind,Option.bind_eq_some_iff,Option.some.injEq] at h1
    obtain ⟨r,hr1,rl',hr2,rfl⟩:=h1
    simp only [List.mapM_cons,Option.pure_def,Option.bind_eq_bind,Option.bind_eq_some_iff,Option.some.injEq] at h2
    obtain ⟨z,hz1,vl',hz2,rfl⟩:=h2
    obtain ⟨ys,k1,k2⟩:=ihv rl' vl' hr2 hz2
    cases x with
    |
     tmp t =>
     simp only [trRes,Option.some.injEq] at hr1;subst hr1
     simp only [Res.get,Option.some.injEq] at hz1;subst hz1
     refine ⟨a'.tmps.getD t undef :: ys,?_,by simp only [rdL];exact ⟨_,_,rfl,hs'.env t,k2⟩⟩
     have hg : (getRes a'.tmps (.tmp t)).run P w' = .ok (a'.tmps.getD t undef) w':=rfl
     simp only [List.mapM_cons,Sem.run_bind,Sem.run_pure,Result.andThen_ok,k1,hg]
    |
     cell q t =>
     simp only [trRes,Option.map_eq_some_iff] at hr1
     obtain ⟨⟨n,g⟩,hg,rfl⟩:=hr1
     simp only [Res.get] at hz1
     split at hz1 <;> first | (cases hz1;done) | skip
     rename_i row off hrow
     obtain ⟨u,j1,j2⟩:=run_load_agg hs'.store hg hrow (hs'.env q) hz1
     obtain ⟨bl,oo,hptr,_⟩:=rowAt_rd hs'.store hrow (hs'.env q)
     refine ⟨u :: ys,?_,by simp only [rdL];exact ⟨_,_,rfl,j2,k2⟩⟩
     have j1' : (loadVar t ⟨bl,oo + off,none⟩).run P w' = .ok u w':=by
      rw [hptr] at j1
      simpa [Instr.loadAt,Instr.sureAddr] using j1
     have hg : (getRes a'.tmps (.cell q t)).run P w' = .ok u w':=by
      simp only [getRes,hptr,asAddr,Sem.run_bind,Sem.run_pure,Result.andThen_ok,j1']
     simp only [List.mapM_cons,Sem.run_bind,Sem.run_pure,Result.andThen_ok,k1,hg]
  obtain ⟨ys,k1,k2⟩:=hlist fn.results.toList rs' rs hrs' hr
  refine ⟨if h : ys.toArray.size = 1 then ys.toArray[0] else .tuple ys.toArray,?_,?_⟩
  ·have : (fn.results.mapM (getRes a'.tmps)).run P w' = .ok ys.toArray w':=by
    rw [← Array.toArray_toList (xs:=fn.results),List.mapM_toArray,Sem.run_map,k1];rfl
   rw [results_eq]
   simp only [Sem.run_bind,this,Result.andThen_ok,Sem.run_pure]
  ·have hlen:=rdL_length _ _ k2
   have gen : ∀ (rs : List V) (ys : List Value),rdL w' D' (XS M D') rs ys → rs.length = ys.length → rd w' D' (XS M D') (packRes rs) (if h : ys.toArray.size = 1 then ys.toArray[0] else .tuple ys.toArray):=by
    intro rs ys h hl
    cases rs with
    |
     nil =>
     cases ys with
     | nil=>simp only [packRes];rw [dif_neg (by simp)];simp only [rd];exact ⟨_,rfl,h⟩
     | cons y ys=>simp at hl
    |
     cons x xs =>
     cases ys with
     | nil=>simp at hl
     |
      cons y ys =>
      cases xs with
      |
       nil =>
       cases ys with
       |
        nil =>
        simp only [rdL] at h
        obtain ⟨y',ys',h0,h1,h2⟩:=h
        cases h0
        simpa [packRes] using h1
       | cons y' ys=>simp at hl
      |
       cons x' xs =>
       cases ys with
       | nil=>simp at hl
       |
        cons y' ys =>
        simp only [packRes]
        rw [dif_neg (by simp)]
        simp only [rd]
        exact ⟨_,rfl,h⟩
   exact gen rs ys k2 hlen
 obtain ⟨v,hv1,hv2⟩:=hres
 have hfin : bodyPost P fn (Post M D w σ.length (packRes rs) st'.objs) .ret a' w' :=
  ⟨hs'.df,v,hv1,v,D',rfl,hv2,hs'.store,hs'.gr,hs'.fr,fun o ho=>hs'.kp o (by rw [ih.1];exact ho)⟩
 rcases he with rfl | rfl <;> exact hfin
theorem trOps_get {ops : Array Oper} {dr : Bool} {nt m : Nat} : ∀ {k : Nat} {rest : List Oper} {l : List OpI},trOps P ν ops dr nt m k rest = some l →
  l.length = rest.length ∧ ∀ (i : Nat) (x : OpI),l[i]? = some x → ∃ o k',rest[i]? = some o ∧ trOp P ν ops dr nt m k' o = some x
 | k,[],l,h=>by simp only [trOps,Option.some.injEq] at h;subst h;simp
 |
  k,o :: rest,l,h=>by
  simp only [trOps] at h
  split at h <;> first | (cases h;done) | skip
  rename_i x hx
  split at h <;> first | (cases h;done) | skip
  rename_i l' hl'
  simp only [Option.some.injEq] at h;subst h
  obtain ⟨e1,e2⟩:=trOps_get hl'
  refine ⟨by simp [e1],fun i y hi=>?_⟩
  cases i with
  | zero=>simp at hi;subst hi;exact ⟨o,k,rfl,hx⟩
  | succ i=>simpa using e2 i y (by simpa using hi)
theorem trOp_aft {ops : Array Oper} {nt m k : Nat} {o : Oper} {x : OpI} (h : trOp P ν ops true nt m k o = some x) : x.aft = trAft o:=by
 unfold trOp at h
 split at h <;> first | (cases h;done) | skip
 split at h <;> first | (cases h;done) | skip
 simp only [Option.some.injEq] at h;subst h
 rfl
theorem ready_iff {ops : Array Oper} {nt m : Nat} {l : List OpI} (h : trOps P ν ops true nt m 0 ops.toList = some l) {done : List Nat} {listed : Array Bool} (hs : listed.size = ops.size)
  (hl : ∀ i,listed.getD i false = true ↔ i ∈ done) {i : Nat} : i ∈ Region.ready .any ops listed ↔ readyB l done i = true:=by
 obtain ⟨e1,e2⟩:=trOps_get h
 rw [mem_ready]
 have hlt : ∀ {i : Nat},i < ops.size → (listed.getD i true = false ↔ i ∉ done):=by
  intro i hi
  have : listed.getD i true = listed.getD i false:=by
   rw [Array.getD_eq_getD_getElem?,Array.getD_eq_getD_getElem?,Array.getElem?_eq_getElem (by omega)];rfl
  rw [this]
  constructor
  ·intro h1 h2;rw [(hl i).2 h2] at h1;cases h1
  ·intro h1
   cases hb : listed.getD i false with
   | false=>rfl
   | true=>exact absurd ((hl i).1 hb) h1
 constructor
 ·rintro ⟨h1,o,ho,h2⟩
  have hi:=(Array.getElem?_eq_some_iff.1 ho).1
  have hil : i < l.length:=by rw [e1];simpa using hi
  obtain ⟨o',k',ho',hx⟩:=e2 i l[i] (by simp [hil])
  have : o' = o:=by rw [Array.getElem?_toList] at ho';rw [ho] at ho';exact (Option.some.inj ho').symm
  subst this
  unfold readyB
  rw [List.getElem?_eq_getElem hil]
  simp only [Bool.and_eq_true,Bool.not_eq_true',List.all_eq_true]
  refine ⟨?_,?_⟩
  ·have:=(hlt hi).1 h1
   simpa using this
  ·intro e he
   rw [trOp_aft hx] at he
   simp only [trAft,List.mem_map,List.mem_filter] at he
   obtain ⟨ed,⟨h3,h4⟩,rfl⟩:=he
   have:=h2 ed (by simpa using h3) h4
   simpa using (hl _).1 this
 ·intro hr
  unfold readyB at hr
  split at hr <;> first | (cases hr;done) | skip
  rename_i x hx
  simp only [Bool.and_eq_true,Bool.not_eq_true',List.all_eq_true] at hr
  obtain ⟨o,k',ho,htr⟩:=e2 i x hx
  have ho' : ops[i]? = some o:=by rwa [Array.getElem?_toList] at ho
  have hi:=(Array.getElem?_eq_some_iff.1 ho').1
  refine ⟨(hlt hi).2 (by simpa using hr.1),o,ho',?_⟩
  intro e he hb
  refine (hl _).2 ?_
  have:=hr.2 e.on (by rw [trOp_aft htr];simp only [trAft,List.mem_map,List.mem_filter];exact ⟨e,⟨by simpa using he,hb⟩,rfl⟩)
  simpa using this
theorem sound (hm : P.follows .mixedOrders = true) (hT : Fits P ν T) {j : Job} {o : Out} (h : Run T j o) : Sound P ν j o:=by
 induction h with
 |
  skip st =>
  refine ⟨⟨rfl,?_⟩,fun x h=>by cases h⟩
  intro nt cc htr M w0 D0 D a w hs Q hQ
  have hc : cc = .skip:=trC_inv htr
  subst hc
  exact Go.wp_skip (hQ D a w hs)
 |
  @reg m l st st' hk h ih =>
  obtain ⟨_,i1,i2,i3,i4⟩:=ih
  refine ⟨⟨i2,?_⟩,fun x h=>by cases h⟩
  intro nt cc htr M w0 D0 D a w hs Q hQ
  obtain ⟨id,ops,rfl,hops⟩:=trC_inv htr
  refine wp_region_list ?_
  refine i4 ops false nt m 0 ops.toList hops hk M w0 D0 D a w ⟨hs.env,hs.tm,hs.df,hs.mem m,hs.gr,hs.fr,hs.kp⟩ (fun x hx hmk=>?_) Q (fun D' a' w' h=>hQ D' a' w' h)
  have hkm : x.k < m:=by
   have : ∀ (l : List OpI),okK m l = true → ∀ x ∈ l,x.i.makes = true → x.k < m:=by
    intro l
    induction l with
    | nil=>intro _ y hy;cases hy
    |
     cons z l ih =>
     intro h y hy hmk
     simp only [okK,Bool.and_eq_true] at h
     rcases List.mem_cons.1 hy with rfl | hy
     ·have:=h.1
      rw [if_pos hmk] at this
      simp only [Bool.and_eq_true,decide_eq_true_eq] at this
      exact this.1
     ·exact ih h.2 y hy hmk
   exact this l hk x hx hmk
  simp only [List.length_append,List.length_replicate]
  exact ⟨by omega,hs.store.far _ (by omega)⟩
 |
  @regD m l st st' hk h ih =>
  obtain ⟨_,i1,i2,i3,i4⟩:=ih
  refine ⟨⟨i2,?_⟩,fun x h=>by cases h⟩
  intro nt cc htr M w0 D0 D a w hs Q hQ
  obtain ⟨id,ops,rfl,hops⟩:=trC_inv htr
  refine wp_region_any hm ?_
  have hsd : SR nt M w0 D0 st D a { w with drawn:=w.drawn + 1 }:=by
   have hE : Ext w D (XS M D) { w with drawn:=w.drawn + 1 } D (XS M D):=⟨Nat.le_refl _,fun _ _ _=>rfl,fun _ _ h=>h,fun _=>DSle.refl _⟩
   refine ⟨fun t=>rd_mono _ _ hE (hs.env t),hs.tm,hs.df,?_,⟨hs.gr.size,hs.gr.os,hs.gr.tape,hs.gr.output,hs.gr.block⟩,hs.fr,hs.kp⟩
   refine ⟨fun o d ho=>?_,hs.store.alive,hs.store.inj,hs.store.far,hs.store.mlt⟩
   obtain ⟨ob,c,e,g1,g2,g3,g4,g5,g6,g7,g8,g9,g10,g11⟩:=hs.store.live o d ho
   refine ⟨ob,c,e,g1,g2,g3,g4,g5,g6,g7,g8,g9,g10,fun i x hi=>?_⟩
   obtain ⟨k0,y,k1,k2⟩:=g11 i x hi
   exact ⟨k0,y,k1,rd_mono _ _ hE k2⟩
  refine i4 ops nt m hops hk M w0 D0 D a _ ⟨hsd.env,hsd.tm,hsd.df,hsd.mem m,hsd.gr,hsd.fr,hsd.kp⟩ (fun i x hx _ hmk=>?_) Q (fun D' a' w' h=>hQ D' a' w' h) _ _ (by simp) (fun i=>?_) ?_
  ·have hkm : x.k < m:=okK_lt l hk x (List.mem_of_getElem? hx) hmk
   simp only [List.length_append,List.length_replicate]
   exact ⟨by omega,hsd.store.far _ (by omega)⟩
  ·simp only [Array.getD_eq_getD_getElem?,Array.getElem?_replicate]
   split <;> simp
  ·simp
 |
  @anyN l done st h =>
  refine ⟨rfl,rfl,rfl,Nat.le_refl _,?_⟩
  intro ops nt m htr hk M w0 D0 D a w hs hid Q hQ fuel listed h1 h2 h3
  refine wpAny_done ?_ (hQ D a w hs) fuel
  apply List.eq_nil_iff_forall_not_mem.2
  intro i hi
  rw [ready_iff htr h1 h2,h i] at hi
  cases hi
 |
  @anyC l done st st' i0 h0 f h h' ih ih' =>
  obtain ⟨_,b1,b2,b3,_⟩:=ih' i0 h0
  obtain ⟨x0,hx0⟩ : ∃ x0,l[i0]? = some x0:=by
   unfold readyB at h0
   split at h0 <;> first | (cases h0;done) | skip
   exact ⟨_,by assumption⟩
  obtain ⟨_,a1,a2,a3,_⟩:=ih i0 x0 hx0 h0
  refine ⟨rfl,b1.trans a1,b2.trans a2,Nat.le_trans a3 b3,?_⟩
  intro ops nt m htr hk M w0 D0 D a w hs hid Q hQ fuel listed h1 h2 h3
  have hready : ∀ i,i ∈ Region.ready .any ops listed ↔ readyB l done i = true:=fun i=>ready_iff htr h1 h2
  have hpos : fuel ≠ 0:=by
   rintro rfl
   have hi:=(hready i0).2 h0
   have:=(mem_ready.1 hi).1
   obtain ⟨_,o,ho,_⟩:=mem_ready.1 hi
   have hlt:=(Array.getElem?_eq_some_iff.1 ho).1
   have hmem : false ∈ listed.toList:=by
    have : listed[i0]'(by omega) = false:=by
     rw [Array.getD_eq_getD_getElem?,Array.getElem?_eq_getElem (by omega)] at this
     simpa using this
    rw [← this];simp
   have:=List.count_pos_iff.2 hmem
   omega
  obtain ⟨fuel,rfl⟩:=Nat.exists_eq_succ_of_ne_zero hpos
  refine ⟨fun hnil=>?_,fun i hi=>?_⟩
  ·have:=(hready i0).2 h0
   rw [hnil] at this;cases this
  ·have hr:=(hready i).1 hi
   obtain ⟨e1,e2⟩:=trOps_get htr
   obtain ⟨_,o,ho,_⟩:=mem_ready.1 hi
   have hlt:=(Array.getElem?_eq_some_iff.1 ho).1
   have hil : i < l.length:=by rw [e1];simpa using hlt
   obtain ⟨o',k',ho',hx⟩:=e2 i l[i] (by simp [hil])
   have : o' = o:=by rw [Array.getElem?_toList] at ho';rw [ho] at ho';exact (Option.some.inj ho').symm
   subst this
   have hli : l[i]? = some l[i]:=by simp [hil]
   have hnd : i ∉ done:=by
    unfold readyB at hr
    rw [hli] at hr
    simp only [Bool.and_eq_true,Bool.not_eq_true'] at hr
    simpa using hr.1
   obtain ⟨_,c1,c2,c3,c4⟩:=ih i l[i] hli hr
   obtain ⟨_,d1,d2,d3,d4⟩:=ih' i hr
   have key:=c4 ops true nt m k' o' hx M w0 D0 D a w hs (fun hmk=>hid i l[i] hli hnd hmk) (wpAny P .any ops Q fuel (listed.setIfInBounds i true)) Q (fun D' a' w' hs' hun=>by
    refine d4 ops nt m htr hk M w0 D0 D' a' w' hs' (fun j y hy hj hmk=>?_) Q hQ fuel _ (by simpa using h1) (fun j=>?_) ?_
    ·simp only [List.mem_cons,not_or] at hj
     rw [c1]
     obtain ⟨g1,g2⟩:=hid j y hy hj.2 hmk
     refine ⟨Nat.lt_of_lt_of_le g1 c3,hun _ (Nat.le_add_right _ _) g1 g2 ?_⟩
     intro he
     have hne:=okK_ne l hk j i y l[i] hy hli hj.1 hmk
     omega
    ·rw [Array.getD_eq_getD_getElem?,Array.getElem?_setIfInBounds]
     by_cases hij : i = j
     ·subst hij
      simp [h1,hlt]
     ·rw [if_neg hij,← Array.getD_eq_getD_getElem?,h2 j]
      simp only [List.mem_cons]
      constructor
      ·exact .inr
      ·rintro (h | h)
       ·exact absurd h.symm hij
       ·exact h
    ·have hfi : listed[i]'(by omega) = false:=by
      have:=(mem_ready.1 hi).1
      rw [Array.getD_eq_getD_getElem?,Array.getElem?_eq_getElem (by omega)] at this
      simpa using this
     rw [Array.toList_setIfInBounds,List.count_set (by simpa using (by omega : i < listed.size))]
     have h4 : listed.toList[i]'(by simpa using (by omega : i < listed.size)) = false:=by simpa using hfi
     have h5 : 0 < listed.toList.count false:=List.count_pos_iff.2 (by rw [← h4];exact List.getElem_mem _)
     simp only [h4,beq_self_eq_true,if_true]
     have : (true == false) = false:=rfl
     simp only [this,Bool.false_eq_true,if_false]
     omega)
   unfold wpOp
   simp only [ho]
   split
   ·rename_i hw;rw [if_pos hw] at key;exact .inl key
   ·rename_i hw;rw [if_neg hw] at key;exact key
 |
  @seqN a b st st1 o h h' ih ih' =>
  cases o with
  | fn r σ=>trivial
  | code e st2 =>
  obtain ⟨⟨i1,i2⟩,_⟩:=ih
  obtain ⟨⟨j1,j2⟩,_⟩:=ih'
  refine ⟨⟨j1.trans i1,?_⟩,fun x h=>by cases h⟩
  intro nt cc htr M w0 D0 D a w hs Q hQ
  obtain ⟨ca,cb,rfl,ha,hb⟩:=trC_inv htr
  refine Go.wp_seq (i2 nt ca ha M w0 D0 D a w hs _ fun D' a' w' hs'=>?_)
  exact j2 nt cb hb M w0 D0 D' a' w' hs' Q hQ
 |
  @seqE a b st e st1 he h ih =>
  obtain ⟨⟨i1,i2⟩,_⟩:=ih
  refine ⟨⟨i1,?_⟩,fun x h=>by cases h⟩
  intro nt cc htr M w0 D0 D a w hs Q hQ
  obtain ⟨ca,cb,rfl,ha,hb⟩:=trC_inv htr
  exact Go.wp_seq (i2 nt ca ha M w0 D0 D a w hs _ fun D' a' w' hs'=>then_of he (hQ D' a' w' hs'))
 |
  @cond x a b st t o hx h ih =>
  cases o with
  | fn r σ=>trivial
  | code e st2 =>
  obtain ⟨⟨i1,i2⟩,_⟩:=ih
  refine ⟨⟨i1,?_⟩,fun x h=>by cases h⟩
  intro nt cc htr M w0 D0 D a w hs Q hQ
  obtain ⟨oc,ca,cb,rfl,h1,ha,hb⟩:=trC_inv htr
  have hv:=rd_src hs.env h1
  rw [hx] at hv
  simp only [rd] at hv
  refine Go.wp_cond hv (i2 nt _ ?_ M w0 D0 D _ w hs Q hQ)
  cases t
  ·exact hb
  ·exact ha
 |
  @block id c st e st1 h ih =>
  obtain ⟨⟨i1,i2⟩,_⟩:=ih
  refine ⟨⟨i1,?_⟩,fun x h=>by cases h⟩
  intro nt cc htr M w0 D0 D a w hs Q hQ
  obtain ⟨ca,rfl,ha⟩:=trC_inv htr
  refine Go.wp_block (i2 nt ca ha M w0 D0 D a w hs _ fun D' a' w' hs'=>?_)
  have:=hQ D' a' w' hs'
  cases e with
  | normal=>exact this
  | ret=>exact this
  |
   exit id' =>
   simp only [exOf,exIn,Exit.inBlock] at this ⊢
   by_cases hid : id' = id
   ·simp only [hid,if_true] at this ⊢;exact this
   ·simp only [hid,if_false] at this ⊢;exact this
 |
  @loopN c st st1 o h h' ih ih' =>
  cases o with
  | fn r σ=>trivial
  | code e st2 =>
  obtain ⟨⟨i1,i2⟩,_⟩:=ih
  obtain ⟨⟨j1,_⟩,j2⟩:=ih'
  have key : LoopOk P ν c e st st2:=by
   intro nt cc htr M w0 D0 D a w hs Q hQ b k cs
   obtain ⟨x,a1,w1,⟨D1,hx,hs1⟩,harr⟩:=i2 nt cc htr M w0 D0 D a w hs (fun x a' w'=>∃ D',x = .normal ∧ SR nt M w0 D0 st1 D' a' w') (fun D' a' w' h=>⟨D',rfl,h⟩) b (.inLoop cc :: k) cs
   subst hx
   obtain ⟨x2,a2,w2,q2,harr2⟩:=j2 c rfl nt cc htr M w0 D0 D1 a1 w1 hs1 Q hQ b k cs
   exact ⟨x2,a2,w2,q2,.of_steps (Steps.trans harr (.one step_inLoop)) harr2⟩
  exact ⟨loop_of (j1.trans i1) key,fun x hx=>by cases hx;exact key⟩
 |
  @loopE c st e st1 he h ih =>
  obtain ⟨⟨i1,i2⟩,_⟩:=ih
  have key : LoopOk P ν c e st st1:=by
   intro nt cc htr M w0 D0 D a w hs Q hQ b k cs
   obtain ⟨x,a1,w1,⟨D1,hx,hs1⟩,harr⟩:=i2 nt cc htr M w0 D0 D a w hs (fun x a' w'=>∃ D',x = exOf e ∧ SR nt M w0 D0 st1 D' a' w') (fun D' a' w' h=>⟨D',rfl,h⟩) b (.inLoop cc :: k) cs
   subst hx
   exact ⟨_,a1,w1,hQ D1 a1 w1 hs1,.pass (x:=.inLoop cc) rfl (fun _ _=>.inl (exOf_ne he)) harr⟩
  exact ⟨loop_of i1 key,fun x hx=>by cases hx;exact key⟩
 |
  exit id st =>
  refine ⟨⟨rfl,?_⟩,fun x h=>by cases h⟩
  intro nt cc htr M w0 D0 D a w hs Q hQ
  have hc : cc = .exit id:=trC_inv htr
  subst hc
  exact Go.wp_exit (hQ D a w hs)
 |
  ret st =>
  refine ⟨⟨rfl,?_⟩,fun x h=>by cases h⟩
  intro nt cc htr M w0 D0 D a w hs Q hQ
  have hc : cc = .ret:=trC_inv htr
  subst hc
  exact Go.wp_ret (hQ D a w hs)
 |
  @gc c st o ρ hn hρ h ih =>
  cases o with
  | fn r σ=>trivial
  | code e st2 =>
  obtain ⟨⟨i1,i2⟩,i3⟩:=ih
  refine ⟨⟨i1,?_⟩,?_⟩
  ·intro nt cc htr M w0 D0 D a w hs Q hQ
   exact i2 nt cc htr M w0 D0 _ a w (hs.gc hn hρ) Q hQ
  ·intro x hx nt cc htr M w0 D0 D a w hs Q hQ
   exact i3 x hx nt cc htr M w0 D0 _ a w (hs.gc hn hρ) Q hQ
 |
  nil st =>
  refine ⟨rfl,rfl,rfl,Nat.le_refl _,?_⟩
  intro ops dr nt m k rest htr hk M w0 D0 D a w hs hid Q hQ
  cases rest with
  | nil=>exact hQ D a w hs
  |
   cons r rest =>
   simp only [trOps] at htr
   split at htr <;> first | (cases htr;done) | skip
   split at htr <;> first | (cases htr;done) | skip
 |
  @cons o l st st1 out h h' ih ih' =>
  cases out with
  | fn r σ=>trivial
  | code e st2=>exact ⟨ih'.1,opsOk_cons ih.2 ih'.2⟩
 | off hg he=>exact ⟨rfl,opOk_off hg he⟩
 | op hg h=>exact ⟨rfl,opOk_op hg h⟩
 | callP hg hi ha h hR ih=>exact ⟨rfl,opOk_callP hg hi ha ih hR⟩
 | callR ρ hn hρ hg hi h ih=>exact ⟨rfl,opOk_callR hn hρ hg hi ih⟩
 | callG hg hi ha h hR ih=>exact ⟨rfl,opOk_callG hg hi ha ih hR⟩
 | callI hg hi h hl hb ih=>exact ⟨rfl,opOk_callI hg hi ih hl hb⟩
 | @fn f args σ F e st' rs hf hl h he hr ih=>exact fnOk_fn hT hf hl (fun o e=>no_lib h o (St.enter args σ) (by rw [e])) ih.1 he hr
 | lib hf hb h=>exact fnOk_lib hT hf hb h
 | frz h hr ih=>exact fnOk_frz hr ih
 | gcF ρ hn hρ h ih=>exact fnOk_gcF hn hρ ih
 |
  @forget c st st2 o he ho hk h' ih =>
  cases o with
  | fn r σ=>trivial
  | code e st3 =>
  obtain ⟨⟨i1,i2⟩,i3⟩:=ih
  refine ⟨⟨i1.trans hk,?_⟩,?_⟩
  ·intro nt cc htr M w0 D0 D a w hs Q hQ
   exact i2 nt cc htr M w0 D0 _ a w (hs.forget he ho hk) Q hQ
  ·intro x hx nt cc htr M w0 D0 D a w hs Q hQ
   exact i3 x hx nt cc htr M w0 D0 _ a w (hs.forget he ho hk) Q hQ
 |
  @re c st st2 o W h h' ih =>
  cases o with
  | fn r σ=>trivial
  | code e st3 =>
  obtain ⟨⟨i1,i2⟩,i3⟩:=ih
  refine ⟨⟨i1.trans h.keep,?_⟩,?_⟩
  ·intro nt cc htr M w0 D0 D a w hs Q hQ
   exact i2 nt cc htr M w0 D0 _ a w (hs.re h) Q hQ
  ·intro x hx nt cc htr M w0 D0 D a w hs Q hQ
   exact i3 x hx nt cc htr M w0 D0 _ a w (hs.re h) Q hQ
 | reF W ha h hs hr ih=>exact fnOk_reF ha hs hr ih
 | laxF ha h hr ih=>exact fnOk_laxF ha hr ih
end
end Go.Ml
end
section
namespace Go.Ml
open Go.ChangeShapes Go.WideShapes Go.ChangeAt Go.RowKit
def nuOf : List (Nat × Nat × Fn) → Nat → Option Nat
 | [],_=>none
 | x :: l,i=>if x.1 = i then some x.2.1 else nuOf l i
def tbOf : List (Nat × Nat × Fn) → Nat → Option Fn
 | [],_=>none
 | x :: l,k=>if x.2.1 = k then some x.2.2 else tbOf l k
theorem nuOf_mem : ∀ {l : List (Nat × Nat × Fn)} {i k : Nat},nuOf l i = some k → ∃ x ∈ l,x.1 = i ∧ x.2.1 = k
 | [],_,_,h=>by simp [nuOf] at h
 |
  x :: l,i,k,h=>by
  simp only [nuOf] at h
  split at h
  ·rename_i e;exact ⟨x,by simp,e,by simpa using h⟩
  ·obtain ⟨y,hy,e⟩:=nuOf_mem h;exact ⟨y,by simp [hy],e⟩
theorem tbOf_mem : ∀ {l : List (Nat × Nat × Fn)} {k : Nat} {F : Fn},tbOf l k = some F → ∃ x ∈ l,x.2.1 = k ∧ x.2.2 = F
 | [],_,_,h=>by simp [tbOf] at h
 |
  x :: l,i,k,h=>by
  simp only [tbOf] at h
  split at h
  ·rename_i e;exact ⟨x,by simp,e,by simpa using h⟩
  ·obtain ⟨y,hy,e⟩:=tbOf_mem h;exact ⟨y,by simp [hy],e⟩
theorem eq_of_nodup_map {α β : Type} {f : α → β} : ∀ {l : List α},(l.map f).Nodup → ∀ {x y},x ∈ l → y ∈ l → f x = f y → x = y
 | [],_,_,_,h,_,_=>by cases h
 |
  a :: l,hn,x,y,hx,hy,e=>by
  simp only [List.map_cons,List.nodup_cons] at hn
  rcases List.mem_cons.1 hx with rfl | hx' <;> rcases List.mem_cons.1 hy with rfl | hy'
  ·rfl
  ·exact absurd (e ▸ List.mem_map_of_mem hy') hn.1
  ·exact absurd (e ▸ List.mem_map_of_mem hx') hn.1
  ·exact eq_of_nodup_map hn.2 hx' hy' e
theorem fits_of {P : Program} {l : List (Nat × Nat × Fn)} (hnd : (l.map (·.2.1)).Nodup) (h : ∀ x ∈ l,(∃ fn,P.funcs[x.1]? = some fn ∧ trFn P (nuOf l) fn = some x.2.2) ∨ ∃ o,x.2.2.body = .lib o ∧ OutOk P x.1 o) : Fits P (nuOf l) (tbOf l):=by
 intro fid f F h1 h2
 obtain ⟨x,hx,e1,e2⟩:=nuOf_mem h1
 obtain ⟨y,hy,e3,e4⟩:=tbOf_mem h2
 have : x = y:=eq_of_nodup_map hnd hx hy (e2.trans e3.symm)
 subst this
 rw [← e1,← e4]
 exact h x hx
theorem calls_of {P : Program} {l : List (Nat × Nat × Fn)} (hm : P.follows .mixedOrders = true) (hT : Fits P (nuOf l) (tbOf l)) {f fid : Nat} {args : List V} {r : V} (h : PF (tbOf l) f args r) (hf : nuOf l fid = some f)
  {w : World} {vals : Array Value} (hr : rdL w DM.none (fun _=>False) args vals.toList) :
  Calls P fid vals w fun e w'=>(∃ v D X,e = .returned v ∧ rd w' D X r v) ∧ Below w.heap.size w w':=by
 have hs:=sound hm hT h
 have hX : XS (fun _=>False) DM.none = fun _=>False:=by
  funext b;simp [XS,DM.none]
 refine (hs fid hf w (fun _=>False) DM.none vals (by rw [hX];exact hr) ⟨?_,?_,?_,?_,?_⟩).mono fun e w' hp=>?_
 ·intro o d h;cases h
 ·intro o ob h;simp [objAt] at h
 ·intro o o' d d' h;cases h
 ·intro o _;rfl
 ·intro b h;exact h.elim
 ·obtain ⟨v,D',e1,e2,e3,e4,_⟩:=hp
  refine ⟨⟨v,D',_,e1,e2⟩,⟨e4.os,e4.tape,e4.output,e4.size,fun k hk=>e4.block k hk ?_⟩⟩
  rintro ⟨o,d,h,_⟩;cases h
theorem calls_true {P : Program} {l : List (Nat × Nat × Fn)} (hm : P.follows .mixedOrders = true) (hT : Fits P (nuOf l) (tbOf l)) {f fid : Nat} {args : List V} (h : PF (tbOf l) f args (.bool true)) (hf : nuOf l fid = some f)
  {w : World} {vals : Array Value} (hr : rdL w DM.none (fun _=>False) args vals.toList) :
  Calls P fid vals w fun e w'=>e = .returned (.bool true) ∧ Below w.heap.size w w' :=
 (calls_of hm hT h hf hr).mono fun e w' hp=>by
  obtain ⟨⟨v,D,X,rfl,e2⟩,hb⟩:=hp
  have : v = .bool true:=by simpa [rd] using e2
  exact ⟨by rw [this],hb⟩
end Go.Ml
end
section
namespace Go.Ml
open Go.ChangeShapes Go.WideShapes Go.ChangeAt Go.RowKit
inductive Lf where
 | int (k : IntKind)
 | bool
 | str
 | sl (row : List Lf)
mutual
def Mt : Lf → V → Prop
 | .int k,v=>∃ n,v = .int k n ∧ (Lit.int k n).wf = true
 | .bool,v=>∃ b,v = .bool b
 | .str,v=>∃ s,v = .str s ∧ s.length ≤ maxLen
 | .sl row,v=>∃ rows : List (List V),v = .sl row.length rows ∧ rows.length ≤ maxLen ∧ ∀ r ∈ rows,MtL row r
def MtL : List Lf → List V → Prop
 | [],vs=>vs = []
 | l :: ls,vs=>∃ v vs',vs = v :: vs' ∧ Mt l v ∧ MtL ls vs'
end
def shFs (P : Program) (sh : TypeId → Option (List Lf)) : List Field → Nat → Option (List Lf)
 | [],_=>some []
 |
  f :: fs,off=>match sh f.type,shFs P sh fs (off + P.cellsOf f.type) with
  | some r,some rs=>if f.offset = off ∧ r.length = P.cellsOf f.type then some (r ++ rs) else none
  | _,_=>none
def shapeOf (P : Program) : Nat → TypeId → Option (List Lf)
 | 0,_=>none
 |
  n + 1,t=>match P.underlying t with
  | some (.int k)=>some [.int k]
  | some .bool=>some [.bool]
  | some .string=>some [.str]
  |
   some (.slice e)=>match shapeOf P n e with
   | some r=>if r.length = P.cellsOf e ∧ 0 < r.length then some [.sl r] else none
   | none=>none
  |
   some (.struct fs)=>match shFs P (shapeOf P n) fs.toList 0 with
   | some r=>if r.length = P.cellsOf t then some r else none
   | none=>none
  | _=>none
theorem mtL_append {l1 l2 : List Lf} {v1 v2 : List V} (h1 : MtL l1 v1) (h2 : MtL l2 v2) : MtL (l1 ++ l2) (v1 ++ v2):=by
 induction l1 generalizing v1 with
 | nil=>simp only [MtL] at h1;subst h1;simpa using h2
 |
  cons l l1 ih =>
  simp only [MtL] at h1
  obtain ⟨v,vs,rfl,a,b⟩:=h1
  simp only [List.cons_append,MtL]
  exact ⟨v,vs ++ v2,rfl,a,ih b⟩
theorem mtL_len {l : List Lf} {v : List V} (h : MtL l v) : v.length = l.length:=by
 induction l generalizing v with
 | nil=>simp only [MtL] at h;subst h;rfl
 |
  cons x l ih =>
  simp only [MtL] at h
  obtain ⟨v,vs,rfl,a,b⟩:=h
  simp [ih b]
theorem mt_leaf : ∀ {l : Lf} {v : V},Mt l v → v.leaf = true:=by
 intro l v h
 cases l <;> simp only [Mt] at h
 ·obtain ⟨n,rfl,_⟩:=h;rfl
 ·obtain ⟨b,rfl⟩:=h;rfl
 ·obtain ⟨s,rfl,_⟩:=h;rfl
 ·obtain ⟨rows,rfl,_⟩:=h;rfl
theorem mtL_leaf {l : List Lf} {v : List V} (h : MtL l v) : ∀ x ∈ v,x.leaf = true:=by
 induction l generalizing v with
 | nil=>simp only [MtL] at h;subst h;intro x hx;cases hx
 |
  cons y l ih =>
  simp only [MtL] at h
  obtain ⟨v,vs,rfl,a,b⟩:=h
  intro x hx
  rcases List.mem_cons.1 hx with rfl | hx
  ·exact mt_leaf a
  ·exact ih b x hx
theorem rdRows_of {w : World} {D : DM} {X : Nat → Prop} {b sz : Nat} : ∀ (off : Nat) (rows : List (List V)),
  (∀ i r,rows[i]? = some r → r.length = sz ∧ rdCells w D X b (off + i * sz) r) → rdRows w D X b sz off rows
 | _,[],_=>by simp [rdRows]
 |
  off,r :: rows,h=>by
  simp only [rdRows]
  have h0:=h 0 r rfl
  refine ⟨h0.1,by simpa using h0.2,rdRows_of (off + sz) rows fun i r' hi=>?_⟩
  have:=h (i + 1) r' (by simpa using hi)
  rwa [show off + (i + 1) * sz = off + sz + i * sz by rw [Nat.succ_mul];omega] at this
theorem rdCells_of_rdL {w : World} {D : DM} {X : Nat → Prop} {b : Nat} : ∀ (off : Nat) (vs : List V) (cs : List Value),rdL w D X vs cs → (∀ x ∈ vs,x.leaf = true) →
  (∀ i,i < cs.length → w.cell? ⟨b,off + i,none⟩ = cs[i]?) → rdCells w D X b off vs
 | _,[],_,_,_,_=>by simp [rdCells]
 |
  off,v :: vs,cs,h,hl,hc=>by
  simp only [rdL] at h
  obtain ⟨y,ys,rfl,h1,h2⟩:=h
  simp only [rdCells]
  refine ⟨hl v (by simp),⟨y,by simpa using hc 0 (by simp),h1⟩,rdCells_of_rdL (off + 1) vs ys h2 (fun x hx=>hl x (by simp [hx])) fun i hi=>?_⟩
  have:=hc (i + 1) (by simpa using hi)
  rw [show off + 1 + i = off + (i + 1) by omega,this]
  simp
section
variable {H : Type} {enc : TypeId × Value → H} {P : Program} {w : World}
theorem shape_rd : ∀ (n : Nat) {t : TypeId} {L : List Lf} {fuel : Nat} {cs : List Value} {x : DataW H × List MemPlace},shapeOf P n t = some L →
  DataW.trod enc P w 0 (fun _=>true) true fuel t cs = some x → ∃ vs,MtL L vs ∧ rdL w DM.none (fun _=>False) vs cs
 | 0,t,L,fuel,cs,x,h,_=>by simp [shapeOf] at h
 |
  n + 1,t,L,fuel,cs,x,h,hx=>by
  cases fuel with
  | zero=>simp [DataW.trod] at hx
  | succ fuel =>
  simp only [shapeOf] at h
  split at h
  ·rename_i k hu
   simp only [Option.some.injEq] at h;subst h
   obtain ⟨m,rfl,_,hw⟩:=DataW.trod_int hu hx
   exact ⟨[.int k m],by simp [MtL,Mt,hw],by simp [rdL,rd]⟩
  ·rename_i hu
   simp only [Option.some.injEq] at h;subst h
   rw [DataW.trod_step] at hx
   unfold DataW.trodStep at hx
   rw [hu] at hx
   split at hx <;> simp_all
   rename_i b
   exact ⟨[.bool b],by simp [MtL,Mt],by simp [rdL,rd]⟩
  ·rename_i hu
   simp only [Option.some.injEq] at h;subst h
   rw [DataW.trod_step] at hx
   unfold DataW.trodStep at hx
   rw [hu] at hx
   split at hx <;> simp_all
   rename_i s
   exact ⟨[.str s.data.toList],by simp [MtL,Mt];exact hx.1,by simp [rdL,rd]⟩
  ·rename_i e hu
   split at h <;> first | (cases h;done) | skip
   rename_i r hr
   split at h <;> first | (cases h;done) | skip
   rename_i hsz
   simp only [Option.some.injEq] at h;subst h
   rcases DataW.trod_slice hu hx with ⟨rfl,_⟩ | ⟨a,len,cap,elems,rest,m,_,rfl,_,hb,hl,hm,hlen,hel,_,_⟩
   ·exact ⟨[.sl r.length []],by simp [MtL,Mt],by simp only [rdL,rd];exact ⟨_,[],rfl,⟨none,0,rfl,Nat.le_refl _,.inl (by trivial)⟩,rfl⟩⟩
   ·have hel' : ∀ i,i < len → ∃ cs',w.cells? 0 (a.add (i * P.cellsOf e)) (P.cellsOf e) = some cs' ∧ ∃ vs,MtL r vs ∧ rdL w DM.none (fun _=>False) vs cs':=by
     intro i hi
     have h1:=hel i hi
     have h2 : elems[i]? = some (elems[i]'(by omega)):=List.getElem?_eq_getElem (by omega)
     rw [h2,Option.bind_eq_some_iff] at h1
     obtain ⟨cs',k1,k2⟩:=h1
     exact ⟨cs',k1,shape_rd n hr k2⟩
    have hch : ∀ i,∃ p : List Value × List V,i < len → w.cells? 0 (a.add (i * P.cellsOf e)) (P.cellsOf e) = some p.1 ∧ MtL r p.2 ∧ rdL w DM.none (fun _=>False) p.2 p.1:=by
     intro i
     by_cases hi : i < len
     ·obtain ⟨cs',k1,vs,k2,k3⟩:=hel' i hi
      exact ⟨(cs',vs),fun _=>⟨k1,k2,k3⟩⟩
     ·exact ⟨([],[]),fun h=>absurd h hi⟩
    obtain ⟨f,hf⟩:=Classical.axiomOfChoice hch
    have hrow : ∀ i vs,((List.range len).map fun i=>(f i).2)[i]? = some vs → i < len ∧ vs = (f i).2:=by
     intro i vs hi
     rw [List.getElem?_map,Option.map_eq_some_iff] at hi
     obtain ⟨j,h1,h2⟩:=hi
     obtain ⟨h3,h4⟩:=List.getElem?_eq_some_iff.1 h1
     rw [List.getElem_range] at h4
     subst h4
     exact ⟨by simpa using h3,h2.symm⟩
    refine ⟨[.sl r.length ((List.range len).map fun i=>(f i).2)],?_,?_⟩
    ·simp only [MtL,Mt]
     refine ⟨_,[],rfl,⟨_,rfl,by simp;exact Nat.le_trans hl hm,fun rr hrr=>?_⟩,rfl⟩
     obtain ⟨i,hi⟩:=List.mem_iff_getElem?.1 hrr
     obtain ⟨h1,rfl⟩:=hrow i rr hi
     exact (hf i h1).2.1
    ·simp only [rdL,rd]
     refine ⟨_,[],rfl,⟨some a,cap,by simp,by simpa using hl,?_⟩,rfl⟩
     by_cases h0 : len = 0
     ·left;subst h0;rfl
     ·right
      obtain ⟨b,off,spot⟩:=a
      have hspot : spot = none:=by
       obtain ⟨_,_,hc⟩:=World.cells?_some (hf 0 (by omega)).1
       have hlen0:=(World.cells?_some (hf 0 (by omega)).1).2.1
       have hc0:=hc 0 (by omega)
       have hlt0 : 0 < (f 0).1.length:=by omega
       rw [List.getElem?_eq_getElem hlt0] at hc0
       simpa [Addr.add] using World.cell?_spot hc0
      subst hspot
      have hb' : b < w.heap.size:=by
       have:=World.cells?_block (hf 0 (by omega)).1 (by omega)
       simpa [Addr.add] using this
      refine ⟨b,off,rfl,hb',fun h=>h,rdRows_of _ _ fun i rr hi=>?_⟩
      obtain ⟨h1,rfl⟩:=hrow i rr hi
      obtain ⟨g1,g2,g3⟩:=hf i h1
      obtain ⟨_,hl2,hc⟩:=World.cells?_some g1
      refine ⟨mtL_len g2,rdCells_of_rdL _ _ _ g3 (mtL_leaf g2) fun j hj=>?_⟩
      have:=hc j (by omega)
      rw [← this,hsz.1]
      congr 1
      simp only [addr_add]
  ·rename_i fs hu
   split at h <;> first | (cases h;done) | skip
   rename_i r hr
   split at h <;> first | (cases h;done) | skip
   rename_i hsz
   simp only [Option.some.injEq] at h;subst h
   rw [DataW.trod_step] at hx
   unfold DataW.trodStep at hx
   rw [hu] at hx
   simp only [] at hx
   split at hx <;> first | (cases hx;done) | skip
   rename_i hlen
   rw [Option.map_eq_some_iff] at hx
   obtain ⟨xs,hxs,_⟩:=hx
   have key : ∀ (fl : List Field) (off : Nat) (r : List Lf) (xs : List (DataW H × List MemPlace)),shFs P (shapeOf P n) fl off = some r →
     (fl.mapM fun f=>DataW.trod enc P w 0 (fun _=>true) true fuel f.type ((cs.drop f.offset).take (P.cellsOf f.type))) = some xs →
     ∃ vs,MtL r vs ∧ rdL w DM.none (fun _=>False) vs ((cs.drop off).take r.length):=by
    intro fl
    induction fl with
    |
     nil =>
     intro off r xs h _
     simp only [shFs,Option.some.injEq] at h;subst h
     exact ⟨[],by simp [MtL],by simp [rdL]⟩
    |
     cons f fl ih =>
     intro off r xs h hm
     simp only [shFs] at h
     split at h <;> first | (cases h;done) | skip
     rename_i r1 rs h1 h2
     split at h <;> first | (cases h;done) | skip
     rename_i hc
     simp only [Option.some.injEq] at h;subst h
     simp only [List.mapM_cons,Option.pure_def,Option.bind_eq_bind,Option.bind_eq_some_iff,Option.some.injEq] at hm
     obtain ⟨y,hy,ys,hys,rfl⟩:=hm
     obtain ⟨v1,a1,a2⟩:=shape_rd n h1 hy
     obtain ⟨v2,b1,b2⟩:=ih _ rs ys h2 hys
     refine ⟨v1 ++ v2,mtL_append a1 b1,?_⟩
     have e : (cs.drop off).take (r1 ++ rs).length = (cs.drop off).take r1.length ++ (cs.drop (off + P.cellsOf f.type)).take rs.length:=by
      rw [List.length_append,List.take_add,List.drop_drop,hc.2]
     rw [e]
     rw [hc.1,← hc.2] at a2
     exact rdL_append _ _ _ _ a2 b2
   obtain ⟨vs,a1,a2⟩:=key fs.toList 0 r xs hr hxs
   refine ⟨vs,a1,?_⟩
   rw [List.drop_zero,List.take_of_length_le (by omega)] at a2
   exact a2
  ·cases h
theorem shape_in (n : Nat) {t : TypeId} {L : List Lf} {v : Value} {d : DataW H} {ps : List MemPlace} (hs : shapeOf P n t = some L) (h : DataW.Trod enc P w 0 (fun _=>true) true t v d ps) :
  ∃ vs,MtL L vs ∧ rdL w DM.none (fun _=>False) vs v.cells.toList:=by
 obtain ⟨fuel,hf⟩:=h
 exact shape_rd n hs hf
end
end Go.Ml
namespace Go.Ml
open Go.ChangeShapes Go.WideShapes Go.ChangeAt Go.RowKit
def argV (g : Bool) (vs : List V) : V:=if g = true then .agg vs else vs.headD .any
def ArgsMt : List (Bool × List Lf) → List V → Prop
 | [],vs=>vs = []
 | s :: ss,vs=>∃ cs rest,vs = argV s.1 cs :: rest ∧ MtL s.2 cs ∧ ArgsMt ss rest
def argOk (P : Program) (t : TypeId) (s : Bool × List Lf) : Bool :=
 match P.underlying t with
 | some (.struct _)=>s.1
 | some (.int _) | some .bool | some .string | some (.slice _)=>!s.1
 | _=>false
def argsOk (P : Program) : List TypeId → List (Bool × List Lf) → Prop
 | [],ss=>ss = []
 | t :: ts,ss=>∃ s rest,ss = s :: rest ∧ shapeOf P 20 t = some s.2 ∧ argOk P t s = true ∧ argsOk P ts rest
theorem args_in {H : Type} {enc : TypeId × Value → H} {P : Program} {w : World} {r : Reach} {b : Nat} : ∀ {ts : List TypeId} {ss : List (Bool × List Lf)} {vs : List Value} {ds : List (DataW H)} {ps : List MemPlace},
  argsOk P ts ss → (∀ (j : Nat) t v,ts[j]? = some t → vs[j]? = some v → Value.okWide P w r b t v) → DataW.TrodAll enc P w 0 (fun _=>true) true ts vs ds ps →
  ∃ Vs,ArgsMt ss Vs ∧ rdL w DM.none (fun _=>False) Vs vs
 | [],ss,[],ds,ps,h,_,_=>by simp only [argsOk] at h;subst h;exact ⟨[],rfl,by simp [rdL]⟩
 | [],_,_ :: _,ds,ps,_,_,ht=>by cases ds <;> exact ht.elim
 | _ :: _,_,[],ds,ps,_,_,ht=>by cases ds <;> exact ht.elim
 | t :: ts,ss,v :: vs,[],ps,_,_,ht=>ht.elim
 |
  t :: ts,ss,v :: vs,d :: ds,ps,h,hw,ht=>by
  simp only [argsOk] at h
  obtain ⟨s,rest,rfl,h1,h2,h3⟩:=h
  obtain ⟨p,q,k1,k2,_⟩:=ht
  obtain ⟨Vs,a1,a2⟩:=args_in h3 (fun j t' v' hj hv=>hw (j + 1) t' v' (by simpa using hj) (by simpa using hv)) k2
  obtain ⟨cs,c1,c2⟩:=shape_in 20 h1 k1
  have hok:=hw 0 t v rfl rfl
  refine ⟨argV s.1 cs :: Vs,⟨cs,Vs,rfl,c1,a1⟩,?_⟩
  simp only [rdL]
  refine ⟨v,vs,rfl,?_,a2⟩
  unfold argOk at h2
  have one : (∀ cs',v ≠ .agg cs') → s.1 = false → s.2.length = 1 → rd w DM.none (fun _=>False) (argV s.1 cs) v:=by
   intro hv hs hl
   have hvc : v.cells.toList = [v]:=by cases v <;> first | rfl | (exact absurd rfl (hv _))
   rw [hvc] at c2
   have:=mtL_len c1
   rw [hl] at this
   cases cs with
   | nil=>simp at this
   |
    cons x xs =>
    simp only [rdL] at c2
    obtain ⟨y,ys,e,e2,_⟩:=c2
    simp only [List.cons.injEq] at e
    rw [hs]
    simp only [argV,Bool.false_eq_true,if_false,List.headD_cons]
    rw [e.1];exact e2
  unfold shapeOf at h1
  split at h2
  ·rename_i fs hu
   rw [h2]
   simp only [Value.okWide,hu] at hok
   obtain ⟨cs',rfl,_⟩:=hok
   simp only [argV,if_true,rd]
   exact ⟨cs',rfl,c2⟩
  ·rename_i k hu
   rw [hu] at h1
   simp only [Option.some.injEq] at h1
   obtain ⟨n,rfl⟩:=okWide_int hu hok
   exact one (by intro cs' e;cases e) (by simpa using h2) (by rw [← h1];rfl)
  ·rename_i hu
   rw [hu] at h1
   simp only [Option.some.injEq] at h1
   obtain ⟨n,rfl⟩:=okWide_bool hu hok
   exact one (by intro cs' e;cases e) (by simpa using h2) (by rw [← h1];rfl)
  ·rename_i hu
   rw [hu] at h1
   simp only [Option.some.injEq] at h1
   obtain ⟨n,rfl⟩:=okWide_string hu hok
   exact one (by intro cs' e;cases e) (by simpa using h2) (by rw [← h1];rfl)
  ·rename_i e hu
   rw [hu] at h1
   simp only [] at h1
   obtain ⟨a0,l0,c0,rfl⟩:=okWide_slice hu hok
   refine one (by intro cs' e;cases e) (by simpa using h2) ?_
   split at h1 <;> first | (cases h1;done) | skip
   split at h1 <;> first | (cases h1;done) | skip
   simp only [Option.some.injEq] at h1
   rw [← h1];rfl
  ·cases h2
theorem trodAll_below {H : Type} {enc : TypeId × Value → H} {P : Program} (hl : laidOutB P = true) {W W' : World} (hb : Below W.heap.size W W') : ∀ {ts : List TypeId} {vs : List Value} {ds : List (DataW H)} {ps : List MemPlace},
  (ts.all fun t=>P.readableRec t && decide (t < P.types.size)) = true → DataW.TrodAll enc P W 0 (fun _=>true) true ts vs ds ps → (∀ x ∈ ps,x.block < W.heap.size) →
  DataW.TrodAll enc P W' 0 (fun b=>decide (b < W.heap.size)) true ts vs ds ps
 | [],[],[],ps,_,h,_=>h
 | [],_ :: _,ds,ps,_,ht,_=>by cases ds <;> exact ht.elim
 | [],[],_ :: _,ps,_,ht,_=>ht.elim
 | _ :: _,[],ds,ps,_,ht,_=>by cases ds <;> exact ht.elim
 | t :: ts,v :: vs,[],ps,_,ht,_=>ht.elim
 |
  t :: ts,v :: vs,d :: ds,ps,h,ht,hlt=>by
  simp only [List.all_cons,Bool.and_eq_true,decide_eq_true_eq] at h
  obtain ⟨p,q,k1,k2,rfl⟩:=ht
  exact ⟨p,q,Below.trod hl h.1.1 h.1.2 k1 hb fun x hx=>hlt x (by simp [hx]),trodAll_below hl hb (by simpa using h.2) k2 fun x hx=>hlt x (by simp [hx]),rfl⟩
end Go.Ml
end
section
namespace Go.Ml
theorem mtL_split : ∀ {a b : List Lf} {vs : List V},MtL (a ++ b) vs → ∃ v1 v2,vs = v1 ++ v2 ∧ MtL a v1 ∧ MtL b v2
 | [],b,vs,h=>⟨[],vs,rfl,by simp [MtL],h⟩
 |
  x :: a,b,vs,h=>by
  simp only [List.cons_append,MtL] at h
  obtain ⟨v,vs',rfl,h1,h2⟩:=h
  obtain ⟨v1,v2,rfl,h3,h4⟩:=mtL_split h2
  refine ⟨v :: v1,v2,rfl,?_,h4⟩
  simp only [MtL];exact ⟨v,v1,rfl,h1,h3⟩
theorem dec_list {α : Type} {row : List Lf} {f : α → List V} {W : α → Prop} (h : ∀ r,MtL row r → ∃ x,r = f x ∧ W x) {v : V} (hv : Mt (.sl row) v) : ∃ l : List α,v = .sl row.length (l.map f) ∧ wfL W l:=by
 simp only [Mt] at hv
 obtain ⟨rows,rfl,hl,hr⟩:=hv
 have key : ∀ rows : List (List V),(∀ r ∈ rows,MtL row r) → ∃ l : List α,rows = l.map f ∧ ∀ x ∈ l,W x:=by
  intro rows
  induction rows with
  | nil=>intro _;exact ⟨[],rfl,by simp⟩
  |
   cons r rows ih =>
   intro hr
   obtain ⟨x,rfl,hx⟩:=h r (hr r (by simp))
   obtain ⟨l,rfl,hl⟩:=ih fun r hr'=>hr r (by simp [hr'])
   exact ⟨x :: l,rfl,by simpa using ⟨hx,hl⟩⟩
 obtain ⟨l,rfl,hw⟩:=key rows hr
 exact ⟨l,rfl,by simpa [maxLen] using hl,hw⟩
theorem dec_intv {v : V} (h : Mt (.int .i64) v) : ∃ n,v = iv n ∧ (Lit.int .i64 n).wf = true:=by simpa only [Mt] using h
theorem dec_bool {v : V} (h : Mt .bool v) : ∃ b,v = .bool b:=by simpa only [Mt] using h
theorem dec_one {l : Lf} {r : List V} (h : MtL [l] r) : ∃ v,r = [v] ∧ Mt l v:=by
 simp only [MtL] at h
 obtain ⟨v,vs,rfl,h1,rfl⟩:=h
 exact ⟨v,rfl,h1⟩
abbrev shI : Lf:=.sl [.int .i64]
abbrev shR : List Lf:=[.bool,shI,shI]
abbrev shLk : List Lf:=[.int .i64] ++ ([.int .i64] ++ (shR ++ (shR ++ shR)))
theorem dec_ints {v : V} (h : Mt shI v) : ∃ l : List Int,v = ints l ∧ l.length ≤ 9223372036854775807:=by
 obtain ⟨l,rfl,hl⟩:=dec_list (f:=fun n=>[iv n]) (W:=fun _=>True) (fun r hr=>by
  obtain ⟨v,rfl,g⟩:=dec_one hr
  obtain ⟨n,rfl,_⟩:=dec_intv g
  exact ⟨n,rfl,trivial⟩) h
 exact ⟨l,rfl,hl.1⟩
theorem dec_R {vs : List V} (h : MtL shR vs) : ∃ r : R,vs = r.cells ∧ r.wf:=by
 simp only [MtL] at h
 obtain ⟨v1,_,rfl,h1,v2,_,rfl,h2,v3,_,rfl,h3,rfl⟩:=h
 obtain ⟨b,rfl⟩:=dec_bool h1
 obtain ⟨m,rfl,hm⟩:=dec_ints h2
 obtain ⟨d,rfl,hd⟩:=dec_ints h3
 exact ⟨⟨b,m,d⟩,rfl,hm,hd⟩
theorem dec_int1 {vs : List V} (h : MtL [.int .i64] vs) : ∃ n,vs = [iv n]:=by
 obtain ⟨v,rfl,g⟩:=dec_one h
 obtain ⟨n,rfl,_⟩:=dec_intv g
 exact ⟨n,rfl⟩
theorem dec_Lk {vs : List V} (h : MtL shLk vs) : ∃ p : Lk,vs = p.cells ∧ p.wf:=by
 obtain ⟨v1,v2,rfl,h1,h⟩:=mtL_split h
 obtain ⟨v2,v3,rfl,h2,h⟩:=mtL_split h
 obtain ⟨v3,v4,rfl,h3,h⟩:=mtL_split h
 obtain ⟨v4,v5,rfl,h4,h5⟩:=mtL_split h
 obtain ⟨a,rfl⟩:=dec_int1 h1
 obtain ⟨b,rfl⟩:=dec_int1 h2
 obtain ⟨x,rfl,hx⟩:=dec_R h3
 obtain ⟨y,rfl,hy⟩:=dec_R h4
 obtain ⟨z,rfl,hz⟩:=dec_R h5
 exact ⟨⟨a,b,x,y,z⟩,rfl,hx,hy,hz⟩
theorem dec_Lks {v : V} (h : Mt (.sl shLk) v) : ∃ l,v = lksV l ∧ wfL Lk.wf l:=dec_list (fun _ hr=>dec_Lk hr) h
def AllP {α : Type} (P : α → Prop) : List α → Prop
 | []=>True
 | x :: l=>P x ∧ AllP P l
theorem AllP.mem {α : Type} {P : α → Prop} : ∀ {l : List α},AllP P l → ∀ x ∈ l,P x
 | [],_,x,hx=>by cases hx
 |
  y :: l,h,x,hx=>by
  rcases List.mem_cons.1 hx with rfl | hx
  ·exact h.1
  ·exact AllP.mem h.2 x hx
end Go.Ml
namespace Go.Ml
theorem trod_len {H : Type} {enc : TypeId × Value → H} {P : Program} {w : World} {b : Nat} {sp : Nat → Bool} {hd : Bool} : ∀ {ts : List TypeId} {vs : List Value} {ds : List (DataW H)} {ps : List MemPlace},
  DataW.TrodAll enc P w b sp hd ts vs ds ps → ds.length = ts.length
 | [],[],[],_,_=>rfl
 | [],[],_ :: _,_,h=>h.elim
 | [],_ :: _,ds,_,h=>by cases ds <;> exact h.elim
 | _ :: _,[],ds,_,h=>by cases ds <;> exact h.elim
 | _ :: _,_ :: _,[],_,h=>h.elim
 |
  t :: ts,v :: vs,d :: ds,ps,h=>by
  obtain ⟨p,q,_,h2,_⟩:=h
  simp [trod_len h2]
end Go.Ml
end
