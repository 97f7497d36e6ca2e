/- A small language for the functions of this claim, its soundness, contracts. -/
import Derived.Test.YtbccjdlcbhknoaaGreatPart3
set_option linter.unusedSimpArgs false
set_option linter.unusedVariables false
set_option maxRecDepth 100000
set_option maxHeartbeats 16000000
section
namespace Go.Ml
def F_spec_l04Copy : Fn:=⟨1,17,[.cell 2 3 true],(.seq (.reg false 2 [oN 1 (.box (.t 0)),oK 2 1 (.alloc [.bool false,.nils,.nils])]) (.seq (.reg true 4 [oK 3 4 (.fld 0 (.t 1)),oA 4 4 (.fld 0 (.t 3)) [0],oA 5 4 (.load 1 false (.t 4)) [1],oN 6 (.mkSl 1 [.int .i64 0] 0 []),oK 7 4 (.fld 0 (.t 1)),oA 8 4 (.fld 1 (.t 7)) [4],oA 9 4 (.load 1 false (.t 8)) [5],oA 10 1 (.app 1 8 (.t 6) (.t 9)) [3,6],oA 11 4 (.build [.bool false,.nils] [(0,1,(.t 5)),(1,1,(.t 10))]) [2,7],oK 12 2 (.mkSl 1 [.int .i64 0] 0 []),oK 13 4 (.fld 2 (.t 1)),oA 14 4 (.load 1 false (.t 13)) [10],oA 15 3 (.app 1 8 (.t 12) (.t 14)) [9,11,7],oA 16 4 (.build [.bool false,.nils,.nils] [(0,2,(.t 11)),(2,1,(.t 15))]) [8,12],⟨none,none,4,.store 3 (.t 2) (.t 16),[13,12,0,1,2,3,4,5,6,7,8,9,10,11,12,13]⟩]) .ret))⟩
structure D_spec_l04Copy (T : Nat → Option Fn) : Prop where
 hT : T 204 = some F_spec_l04Copy
def F_spec_l06Copy : Fn:=⟨1,17,[.cell 2 11 true],(.seq (.reg false 2 [oN 1 (.box (.t 0)),oK 2 1 (.alloc [.int .i64 0,.int .i64 0,.bool false,.nils,.nils,.bool false,.nils,.nils,.bool false,.nils,.nils])]) (.seq (.reg true 0 [oN 3 (.fld 0 (.t 1)),oA 4 0 (.load 1 false (.t 3)) [0],oN 5 (.fld 1 (.t 1)),oA 6 0 (.load 1 false (.t 5)) [2],oN 7 (.fld 2 (.t 1)),oA 8 0 (.load 3 true (.t 7)) [4],oA 9 0 (.call 204 [(.t 8)]) [5],oN 10 (.fld 5 (.t 1)),oA 11 0 (.load 3 true (.t 10)) [7],oA 12 0 (.call 204 [(.t 11)]) [8,6],oN 13 (.fld 8 (.t 1)),oA 14 0 (.load 3 true (.t 13)) [10],oA 15 0 (.call 204 [(.t 14)]) [11,9],oA 16 0 (.build [.int .i64 0,.int .i64 0,.bool false,.nils,.nils,.bool false,.nils,.nils,.bool false,.nils,.nils] [(0,1,(.t 4)),(1,1,(.t 6)),(2,3,(.t 9)),(5,3,(.t 12)),(8,3,(.t 15))]) [1,3,6,9,12],⟨none,none,0,.store 11 (.t 2) (.t 16),[13,12,0,1,2,3,4,5,6,7,8,9,10,11,12,13]⟩]) .ret))⟩
structure D_spec_l06Copy (T : Nat → Option Fn) : Prop where
 hT : T 197 = some F_spec_l06Copy
 d_spec_l04Copy : D_spec_l04Copy T
def F_spec_LinkOf : Fn:=⟨3,46,[.cell 6 11 true,.tmp 7],(.seq (.reg false 1 [oN 6 (.alloc [.int .i64 0,.int .i64 0,.bool false,.nils,.nils,.bool false,.nils,.nils,.bool false,.nils,.nils]),oK 7 1 (.mov (.c (.bool false)))]) (.seq (.seq (.reg false 0 [oN 10 (oV 0),oN 11 (.call 193 [(.t 10)]),oN 12 (.un .not (.t 11))]) (.cond (.t 12) (.seq (.reg false 0 [oN 13 (.build [.int .i64 0,.int .i64 0,.bool false,.nils,.nils,.bool false,.nils,.nils,.bool false,.nils,.nils] []),oS (.store 11 (.t 6) (.t 13)),oN 7 (.mov (.c (.bool false)))]) .ret) .skip)) (.seq (.seq (.reg false 0 [oN 14 (oV 0),oN 15 (.len (.t 14)),oN 16 (.mov (cI 0))]) (.block 0 (.loop (.seq (.reg false 0 [oN 17 (.bin .lss (.t 16) (.t 15))]) (.seq (.cond (.t 17) .skip (.exit 0)) (.seq (.block 1 (.seq (.reg false 1 [oK 18 1 (.idx 11 (.t 14) (.t 16)),oK 19 1 (.load 11 true (.t 18)),oN 9 (.alloc [.int .i64 0,.int .i64 0,.bool false,.nils,.nils,.bool false,.nils,.nils,.bool false,.nils,.nils]),⟨none,none,1,.store 11 (.t 9) (.t 19),[]⟩]) (.seq (.reg false 0 [oN 20 (.fld 0 (.t 9)),oN 21 (.load 1 false (.t 20)),oN 22 (oV 1),oN 23 (.bin .eql (.t 21) (.t 22)),oN 24 (oV 23),oG 24 true 25 (.fld 1 (.t 9)),oG 24 true 26 (.load 1 false (.t 25)),oG 24 true 27 (oV 2),oG 24 true 28 (.bin .eql (.t 26) (.t 27)),oN 29 (.pick (.t 24) (.t 28) (.c (.bool false))),oN 30 (oV 29),oG 30 false 31 (.fld 0 (.t 9)),oG 30 false 32 (.load 1 false (.t 31)),oG 30 false 33 (oV 2),oG 30 false 34 (.bin .eql (.t 32) (.t 33)),oG 30 false 35 (oV 34),oG 35 true 36 (.fld 1 (.t 9)),oG 35 true 37 (.load 1 false (.t 36)),oG 35 true 38 (oV 1),oG 35 true 39 (.bin .eql (.t 37) (.t 38)),oG 30 false 40 (.pick (.t 35) (.t 39) (.c (.bool false))),oN 41 (.pick (.t 30) (.c (.bool true)) (.t 40))]) (.cond (.t 41) (.seq (.reg false 0 [oN 42 (.load 11 true (.t 9)),oN 43 (.call 197 [(.t 42)]),oS (.store 11 (.t 6) (.t 43)),oN 7 (.mov (.c (.bool true)))]) .ret) .skip)))) (.reg false 0 [oN 44 (.bin .add (.t 16) (cI 1)),oN 16 (oV 44)]))))))) (.seq (.reg false 0 [oN 45 (.build [.int .i64 0,.int .i64 0,.bool false,.nils,.nils,.bool false,.nils,.nils,.bool false,.nils,.nils] []),oS (.store 11 (.t 6) (.t 45)),oN 7 (.mov (.c (.bool false)))]) .ret))))⟩
structure D_spec_LinkOf (T : Nat → Option Fn) : Prop where
 hT : T 225 = some F_spec_LinkOf
 d_spec_IsLinkSet : D_spec_IsLinkSet T
 d_spec_l06Copy : D_spec_l06Copy T
theorem lax_rat {r : R} {a b : V} (h1 : LaxV (ints r.mag) a) (h2 : LaxV (ints r.den) b) : LaxV (ratV r) (.agg [.bool r.neg,a,b]):=by
 simp only [LaxV_agg,LaxL_c,LaxL_n,LaxV_bool,true_and,and_true]
 exact ⟨h1,h2⟩
theorem lax_ints0 {l : List Int} (h : irows l = []) : LaxV (ints l) .nils:=by
 show LaxV (.sl 1 (irows l)) .nils
 rw [h];exact of_eq_true (LaxV_nil 1)
theorem c_l04Copy {T : Nat → Option Fn} (h : D_spec_l04Copy T) {r : R} (hl : r.sz ≤ 1048576:=by first | omega | assumption | (simp;omega)) : PF T 204 [ratV r] (ratV r):=by
 simp only [R.sz] at hl
 refine pf_endL (fun _ _=>false) h.hT rfl rfl ?_
 dsimp only [F_spec_l04Copy,oN,oS,oG,oK,oA,oH,oV,cI]
 refine ev ?_
 refine ⟨fun e1=>⟨fun e2=>?_,fun e2=>⟨by omega,?_⟩⟩,fun e1=>⟨by omega,fun e2=>?_,fun e2=>⟨by omega,?_⟩⟩⟩
 ·refine ⟨by unfold OkA;decide +kernel,?_⟩
  exact lax_rat (lax_ints0 e1) (lax_ints0 e2)
 ·refine ⟨by unfold OkA;decide +kernel,?_⟩
  exact lax_rat (lax_ints0 e1) (laxV_refl _)
 ·refine ⟨by unfold OkA;decide +kernel,?_⟩
  exact lax_rat (laxV_refl _) (lax_ints0 e2)
 ·refine ⟨by unfold OkA;decide +kernel,?_⟩
  exact lax_rat (laxV_refl _) (laxV_refl _)
theorem c_l06Copy {T : Nat → Option Fn} (h : D_spec_l06Copy T) {x : Lk} (hl : x.sz ≤ 1048576:=by first | omega | assumption | (simp;omega)) : PF T 197 [lkV x] (lkV x):=by
 simp only [Lk.sz,R.sz] at hl
 refine pf_endL (fun _ _=>false) h.hT rfl rfl ?_
 dsimp only [F_spec_l06Copy,oN,oS,oG,oK,oA,oH,oV,cI]
 refine ev ?_
 refine PFK_of (c_l04Copy h.d_spec_l04Copy (r:=x.w) (by simp only [R.sz];omega)) ?_
 refine ev ?_
 refine PFK_of (c_l04Copy h.d_spec_l04Copy (r:=x.dx) (by simp only [R.sz];omega)) ?_
 refine ev ?_
 refine PFK_of (c_l04Copy h.d_spec_l04Copy (r:=x.dy) (by simp only [R.sz];omega)) ?_
 refine ev ?_
 refine ⟨by unfold OkA;decide +kernel,?_⟩
 refine ev ?_
 exact laxV_refl _
abbrev Lk0 : Lk:=⟨0,0,R0,R0,R0⟩
theorem laxLk0 : LaxV (lkV Lk0) (.agg [iv 0,iv 0,.bool false,.nils,.nils,.bool false,.nils,.nils,.bool false,.nils,.nils]):=by
 show LaxV (.agg [iv 0,iv 0,.bool false,.sl 1 [],.sl 1 [],.bool false,.sl 1 [],.sl 1 [],.bool false,.sl 1 [],.sl 1 []]) _
 simp only [LaxV_agg,LaxL_c,LaxL_n,LaxV_bool,LaxV_int,LaxV_nil,and_true]
theorem lax_tup1 {v w : V} {b : Bool} (h : LaxV v w) : LaxV (.tup [v,.bool b]) (.tup [w,.bool b]):=by
 simp only [LaxV,LaxL]
 exact ⟨_,rfl,_,_,rfl,h,_,_,rfl,rfl,rfl⟩
def lkP (a b : Int) (x : Lk) : Bool:=(decide (x.a = a) && decide (x.b = b)) || (decide (x.a = b) && decide (x.b = a))
def fndL (l : List Lk) (a b : Int) : Option Lk:=l.find? (lkP a b)
theorem fndL_t {l : List Lk} {a b : Int} {i : Nat} (hi : i < l.length) (hj : ∀ j,j < i → lkP a b (l.getD j default) = false) (h : lkP a b (l.getD i default) = true) : fndL l a b = some (l.getD i default):=by
 unfold fndL
 have : l = l.take i ++ l.getD i default :: l.drop (i + 1):=by
  conv=>lhs;rw [← List.take_append_drop i l,List.drop_eq_getElem_cons hi]
  rw [getD_get hi]
 rw [this,List.find?_append,List.find?_cons,← this,h]
 have : (l.take i).find? (lkP a b) = none:=by
  rw [List.find?_eq_none]
  intro x hx
  obtain ⟨j,hj'⟩:=List.mem_iff_getElem?.1 hx
  have hlt:=(List.getElem?_eq_some_iff.1 hj').1
  rw [List.length_take] at hlt
  have hlt' : j < i:=by omega
  have:=hj j hlt'
  rw [List.getElem?_take_of_lt hlt'] at hj'
  rw [List.getD_eq_getElem?_getD,hj'] at this
  simpa using this
 rw [this];rfl
theorem fndL_f {l : List Lk} {a b : Int} (hj : ∀ j,j < l.length → lkP a b (l.getD j default) = false) : fndL l a b = none:=by
 unfold fndL
 rw [List.find?_eq_none]
 intro x hx
 obtain ⟨j,hj'⟩:=List.mem_iff_getElem?.1 hx
 have hlt:=(List.getElem?_eq_some_iff.1 hj').1
 have:=hj j hlt
 rw [List.getD_eq_getElem?_getD,hj'] at this
 simpa using this
theorem fndL_mem {l : List Lk} {a b : Int} {x : Lk} (h : fndL l a b = some x) : x ∈ l:=List.mem_of_find?_eq_some h
abbrev Gd:=Nat → Nat → Bool
def gset (g : Gd) (i j : Nat) (b : Bool) : Gd:=fun x y=>if x = i ∧ y = j then b else g x y
def grow (g : Gd) (a : Nat) : List (List V):=(List.range 10).map fun j=>[.bool (g a j)]
theorem grow_set {g : Gd} {a j : Nat} {b : Bool} : (grow g a).set j [.bool b] = grow (gset g a j b) a:=by
 apply List.ext_getElem?
 intro n
 rw [List.getElem?_set]
 simp only [grow,List.getElem?_map,List.length_map,List.length_range]
 by_cases hn : n < 10
 ·rw [List.getElem?_range hn]
  by_cases e : j = n
  ·rw [if_pos e,if_pos (by omega)]
   simp only [Option.map_some,gset]
   rw [if_pos (by simp [e])]
  ·rw [if_neg e]
   simp only [Option.map_some,gset]
   rw [if_neg (by omega)]
 ·rw [List.getElem?_eq_none (by simp;omega)]
  split
  ·split
   ·omega
   ·rfl
  ·rfl
theorem grow_ne {g : Gd} {a c j : Nat} {b : Bool} (h : c ≠ a) : grow (gset g a j b) c = grow g c:=by
 unfold grow gset
 apply List.map_congr_left
 intro k _
 rw [if_neg (by omega)]
def onR (b : Nat) : List (List V):=(List.range 10).map fun i=>[.msl (b + i) 0 10]
def gst (g : Gd) : Store:=some ⟨1,[[.msl 1 0 10]]⟩ :: some ⟨1,onR 2⟩ :: (List.range 10).map fun a=>some ⟨1,grow g a⟩
theorem gst_len (g : Gd) : (gst g).length = 12:=by simp [gst]
structure GridAt (s : Store) (b : Nat) (g : Gd) : Prop where
 p : objAt s b = some ⟨1,[[.msl (b + 1) 0 10]]⟩
 on : objAt s (b + 1) = some ⟨1,onR (b + 2)⟩
 row : ∀ a,a < 10 → objAt s (b + 2 + a) = some ⟨1,grow g a⟩
theorem gst_row {g : Gd} {a : Nat} (ha : a < 10) : objAt (gst g) (2 + a) = some ⟨1,grow g a⟩:=by
 rw [Nat.add_comm]
 show ((List.range 10).map fun a=>some (⟨1,grow g a⟩ : Obj))[a]?.getD none = _
 rw [List.getElem?_map,List.getElem?_range ha];rfl
theorem GridAt.lt {s : Store} {b : Nat} {g : Gd} (h : GridAt s b g) : b + 12 ≤ s.length:=by
 have:=objAt_lt (h.row 9 (by omega));omega
theorem GridAt.frame {s s2 : Store} {b : Nat} {g : Gd} (h : GridAt s b g) (hs : ∀ q,b ≤ q → q < b + 12 → objAt s2 q = objAt s q) : GridAt s2 b g :=
 ⟨(hs _ (by omega) (by omega)).trans h.p,(hs _ (by omega) (by omega)).trans h.on,fun a ha=>(hs _ (by omega) (by omega)).trans (h.row a ha)⟩
theorem GridAt.set {s : Store} {b : Nat} {g : Gd} (h : GridAt s b g) {i j : Nat} {x : Bool} (hi : i < 10) (hj : j < 10) : GridAt (s.set (b + 2 + i) (some ⟨1,(grow g i).set j [.bool x]⟩)) b (gset g i j x):=by
 have hl:=h.lt
 refine ⟨(objAt_setne (by omega)).trans h.p,(objAt_setne (by omega)).trans h.on,fun a ha=>?_⟩
 by_cases e : a = i
 ·subst e
  rw [objAt_seteq (by omega),grow_set]
 ·rw [objAt_setne (by omega),h.row a ha,grow_ne e]
theorem mapO_on {ρ : Nat → Option Nat} {b b' : Nat} (h : ∀ i,i < 10 → ρ (b + i) = some (b' + i)) : mapO ρ ⟨1,onR b⟩ = ⟨1,onR b'⟩:=by
 unfold mapO onR
 congr 1
 rw [List.map_map]
 apply List.map_congr_left
 intro i hi
 simp [mapV,h i (List.mem_range.1 hi)]
theorem mapO_grow (f : Nat → Option Nat) (g : Gd) (a : Nat) : mapO f ⟨1,grow g a⟩ = ⟨1,grow g a⟩:=by
 unfold mapO
 congr 1
theorem place_range {b j : Nat} : ∀ n,j < n → place ((List.range n).map (b + ·)) (b + j) = some j:=by
 intro n hj
 have h1 : ((List.range n).map (b + ·))[j]? = some (b + j):=by rw [List.getElem?_map,List.getElem?_range hj];rfl
 have h2 : ((List.range n).map (b + ·)).Nodup:=by
  refine List.pairwise_map.2 (List.nodup_range.imp fun hne e=>hne (by omega))
 exact place_get h2 h1
def g12 (b : Nat) : List Nat:=(List.range 12).map (b + ·)
theorem gst_range (g : Gd) : gst g = (List.range 12).map fun j=>objAt (gst g) j:=by
 apply List.ext_getElem?
 intro n
 rw [List.getElem?_map]
 by_cases h : n < 12
 ·rw [List.getElem?_range h]
  simp only [Option.map_some,objAt]
  rw [List.getElem?_eq_getElem (by rw [gst_len];exact h)];rfl
 ·rw [List.getElem?_eq_none (by rw [gst_len];omega),List.getElem?_eq_none (by simp;omega)];rfl
theorem mapO_row {ρ : Nat → Option Nat} {o o' : Nat} (h : ρ o = some o') {s l : Nat} : mapO ρ ⟨1,[[.msl o s l]]⟩ = ⟨1,[[.msl o' s l]]⟩:=by
 simp [mapO,mapV,h]
theorem GridAt.gc {s : Store} {b : Nat} {g : Gd} (h : GridAt s b g) : gcS (g12 b) s = gst g:=by
 rw [gst_range g]
 unfold gcS
 rw [g12,List.map_map]
 apply List.map_congr_left
 intro j hj
 have hj:=List.mem_range.1 hj
 show (objAt s (b + j)).map (mapO (place ((List.range 12).map (b + ·)))) = objAt (gst g) j
 by_cases h0 : j = 0
 ·subst h0
  rw [Nat.add_zero,h.p]
  exact congrArg some (mapO_row (place_range 12 (by omega : 1 < 12)))
 by_cases h1 : j = 1
 ·subst h1
  rw [h.on]
  refine congrArg some (mapO_on fun i hi=>?_)
  rw [show b + 2 + i = b + (2 + i) by omega]
  exact place_range 12 (by omega)
 obtain ⟨a,rfl⟩ : ∃ a,j = 2 + a:=⟨j - 2,by omega⟩
 rw [← Nat.add_assoc,h.row a (by omega),gst_row (by omega)]
 exact congrArg some (mapO_grow _ _ _)
theorem mapM_some {α β : Type} {f : α → Option β} {h : α → β} : ∀ {l : List α},(∀ a ∈ l,f a = some (h a)) → l.mapM f = some (l.map h)
 | [],_=>rfl
 |
  a :: l,k=>by
  rw [List.mapM_cons,k a (by simp),mapM_some fun x hx=>k x (by simp [hx])];rfl
theorem res_mslS {s : Store} {o n m : Nat} {rows : List (List V)} (h : objAt s o = some ⟨m,rows⟩) (hs : stillR rows) : resolve s (n + 2) (.msl o 0 rows.length) = some (.sl m rows):=by
 rw [resolve]
 simp only [h,Nat.zero_add,Nat.le_refl,if_true,List.drop_zero,List.take_length]
 rw [mapM_stillR hs];rfl
end Go.Ml
namespace Go.Ml
theorem szL_bd {α : Type} {f : α → Nat} {k : Nat} : ∀ {l : List α},(∀ x ∈ l,f x ≤ k) → szL f l ≤ l.length * (k + 1)
 | [],_=>by simp [szL]
 |
  x :: l,h=>by
  have h1:=h x (by simp)
  have h2:=szL_bd (f:=f) (k:=k) (l:=l) fun y hy=>h y (by simp [hy])
  unfold szL at h2 ⊢
  simp only [List.length_cons,List.map_cons,List.sum_cons]
  rw [Nat.succ_mul]
  omega
theorem lksOk_key {l : List Lk} (h : lksOk l = true) : ∀ i,i < l.length → (i : Int) ≤ 10 * (l.getD i default).a + (l.getD i default).b
 |
  0,hi=>by
  have:=lkOk_nd (lksOk_at h hi)
  omega
 |
  i + 1,hi=>by
  have k1:=lksOk_key h i (by omega)
  have k2:=lksOk_adj h hi
  have k3:=lkOk_nd (lksOk_at h hi)
  have k4:=lkOk_nd (lksOk_at h (show i < l.length by omega))
  unfold lkLess at k2
  simp only [Bool.or_eq_true,Bool.and_eq_true,decide_eq_true_eq] at k2
  omega
theorem lksOk_len {l : List Lk} (h : lksOk l = true) : l.length ≤ 100:=by
 rcases Nat.lt_or_ge 100 l.length with hl | hl
 ·have k1:=lksOk_key h (l.length - 1) (by omega)
  have k3:=lkOk_nd (lksOk_at h (show l.length - 1 < l.length by omega))
  omega
 ·exact hl
theorem lk_cn_sz {x : Lk} (h : x.w.cn ∧ x.dx.cn ∧ x.dy.cn) : x.sz ≤ 144:=by
 have a:=cn_len h.1
 have b:=cn_len h.2.1
 have c:=cn_len h.2.2
 unfold Lk.sz R.sz
 omega
theorem lksOk_iff {l : List Lk} : lksOk l = true ↔ (∀ x ∈ l,lkOk x = true) ∧ l.Pairwise fun k l=>lkLess k l = true:=by
 constructor
 ·intro h
  exact ⟨fun x hx=>lksOk_mem h hx,(lksOk_pw h).imp fun h=>h.1⟩
 ·rintro ⟨h1,h2⟩
  unfold lksOk
  refine allB_t fun i hi=>?_
  have a:=h1 (l.getD i default) (getD_mem hi)
  unfold lksAt
  rw [List.pairwise_iff_getElem] at h2
  rcases Nat.eq_zero_or_pos i with h0 | h0
  ·subst h0;rw [a,decide_eq_true rfl];rfl
  ·have:=h2 (i - 1) i (by omega) hi (by omega)
   have e1 : l.getD (i - 1) default = l[i - 1]:=by rw [List.getD_eq_getElem?_getD,List.getElem?_eq_getElem];rfl
   have e2 : l.getD i default = l[i]:=by rw [List.getD_eq_getElem?_getD,List.getElem?_eq_getElem];rfl
   rw [← e1,← e2] at this
   rw [a,this,Bool.or_true];rfl
theorem lks_sz {s : List Lk} (h : ∀ x ∈ s,x.w.cn ∧ x.dx.cn ∧ x.dy.cn) (hl : s.length ≤ 101) : szL Lk.sz s ≤ 20000:=by
 have:=szL_bd (f:=Lk.sz) (k:=144) fun x hx=>lk_cn_sz (h x hx)
 omega
theorem lks_wf {s : List Lk} (h : ∀ x ∈ s,x.w.cn ∧ x.dx.cn ∧ x.dy.cn) (hl : s.length ≤ 101) : wfL Lk.wf s :=
 ⟨by omega,fun x hx=>⟨cn_wf (h x hx).1,cn_wf (h x hx).2.1,cn_wf (h x hx).2.2⟩⟩
def lkOf (l : List Lk) (a b : Int) : Lk:=if lksOk l = true then (fndL l a b).getD Lk0 else Lk0
def lkOfB (l : List Lk) (a b : Int) : Bool:=lksOk l && (fndL l a b).isSome
theorem lkOf_wf {l : List Lk} {a b : Int} (h : wfL Lk.wf l) : (lkOf l a b).wf:=by
 have h0 : Lk0.wf:=by simp [Lk.wf,R.wf]
 unfold lkOf
 split
 ·cases hf : fndL l a b with
  | none=>exact h0
  | some x=>exact h.2 x (fndL_mem hf)
 ·exact h0
theorem c_sLinkOf {T : Nat → Option Fn} (h : D_spec_LinkOf T) {l : List Lk} {a b : Int} (hw : wfL Lk.wf l:=by first | omega | assumption | (simp;omega)) (hz : szL Lk.sz l ≤ 1048576:=by first | omega | assumption | (simp;omega)) : PF T 225 [lksV l,iv a,iv b] (.tup [lkV (lkOf l a b),.bool (lkOfB l a b)]):=by
 have hl : l.length ≤ 1048576:=by have:=szL_eq Lk.sz l;omega
 have ci:=c_sIsLinkSet h.d_spec_IsLinkSet hw
 unfold lkOf lkOfB
 cases hb : lksOk l
 ·rw [hb] at ci
  refine pf_endL (fun _ _=>false) h.hT rfl rfl ?_
  dsimp only [F_spec_LinkOf,oN,oS,oG,oK,oA,oH,oV,cI]
  refine ev ?_
  refine PFK_of ci ?_
  refine ev ?_
  exact lax_tup1 laxLk0
 rw [hb] at ci
 simp only [Bool.true_and,if_true]
 refine pf_endL (fun _ _=>false) h.hT rfl rfl ?_
 dsimp only [F_spec_LinkOf,oN,oS,oG,oK,oA,oH,oV,cI]
 refine ev ?_
 refine PFK_of ci ?_
 refine ev ?_
 refine loop_at (fun _ _=>false) (α:=Nat) (fun i=>⟨argE [.any,iv a,iv b,.any,.any,.any,.ptr 0 0 0,.any,.any,.any,.any,.any,.any,.any,lksV l,iv (l.length : Nat),iv (i : Nat)],[some ⟨11,[[iv 0,iv 0,.bool false,.nils,.nils,.bool false,.nils,.nils,.bool false,.nils,.nils]]⟩],0,0,[],[]⟩) (fun i=>i ≤ l.length ∧ ∀ j,j < i → lkP a b (l.getD j default) = false) (fun i=>l.length - i) rfl 0 ?_ ?_ ?_
 ·exact ⟨by omega,fun j hj=>absurd hj (by omega)⟩
 ·(refine Fg_env ?_;exact fgV)
 ·rintro i ⟨hi,hj⟩
  by_cases hc : (i : Int) < (l.length : Nat)
  ·have hil : i < l.length:=by omega
   have hys:=szL_memb (f:=Lk.sz) hz (getD_mem hil)
   obtain ⟨y,hy⟩ : ∃ y,l.getD i default = y:=⟨_,rfl⟩
   rw [hy] at hys
   have cc:=c_l06Copy h.d_spec_l06Copy hys
   refine ev3 @hc @mg @hy ?_
   repeat' ((refine brK_decT (fun hb=>?_) fun hb=>?_) <;> (try (refine ev1 @hb ?_;try with_reducible exact True.intro)))
   all_goals simp only [eq_iff_iff,iff_true,iff_false] at *
   all_goals first
    | (exfalso;omega)
    | (
      have
        hn : ∀ j,j < i + 1 → lkP a b (l.getD j default) = false:=fun j hj'=>by
        by_cases e : j = i
        ·rw [e,hy];simp only [lkP,Bool.or_eq_false_iff,Bool.and_eq_false_iff,decide_eq_false_iff_not];omega
        ·exact hj j (by omega)
      exact ⟨i + 1,by omega,⟨by omega,hn⟩,by (refine Fg_re [(0,_)] (by simp) (by intro p hp;simp only [List.mem_cons,List.not_mem_nil,or_false] at hp;rcases hp with rfl <;> refine ⟨rfl,?_⟩ <;> first | exact ir_still _ | simp [stillR,V.still]) rfl ?_) <;> (try (refine ev ?_;try with_reducible exact True.intro)) <;> (repeat' (first | exact True.intro | omega | exact CanE_ptr rfl (by simp) | refine ⟨?_,?_⟩ | exact of_eq_true (CanE_nil _ _ _) | exact CanE_of rfl (by simp;done) | exact CanE_of rfl rfl | (refine CanE_msl rfl ?_ rfl;simp [irows];done) | (refine CanE_msl rfl ?_ rfl;simp [irows];omega) | (refine CanE_frz ?_ ?_;(focus ((refine ev ?_;try with_reducible exact True.intro);done));(intro q hq k s0 l0;simp;done))))⟩)
    | (
      have hm : lkP a b (l.getD i default) = true:=by rw [hy];simp only [lkP,Bool.or_eq_true,Bool.and_eq_true,decide_eq_true_eq];omega
      rw [fndL_t hil hj hm,hy]
      simp only [Option.getD_some,Option.isSome_some]
      refine PFK_of cc ?_
      refine ev ?_
      exact laxV_refl _)
  ·have : i = l.length:=by omega
   subst this
   rw [fndL_f hj]
   refine ev1 @hc ?_
   simp only [Option.getD_none,Option.isSome_none]
   exact lax_tup1 laxLk0
def armOf (v : Int) (l : Lk) : Option Pa:=if l.a = v then some ⟨l.b,l.w,negR l.dx,negR l.dy⟩ else if l.b = v then some ⟨l.a,l.w,l.dx,l.dy⟩ else none
def armI (S : List Lk) (v : Int) (k : Nat) : List Pa:=(S.take k).filterMap (armOf v)
def armA (S : List Lk) (v : Int) : List Pa:=armI S v S.length
theorem armI_0 (S : List Lk) (v : Int) : armI S v 0 = []:=by simp [armI]
theorem armI_s (S : List Lk) (v : Int) {i : Nat} (h : i < S.length) : armI S v (i + 1) = armI S v i ++ (match armOf v (S.getD i default) with | some n=>[n] | none=>[]):=by
 unfold armI;rw [take_snoc h,List.filterMap_append,List.filterMap_cons]
 cases armOf v (S.getD i default) <;> rfl
theorem armI_len (S : List Lk) (v : Int) (k : Nat) : (armI S v k).length ≤ k:=by
 unfold armI
 exact Nat.le_trans (List.length_filterMap_le _ _) (by simp;omega)
def elTot (A : List Pa) : R:=sumS A A.length
def elPa (t : R) (a : Pa) : Pa:=⟨a.node,divR a.share t,a.dx,a.dy⟩
def elCd (v : Int) (A : List Pa) : Cd:=⟨v,elTot A,A.map (elPa (elTot A))⟩
def elLk (t : R) (a b : Pa) : Lk:=⟨a.node,b.node,divR (mulR a.share b.share) t,subR a.dx b.dx,subR a.dy b.dy⟩
def elRow (A : List Pa) (i j : Nat) : List Lk:=((A.drop (i + 1)).take j).map (elLk (elTot A) (A.getD i default))
def elMesh (A : List Pa) : Nat → List Lk
 | 0=>[]
 | i + 1=>elMesh A i ++ elRow A i (A.length - (i + 1))
def elMs (A : List Pa) : List Lk:=elMesh A A.length
theorem elTot_cn (A : List Pa) : (elTot A).cn:=sumS_cn _ _
theorem elLk_cn (t : R) (a b : Pa) : (elLk t a b).w.cn ∧ (elLk t a b).dx.cn ∧ (elLk t a b).dy.cn:=⟨divR_cn _ _,subR_cn _ _,subR_cn _ _⟩
theorem elRow_0 (A : List Pa) (i : Nat) : elRow A i 0 = []:=by simp [elRow]
theorem elRow_s (A : List Pa) {i j : Nat} (h : i + 1 + j < A.length) : elRow A i (j + 1) = elRow A i j ++ [elLk (elTot A) (A.getD i default) (A.getD (i + 1 + j) default)]:=by
 unfold elRow
 rw [List.take_add_one,List.map_append]
 congr 1
 rw [List.getElem?_drop,List.getElem?_eq_getElem (by omega),List.getD_eq_getElem?_getD (i:=i + 1 + j),List.getElem?_eq_getElem (by omega)]
 rfl
theorem elRow_len (A : List Pa) (i j : Nat) : (elRow A i j).length ≤ j:=by unfold elRow;simp;omega
theorem elMesh_len (A : List Pa) : ∀ i,(elMesh A i).length ≤ i * A.length
 | 0=>Nat.zero_le _
 |
  i + 1=>by
  have h1:=elMesh_len A i
  have h2:=elRow_len A i (A.length - (i + 1))
  show (elMesh A i ++ elRow A i (A.length - (i + 1))).length ≤ (i + 1) * A.length
  rw [List.length_append,Nat.succ_mul];omega
theorem elRow_mem {A : List Pa} {i j : Nat} {x : Lk} (h : x ∈ elRow A i j) : ∃ k,i < k ∧ k < A.length ∧ x = elLk (elTot A) (A.getD i default) (A.getD k default):=by
 unfold elRow at h
 obtain ⟨b,hb,rfl⟩:=List.mem_map.1 h
 have hb:=List.mem_of_mem_take hb
 obtain ⟨q,hq⟩:=List.mem_iff_getElem?.1 hb
 rw [List.getElem?_drop] at hq
 have hl:=(List.getElem?_eq_some_iff.1 hq).1
 exact ⟨i + 1 + q,by omega,hl,by rw [List.getD_eq_getElem?_getD (i:=i + 1 + q),hq];rfl⟩
theorem elMesh_mem {A : List Pa} {x : Lk} : ∀ {i : Nat},x ∈ elMesh A i → ∃ p k,p < i ∧ p < k ∧ k < A.length ∧ x = elLk (elTot A) (A.getD p default) (A.getD k default)
 | 0,h=>by cases h
 |
  i + 1,h=>by
  rcases List.mem_append.1 h with h | h
  ·obtain ⟨p,k,h1,h2⟩:=elMesh_mem h
   exact ⟨p,k,by omega,h2⟩
  ·obtain ⟨k,h1,h2,h3⟩:=elRow_mem h
   exact ⟨i,k,by omega,h1,h2,h3⟩
theorem elMs_cn {A : List Pa} : ∀ x ∈ elMs A,x.w.cn ∧ x.dx.cn ∧ x.dy.cn:=fun x hx=>by
 obtain ⟨p,k,_,_,_,rfl⟩:=elMesh_mem hx
 exact elLk_cn _ _ _
def NAsc (A : List Pa) : Prop:=∀ i j,i < j → j < A.length → (A.getD i default).node < (A.getD j default).node
theorem nAsc_of {A : List Pa} (h : ∀ i,i + 1 < A.length → (A.getD i default).node < (A.getD (i + 1) default).node) : NAsc A
 | i,0,hij,_=>absurd hij (Nat.not_lt_zero _)
 |
  i,j + 1,hij,hj=>by
  by_cases e : i = j
  ·subst e;exact h i hj
  ·exact Int.lt_trans (nAsc_of h i j (by omega) (by omega)) (h j hj)
theorem elRow_pw {A : List Pa} (h : NAsc A) {i : Nat} : ∀ j,i + 1 + j ≤ A.length → (elRow A i j).Pairwise fun k l=>lkLess k l = true
 | 0,_=>by rw [elRow_0];exact .nil
 |
  j + 1,hj=>by
  rw [elRow_s A (by omega),List.pairwise_append]
  refine ⟨elRow_pw h j (by omega),by simp,fun x hx y hy=>?_⟩
  rw [List.mem_singleton.1 hy]
  unfold elRow at hx
  obtain ⟨b,hb,rfl⟩:=List.mem_map.1 hx
  obtain ⟨q,hq⟩:=List.mem_iff_getElem?.1 hb
  rw [List.getElem?_take] at hq
  split at hq
  ·rw [List.getElem?_drop] at hq
   have e : b = A.getD (i + 1 + q) default:=by rw [List.getD_eq_getElem?_getD,hq];rfl
   rw [lkLess_iff]
   refine .inr ⟨rfl,?_⟩
   rw [e]
   exact h _ _ (by omega) (by omega)
  ·cases hq
theorem elMesh_pw {A : List Pa} (h : NAsc A) : ∀ i,i ≤ A.length → (elMesh A i).Pairwise fun k l=>lkLess k l = true
 | 0,_=>.nil
 |
  i + 1,hi=>by
  show (elMesh A i ++ elRow A i (A.length - (i + 1))).Pairwise _
  rw [List.pairwise_append]
  refine ⟨elMesh_pw h i (by omega),elRow_pw h _ (by omega),fun x hx y hy=>?_⟩
  obtain ⟨p,k,h1,_,_,rfl⟩:=elMesh_mem hx
  obtain ⟨q,_,_,rfl⟩:=elRow_mem hy
  rw [lkLess_iff]
  exact .inl (h _ _ h1 (by omega))
theorem elCd_at {v : Int} {A : List Pa} {i : Nat} (h : i < A.length) : (elCd v A).ps.getD i default = elPa (elTot A) (A.getD i default):=by
 show (A.map _).getD i default = _
 rw [List.getD_eq_getElem?_getD,List.getElem?_map,List.getElem?_eq_getElem h,List.getD_eq_getElem?_getD,List.getElem?_eq_getElem h];rfl
theorem el_asc {v : Int} {A : List Pa} (h : cdOk (elCd v A) = true) : NAsc A:=by
 have hl : (elCd v A).ps.length = A.length:=List.length_map ..
 unfold cdOk at h
 simp only [Bool.and_eq_true,decide_eq_true_eq] at h
 refine nAsc_of fun i hi=>?_
 have:=h.1.1.1.1 (i + 1) (by rw [hl];exact hi)
 unfold paAt at this
 rw [elCd_at hi,Nat.add_sub_cancel,elCd_at (by omega)] at this
 simp only [Bool.and_eq_true,Bool.or_eq_true,decide_eq_true_eq] at this
 rcases this.1.1.1.2 with e | e
 ·omega
 ·exact e
theorem el_lks {v : Int} {A : List Pa} (h : cdOk (elCd v A) = true) : lksOk (elMs A) = (elMs A).all lkOk:=by
 cases ha : (elMs A).all lkOk
 ·cases hb : lksOk (elMs A)
  ·rfl
  ·rw [List.all_eq_true.2 (lksOk_iff.1 hb).1] at ha;cases ha
 ·exact lksOk_iff.2 ⟨List.all_eq_true.1 ha,elMesh_pw (el_asc h) _ (Nat.le_refl _)⟩
def elB (S : List Lk) (v : Int) : Bool:=lksOk S && inB v 1 9 && cdOk (elCd v (armA S v)) && (elMs (armA S v)).all lkOk
def elC (S : List Lk) (v : Int) : Cd:=if elB S v = true then elCd v (armA S v) else ⟨0,R0,[]⟩
def elM (S : List Lk) (v : Int) : List Lk:=if elB S v = true then elMs (armA S v) else []
theorem el_f {S : List Lk} {v : Int} (h : elB S v = false) : elC S v = ⟨0,R0,[]⟩ ∧ elM S v = []:=by
 unfold elC elM;rw [h];exact ⟨rfl,rfl⟩
theorem el_t {S : List Lk} {v : Int} (h : elB S v = true) : elC S v = elCd v (armA S v) ∧ elM S v = elMs (armA S v):=by
 unfold elC elM;rw [h];exact ⟨rfl,rfl⟩
theorem arm_ok {S : List Lk} (h : lksOk S = true) {v : Int} {a : Pa} {k : Nat} (ha : a ∈ armI S v k) : a.share.ok = true ∧ a.dx.cn ∧ a.dy.cn ∧ 0 ≤ a.node ∧ a.node ≤ 9:=by
 unfold armI at ha
 obtain ⟨l,hl,e⟩:=List.mem_filterMap.1 ha
 have hk:=lksOk_mem h (List.mem_of_mem_take hl)
 have h1:=lkOk_ok hk
 have h2:=lkOk_nd hk
 unfold armOf at e
 split at e
 ·cases e;exact ⟨h1.1,negR_cn _,negR_cn _,by dsimp only;omega,by dsimp only;omega⟩
 ·split at e
  ·cases e;exact ⟨h1.1,cn_ok h1.2.1,cn_ok h1.2.2.1,by dsimp only;omega,by dsimp only;omega⟩
  ·cases e
def armAt (S : List Lk) (v n : Int) : Pa:=if (lkOf S n v).a = v then ⟨n,(lkOf S n v).w,negR (lkOf S n v).dx,negR (lkOf S n v).dy⟩ else ⟨n,(lkOf S n v).w,(lkOf S n v).dx,(lkOf S n v).dy⟩
theorem lks_one {S : List Lk} (h : lksOk S = true) {x y : Lk} (hx : x ∈ S) (hy : y ∈ S) (ha : x.a = y.a) (hb : x.b = y.b) : x = y:=by
 have hp:=(lksOk_iff.1 h).2
 rw [List.pairwise_iff_getElem] at hp
 obtain ⟨i,hi⟩:=List.mem_iff_getElem?.1 hx
 obtain ⟨j,hj⟩:=List.mem_iff_getElem?.1 hy
 obtain ⟨hil,hie⟩:=List.getElem?_eq_some_iff.1 hi
 obtain ⟨hjl,hje⟩:=List.getElem?_eq_some_iff.1 hj
 rcases Nat.lt_trichotomy i j with k | k | k
 ·have:=hp i j hil hjl k
  rw [hie,hje,lkLess_iff] at this;omega
 ·subst k;rw [← hie,← hje]
 ·have:=hp j i hjl hil k
  rw [hie,hje,lkLess_iff] at this;omega
theorem fnd_one {S : List Lk} (h : lksOk S = true) {x : Lk} (hx : x ∈ S) {a b : Int} (hp : lkP a b x = true) : fndL S a b = some x:=by
 cases hf : fndL S a b with
 |
  none =>
  have:=List.find?_eq_none.1 hf x hx
  exact absurd hp this
 |
  some y =>
  have hy:=fndL_mem hf
  have hq : lkP a b y = true:=List.find?_some hf
  have n1:=lkOk_nd (lksOk_mem h hx)
  have n2:=lkOk_nd (lksOk_mem h hy)
  unfold lkP at hp hq
  simp only [Bool.or_eq_true,Bool.and_eq_true,decide_eq_true_eq] at hp hq
  rw [lks_one h hy hx (by omega) (by omega)]
theorem fm_congr {α β : Type} {f g : α → Option β} : ∀ {l : List α},(∀ x ∈ l,f x = g x) → l.filterMap f = l.filterMap g
 | [],_=>rfl
 | x :: l,h=>by rw [List.filterMap_cons,List.filterMap_cons,h x (by simp),fm_congr fun y hy=>h y (by simp [hy])]
theorem arm_map {S : List Lk} (h : lksOk S = true) (v : Int) : ((nbI S v S.length).map (armAt S v)) = armA S v:=by
 unfold nbI armA armI
 rw [List.take_length,List.map_filterMap]
 refine fm_congr fun l hl=>?_
 have n1:=lkOk_nd (lksOk_mem h hl)
 unfold nbOf armOf
 by_cases e1 : l.a = v
 ·have hf : lkOf S l.b v = l:=by
   unfold lkOf
   rw [if_pos h,fnd_one h hl (by unfold lkP;simp only [Bool.or_eq_true,Bool.and_eq_true,decide_eq_true_eq];exact .inr ⟨e1,trivial⟩)];rfl
  rw [if_pos e1,if_pos e1]
  show some (armAt S v l.b) = _
  unfold armAt
  rw [hf,if_pos e1]
 ·rw [if_neg e1,if_neg e1]
  by_cases e2 : l.b = v
  ·have hf : lkOf S l.a v = l:=by
    unfold lkOf
    rw [if_pos h,fnd_one h hl (by unfold lkP;simp only [Bool.or_eq_true,Bool.and_eq_true,decide_eq_true_eq];exact .inl ⟨trivial,e2⟩)];rfl
   rw [if_pos e2,if_pos e2]
   show some (armAt S v l.a) = _
   unfold armAt
   rw [hf,if_neg e1]
  ·rw [if_neg e2,if_neg e2];rfl
section
variable {s s1 σ2 : Store} {a b ta tb rs trs : List V} {os os2 : List Nat} {L : List (Nat × Obj)}
end
theorem Ep.sub {s : Store} {cs ts : List V} {os : List Nat} {L L' : List (Nat × Obj)} (E : Ep s cs ts os L) (h : ∀ q ∈ L',q ∈ L) : Ep s cs ts os L':=⟨E.c,fun q hq=>E.l q (h q hq)⟩
end Go.Ml
end
section
namespace Go.Ml
section
variable {s s1 S σ2 : Store} {a b c ta tb tc rs trs cs ts : List V} {os os2 : List Nat} {L L' : List (Nat × Obj)}
theorem Ep.to (E : Ep s cs ts os L) (ho : ∀ o ∈ os,objAt S o = objAt s o) (hL : ∀ q ∈ L',(q ∈ L ∧ objAt S q.1 = objAt s q.1) ∨ (objAt S q.1 = some q.2 ∧ q.1 ∉ os)) : Ep S cs ts os L':=by
 refine ⟨E.c.frame ho,fun q hq=>?_⟩
 rcases hL q hq with ⟨h1,h2⟩ | h
 ·exact ⟨h2.trans (E.l q h1).1,(E.l q h1).2⟩
 ·exact h
theorem Ep.oslt (E : Ep s cs ts os L) : ∀ o ∈ os,o < s.length:=fun o h=>E.c.lt o h
theorem Ep.renewM (E : Ep s (a ++ (b ++ c)) (ta ++ (tb ++ tc)) os L) (hla : a.length = ta.length) (hlb : b.length = tb.length) (h1 : ∀ o,o < s.length → objAt s1 o = objAt s o) (hl : s.length ≤ s1.length) (ho : OwL σ2 rs trs os2) (hn : os2.Nodup) (hf : ∀ o ∈ os2,s1.length ≤ o)
  (old : ∀ o,o < s1.length → objAt σ2 o = objAt s1 o) : ∃ os',Ep σ2 (a ++ (rs ++ c)) (ta ++ (trs ++ tc)) os' L ∧ ∀ o ∈ os',o ∈ os ∨ s1.length ≤ o:=by
 obtain ⟨a1,a2,oa,obc,e,rfl,k1,k2⟩:=owL_split E.c.ow
 obtain ⟨rfl,rfl⟩:=List.append_inj e (by rw [hla];exact k1.len.symm)
 obtain ⟨b1,b2,ob,oc,e,rfl,k3,k4⟩:=owL_split k2
 obtain ⟨rfl,rfl⟩:=List.append_inj e (by rw [hlb];exact k3.len.symm)
 have hlt:=fun o (h : o ∈ oa ++ (ob ++ oc))=>E.c.lt o h
 have nd:=List.nodup_append.1 E.c.nd
 have nd2:=List.nodup_append.1 nd.2.1
 have fr : ∀ o ∈ oa ++ (ob ++ oc),objAt σ2 o = objAt s o:=fun o h=>by
  have:=hlt o h
  rw [old o (by omega),h1 o this]
 refine ⟨oa ++ (os2 ++ oc),⟨⟨owL_append (k1.frame fun o h=>fr o (by simp [h])) (owL_append ho (k4.frame fun o h=>fr o (by simp [h]))),?_⟩,fun q hq=>⟨(old _ (Nat.lt_of_lt_of_le (E.lt q hq) hl)).trans ((h1 _ (E.lt q hq)).trans (E.l q hq).1),fun hm=>?_⟩⟩,fun o h=>?_⟩
 ·rw [List.nodup_append,List.nodup_append]
  refine ⟨nd.1,⟨hn,nd2.2.1,fun x hx y hy e=>?_⟩,fun x hx y hy e=>?_⟩
  ·have:=hf x hx
   have:=hlt y (by simp [hy])
   omega
  ·rcases List.mem_append.1 hy with hy | hy
   ·have:=hf y hy
    have:=hlt x (by simp [hx])
    omega
   ·exact nd.2.2 x hx y (List.mem_append_right _ hy) e
 ·simp only [List.mem_append] at hm
  rcases hm with hm | hm | hm
  ·exact (E.l q hq).2 (by simp [hm])
  ·have:=hf _ hm;have:=E.lt q hq;omega
  ·exact (E.l q hq).2 (by simp [hm])
 ·simp only [List.mem_append] at h
  rcases h with h | h | h
  ·exact .inl (by simp [h])
  ·exact .inr (hf o h)
  ·exact .inl (by simp [h])
theorem Ep.upd {p : Nat} {ob ob0 : Obj} (E : Ep s (a ++ (b ++ c)) (ta ++ (tb ++ tc)) os L) (hp : (p,ob0) ∈ L) (hla : a.length = ta.length) (hlb : b.length = tb.length) (h1 : ∀ o,o < s.length → objAt s1 o = objAt s o) (hl : s.length ≤ s1.length) (ho : OwL σ2 rs trs os2) (hn : os2.Nodup) (hf : ∀ o ∈ os2,s1.length ≤ o)
  (old : ∀ o,o < s1.length → objAt σ2 o = objAt s1 o) (hL : ∀ q ∈ L',(q.1 ≠ p ∧ q ∈ L) ∨ q = (p,ob)) (hs : s1.length ≤ σ2.length) : ∃ os',Ep (σ2.set p (some ob)) (a ++ (rs ++ c)) (ta ++ (trs ++ tc)) os' L':=by
 obtain ⟨os',E2,_⟩:=E.renewM hla hlb h1 hl ho hn hf old
 have hpl:=E.lt _ hp
 exact ⟨os',E2.reloc (E2.l _ hp).2 (by dsimp only at hpl;omega) hL⟩
theorem Ep.cut (E : Ep s (a ++ (b ++ c)) (ta ++ (tb ++ tc)) os L) (hla : a.length = ta.length) (hlb : b.length = tb.length) : ∃ os',Ep s (a ++ c) (ta ++ tc) os' L ∧ ∀ o ∈ os',o ∈ os:=by
 obtain ⟨a1,a2,oa,obc,e,rfl,k1,k2⟩:=owL_split E.c.ow
 obtain ⟨rfl,rfl⟩:=List.append_inj e (by rw [hla];exact k1.len.symm)
 obtain ⟨b1,b2,ob,oc,e,rfl,k3,k4⟩:=owL_split k2
 obtain ⟨rfl,rfl⟩:=List.append_inj e (by rw [hlb];exact k3.len.symm)
 have nd:=List.nodup_append.1 E.c.nd
 have nd2:=List.nodup_append.1 nd.2.1
 refine ⟨oa ++ oc,⟨⟨owL_append k1 k4,?_⟩,fun q hq=>⟨(E.l q hq).1,fun hm=>(E.l q hq).2 ?_⟩⟩,fun o h=>?_⟩
 ·rw [List.nodup_append]
  exact ⟨nd.1,nd2.2.1,fun x hx y hy e=>nd.2.2 x hx y (List.mem_append_right _ hy) e⟩
 ·rcases List.mem_append.1 hm with h | h <;> simp [h]
 ·rcases List.mem_append.1 h with h | h <;> simp [h]
theorem Ep.swap (E : Ep s (a ++ (b ++ c)) (ta ++ (tb ++ tc)) os L) (hla : a.length = ta.length) (hlb : b.length = tb.length) : ∃ os',Ep s (b ++ (a ++ c)) (tb ++ (ta ++ tc)) os' L ∧ ∀ o,o ∈ os' ↔ o ∈ os:=by
 obtain ⟨a1,a2,oa,obc,e,rfl,k1,k2⟩:=owL_split E.c.ow
 obtain ⟨rfl,rfl⟩:=List.append_inj e (by rw [hla];exact k1.len.symm)
 obtain ⟨b1,b2,ob,oc,e,rfl,k3,k4⟩:=owL_split k2
 obtain ⟨rfl,rfl⟩:=List.append_inj e (by rw [hlb];exact k3.len.symm)
 have nd:=List.nodup_append.1 E.c.nd
 have nd2:=List.nodup_append.1 nd.2.1
 have hm : ∀ o,o ∈ ob ++ (oa ++ oc) ↔ o ∈ oa ++ (ob ++ oc):=fun o=>by simp only [List.mem_append];constructor <;> rintro (h | h | h) <;> simp [h]
 refine ⟨ob ++ (oa ++ oc),⟨⟨owL_append k3 (owL_append k1 k4),?_⟩,fun q hq=>⟨(E.l q hq).1,fun h=>(E.l q hq).2 ((hm _).1 h)⟩⟩,hm⟩
 rw [List.nodup_append,List.nodup_append]
 refine ⟨nd2.1,⟨nd.1,nd2.2.1,fun x hx y hy e=>nd.2.2 x hx y (List.mem_append_right _ hy) e⟩,fun x hx y hy e=>?_⟩
 rcases List.mem_append.1 hy with hy | hy
 ·exact nd.2.2 y hy x (List.mem_append_left _ hx) e.symm
 ·exact nd2.2.2 x hx y hy e
end
theorem owR_flat {σ : Store} {k : Nat} : ∀ {A T : List (List V)} {os : List Nat},(∀ r ∈ A,r.length = k) → (∀ r ∈ T,r.length = k) → A.length = T.length → OwL σ A.flatten T.flatten os → OwR σ A T os
 |
  [],[],os,_,_,_,h=>by
  simp only [List.flatten_nil,OwL] at h
  simp only [OwR];exact h
 | [],t :: T,_,_,_,h,_=>by simp at h
 | a :: A,[],_,_,_,h,_=>by simp at h
 |
  a :: A,t :: T,os,ha,ht,hl,h=>by
  simp only [List.flatten_cons] at h
  obtain ⟨v1,v2,o1,o2,e,rfl,h1,h2⟩:=owL_split h
  have hlen:=h1.len
  have e1:=ha a (by simp)
  have e2:=ht t (by simp)
  obtain ⟨rfl,rfl⟩:=List.append_inj e (by omega)
  simp only [OwR]
  exact ⟨a,A,o1,o2,rfl,rfl,h1,owR_flat (fun r hr=>ha r (by simp [hr])) (fun r hr=>ht r (by simp [hr])) (by simpa using hl) h2⟩
section
variable {s : Store} {A T : List (List V)} {a c ta tc : List V} {os : List Nat} {L : List (Nat × Obj)} {n p k : Nat}
theorem Ep.close (E : Ep s (A.flatten ++ c) (T.flatten ++ tc) os L) (hp : (p,⟨n,A⟩) ∈ L) (ha : ∀ r ∈ A,r.length = k) (ht : ∀ r ∈ T,r.length = k) (hl : A.length = T.length) :
  ∃ os',Ep s (.msl p 0 A.length :: c) (.sl n T :: tc) os' (L.filter fun q=>q.1 != p):=by
 have hfl : A.flatten.length = T.flatten.length:=by
  have e1 : ∀ (X : List (List V)),(∀ r ∈ X,r.length = k) → X.flatten.length = X.length * k:=fun X=>by
   induction X with
   | nil=>intro _;simp
   |
    cons x X ih =>
    intro h
    rw [List.flatten_cons,List.length_append,ih fun r hr=>h r (by simp [hr]),h x (by simp),List.length_cons,Nat.succ_mul]
    omega
  rw [e1 A ha,e1 T ht,hl]
 obtain ⟨v1,v2,o1,o2,e,rfl,h1,h2⟩:=owL_split E.c.ow
 obtain ⟨rfl,rfl⟩:=List.append_inj e (by rw [hfl];exact h1.len.symm)
 have hR:=owR_flat ha ht hl h1
 have hpo:=E.l _ hp
 have nd:=List.nodup_append.1 E.c.nd
 have hv : OwV s (.msl p 0 A.length) (.sl n T) (p :: o1):=by
  simp only [OwV]
  exact .inr ⟨p,A,o1,by rw [hl],hpo.1,rfl,hR⟩
 refine ⟨(p :: o1) ++ o2,⟨⟨owL_v hv h2,?_⟩,fun q hq=>?_⟩⟩
 ·simp only [List.cons_append,List.nodup_cons]
  exact ⟨hpo.2,E.c.nd⟩
 ·obtain ⟨hq1,hq2⟩:=List.mem_filter.1 hq
  have hne : q.1 ≠ p:=by simpa using hq2
  refine ⟨(E.l q hq1).1,fun hm=>?_⟩
  simp only [List.cons_append,List.mem_cons] at hm
  rcases hm with hm | hm
  ·exact hne hm
  ·exact (E.l q hq1).2 hm
end
end Go.Ml
end
section
namespace Go.Ml
def Rd2 (s : Store) (v w : V) (X Y : List R) : Prop :=
 (X = [] ∧ Y = [] ∧ v = .nils ∧ w = .nils) ∨ ∃ p q,p ≠ q ∧ v = .msl p 0 X.length ∧ w = .msl q 0 Y.length ∧ objAt s p = some ⟨3,X.map R.cells⟩ ∧ objAt s q = some ⟨3,Y.map R.cells⟩
theorem Rd2.fr {s s2 : Store} {v w : V} {X Y : List R} (h : Rd2 s v w X Y) (hf : ∀ p,p < s.length → objAt s2 p = objAt s p) : Rd2 s2 v w X Y:=by
 rcases h with h | ⟨p,q,h1,h2,h3,h4,h5⟩
 ·exact .inl h
 ·exact .inr ⟨p,q,h1,h2,h3,(hf p (objAt_lt h4)).trans h4,(hf q (objAt_lt h5)).trans h5⟩
def LAt (n : Nat) (v : V) (A : List (List V)) (M : List (Nat × Obj)) : Prop:=(A = [] ∧ v = .nils ∧ M = []) ∨ ∃ p,v = .msl p 0 A.length ∧ M = [(p,⟨n,A⟩)]
def zrow (x : Nat × List R) : List V:=[.msl x.1 0 x.2.length]
def MatA (s : Store) (v : V) (Z : List (Nat × List R)) : Prop:=((Z = [] ∧ v = .nils) ∨ ∃ q,v = .msl q 0 Z.length ∧ objAt s q = some ⟨1,Z.map zrow⟩) ∧ ∀ x ∈ Z,objAt s x.1 = some ⟨3,x.2.map R.cells⟩
theorem MatA.fr {s s2 : Store} {v : V} {Z : List (Nat × List R)} (h : MatA s v Z) (hf : ∀ p,p < s.length → objAt s2 p = objAt s p) : MatA s2 v Z :=
 ⟨h.1.imp id fun ⟨q,e,hq⟩=>⟨q,e,(hf q (objAt_lt hq)).trans hq⟩,fun x hx=>(hf _ (objAt_lt (h.2 x hx))).trans (h.2 x hx)⟩
theorem MatA.map {s : Store} {m : Nat} : ∀ {Z : List (Nat × List R)},(∀ x ∈ Z,objAt s x.1 = some ⟨3,x.2.map R.cells⟩) → ((Z.map zrow).mapM fun r=>r.mapM (resolve s (m + 2))) = some ((Z.map (·.2)).map fun r=>[ratsV r])
 | [],_=>rfl
 |
  x :: Z,h=>by
  have hx:=h x (by simp)
  have e : resolve s (m + 2) (.msl x.1 0 x.2.length) = some (ratsV x.2):=by
   have h2:=st_R x.2
   unfold resolve
   simp only [hx]
   rw [if_pos (by simp),List.drop_zero,List.take_of_length_le (by simp),mapM_stillR (n:=m) h2]
   rfl
  have ih:=MatA.map (m:=m) (Z:=Z) fun y hy=>h y (by simp [hy])
  rw [List.map_cons,List.mapM_cons,ih]
  have : (zrow x).mapM (resolve s (m + 2)) = some [ratsV x.2]:=by
   unfold zrow
   rw [List.mapM_cons,e]
   rfl
  rw [this]
  rfl
theorem MatA.res {s : Store} {q : Nat} {Z : List (Nat × List R)} (h : ∀ x ∈ Z,objAt s x.1 = some ⟨3,x.2.map R.cells⟩) (hq : objAt s q = some ⟨1,Z.map zrow⟩) : resolve s FD (.msl q 0 Z.length) = some (ratssV (Z.map (·.2))):=by
 show resolve s (9 + 2 + 1) _ = _
 unfold resolve
 simp only [hq]
 rw [if_pos (by simp),List.drop_zero,List.take_of_length_le (by simp),MatA.map h]
 rfl
def RowN (s : Store) (n0 : Nat) (v : V) (L : List R) : Prop:=(L = [] ∧ v = .nils) ∨ ∃ p,v = .msl p 0 L.length ∧ n0 ≤ p ∧ objAt s p = some ⟨3,L.map R.cells⟩
theorem RowN.fr {s s2 : Store} {v : V} {n0 : Nat} {L : List R} (h : RowN s n0 v L) (hf : ∀ p,p < s.length → objAt s2 p = objAt s p) : RowN s2 n0 v L :=
 h.imp id fun ⟨q,e,hn,hq⟩=>⟨q,e,hn,(hf q (objAt_lt hq)).trans hq⟩
abbrev nbA (s : List Lk) (x : Int) : List Int:=nbI s x s.length
inductive Rch (s : List Lk) (v : Int) : Int → Prop
 | base : Rch s v v
 | step {a b : Int} : Rch s v a → b ∈ nbA s a → Rch s v b
theorem nbA_mem {s : List Lk} {x b : Int} : b ∈ nbA s x ↔ ∃ l ∈ s,nbOf x l = some b:=by
 unfold nbA nbI
 rw [List.take_length,List.mem_filterMap]
theorem nbA_bd {s : List Lk} (h : lksOk s = true) {x b : Int} (hb : b ∈ nbA s x) : 0 ≤ b ∧ b < 10 ∧ 0 ≤ x ∧ x < 10:=by
 obtain ⟨l,hl,e⟩:=nbA_mem.1 hb
 have:=lkOk_nd (lksOk_mem h hl)
 unfold nbOf at e
 split at e
 ·cases e;omega
 ·split at e
  ·cases e;omega
  ·cases e
theorem rch_bd {s : List Lk} (h : lksOk s = true) {v b : Int} (hr : Rch s v b) : b = v ∨ (0 ≤ b ∧ b < 10 ∧ 0 ≤ v ∧ v < 10):=by
 induction hr with
 | base=>exact .inl rfl
 |
  step ha hb ih =>
  have:=nbA_bd h hb
  rcases ih with rfl | ih
  ·exact .inr ⟨this.1,this.2.1,this.2.2⟩
  ·exact .inr ⟨this.1,this.2.1,ih.2.2⟩
theorem rch_len {s : List Lk} (h : lksOk s = true) {v : Int} {l : List Int} (hn : l.Nodup) (hl : ∀ a ∈ l,Rch s v a) : l.length ≤ 10:=by
 by_cases hv : 0 ≤ v ∧ v < 10
 ·have:=nodup_le (a:=l) (b:=[0,1,2,3,4,5,6,7,8,9]) hn fun a ha=>by
   have hb : 0 ≤ a ∧ a < 10:=by
    rcases rch_bd h (hl a ha) with rfl | k
    ·exact hv
    ·exact ⟨k.1,k.2.1⟩
   simp only [List.mem_cons,List.not_mem_nil,or_false]
   omega
  simpa using this
 ·have:=nodup_le (a:=l) (b:=[v]) hn fun a ha=>by
   rcases rch_bd h (hl a ha) with rfl | k
   ·simp
   ·exact absurd k.2.2 hv
  simp at this
  omega
def cpRow (s : List Lk) (out : List Int) (x : Int) : List Int:=(nbA s x).foldl putI out
def cpRound (s : List Lk) (out : List Int) : List Int:=out.foldl (cpRow s) out
def cpS (s : List Lk) (v : Int) : Nat → List Int
 | 0=>[v]
 | n + 1=>cpRound s (cpS s v n)
theorem putF_mem : ∀ (l out : List Int) (a : Int),a ∈ l.foldl putI out ↔ a ∈ out ∨ a ∈ l
 | [],out,a=>by simp
 |
  x :: l,out,a=>by
  rw [List.foldl_cons,putF_mem l,putI_mem,List.mem_cons]
  constructor
  ·rintro ((h | h) | h)
   ·exact .inr (.inl h)
   ·exact .inl h
   ·exact .inr (.inr h)
  ·rintro (h | h | h)
   ·exact .inl (.inr h)
   ·exact .inl (.inl h)
   ·exact .inr h
theorem putF_asc : ∀ (l out : List Int),Asc out → Asc (l.foldl putI out)
 | [],out,h=>h
 | x :: l,out,h=>putF_asc l _ (putI_asc h)
theorem cpF_mem {s : List Lk} : ∀ (l out : List Int) (a : Int),a ∈ l.foldl (cpRow s) out ↔ a ∈ out ∨ ∃ x ∈ l,a ∈ nbA s x
 | [],out,a=>by simp
 |
  x :: l,out,a=>by
  rw [List.foldl_cons,cpF_mem l]
  unfold cpRow
  rw [putF_mem,or_assoc]
  simp only [List.mem_cons,exists_eq_or_imp]
theorem cpF_asc {s : List Lk} : ∀ (l out : List Int),Asc out → Asc (l.foldl (cpRow s) out)
 | [],out,h=>h
 | x :: l,out,h=>cpF_asc l _ (putF_asc _ _ h)
theorem cpS_asc (s : List Lk) (v : Int) : ∀ n,Asc (cpS s v n)
 | 0=>by unfold Asc cpS;simp
 | n + 1=>cpF_asc _ _ (cpS_asc s v n)
theorem cpS_rch (s : List Lk) (v : Int) : ∀ n,∀ a ∈ cpS s v n,Rch s v a
 | 0,a,h=>by simp [cpS] at h;subst h;exact .base
 |
  n + 1,a,h=>by
  rcases (cpF_mem _ _ _).1 h with h | ⟨x,hx,h⟩
  ·exact cpS_rch s v n a h
  ·exact .step (cpS_rch s v n x hx) h
theorem cpS_base (s : List Lk) (v : Int) : ∀ n,v ∈ cpS s v n
 | 0=>by simp [cpS]
 | n + 1=>(cpF_mem _ _ _).2 (.inl (cpS_base s v n))
theorem cpS_len {s : List Lk} (h : lksOk s = true) (v : Int) (n : Nat) : (cpS s v n).length ≤ 10:=rch_len h (asc_nodup (cpS_asc s v n)) (cpS_rch s v n)
def Closed (s : List Lk) (l : List Int) : Prop:=∀ a ∈ l,∀ b ∈ nbA s a,b ∈ l
theorem cpS_grow {s : List Lk} (v : Int) : ∀ n,Closed s (cpS s v n) ∨ n + 1 ≤ (cpS s v n).length
 | 0=>.inr (by simp [cpS])
 |
  n + 1=>by
  have hsub : ∀ a ∈ cpS s v n,a ∈ cpS s v (n + 1):=fun a ha=>(cpF_mem _ _ _).2 (.inl ha)
  rcases Classical.em (Closed s (cpS s v n)) with hc | hc
  ·left
   intro a ha b hb
   have ha' : a ∈ cpS s v n:=by
    rcases (cpF_mem _ _ _).1 ha with h | ⟨x,hx,h⟩
    ·exact h
    ·exact hc x hx a h
   exact hsub b (hc a ha' b hb)
  ·right
   have hl:=(cpS_grow v n).resolve_left hc
   have : ∃ a ∈ cpS s v n,∃ b ∈ nbA s a,b ∉ cpS s v n:=by
    refine Classical.byContradiction fun hne=>hc fun a ha b hb=>Classical.byContradiction fun hnb=>hne ⟨a,ha,b,hb,hnb⟩
   obtain ⟨a,ha,b,hb,hnb⟩:=this
   have:=nodup_le (a:=b :: cpS s v n) (b:=cpS s v (n + 1)) (List.nodup_cons.2 ⟨hnb,asc_nodup (cpS_asc s v n)⟩) fun x hx=>by
    rcases List.mem_cons.1 hx with rfl | hx
    ·exact (cpF_mem _ _ _).2 (.inr ⟨a,ha,hb⟩)
    ·exact hsub x hx
   simp only [List.length_cons] at this
   omega
theorem cpS_closed {s : List Lk} (h : lksOk s = true) (v : Int) : Closed s (cpS s v 10):=by
 rcases cpS_grow (s:=s) v 10 with hc | hc
 ·exact hc
 ·have:=cpS_len h v 10;omega
def cpV (s : List Lk) (v : Int) : List Int:=cpS s v 10
theorem cpV_mem {s : List Lk} (h : lksOk s = true) {v a : Int} : a ∈ cpV s v ↔ Rch s v a:=by
 constructor
 ·exact cpS_rch s v 10 a
 ·intro hr
  induction hr with
  | base=>exact cpS_base s v 10
  | step _ hb ih=>exact cpS_closed h v _ ih _ hb
theorem sortI_asc {l : List Int} (hn : l.Nodup) : Asc (sortI l):=by
 have h1 : (sortI l).Pairwise fun a b=>(decide (a ≤ b)) = true:=by
  unfold sortI
  exact List.pairwise_mergeSort (fun a b c h1 h2=>by simp at *;omega) (fun a b=>by simp;omega) l
 have h2 : (sortI l).Nodup:=(List.mergeSort_perm l _).nodup_iff.2 hn
 unfold Asc
 refine (h1.and h2).imp fun ⟨h,hne⟩=>?_
 have : _ ≤ _:=of_decide_eq_true h
 omega
theorem sortI_mem {l : List Int} {a : Int} : a ∈ sortI l ↔ a ∈ l:=(List.mergeSort_perm l _).mem_iff
theorem sort_cp {s : List Lk} (h : lksOk s = true) {v : Int} {l : List Int} (hn : l.Nodup) (hv : v ∈ l) (hr : ∀ a ∈ l,Rch s v a) (hc : Closed s l) : sortI l = cpV s v:=by
 refine asc_ext (sortI_asc hn) (cpS_asc s v 10) fun a=>?_
 rw [sortI_mem,cpV_mem h]
 constructor
 ·exact hr a
 ·intro hra
  induction hra with
  | base=>exact hv
  | step _ hb ih=>exact hc _ ih _ hb
def addN (l : List Int) (u : Int) : List Int:=if u ∈ l then l else l ++ [u]
theorem addN_mem {l : List Int} {u a : Int} : a ∈ addN l u ↔ a ∈ l ∨ a = u:=by
 unfold addN
 split
 ·rename_i h
  constructor
  ·exact .inl
  ·rintro (k | rfl)
   ·exact k
   ·exact h
 ·simp
theorem addN_nd {l : List Int} {u : Int} (h : l.Nodup) : (addN l u).Nodup:=by
 unfold addN
 split
 ·exact h
 ·rename_i hu
  rw [List.nodup_append]
  exact ⟨h,by simp,fun a ha b hb e=>by simp at hb;subst hb;exact hu (e ▸ ha)⟩
theorem addG_mem : ∀ (us l : List Int) (a : Int),a ∈ us.foldl addN l ↔ a ∈ l ∨ a ∈ us
 | [],l,a=>by simp
 |
  u :: us,l,a=>by
  rw [List.foldl_cons,addG_mem us,addN_mem,List.mem_cons,or_assoc]
theorem addG_nd : ∀ (us l : List Int),l.Nodup → (us.foldl addN l).Nodup
 | [],l,h=>h
 | u :: us,l,h=>addG_nd us _ (addN_nd h)
theorem addG_pre : ∀ (us l : List Int),∃ r,us.foldl addN l = l ++ r
 | [],l=>⟨[],by simp⟩
 |
  u :: us,l=>by
  obtain ⟨r,e⟩:=addG_pre us (addN l u)
  rw [List.foldl_cons,e]
  unfold addN
  split
  ·exact ⟨r,rfl⟩
  ·exact ⟨u :: r,by simp⟩
structure Bfs (s : List Lk) (v : Int) (i : Nat) (l : List Int) : Prop where
 nd : l.Nodup
 mem : v ∈ l
 rch : ∀ a ∈ l,Rch s v a
 le : i ≤ l.length
 cl : ∀ j,j < i → ∀ b ∈ nbA s (l.getD j 0),b ∈ l
theorem Bfs.start (s : List Lk) (v : Int) : Bfs s v 0 [v]:=⟨by simp,by simp,fun a h=>by simp at h;subst h;exact .base,by simp,fun j h=>absurd h (Nat.not_lt_zero _)⟩
theorem Bfs.next {s : List Lk} {v : Int} {i : Nat} {l : List Int} (h : Bfs s v i l) (hi : i < l.length) : Bfs s v (i + 1) ((nbA s (l.getD i 0)).foldl addN l):=by
 obtain ⟨r,e⟩:=addG_pre (nbA s (l.getD i 0)) l
 have hm:=addG_mem (nbA s (l.getD i 0)) l
 have hli : l.getD i 0 ∈ l:=by rw [List.getD_eq_getElem?_getD,List.getElem?_eq_getElem hi];exact List.getElem_mem hi
 refine ⟨addG_nd _ _ h.nd,(hm v).2 (.inl h.mem),fun a ha=>?_,by rw [e,List.length_append];omega,fun j hj b hb=>?_⟩
 ·rcases (hm a).1 ha with ha | ha
  ·exact h.rch a ha
  ·exact .step (h.rch _ hli) ha
 ·have hjl : j < l.length:=by omega
  have ej : ((nbA s (l.getD i 0)).foldl addN l).getD j 0 = l.getD j 0:=by
   rw [e,List.getD_eq_getElem?_getD,List.getD_eq_getElem?_getD,List.getElem?_append_left hjl]
  rw [ej] at hb
  by_cases hji : j = i
  ·subst hji;exact (hm b).2 (.inr hb)
  ·exact (hm b).2 (.inl (h.cl j (by omega) b hb))
theorem Bfs.len {s : List Lk} (hk : lksOk s = true) {v : Int} {i : Nat} {l : List Int} (h : Bfs s v i l) : l.length ≤ 10:=rch_len hk h.nd h.rch
theorem Bfs.fin {s : List Lk} (hk : lksOk s = true) {v : Int} {l : List Int} (h : Bfs s v l.length l) : sortI l = cpV s v :=
 sort_cp hk h.nd h.mem h.rch fun a ha b hb=>by
  obtain ⟨j,hj⟩:=List.mem_iff_getElem?.1 ha
  have hjl:=(List.getElem?_eq_some_iff.1 hj).1
  exact h.cl j hjl b (by rw [List.getD_eq_getElem?_getD,hj];exact hb)
def LnA (s : Store) (v : V) (L : List Lk) : Prop:=(L = [] ∧ v = .nils) ∨ ∃ p,v = .msl p 0 L.length ∧ objAt s p = some ⟨11,L.map Lk.cells⟩
theorem LnA.fr {s s2 : Store} {v : V} {L : List Lk} (h : LnA s v L) (hf : ∀ p,p < s.length → objAt s2 p = objAt s p) : LnA s2 v L :=
 h.imp id fun ⟨q,e,hq⟩=>⟨q,e,(hf q (objAt_lt hq)).trans hq⟩
abbrev MF:=Nat → List R
def elF (M : MF) (i j : Nat) : R:=(M i).getD j default
def rrP (M : MF) (k : Nat) : Nat → Nat → Nat
 | 0,p=>p
 | f + 1,p=>if sgnR (elF M p k) = 0 then rrP M k f (p + 1) else p
def rrPv (n : Nat) (M : MF) (k : Nat) : Nat:=rrP M k (n - k) k
def rrSwap (M : MF) (k p : Nat) : MF:=fun i=>if i = p then M k else if i = k then M p else M i
def rrDiv (r : List R) (k : Nat) : List R:=r.map fun x=>divR x (r.getD k default)
def rrSub (r b : List R) (f : R) : List R:=(List.range r.length).map fun j=>subR (r.getD j default) (mulR (b.getD j default) f)
def rrOne (n : Nat) (M : MF) (k : Nat) : MF:=rrSwap M k (rrPv n M k)
def rrTwo (n : Nat) (M : MF) (k : Nat) : MF:=fun i=>if i = k then rrDiv (rrOne n M k k) k else rrOne n M k i
def rrTri (M : MF) (k : Nat) : MF:=fun i=>if i = k then M k else rrSub (M i) (M k) (elF M i k)
def allOk (n : Nat) (M : MF) : Bool:=allB n fun i=>(M i).all R.ok
def rrStep (n : Nat) (M : MF) (k : Nat) : Option MF :=
 if (decide (rrPv n M k < n) && allOk n (rrTri (rrTwo n M k) k)) = true then some (rrTri (rrTwo n M k) k) else none
def OkM (n c : Nat) (M : MF) : Prop:=∀ i,i < n → (M i).length = c ∧ ∀ x ∈ M i,x.cn
theorem OkM.el {n c : Nat} {M : MF} (h : OkM n c M) {i j : Nat} (hi : i < n) (hj : j < c) : (elF M i j).cn:=(h i hi).2 _ (getD_mem (by rw [(h i hi).1];exact hj))
theorem rrDiv_len (r : List R) (k : Nat) : (rrDiv r k).length = r.length:=by unfold rrDiv;simp
theorem rrSub_len (r b : List R) (f : R) : (rrSub r b f).length = r.length:=by unfold rrSub;simp
theorem rrDiv_cn (r : List R) (k : Nat) : ∀ x ∈ rrDiv r k,x.cn:=fun x hx=>by
 obtain ⟨y,_,rfl⟩:=List.mem_map.1 hx;exact divR_cn _ _
theorem rrSub_cn (r b : List R) (f : R) : ∀ x ∈ rrSub r b f,x.cn:=fun x hx=>by
 obtain ⟨y,_,rfl⟩:=List.mem_map.1 hx;exact subR_cn _ _
theorem OkM.swap {n c : Nat} {M : MF} (h : OkM n c M) {k p : Nat} (hk : k < n) (hp : p < n) : OkM n c (rrSwap M k p):=fun i hi=>by
 unfold rrSwap
 split
 ·exact h k hk
 ·split
  ·exact h p hp
  ·exact h i hi
theorem OkM.one {n c : Nat} {M : MF} (h : OkM n c M) {k : Nat} (hk : k < n) (hp : rrPv n M k < n) : OkM n c (rrOne n M k):=h.swap hk hp
theorem OkM.two {n c : Nat} {M : MF} (h : OkM n c M) {k : Nat} (hk : k < n) (hp : rrPv n M k < n) : OkM n c (rrTwo n M k):=fun i hi=>by
 unfold rrTwo
 split
 ·exact ⟨by rw [rrDiv_len];exact (h.one hk hp k hk).1,rrDiv_cn _ _⟩
 ·exact h.one hk hp i hi
theorem OkM.tri {n c : Nat} {M : MF} (h : OkM n c M) {k : Nat} (hk : k < n) : OkM n c (rrTri M k):=fun i hi=>by
 unfold rrTri
 split
 ·exact h k hk
 ·exact ⟨by rw [rrSub_len];exact (h i hi).1,rrSub_cn _ _ _⟩
theorem OkM.step {n c : Nat} {M M' : MF} (h : OkM n c M) {k : Nat} (hk : k < n) (e : rrStep n M k = some M') : OkM n c M':=by
 unfold rrStep at e
 split at e
 ·rename_i hc
  simp only [Bool.and_eq_true,decide_eq_true_eq] at hc
  cases e
  exact (h.two hk hc.1).tri hk
 ·cases e
def mixL {α : Type} (a b : List α) (j : Nat) : List α:=a.take j ++ b.drop j
theorem mixL_0 {α : Type} (a b : List α) : mixL a b 0 = b:=by simp [mixL]
theorem mixL_all {α : Type} (a b : List α) (h : b.length ≤ a.length) (h2 : a.length ≤ b.length) : mixL a b b.length = a:=by
 unfold mixL;rw [List.drop_length,List.append_nil,List.take_of_length_le h2]
theorem mixL_len {α : Type} {a b : List α} {j : Nat} (h : a.length = b.length) : (mixL a b j).length = b.length:=by simp [mixL];omega
theorem mixL_set {α : Type} {a b : List α} {j : Nat} {x d : α} (h : a.length = b.length) (hj : j < b.length) (hx : a.getD j d = x) : (mixL a b j).set j x = mixL a b (j + 1):=by
 have e : (a.take j).length = j:=by simp;omega
 have hja : j < a.length:=by omega
 unfold mixL
 rw [List.set_append_right _ _ (by omega),e,Nat.sub_self,List.drop_eq_getElem_cons hj,List.set_cons_zero]
 have e2 : a.take (j + 1) = a.take j ++ [a[j]]:=by rw [List.take_add_one,List.getElem?_eq_getElem hja];rfl
 have e3 : x = a[j]:=by rw [← hx,List.getD_eq_getElem?_getD,List.getElem?_eq_getElem hja];rfl
 rw [e2,List.append_assoc,e3];rfl
def LimbOk (s : Store) (v : V) (l : List Int) : Prop:=v = ints l ∨ ∃ o,v = .msl o 0 l.length ∧ objAt s o = some ⟨1,irows l⟩
def CellOk (s : Store) (c : List V) (x : R) : Prop:=∃ v1 v2,c = [.bool x.neg,v1,v2] ∧ LimbOk s v1 x.mag ∧ LimbOk s v2 x.den
def RowOk (s : Store) (A : List (List V)) (r : List R) : Prop:=A.length = r.length ∧ ∀ j,j < r.length → CellOk s (A.getD j []) (r.getD j default)
def Kp (s s2 : Store) : Prop:=∀ o l,objAt s o = some ⟨1,irows l⟩ → objAt s2 o = objAt s o
theorem Kp.refl (s : Store) : Kp s s:=fun _ _ _=>rfl
theorem Kp.trans {a b c : Store} (h : Kp a b) (k : Kp b c) : Kp a c:=fun o l e=>(k o l ((h o l e).trans e)).trans (h o l e)
theorem Kp.old {s s2 : Store} (h : ∀ o,o < s.length → objAt s2 o = objAt s o) : Kp s s2:=fun o l e=>h o (objAt_lt e)
theorem LimbOk.fr {s s2 : Store} {v : V} {l : List Int} (h : LimbOk s v l) (k : Kp s s2) : LimbOk s2 v l:=h.imp id fun ⟨o,e,ho⟩=>⟨o,e,(k o l ho).trans ho⟩
theorem CellOk.fr {s s2 : Store} {c : List V} {x : R} (h : CellOk s c x) (k : Kp s s2) : CellOk s2 c x:=by
 obtain ⟨v1,v2,e,h1,h2⟩:=h;exact ⟨v1,v2,e,h1.fr k,h2.fr k⟩
theorem RowOk.fr {s s2 : Store} {A : List (List V)} {r : List R} (h : RowOk s A r) (k : Kp s s2) : RowOk s2 A r:=⟨h.1,fun j hj=>(h.2 j hj).fr k⟩
theorem LimbOk.leaf {s : Store} {v : V} {l : List Int} (h : LimbOk s v l) : v.leaf = true:=by
 rcases h with rfl | ⟨o,rfl,_⟩ <;> rfl
theorem LimbOk.res {s : Store} {v : V} {l : List Int} (h : LimbOk s v l) (n : Nat) : resolve s (n + 3) v = some (ints l):=by
 rcases h with rfl | ⟨o,rfl,ho⟩
 ·rfl
 ·have:=res_mslS (n:=n + 1) ho (ir_still l)
  rwa [ir_len] at this
theorem limb_frz {s : Store} (l : List Int) : LimbOk s (ints l) l:=.inl rfl
theorem cell_frz {s : Store} (x : R) : CellOk s x.cells x:=⟨_,_,rfl,limb_frz _,limb_frz _⟩
theorem row_frz {s : Store} (r : List R) : RowOk s (r.map R.cells) r:=⟨by simp,fun j hj=>by rw [mg hj];exact cell_frz _⟩
theorem CellOk.mm {s : Store} {c : List V} {x : R} (h : CellOk s c x) (n : Nat) : c.mapM (resolve s (n + 3)) = some x.cells:=by
 obtain ⟨v1,v2,rfl,h1,h2⟩:=h
 simp only [List.mapM_cons,List.mapM_nil,h1.res,h2.res]
 rfl
theorem CellOk.res {s : Store} {c : List V} {x : R} (h : CellOk s c x) : resolve s FD (.agg c) = some (ratV x):=by
 show resolve s (8 + 3 + 1) _ = _
 rw [resolve,h.mm 8];rfl
theorem RowOk.mm {s : Store} {A : List (List V)} {r : List R} (h : RowOk s A r) (n : Nat) : (A.mapM fun (c : List V)=>c.mapM (resolve s (n + 3))) = some (r.map R.cells):=by
 obtain ⟨hl,h⟩:=h
 induction r generalizing A with
 |
  nil =>
  have : A = []:=List.eq_nil_of_length_eq_zero hl
  subst this;rfl
 |
  cons x r ih =>
  rcases A with _ | ⟨a,A⟩
  ·simp at hl
  have h0:=h 0 (by simp)
  simp only [List.getD_cons_zero] at h0
  rw [List.mapM_cons,h0.mm n,ih (by simpa using hl) fun j hj=>by simpa using h (j + 1) (by simpa using hj)]
  rfl
theorem RowOk.resN {s : Store} {A : List (List V)} {r : List R} {p : Nat} (h : RowOk s A r) (hp : objAt s p = some ⟨3,A⟩) (n : Nat) : resolve s (n + 4) (.msl p 0 r.length) = some (ratsV r):=by
 rw [resolve]
 simp only [hp]
 rw [if_pos (by rw [h.1];omega),List.drop_zero,List.take_of_length_le (by rw [h.1];omega),h.mm n];rfl
theorem RowOk.res {s : Store} {A : List (List V)} {r : List R} {p : Nat} (h : RowOk s A r) (hp : objAt s p = some ⟨3,A⟩) : resolve s FD (.msl p 0 r.length) = some (ratsV r):=h.resN hp 8
theorem limb_ow {s : Store} {v : V} {l : List Int} {os : List Nat} (h : OwV s v (ints l) os) : LimbOk s v l ∧ ∀ o ∈ os,∃ l,objAt s o = some ⟨1,irows l⟩:=by
 rcases h.ints_inv with ⟨rfl,rfl,rfl⟩ | ⟨o,rfl,ho,rfl⟩
 ·exact ⟨.inl rfl,by simp⟩
 ·exact ⟨.inr ⟨o,rfl,ho⟩,fun q hq=>by rw [List.mem_singleton.1 hq];exact ⟨_,ho⟩⟩
theorem cell_ow {s : Store} {c : List V} {x : R} {os : List Nat} (h : OwL s c x.cells os) : CellOk s c x ∧ ∀ o ∈ os,∃ l,objAt s o = some ⟨1,irows l⟩:=by
 obtain ⟨cs,rfl,b⟩:=h.bool_inv
 obtain ⟨v1,cs,o1,o2,rfl,rfl,c,d⟩:=b.inv
 obtain ⟨v2,cs,o3,o4,rfl,rfl,e,f⟩:=d.inv
 obtain ⟨rfl,rfl⟩:=f.nil_inv
 have k1:=limb_ow c
 have k2:=limb_ow e
 refine ⟨⟨v1,v2,rfl,k1.1,k2.1⟩,fun o ho=>?_⟩
 rcases List.mem_append.1 ho with ho | ho
 ·exact k1.2 o ho
 ·exact k2.2 o (by simpa using ho)
theorem row_ow {s : Store} : ∀ {r : List R} {A : List (List V)} {os : List Nat},OwR s A (r.map R.cells) os → RowOk s A r ∧ ∀ o ∈ os,∃ l,objAt s o = some ⟨1,irows l⟩
 |
  [],A,os,h=>by
  simp only [List.map_nil,OwR] at h
  obtain ⟨rfl,rfl⟩:=h
  exact ⟨⟨rfl,by simp⟩,by simp⟩
 |
  x :: r,A,os,h=>by
  simp only [List.map_cons,OwR] at h
  obtain ⟨v,vs',o1,o2,rfl,rfl,h1,h2⟩:=h
  have k1:=cell_ow h1
  have k2:=row_ow h2
  refine ⟨⟨by simp [k2.1.1],fun j hj=>?_⟩,fun o ho=>?_⟩
  ·cases j with
   | zero=>exact k1.1
   | succ j=>simpa using k2.1.2 j (by simpa using hj)
  ·rcases List.mem_append.1 ho with ho | ho
   ·exact k1.2 o ho
   ·exact k2.2 o ho
def orow (n c : Nat) (rp : Nat → Nat) : List (List V):=(List.range n).map fun i=>[.msl (rp i) 0 c]
theorem orow_len (n c : Nat) (rp : Nat → Nat) : (orow n c rp).length = n:=by simp [orow]
theorem orow_at {n c : Nat} {rp : Nat → Nat} {i : Nat} (h : i < n) : (orow n c rp)[i]? = some [.msl (rp i) 0 c]:=by
 unfold orow;rw [List.getElem?_map,List.getElem?_range h];rfl
theorem orow_set {n c : Nat} {rp : Nat → Nat} {i p : Nat} : (orow n c rp).set i [.msl p 0 c] = orow n c fun x=>if x = i then p else rp x:=by
 apply List.ext_getElem?
 intro x
 unfold orow
 rw [List.getElem?_set]
 simp only [List.length_map,List.length_range,List.getElem?_map]
 by_cases h : i = x
 ·subst h
  by_cases hn : i < n
  ·simp [hn]
  ·rw [if_pos rfl,if_neg hn,List.getElem?_eq_none (by simpa using hn)];rfl
 ·rw [if_neg h]
  by_cases hn : x < n
  ·rw [List.getElem?_range hn];simp only [Option.map_some];rw [if_neg fun e : x = i=>h e.symm]
  ·rw [List.getElem?_eq_none (by simpa using hn)];rfl
structure Mat (s : Store) (q n c : Nat) (rp : Nat → Nat) (A : Nat → List (List V)) (M : MF) : Prop where
 inj : ∀ i j,i < n → j < n → rp i = rp j → i = j
 out : objAt s q = some ⟨1,orow n c rp⟩
 row : ∀ i,i < n → objAt s (rp i) = some ⟨3,A i⟩
 cel : ∀ i,i < n → RowOk s (A i) (M i)
theorem Mat.lt {s : Store} {q n c : Nat} {rp : Nat → Nat} {A : Nat → List (List V)} {M : MF} (h : Mat s q n c rp A M) : q < s.length ∧ ∀ i,i < n → rp i < s.length:=⟨objAt_lt h.out,fun i hi=>objAt_lt (h.row i hi)⟩
theorem Mat.ne {s : Store} {q n c : Nat} {rp : Nat → Nat} {A : Nat → List (List V)} {M : MF} (h : Mat s q n c rp A M) {i : Nat} (hi : i < n) : rp i ≠ q:=fun e=>by
 have:=h.row i hi
 rw [e,h.out] at this;cases this
theorem Mat.fr {s s2 : Store} {q n c : Nat} {rp : Nat → Nat} {A : Nat → List (List V)} {M : MF} (h : Mat s q n c rp A M) (hf : ∀ p,p < s.length → objAt s2 p = objAt s p) : Mat s2 q n c rp A M :=
 ⟨h.inj,(hf _ h.lt.1).trans h.out,fun i hi=>(hf _ (h.lt.2 i hi)).trans (h.row i hi),fun i hi=>(h.cel i hi).fr (.old hf)⟩
theorem Mat.res {s : Store} {q n c : Nat} {rp : Nat → Nat} {A : Nat → List (List V)} {M : MF} (h : Mat s q n c rp A M) (hl : ∀ i,i < n → (M i).length = c) : resolve s FD (.msl q 0 n) = some (ratssV ((List.range n).map M)):=by
 show resolve s (11 + 1) _ = _
 rw [resolve]
 simp only [h.out]
 rw [if_pos (by rw [orow_len];omega),List.drop_zero,List.take_of_length_le (by rw [orow_len];omega)]
 have : ((orow n c rp).mapM fun (r : List V)=>r.mapM (resolve s 11)) = some ((List.range n).map fun i=>[ratsV (M i)]):=by
  unfold orow
  rw [List.mapM_map]
  refine mapM_some fun i hi=>?_
  have hi:=List.mem_range.1 hi
  have h1:=(h.cel i hi).resN (h.row i hi) 7
  rw [hl i hi] at h1
  simp only [Function.comp,List.mapM_cons,List.mapM_nil]
  rw [h1];rfl
 rw [this,Option.map_some]
 unfold ratssV
 rw [List.map_map]
 rfl
theorem Mat.put {s s2 : Store} {q n c k : Nat} {rp : Nat → Nat} {A : Nat → List (List V)} {M : MF} {A2 : List (List V)} {r : List R} (h : Mat s q n c rp A M) (hk : k < n) (hr : objAt s2 (rp k) = some ⟨3,A2⟩) (ho : ∀ o,o < s.length → o ≠ rp k → objAt s2 o = objAt s o) (hok : RowOk s2 A2 r) :
  Mat s2 q n c rp (fun i=>if i = k then A2 else A i) (fun i=>if i = k then r else M i):=by
 have kp : Kp s s2:=fun o l e=>ho o (objAt_lt e) fun e2=>by rw [e2,h.row k hk] at e;cases e
 refine ⟨h.inj,(ho _ h.lt.1 fun e=>h.ne hk e.symm).trans h.out,fun i hi=>?_,fun i hi=>?_⟩
 ·by_cases e : i = k
  ·subst e;rw [if_pos rfl];exact hr
  ·rw [if_neg e];exact (ho _ (h.lt.2 i hi) fun e2=>e (h.inj i k hi hk e2)).trans (h.row i hi)
 ·by_cases e : i = k
  ·subst e;rw [if_pos rfl,if_pos rfl];exact hok
  ·rw [if_neg e,if_neg e];exact (h.cel i hi).fr kp
theorem Mat.ext {s : Store} {q n c : Nat} {rp : Nat → Nat} {A : Nat → List (List V)} {M M2 : MF} (h : Mat s q n c rp A M) (e : ∀ i,i < n → M i = M2 i) : Mat s q n c rp A M2 :=
 ⟨h.inj,h.out,h.row,fun i hi=>e i hi ▸ h.cel i hi⟩
theorem orow_irows {n c : Nat} {rp : Nat → Nat} (hn : 0 < n) (l : List Int) : orow n c rp ≠ irows l:=fun e=>by
 have h1:=orow_at (c:=c) (rp:=rp) hn
 rw [e] at h1
 cases l with
 | nil=>simp [irows] at h1
 | cons x l=>simp [irows] at h1
theorem Mat.swap {s : Store} {q n c k p : Nat} {rp : Nat → Nat} {A : Nat → List (List V)} {M : MF} (h : Mat s q n c rp A M) (hk : k < n) (hp : p < n) {rows : List (List V)} (hrows : rows = ((orow n c rp).set k [.msl (rp p) 0 c]).set p [.msl (rp k) 0 c]) {s2 : Store} (hq : objAt s2 q = some ⟨1,rows⟩) (ho : ∀ o,o ≠ q → o < s.length → objAt s2 o = objAt s o) :
  Mat s2 q n c (fun x=>if x = p then rp k else if x = k then rp p else rp x) (fun x=>if x = p then A k else if x = k then A p else A x) (rrSwap M k p):=by
 have kp : Kp s s2:=fun o l e=>ho o (fun e2=>by
  rw [e2,h.out] at e
  injection e with e
  injection e with _ e
  exact orow_irows (by omega) l e) (objAt_lt e)
 have hr:=fun i hi=>(ho _ (h.ne hi) (h.lt.2 i hi)).trans (h.row i hi)
 have hc:=fun i hi=>(h.cel i hi).fr kp
 refine ⟨fun i j hi hj e=>?_,?_,fun i hi=>?_,fun i hi=>?_⟩
 ·have inj:=h.inj
  by_cases a1 : i = p <;> by_cases b1 : j = p
  ·omega
  ·rw [if_pos a1,if_neg b1] at e
   by_cases b2 : j = k
   ·rw [if_pos b2] at e
    have:=inj k p hk hp e;omega
   ·rw [if_neg b2] at e
    have:=inj k j hk hj e;omega
  ·rw [if_neg a1,if_pos b1] at e
   by_cases b2 : i = k
   ·rw [if_pos b2] at e
    have:=inj p k hp hk e;omega
   ·rw [if_neg b2] at e
    have:=inj i k hi hk e;omega
  ·rw [if_neg a1,if_neg b1] at e
   by_cases a2 : i = k <;> by_cases b2 : j = k
   ·omega
   ·rw [if_pos a2,if_neg b2] at e
    have:=inj p j hp hj e;omega
   ·rw [if_neg a2,if_pos b2] at e
    have:=inj i p hi hp e;omega
   ·rw [if_neg a2,if_neg b2] at e
    exact inj i j hi hj e
 ·rw [hq,hrows,orow_set,orow_set]
 ·split
  ·exact hr k hk
  ·split
   ·exact hr p hp
   ·exact hr i hi
 ·unfold rrSwap
  split
  ·exact hc k hk
  ·split
   ·exact hc p hp
   ·exact hc i hi
structure OwF (s : Store) (A : Nat → List (List V)) (M : MF) (f : Nat → List Nat) (S : Nat → Prop) : Prop where
 ow : ∀ i,S i → OwR s (A i) ((M i).map R.cells) (f i)
 nd : ∀ i,S i → (f i).Nodup
 ap : ∀ i j,S i → S j → i ≠ j → ∀ o ∈ f i,o ∉ f j
theorem OwF.kp {s s2 : Store} {A : Nat → List (List V)} {M : MF} {f : Nat → List Nat} {S : Nat → Prop} (h : OwF s A M f S) (k : Kp s s2) : OwF s2 A M f S :=
 ⟨fun i hi=>(h.ow i hi).frame fun o ho=>by obtain ⟨l,hl⟩:=(row_ow (h.ow i hi)).2 o ho;exact k o l hl,h.nd,h.ap⟩
theorem OwF.put {s s2 : Store} {A : Nat → List (List V)} {M : MF} {f : Nat → List Nat} {S : Nat → Prop} {k : Nat} {A2 : List (List V)} {r : List R} {os : List Nat} (h : OwF s A M f S) (kp : Kp s s2) (ho : OwR s2 A2 (r.map R.cells) os) (hn : os.Nodup) (hf : ∀ o ∈ os,s.length ≤ o) :
  OwF s2 (fun i=>if i = k then A2 else A i) (fun i=>if i = k then r else M i) (fun i=>if i = k then os else f i) (fun i=>S i ∨ i = k):=by
 have h2:=h.kp kp
 have lt : ∀ i,S i → ∀ o ∈ f i,o < s.length:=fun i hi=>(h.ow i hi).lt
 refine ⟨fun i hi=>?_,fun i hi=>?_,fun i j hi hj hne o h1 h3=>?_⟩
 ·by_cases e : i = k
  ·subst e;rw [if_pos rfl,if_pos rfl,if_pos rfl];exact ho
  ·rw [if_neg e,if_neg e,if_neg e];exact h2.ow i (hi.resolve_right e)
 ·by_cases e : i = k
  ·subst e;rw [if_pos rfl];exact hn
  ·rw [if_neg e];exact h.nd i (hi.resolve_right e)
 ·by_cases e : i = k
  ·by_cases e2 : j = k
   ·omega
   ·rw [if_pos e] at h1;rw [if_neg e2] at h3
    have:=hf o h1
    have:=lt j (hj.resolve_right e2) o h3
    omega
  ·rw [if_neg e] at h1
   by_cases e2 : j = k
   ·rw [if_pos e2] at h3
    have:=hf o h3
    have:=lt i (hi.resolve_right e) o h1
    omega
   ·rw [if_neg e2] at h3
    exact h.ap i j (hi.resolve_right e) (hj.resolve_right e2) hne o h1 h3
theorem OwF.ext {s : Store} {A : Nat → List (List V)} {M M2 : MF} {f : Nat → List Nat} {S S2 : Nat → Prop} (h : OwF s A M f S) (e : ∀ i,S2 i → S i ∧ M i = M2 i) : OwF s A M2 f S2 :=
 ⟨fun i hi=>(e i hi).2 ▸ h.ow i (e i hi).1,fun i hi=>h.nd i (e i hi).1,fun i j hi hj=>h.ap i j (e i hi).1 (e j hj).1⟩
theorem OwF.fin {s : Store} {q n c : Nat} {rp : Nat → Nat} {A : Nat → List (List V)} {M : MF} {f : Nat → List Nat} (h : Mat s q n c rp A M) (ho : OwF s A M f fun i=>i < n) (hc : 0 < c) (hl : ∀ i,i < n → (M i).length = c) : Fin s (.msl q 0 n) (ratssV ((List.range n).map M)):=by
 have key : ∀ m,m ≤ n → ∃ os,OwR s ((List.range m).map fun i=>[.msl (rp i) 0 c]) (((List.range m).map M).map fun r=>[ratsV r]) os ∧ os.Nodup ∧ ∀ o ∈ os,∃ i,i < m ∧ (o = rp i ∨ o ∈ f i):=by
  intro m
  induction m with
  | zero=>intro _;exact ⟨[],by simp [OwR],.nil,by simp⟩
  |
   succ m ih =>
   intro hm
   obtain ⟨os,k1,k2,k3⟩:=ih (by omega)
   have hm' : m < n:=by omega
   have kinds : ∀ i,i < n → ∀ o ∈ f i,∃ l,objAt s o = some ⟨1,irows l⟩:=fun i hi=>(row_ow (ho.ow i hi)).2
   have hnf : ∀ i j,i < n → j < n → rp i ∉ f j:=fun i j hi hj hm=>by
    obtain ⟨l,hl⟩:=kinds j hj _ hm
    rw [h.row i hi] at hl;cases hl
   have hv : OwV s (.msl (rp m) 0 c) (ratsV (M m)) (rp m :: f m):=by
    unfold ratsV
    simp only [OwV]
    exact .inr ⟨rp m,A m,f m,by rw [List.length_map,hl m hm'],h.row m hm',rfl,ho.ow m hm'⟩
   refine ⟨os ++ (rp m :: f m),?_,?_,fun o ho'=>?_⟩
   ·rw [List.range_succ,List.map_append,List.map_append,List.map_append]
    exact owR_append k1 (owR_1 (owL_1 hv))
   ·rw [List.nodup_append,List.nodup_cons]
    refine ⟨k2,⟨hnf m m hm' hm',ho.nd m hm'⟩,fun x hx y hy e=>?_⟩
    subst e
    obtain ⟨i,hi,hi2⟩:=k3 x hx
    rcases List.mem_cons.1 hy with hy | hy
    ·rcases hi2 with hi2 | hi2
     ·have:=h.inj i m (by omega) hm' (hi2.symm.trans hy);omega
     ·rw [hy] at hi2;exact hnf m i hm' (by omega) hi2
    ·rcases hi2 with hi2 | hi2
     ·rw [hi2] at hy;exact hnf i m (by omega) hm' hy
     ·exact ho.ap i m (by omega) hm' (by omega) x hi2 hy
   ·rcases List.mem_append.1 ho' with ho' | ho'
    ·obtain ⟨i,hi,k⟩:=k3 o ho';exact ⟨i,by omega,k⟩
    ·rcases List.mem_cons.1 ho' with rfl | ho'
     ·exact ⟨m,by omega,.inl rfl⟩
     ·exact ⟨m,by omega,.inr ho'⟩
 obtain ⟨os,k1,k2,k3⟩:=key n (Nat.le_refl _)
 refine fin_of (os:=q :: os) ?_ (List.nodup_cons.2 ⟨fun hm=>?_,k2⟩)
 ·unfold ratssV
  simp only [OwV]
  exact .inr ⟨q,_,os,by simp,h.out,rfl,k1⟩
 ·obtain ⟨i,hi,e | e⟩:=k3 q hm
  ·exact h.ne hi e.symm
  ·obtain ⟨l,hl⟩:=(row_ow (ho.ow i hi)).2 _ e
   rw [h.out] at hl
   injection hl with hl
   injection hl with _ hl
   exact orow_irows (by omega) l hl
def renA (g : Nat → Nat) (a : Acc) : Acc:=⟨a.i,a.R.map g,a.W.map g,a.n⟩
section
variable {g : Nat → Nat} {L L0 : Nat} (hinj : ∀ x y,g x = g y ↔ x = y) (hlt : ∀ x,g x < L ↔ x < L0)
include hinj in
theorem ren_contains (l : List Nat) (p : Nat) : (l.map g).contains (g p) = l.contains p:=by
 rw [Bool.eq_iff_iff,List.contains_iff_mem,List.contains_iff_mem,List.mem_map]
 constructor
 ·rintro ⟨q,h1,h2⟩
  rw [(hinj _ _).1 h2] at h1;exact h1
 ·exact fun h=>⟨p,h,rfl⟩
include hlt in
theorem below_ren (a b : Acc) : belowA L (renA g a) (renA g b) = belowA L0 a b:=by
 unfold belowA renA
 simp only [List.all_map,Function.comp_def]
 simp only [hlt]
include hinj hlt in
theorem apart_ren (d e : OpI) (a b : Acc) : apartA L d e (renA g a) (renA g b) = apartA L0 d e a b:=by
 unfold apartA
 rw [below_ren hlt,below_ren hlt]
 simp only [renA,List.all_map,Function.comp_def]
 simp only [ren_contains hinj]
 congr 6
 ·congr 1
  funext p
  congr 2
  funext q
  rw [bne,bne]
  congr 1
  rw [Bool.eq_iff_iff,beq_iff_eq,beq_iff_eq];exact hinj _ _
include hinj hlt in
theorem okA_ren {B : Nat → List Nat} {ops : List OpI} : ∀ l : List Acc,okA L B ops (l.map (renA g)) = okA L0 B ops l
 | []=>rfl
 |
  a :: l=>by
  simp only [List.map_cons,okA,List.all_map,Function.comp_def]
  rw [okA_ren l]
  congr 2
  funext b
  have h1 : (renA g a).i = a.i:=rfl
  have h2 : (renA g b).i = b.i:=rfl
  rw [apart_ren hinj hlt,h1,h2]
include hinj hlt in
theorem OkA_ren {ops : List OpI} {l l0 : List Acc} (he : l = l0.map (renA g)) (hk : OkA L0 ops l0) : OkA L ops l:=by
 unfold OkA at hk ⊢
 rw [he,← List.map_reverse,okA_ren hinj hlt]
 exact hk
end
def gN (l : List Nat) (L x : Nat) : Nat:=match l[x]? with
 | some y=>y
 | none=>L + x
theorem gN_lt {l : List Nat} {L : Nat} (hl : ∀ o ∈ l,o < L) (x : Nat) : gN l L x < L ↔ x < l.length:=by
 unfold gN
 cases h : l[x]? with
 |
  none =>
  have:=List.getElem?_eq_none_iff.1 h
  simp only []
  omega
 |
  some y =>
  have h1:=(List.getElem?_eq_some_iff.1 h).1
  have h2:=hl y (List.mem_of_getElem? h)
  simp only []
  omega
theorem gN_inj {l : List Nat} {L : Nat} (hl : ∀ o ∈ l,o < L) (hn : l.Nodup) (x y : Nat) : gN l L x = gN l L y ↔ x = y:=by
 constructor
 ·intro e
  have hx:=gN_lt hl x
  have hy:=gN_lt hl y
  by_cases h : x < l.length
  ·have h2 : y < l.length:=hy.1 (e ▸ hx.2 h)
   unfold gN at e
   rw [List.getElem?_eq_getElem h,List.getElem?_eq_getElem h2] at e
   exact (List.getElem_inj hn).1 e
  ·have h2 : ¬ y < l.length:=fun k=>h (hx.1 (e ▸ hy.2 k))
   unfold gN at e
   rw [List.getElem?_eq_none (by omega),List.getElem?_eq_none (by omega)] at e
   simp only [] at e
   omega
 ·rintro rfl;rfl
theorem nd2 {a b : Nat} (h : a ≠ b) : [a,b].Nodup:=by simp [h]
theorem nd3 {a b c : Nat} (h : a ≠ b) (h2 : a ≠ c) (h3 : b ≠ c) : [a,b,c].Nodup:=by simp [h,h2,h3]
theorem nd4 {a b c d : Nat} (h : a ≠ b) (h2 : a ≠ c) (h3 : a ≠ d) (h4 : b ≠ c) (h5 : b ≠ d) (h6 : c ≠ d) : [a,b,c,d].Nodup:=by simp [h,h2,h3,h4,h5,h6]
theorem lt2 {a b L : Nat} (h : a < L) (h2 : b < L) : ∀ o ∈ [a,b],o < L:=by simp [h,h2]
end Go.Ml
end
section
namespace Go.Ml
structure SubI (s0 s : Store) (ri : Nat) (box : Obj) (A : List (List V)) (Z : List R) (j : Nat) (N : List (List V)) (os : List Nat) : Prop where
 row : objAt s ri = some ⟨3,N ++ A.drop j⟩
 nl : N.length = j
 ow : OwR s N ((Z.take j).map R.cells) os
 nd : os.Nodup
 fr : ∀ o ∈ os,s0.length ≤ o
 old : ∀ o,o < s0.length → o ≠ ri → objAt s o = objAt s0 o
 bx : objAt s s0.length = some box
 len : s0.length < s.length
section
variable {s0 s : Store} {ri : Nat} {box : Obj} {A : List (List V)} {Z : List R} {j : Nat} {N : List (List V)} {os : List Nat}
theorem SubI.kp (I : SubI s0 s ri box A Z j N os) (hi : objAt s0 ri = some ⟨3,A⟩) : Kp s0 s:=fun o l e=>I.old o (objAt_lt e) fun e2=>by rw [e2,hi] at e;cases e
theorem SubI.at (I : SubI s0 s ri box A Z j N os) (hj : j < A.length) : (N ++ A.drop j)[j]? = some (A.getD j []):=by
 rw [List.getElem?_append_right (by rw [I.nl];exact Nat.le_refl _),I.nl,Nat.sub_self,List.getElem?_drop,Nat.add_zero,List.getD_eq_getElem?_getD,List.getElem?_eq_getElem hj];rfl
theorem SubI.step (I : SubI s0 s ri box A Z j N os) (hri : ri < s0.length) (hj : j < A.length) (hjZ : j < Z.length) {z : R} (hz : Z.getD j default = z) {q3 : Store} {c : List V} {o3 : List Nat} (old : ∀ o,o < s.length → objAt q3 o = objAt s o) (len : s.length ≤ q3.length)
  (ho : OwL q3 c z.cells o3) (nd3 : o3.Nodup) (fr3 : ∀ o ∈ o3,s.length ≤ o) : SubI s0 (q3.set ri (some ⟨3,(N ++ A.drop j).set j c⟩)) ri box A Z (j + 1) (N ++ [c]) (os ++ o3):=by
 have hl:=I.len
 have ne : ∀ o,ri ≠ o → objAt (q3.set ri (some ⟨3,(N ++ A.drop j).set j c⟩)) o = objAt q3 o:=fun o h=>objAt_setne fun e=>h e.symm
 have e1 : (N ++ A.drop j).set j c = (N ++ [c]) ++ A.drop (j + 1):=by
  rw [List.set_append_right _ _ (by rw [I.nl];exact Nat.le_refl _),I.nl,Nat.sub_self,List.drop_eq_getElem_cons hj,List.set_cons_zero,List.append_assoc];rfl
 refine ⟨?_,by simp [I.nl],?_,?_,fun o h=>?_,fun o h1 h2=>?_,?_,by simp;omega⟩
 ·rw [objAt_seteq (by omega),e1]
 ·rw [take_snoc hjZ,List.map_append,hz]
  refine owR_append (I.ow.frame fun o h=>?_) (owR_1 (ho.frame fun o h=>?_))
  ·have h1:=I.fr o h
   rw [ne o (by omega),old o (I.ow.lt o h)]
  ·have:=fr3 o h
   rw [ne o (by omega)]
 ·rw [List.nodup_append]
  refine ⟨I.nd,nd3,fun x hx y hy e=>?_⟩
  have:=I.ow.lt x hx
  have:=fr3 y hy
  omega
 ·rcases List.mem_append.1 h with h | h
  ·exact I.fr o h
  ·have:=fr3 o h;omega
 ·rw [ne o (fun e=>h2 e.symm),old o (by omega),I.old o h1 h2]
 ·rw [ne _ (by omega),old _ (by omega),I.bx]
theorem SubI.fin (I : SubI s0 s ri box A Z j N os) (h1 : j = A.length) (h2 : j = Z.length) : objAt s ri = some ⟨3,N⟩ ∧ OwR s N (Z.map R.cells) os:=by
 have a:=I.row
 have b:=I.ow
 rw [h1,List.drop_length,List.append_nil] at a
 rw [h2,List.take_length] at b
 exact ⟨a,b⟩
end
theorem LimbOk.rch {s : Store} {v : V} {l : List Int} (h : LimbOk s v l) : ∀ n,∀ o ∈ reach s n v,∃ l,objAt s o = some ⟨1,irows l⟩:=by
 intro n o ho
 rcases h with rfl | ⟨q,rfl,hq⟩
 ·cases n <;> simp [reach] at ho
 ·cases n with
  | zero=>simp [reach] at ho
  |
   succ n =>
   simp only [reach,hq,List.mem_cons,List.mem_flatMap] at ho
   rcases ho with rfl | ⟨r,hr,c,hc,ho⟩
   ·exact ⟨_,hq⟩
   ·have hs:=ir_still l r hr c hc
    cases n with
    | zero=>simp [reach] at ho
    | succ n=>rw [reach_still hs] at ho;cases ho
theorem CellOk.rch {s : Store} {c : List V} {x : R} (h : CellOk s c x) : ∀ n,∀ o ∈ reach s n (.agg c),∃ l,objAt s o = some ⟨1,irows l⟩:=by
 intro n o ho
 obtain ⟨v1,v2,rfl,h1,h2⟩:=h
 cases n with
 | zero=>simp [reach] at ho
 |
  succ n =>
  rw [reach_agg] at ho
  obtain ⟨c,hc,ho⟩:=ho
  simp only [List.mem_cons,List.not_mem_nil,or_false] at hc
  rcases hc with rfl | rfl | rfl
  ·cases n <;> simp [reach] at ho
  ·exact h1.rch n o ho
  ·exact h2.rch n o ho
end Go.Ml
end
section
namespace Go.Ml
theorem getQ {α : Type} {l : List (List α)} {j : Nat} (h : j < l.length) : l[j]? = some (l.getD j []):=by
 rw [List.getD_eq_getElem?_getD,List.getElem?_eq_getElem h];rfl
theorem Mat.cell {s : Store} {q n c : Nat} {rp : Nat → Nat} {A : Nat → List (List V)} {M : MF} (h : Mat s q n c rp A M) (hl : ∀ i,i < n → (M i).length = c) {i j : Nat} (hi : i < n) (hj : j < c) : ∃ a1 a2,(A i)[j]? = some [.bool (elF M i j).neg,a1,a2] ∧ LimbOk s a1 (elF M i j).mag ∧ LimbOk s a2 (elF M i j).den:=by
 have hr:=h.cel i hi
 have hjl : j < (M i).length:=by rw [hl i hi];exact hj
 obtain ⟨a1,a2,e,k1,k2⟩:=hr.2 j hjl
 exact ⟨a1,a2,by rw [getQ (by rw [hr.1];exact hjl),e];rfl,k1,k2⟩
def MatF (s : Store) (q n c : Nat) (rp : Nat → Nat) (M : MF) : Prop:=Mat s q n c rp (fun x=>(M x).map R.cells) M
def setR (M : MF) (i : Nat) (r : List R) : MF:=fun x=>if x = i then r else M x
theorem MatF.put {s s2 : Store} {q n c k : Nat} {rp : Nat → Nat} {M : MF} {r : List R} (h : MatF s q n c rp M) (hk : k < n) (hr : objAt s2 (rp k) = some ⟨3,r.map R.cells⟩) (ho : ∀ o,o < s.length → o ≠ rp k → objAt s2 o = objAt s o) : MatF s2 q n c rp (setR M k r):=by
 have:=Mat.put h hk hr ho (row_frz r)
 have e : (fun i=>if i = k then r.map R.cells else (M i).map R.cells) = fun x=>(setR M k r x).map R.cells:=by
  funext i;unfold setR;split <;> rfl
 rw [e] at this
 exact this
theorem MatF.swap {s : Store} {q n c k p : Nat} {rp : Nat → Nat} {M : MF} (h : MatF s q n c rp M) (hk : k < n) (hp : p < n) {rows : List (List V)} (hrows : rows = ((orow n c rp).set k [.msl (rp p) 0 c]).set p [.msl (rp k) 0 c]) {s2 : Store} (hq : objAt s2 q = some ⟨1,rows⟩) (ho : ∀ o,o ≠ q → o < s.length → objAt s2 o = objAt s o) :
  MatF s2 q n c (fun x=>if x = p then rp k else if x = k then rp p else rp x) (rrSwap M k p):=by
 have:=Mat.swap h hk hp hrows hq ho
 have e : (fun x=>if x = p then (M k).map R.cells else if x = k then (M p).map R.cells else (M x).map R.cells) = fun x=>(rrSwap M k p x).map R.cells:=by
  funext i;unfold rrSwap;split
  ·rfl
  ·split <;> rfl
 rw [e] at this
 exact this
theorem MatF.ext {s : Store} {q n c : Nat} {rp : Nat → Nat} {M M2 : MF} (h : MatF s q n c rp M) (e : ∀ i,i < n → M i = M2 i) : MatF s q n c rp M2 :=
 ⟨h.inj,h.out,fun i hi=>by rw [← e i hi];exact h.row i hi,fun i hi=>by rw [← e i hi];exact h.cel i hi⟩
theorem MatF.cell {s : Store} {q n c : Nat} {rp : Nat → Nat} {M : MF} (h : MatF s q n c rp M) (hl : ∀ i,i < n → (M i).length = c) {i j : Nat} (hi : i < n) (hj : j < c) : ((M i).map R.cells)[j]? = some (elF M i j).cells:=by
 have hjl : j < (M i).length:=by rw [hl i hi];exact hj
 rw [mg? hjl];rfl
theorem Mat.resN {s : Store} {q n c : Nat} {rp : Nat → Nat} {A : Nat → List (List V)} {M : MF} (h : Mat s q n c rp A M) (hl : ∀ i,i < n → (M i).length = c) (k : Nat) : resolve s (k + 5) (.msl q 0 n) = some (ratssV ((List.range n).map M)):=by
 rw [resolve]
 simp only [h.out]
 rw [if_pos (by rw [orow_len];omega),List.drop_zero,List.take_of_length_le (by rw [orow_len];omega)]
 have : ((orow n c rp).mapM fun (r : List V)=>r.mapM (resolve s (k + 4))) = some ((List.range n).map fun i=>[ratsV (M i)]):=by
  unfold orow
  rw [List.mapM_map]
  refine mapM_some fun i hi=>?_
  have hi:=List.mem_range.1 hi
  have h1:=(h.cel i hi).resN (h.row i hi) k
  rw [hl i hi] at h1
  simp only [Function.comp,List.mapM_cons,List.mapM_nil]
  rw [h1];rfl
 rw [this,Option.map_some]
 unfold ratssV
 rw [List.map_map]
 rfl
theorem owR_drop {σ : Store} : ∀ (n : Nat) {A T : List (List V)} {os : List Nat},OwR σ A T os → ∃ os',OwR σ (A.drop n) (T.drop n) os' ∧ os'.Sublist os
 | 0,A,T,os,h=>⟨os,h,List.Sublist.refl _⟩
 |
  n + 1,A,[],os,h=>by
  simp only [OwR] at h
  obtain ⟨rfl,rfl⟩:=h
  exact ⟨[],by simp [OwR],List.Sublist.refl _⟩
 |
  n + 1,A,t :: T,os,h=>by
  simp only [OwR] at h
  obtain ⟨v,vs',o1,o2,rfl,rfl,h1,h2⟩:=h
  obtain ⟨os',k1,k2⟩:=owR_drop n h2
  exact ⟨os',k1,k2.trans (List.sublist_append_right _ _)⟩
theorem OwF.drop {s : Store} {A : Nat → List (List V)} {M : MF} {f : Nat → List Nat} {n : Nat} (ho : OwF s A M f fun i=>i < n) (d : Nat) : ∃ f',OwF s (fun i=>(A i).drop d) (fun i=>(M i).drop d) f' (fun i=>i < n) ∧ ∀ i,i < n → ∀ o ∈ f' i,o ∈ f i:=by
 have h : ∀ i,∃ os',i < n → OwR s ((A i).drop d) (((M i).drop d).map R.cells) os' ∧ os'.Sublist (f i):=fun i=>by
  by_cases hi : i < n
  ·obtain ⟨os',k1,k2⟩:=owR_drop d (ho.ow i hi)
   rw [← List.map_drop] at k1
   exact ⟨os',fun _=>⟨k1,k2⟩⟩
  ·exact ⟨[],fun h=>absurd h hi⟩
 refine ⟨fun i=>Classical.choose (h i),⟨fun i hi=>?_,fun i hi=>?_,fun i j hi hj hne o h1 h2=>?_⟩,fun i hi o h1=>?_⟩
 ·exact (Classical.choose_spec (h i) hi).1
 ·exact (ho.nd i hi).sublist (Classical.choose_spec (h i) hi).2
 ·exact ho.ap i j hi hj hne o ((Classical.choose_spec (h i) hi).2.subset h1) ((Classical.choose_spec (h j) hj).2.subset h2)
 ·exact (Classical.choose_spec (h i) hi).2.subset h1
theorem OkA_lst {ops : List OpI} {L : Nat} {acc : List Acc} (l : List Nat) (l0 : List Acc) (hn : l.Nodup) (hl : ∀ o ∈ l,o < L) (he : acc = l0.map (renA (gN l L))) (h : OkA l.length ops l0) : OkA L ops acc:=OkA_ren (gN_inj hl hn) (gN_lt hl) he h
def keepO (σ : Store) (p : Nat) (ob : Obj) (os : List Nat) : Store:=(List.range σ.length).map fun k=>if k = p then some ob else if k ∈ os then objAt σ k else none
def keepW (σ : Store) (p n : Nat) (os : List Nat) : Win:=(List.range σ.length).map fun k=>if k = p then some (p,0,n) else if k ∈ os then (objAt σ k).map (fun ob=>(k,0,ob.rows.length)) else none
theorem keepO_at {σ : Store} {p : Nat} {ob : Obj} {os : List Nat} {k : Nat} (hk : k < σ.length) : objAt (keepO σ p ob os) k = if k = p then some ob else if k ∈ os then objAt σ k else none:=by
 simp only [objAt,keepO,List.getElem?_map,List.getElem?_range hk]
 rfl
theorem keepW_at {σ : Store} {p n : Nat} {os : List Nat} {k : Nat} (hk : k < σ.length) : (keepW σ p n os)[k]? = some (if k = p then some (p,0,n) else if k ∈ os then (objAt σ k).map (fun ob=>(k,0,ob.rows.length)) else none):=by
 unfold keepW
 rw [List.getElem?_map,List.getElem?_range hk];rfl
theorem keepW_inv {σ : Store} {p n : Nat} {os : List Nat} {k o s l : Nat} (h : (keepW σ p n os)[k]? = some (some (o,s,l))) : k < σ.length ∧ o = k ∧ s = 0 ∧ ((k = p ∧ l = n) ∨ (k ≠ p ∧ k ∈ os ∧ ∃ ob,objAt σ k = some ob ∧ l = ob.rows.length)):=by
 have hk : k < σ.length:=by
  have:=(List.getElem?_eq_some_iff.1 h).1
  unfold keepW at this;simpa using this
 rw [keepW_at hk] at h
 refine ⟨hk,?_⟩
 by_cases e : k = p
 ·rw [if_pos e] at h
  simp only [Option.some.injEq,Prod.mk.injEq] at h
  exact ⟨by omega,h.2.1.symm,.inl ⟨e,h.2.2.symm⟩⟩
 ·rw [if_neg e] at h
  by_cases m : k ∈ os
  ·rw [if_pos m] at h
   simp only [Option.some.injEq,Option.map_eq_some_iff] at h
   obtain ⟨ob,h1,h2⟩:=h
   simp only [Prod.mk.injEq] at h2
   exact ⟨h2.1.symm,h2.2.1.symm,.inr ⟨e,m,ob,h1,h2.2.2.symm⟩⟩
  ·rw [if_neg m] at h
   cases h
theorem Fg_own {p n : Nat} {vs : List V} {env : Nat → V} {σ : Store} {b1 b2 : Nat} {r1 r2 m1 m2 : List Nat} {A A' : List (List V)} {os : List Nat} (h : objAt σ p = some ⟨n,A⟩) (hl : A'.length = A.length)
  (hs : ∀ o ∈ os,∀ ob,objAt σ o = some ob → stillR ob.rows)
  (hr : ∀ (i : Nat) (r r2 : List V),A[i]? = some r → A'[i]? = some r2 → CanL (keepW σ p A.length os) σ r r2) (he : EnvCan (keepW σ p A.length os) σ vs 0 env) :
  Fg ⟨argE vs,keepO σ p ⟨n,A'⟩ os,0,b1,r1,m1⟩ ⟨env,σ,0,b2,r2,m2⟩:=by
 refine .re (keepW σ p A.length os) ⟨⟨by unfold keepO keepW;simp,?_,?_,?_⟩,rfl,fun i hi=>absurd hi (Nat.not_lt_zero _),fun t=>by have:=he.at_ t;rwa [Nat.zero_add] at this⟩
 ·intro i j o s l s' l' hi hj
  rw [← (keepW_inv hi).2.1,← (keepW_inv hj).2.1]
 ·intro k o s l hk
  obtain ⟨hlt,rfl,rfl,hk2⟩:=keepW_inv hk
  rcases hk2 with ⟨rfl,rfl⟩ | ⟨e,m,ob,h1,rfl⟩
  ·refine ⟨_,⟨n,A'⟩,h,by simp,by show objAt (keepO _ _ _ _) _ = _;rw [keepO_at hlt,if_pos rfl],rfl,hl,fun i r r2 h1 h2=>hr i r r2 (by simpa using h1) h2⟩
  ·refine ⟨ob,ob,h1,by simp,by show objAt (keepO _ _ _ _) _ = _;rw [keepO_at hlt,if_neg e,if_pos m,h1],rfl,rfl,fun i r r2 h2 h3=>?_⟩
   rw [Nat.zero_add,h3] at h2
   simp only [Option.some.injEq] at h2
   subst h2
   exact canL_still fun v hv=>hs o m ob h1 r2 (List.mem_of_getElem? h3) v hv
 ·intro k hk
  have hlt : k < σ.length:=by
   have:=(List.getElem?_eq_some_iff.1 hk).1
   unfold keepW at this;simpa using this
  rw [keepW_at hlt] at hk
  show objAt (keepO _ _ _ _) _ = _
  rw [keepO_at hlt]
  by_cases e : k = p
  ·rw [if_pos e] at hk;cases hk
  ·rw [if_neg e] at hk ⊢
   by_cases m : k ∈ os
   ·rw [if_pos m] at hk ⊢
    cases ho : objAt σ k
    ·rfl
    ·rw [ho] at hk;cases hk
   ·rw [if_neg m]
def GnA (n : Nat) (s : Store) (v : V) (A : List (List V)) : Prop:=(A = [] ∧ v = .nils) ∨ ∃ p,v = .msl p 0 A.length ∧ objAt s p = some ⟨n,A⟩ ∧ 3 ≤ p ∧ 0 < A.length
theorem GnA.fr {n : Nat} {s s2 : Store} {v : V} {A : List (List V)} (h : GnA n s v A) (hf : ∀ p,3 ≤ p → p < s.length → objAt s2 p = objAt s p) : GnA n s2 v A:=by
 rcases h with h | ⟨p,h1,h2,h3⟩
 ·exact .inl h
 ·exact .inr ⟨p,h1,(hf p h3.1 (objAt_lt h2)).trans h2,h3⟩
def paZ (a : Pa) : List V:=[iv a.node,.bool false,.nils,.nils] ++ a.dx.cells ++ a.dy.cells
def Pa.wc (a : Pa) : List V:=a.share.cells
structure ElI (s : Store) (v : Int) (X : R) (pv wv : V) (P : List (List V)) (W : List (List V)) : Prop where
 a0 : objAt s 0 = some ⟨5,[[iv 0,.bool false,.nils,.nils,.nils]]⟩
 a1 : objAt s 1 = some ⟨5,[[iv v,.bool X.neg,ints X.mag,ints X.den,pv]]⟩
 p : GnA 10 s pv P
 w : GnA 3 s wv W
theorem ElI.lt {s : Store} {v : Int} {X : R} {pv wv : V} {P W : List (List V)} (h : ElI s v X pv wv P W) : 2 ≤ s.length:=objAt_lt h.a1
theorem el_zero {σ : Store} : optK (Option.map V.tup (match resolve σ 11 (V.agg [V.int .i64 0,V.bool false,V.nils,V.nils,V.nils]) with | some d=>some [d,V.nils,V.bool false] | none=>none)) (LaxV (V.tup [cdV ⟨0,R0,[]⟩,lksV [],V.bool false])):=by
 have e : resolve σ 11 (V.agg [V.int .i64 0,V.bool false,V.nils,V.nils,V.nils]) = some (V.agg [V.int .i64 0,V.bool false,V.nils,V.nils,V.nils]):=by simp [resolve]
 rw [e]
 show LaxV _ _
 simp only [LaxV,LaxL]
 exact ⟨_,rfl,_,_,rfl,⟨_,rfl,_,_,rfl,rfl,_,_,rfl,rfl,_,_,rfl,.inl ⟨rfl,.inl rfl⟩,_,_,rfl,.inl ⟨rfl,.inl rfl⟩,_,_,rfl,.inl ⟨rfl,.inl rfl⟩,rfl⟩,_,_,rfl,.inl ⟨rfl,.inl rfl⟩,_,_,rfl,rfl,rfl⟩
theorem reach_mslS {σ : Store} {q n l : Nat} {rows : List (List V)} (h : objAt σ q = some ⟨n,rows⟩) (hs : stillR rows) : ∀ p ∈ reach σ FD (.msl q 0 l),p = q:=fun p hp=>by
 have hp : p ∈ reach σ (11 + 1) (.msl q 0 l):=hp
 unfold reach at hp
 rcases List.mem_cons.1 hp with e | hp
 ·exact e
 ·exfalso
  dsimp only at hp
  rw [h] at hp
  obtain ⟨r,hr,hp⟩:=List.mem_flatMap.1 hp
  obtain ⟨v,hv,hp⟩:=List.mem_flatMap.1 hp
  rw [show reach σ 11 v = [] from reach_still (hs r hr v hv)] at hp
  cases hp
theorem elMesh_sub {A : List Pa} {i : Nat} : ∀ {m : Nat},i ≤ m → ∀ x ∈ elMesh A i,x ∈ elMesh A m
 | 0,h,x,hx=>by
           have : i = 0:=by omega
           subst this;exact hx
 |
  m + 1,h,x,hx=>by
  by_cases e : i = m + 1
  ·subst e;exact hx
  ·exact List.mem_append.2 (.inl (elMesh_sub (m:=m) (by omega) x hx))
theorem elMs_has {A : List Pa} {i k : Nat} (hi : i < k) (hk : k < A.length) : elLk (elTot A) (A.getD i default) (A.getD k default) ∈ elMs A:=by
 refine elMesh_sub (i:=i + 1) (by omega) _ (List.mem_append.2 (.inr ?_))
 unfold elRow
 rw [List.take_of_length_le (by simp)]
 refine List.mem_map.2 ⟨A.getD k default,List.mem_iff_getElem?.2 ⟨k - (i + 1),?_⟩,rfl⟩
 rw [List.getElem?_drop,show i + 1 + (k - (i + 1)) = k by omega,List.getElem?_eq_getElem hk,List.getD_eq_getElem?_getD,List.getElem?_eq_getElem hk];rfl
theorem elMs_bad {A : List Pa} {i k : Nat} (hi : i < k) (hk : k < A.length) (h : lkOk (elLk (elTot A) (A.getD i default) (A.getD k default)) = false) : (elMs A).all lkOk = false :=
 List.all_eq_false.2 ⟨_,elMs_has hi hk,by rw [h];simp⟩
theorem el_end {s σ : Store} {c : Cd} {cs : List V} {mv : V} {M : List Lk} {o1 : Obj} (he : c.cells = cs) (hst : ∀ v ∈ c.cells,v.still = true) (hL : LnA s mv M) (h1 : objAt σ 1 = objAt s 1) (hx : objAt s 1 = some o1) (hf : ∀ p,p ≠ 0 → objAt σ p = objAt s p) (h0 : ∃ z,objAt s 0 = some ⟨5,z⟩) :
  optK (Option.map V.tup (match resolve σ 11 (V.agg cs) with | some d=>(match (match resolve σ 11 mv with | some d=>some [d,V.bool true] | none=>none) with | some ds=>some (d :: ds) | none=>none) | none=>none)) (LaxV (V.tup [cdV c,lksV M,V.bool true])):=by
 subst he
 have e1 : resolve σ 11 (V.agg c.cells) = some (cdV c):=by
  show (c.cells.mapM (resolve σ (9 + 1))).map _ = _
  rw [mapM_still hst];rfl
 have e2 : ∃ u,resolve σ 11 mv = some u ∧ LaxV (lksV M) u:=by
  rcases hL with ⟨rfl,rfl⟩ | ⟨p,rfl,hp⟩
  ·exact ⟨.nils,rfl,of_eq_true (LaxV_nil 11)⟩
  ·have hp0 : p ≠ 0:=fun e=>by
    obtain ⟨z,hz⟩:=h0
    rw [e,hz] at hp;cases hp
   have:=res_mslS (n:=9) ((hf p hp0).trans hp) (st_Lk M)
   rw [List.length_map] at this
   exact ⟨_,this,laxV_refl _⟩
 obtain ⟨u,e2,e3⟩:=e2
 rw [e1,e2]
 have k : ∀ x y z : V,LaxV y z → LaxV (V.tup [x,y,V.bool true]) (V.tup [x,z,V.bool true]):=fun x y z h=>by
  simp only [LaxV,LaxL]
  exact ⟨_,rfl,_,_,rfl,laxV_refl _,_,_,rfl,h,_,_,rfl,rfl,rfl⟩
 exact k _ _ _ e3
theorem elTot_snoc (A : List Pa) (a : Pa) : elTot (A ++ [a]) = addR (elTot A) a.share:=by
 unfold elTot sumS
 rw [List.take_length,List.take_length,List.foldl_append];rfl
def F_impl_eliminateNode : Fn:=⟨2,167,[.cell 4 5 true,.tmp 5,.tmp 6],(.seq (.reg false 1 [oN 4 (.alloc [.int .i64 0,.bool false,.nils,.nils,.nils]),oK 5 1 (.mov (.c (.nils))),oK 6 1 (.mov (.c (.bool false)))]) (.seq (.seq (.reg false 0 [oN 18 (oV 1),oN 19 (.bin .lss (.t 18) (cI 1)),oN 20 (oV 19),oG 20 false 21 (oV 1),oG 20 false 22 (.bin .geq (.t 21) (cI 10)),oN 23 (.pick (.t 20) (.c (.bool true)) (.t 22))]) (.cond (.t 23) (.seq (.reg false 0 [oN 24 (.build [.int .i64 0,.bool false,.nils,.nils,.nils] []),oS (.store 5 (.t 4) (.t 24)),oN 5 (.mov (.c (.nils))),oN 6 (.mov (.c (.bool false)))]) .ret) .skip)) (.seq (.reg false 1 [oK 25 1 (oV 1),oK 26 1 (.call 39 [(cI 0)]),oK 27 1 (.build [.int .i64 0,.bool false,.nils,.nils,.nils] [(0,1,(.t 25)),(1,3,(.t 26))]),oN 7 (.alloc [.int .i64 0,.bool false,.nils,.nils,.nils]),⟨none,none,1,.store 5 (.t 7) (.t 27),[]⟩]) (.seq (.reg false 1 [oN 28 (.mkSl 3 [.bool false,.nils,.nils] 0 []),oK 8 1 (oV 28)]) (.seq (.seq (.reg false 0 [oN 29 (oV 0),oN 30 (.len (.t 29)),oN 31 (.mov (cI 0))]) (.block 0 (.loop (.seq (.reg false 0 [oN 32 (.bin .lss (.t 31) (.t 30))]) (.seq (.cond (.t 32) .skip (.exit 0)) (.seq (.block 1 (.seq (.reg false 1 [oK 33 1 (.idx 11 (.t 29) (.t 31)),oK 34 1 (.load 11 true (.t 33)),oN 10 (.alloc [.int .i64 0,.int .i64 0,.bool false,.nils,.nils,.bool false,.nils,.nils,.bool false,.nils,.nils]),⟨none,none,1,.store 11 (.t 10) (.t 34),[]⟩]) (.seq (.seq (.reg false 0 [oN 35 (.fld 0 (.t 10)),oN 36 (.load 1 false (.t 35)),oN 37 (oV 1),oN 38 (.bin .eql (.t 36) (.t 37))]) (.cond (.t 38) (.reg true 2 [oK 39 2 (.fld 4 (.t 7)),oA 40 2 (.load 1 false (.t 39)) [0],oK 41 2 (.fld 1 (.t 10)),oA 42 2 (.load 1 false (.t 41)) [2],oK 43 2 (.fld 5 (.t 10)),oA 44 2 (.load 3 true (.t 43)) [4],oA 45 2 (.call 161 [(.t 44)]) [5],oK 46 2 (.fld 8 (.t 10)),oA 47 2 (.load 3 true (.t 46)) [7],oA 48 2 (.call 161 [(.t 47)]) [8,6],oA 49 2 (.build [.int .i64 0,.bool false,.nils,.nils,.bool false,.nils,.nils,.bool false,.nils,.nils] [(0,1,(.t 42)),(4,3,(.t 45)),(7,3,(.t 48))]) [3,6,9],oA 50 0 (.mkSl 10 [.int .i64 0,.bool false,.nils,.nils,.bool false,.nils,.nils,.bool false,.nils,.nils] 1 [(0,(.t 49))]) [10],oA 51 1 (.app 10 176 (.t 40) (.t 50)) [1,11,9],oA 52 2 (.fld 4 (.t 7)) [0,1,2,3,4,5,6,7,8,9,10,11,12],⟨none,none,2,.store 1 (.t 52) (.t 51),[13,12,12,0,1,2,3,4,5,6,7,8,9,10,11,12]⟩]) (.seq (.reg false 0 [oN 53 (.fld 1 (.t 10)),oN 54 (.load 1 false (.t 53)),oN 55 (oV 1),oN 56 (.bin .eql (.t 54) (.t 55))]) (.cond (.t 56) (.reg false 2 [oK 57 2 (.fld 4 (.t 7)),oK 58 2 (.load 1 false (.t 57)),oK 59 2 (.fld 0 (.t 10)),oK 60 2 (.load 1 false (.t 59)),oK 61 2 (.fld 5 (.t 10)),oK 62 2 (.load 3 true (.t 61)),oK 63 2 (.fld 8 (.t 10)),oK 64 2 (.load 3 true (.t 63)),oK 65 2 (.build [.int .i64 0,.bool false,.nils,.nils,.bool false,.nils,.nils,.bool false,.nils,.nils] [(0,1,(.t 60)),(4,3,(.t 62)),(7,3,(.t 64))]),oN 66 (.mkSl 10 [.int .i64 0,.bool false,.nils,.nils,.bool false,.nils,.nils,.bool false,.nils,.nils] 1 [(0,(.t 65))]),oK 67 1 (.app 10 176 (.t 58) (.t 66)),oK 68 2 (.fld 4 (.t 7)),⟨none,none,2,.store 1 (.t 68) (.t 67),[]⟩]) (.exit 1))))) (.seq (.reg false 2 [oK 69 2 (oV 8),oK 70 2 (.fld 2 (.t 10)),oK 71 2 (.load 3 true (.t 70)),oN 72 (.mkSl 3 [.bool false,.nils,.nils] 1 [(0,(.t 71))]),oK 73 1 (.app 3 56 (.t 69) (.t 72)),oK 8 2 (oV 73)]) (.reg false 0 [oN 74 (.fld 1 (.t 7)),oN 75 (.load 3 true (.t 74)),oN 76 (.fld 2 (.t 10)),oN 77 (.load 3 true (.t 76)),oN 78 (.call 131 [(.t 75),(.t 77)]),oN 79 (.fld 1 (.t 7)),oS (.store 3 (.t 79) (.t 78))]))))) (.reg false 0 [oN 80 (.bin .add (.t 31) (cI 1)),oN 31 (oV 80)]))))))) (.seq (.seq (.reg false 0 [oN 81 (.fld 4 (.t 7)),oN 82 (.load 1 false (.t 81)),oN 83 (.len (.t 82)),oN 84 (.mov (cI 0))]) (.block 2 (.loop (.seq (.reg false 0 [oN 85 (.bin .lss (.t 84) (.t 83))]) (.seq (.cond (.t 85) .skip (.exit 2)) (.seq (.block 3 (.seq (.reg false 0 [oN 86 (oV 84),oN 11 (oV 86)]) (.reg true 0 [oN 87 (.fld 4 (.t 7)),oA 88 0 (.load 1 false (.t 87)) [0],oN 89 (oV 11),oN 90 (oV 8),oN 91 (oV 11),oA 92 0 (.idx 3 (.t 90) (.t 91)) [3,4],oA 93 0 (.load 3 true (.t 92)) [5],oN 94 (.fld 1 (.t 7)),oA 95 0 (.load 3 true (.t 94)) [7],oA 96 0 (.call 156 [(.t 93),(.t 95)]) [6,8],oA 97 0 (.idx 10 (.t 88) (.t 89)) [1,2,0,1,2,3,4,5,6,7,8,9],oA 98 0 (.fld 1 (.t 97)) [10,0,1,2,3,4,5,6,7,8,9],⟨none,none,0,.store 3 (.t 98) (.t 96),[11,9,9,0,1,2,3,4,5,6,7,8,9]⟩]))) (.reg false 0 [oN 99 (.bin .add (.t 84) (cI 1)),oN 84 (oV 99)]))))))) (.seq (.seq (.reg false 0 [oN 100 (.load 5 true (.t 7)),oN 101 (.call 185 [(.t 100)]),oN 102 (.un .not (.t 101))]) (.cond (.t 102) (.seq (.reg false 0 [oN 103 (.build [.int .i64 0,.bool false,.nils,.nils,.nils] []),oS (.store 5 (.t 4) (.t 103)),oN 5 (.mov (.c (.nils))),oN 6 (.mov (.c (.bool false)))]) .ret) .skip)) (.seq (.reg false 1 [oN 104 (.mkSl 11 [.int .i64 0,.int .i64 0,.bool false,.nils,.nils,.bool false,.nils,.nils,.bool false,.nils,.nils] 0 []),oK 12 1 (oV 104)]) (.seq (.seq (.reg false 0 [oN 105 (.fld 4 (.t 7)),oN 106 (.load 1 false (.t 105)),oN 107 (.len (.t 106)),oN 108 (.mov (cI 0))]) (.block 4 (.loop (.seq (.reg false 0 [oN 109 (.bin .lss (.t 108) (.t 107))]) (.seq (.cond (.t 109) .skip (.exit 4)) (.seq (.block 5 (.seq (.reg false 1 [oK 110 1 (oV 108),oK 111 1 (.idx 10 (.t 106) (.t 108)),oK 112 1 (.load 10 true (.t 111)),oN 14 (.alloc [.int .i64 0,.bool false,.nils,.nils,.bool false,.nils,.nils,.bool false,.nils,.nils]),oK 13 1 (oV 110),⟨none,none,1,.store 10 (.t 14) (.t 112),[]⟩]) (.seq (.reg false 0 [oN 113 (oV 13),oN 114 (.bin .add (.t 113) (cI 1)),oN 15 (oV 114)]) (.block 6 (.loop (.seq (.seq (.reg false 0 [oN 115 (oV 15),oN 116 (.fld 4 (.t 7)),oN 117 (.load 1 false (.t 116)),oN 118 (.len (.t 117)),oN 119 (.bin .lss (.t 115) (.t 118))]) (.cond (.t 119) .skip (.exit 6))) (.seq (.block 7 (.seq (.reg false 1 [oK 122 1 (.fld 4 (.t 7)),oK 123 1 (.load 1 false (.t 122)),oK 124 1 (oV 15),oK 125 1 (.idx 10 (.t 123) (.t 124)),oK 126 1 (.load 10 true (.t 125)),oN 16 (.alloc [.int .i64 0,.bool false,.nils,.nils,.bool false,.nils,.nils,.bool false,.nils,.nils]),⟨none,none,1,.store 10 (.t 16) (.t 126),[]⟩]) (.seq (.reg true 1 [oK 127 1 (.fld 0 (.t 14)),oA 128 1 (.load 1 false (.t 127)) [0],oK 129 1 (.fld 0 (.t 16)),oA 130 1 (.load 1 false (.t 129)) [2],oK 131 1 (oV 8),oK 132 1 (oV 13),oA 133 1 (.idx 3 (.t 131) (.t 132)) [4,5],oA 134 1 (.load 3 true (.t 133)) [6],oK 135 1 (oV 8),oK 136 1 (oV 15),oA 137 1 (.idx 3 (.t 135) (.t 136)) [8,9],oA 138 1 (.load 3 true (.t 137)) [10],oA 139 1 (.call 157 [(.t 134),(.t 138)]) [7,11],oK 140 1 (.fld 1 (.t 7)),oA 141 1 (.load 3 true (.t 140)) [13],oA 142 1 (.call 156 [(.t 139),(.t 141)]) [12,14,12],oA 143 1 (.build [.int .i64 0,.int .i64 0,.bool false,.nils,.nils,.bool false,.nils,.nils,.bool false,.nils,.nils] [(0,1,(.t 128)),(1,1,(.t 130)),(2,3,(.t 142))]) [1,3,15],oN 17 (.alloc [.int .i64 0,.int .i64 0,.bool false,.nils,.nils,.bool false,.nils,.nils,.bool false,.nils,.nils]),⟨none,none,1,.store 11 (.t 17) (.t 143),[17,16,15,0,1,2,3,4,5,6,7,8,9,10,11,12,13,14,15,16,17]⟩]) (.seq (.reg false 0 [oN 144 (.fld 4 (.t 14)),oN 145 (.load 3 true (.t 144)),oN 146 (.fld 4 (.t 16)),oN 147 (.load 3 true (.t 146)),oN 148 (.call 159 [(.t 145),(.t 147)]),oN 149 (.fld 5 (.t 17)),oS (.store 3 (.t 149) (.t 148))]) (.seq (.reg false 0 [oN 150 (.fld 7 (.t 14)),oN 151 (.load 3 true (.t 150)),oN 152 (.fld 7 (.t 16)),oN 153 (.load 3 true (.t 152)),oN 154 (.call 159 [(.t 151),(.t 153)]),oN 155 (.fld 8 (.t 17)),oS (.store 3 (.t 155) (.t 154))]) (.seq (.seq (.reg false 0 [oN 156 (.load 11 true (.t 17)),oN 157 (.call 84 [(.t 156)]),oN 158 (.un .not (.t 157))]) (.cond (.t 158) (.seq (.reg false 0 [oN 159 (.build [.int .i64 0,.bool false,.nils,.nils,.nils] []),oS (.store 5 (.t 4) (.t 159)),oN 5 (.mov (.c (.nils))),oN 6 (.mov (.c (.bool false)))]) .ret) .skip)) (.reg false 2 [oK 160 2 (oV 12),oK 161 2 (.load 11 true (.t 17)),oN 162 (.mkSl 11 [.int .i64 0,.int .i64 0,.bool false,.nils,.nils,.bool false,.nils,.nils,.bool false,.nils,.nils] 1 [(0,(.t 161))]),oK 163 1 (.app 11 184 (.t 160) (.t 162)),oK 12 2 (oV 163)]))))))) (.reg false 0 [oN 120 (oV 15),oN 121 (.bin .add (.t 120) (cI 1)),oN 15 (oV 121)])))))))) (.reg false 0 [oN 164 (.bin .add (.t 108) (cI 1)),oN 108 (oV 164)]))))))) (.seq (.reg false 0 [oN 165 (.load 5 true (.t 7)),oN 166 (oV 12),oS (.store 5 (.t 4) (.t 165)),oN 5 (oV 166),oN 6 (.mov (.c (.bool true)))]) .ret))))))))))⟩
structure D_impl_eliminateNode (T : Nat → Option Fn) : Prop where
 hT : T 182 = some F_impl_eliminateNode
 d_impl_RatFromInt : D_impl_RatFromInt T
 d_impl_IsValidLink : D_impl_IsValidLink T
 d_impl_ratAdd : D_impl_ratAdd T
 d_impl_ratDiv : D_impl_ratDiv T
 d_impl_ratMul : D_impl_ratMul T
 d_impl_ratSub : D_impl_ratSub T
 d_impl_ratNeg : D_impl_ratNeg T
 d_impl_IsValidConditional : D_impl_IsValidConditional T
def F_impl_EliminateNode : Fn:=⟨2,28,[.cell 4 5 true,.tmp 5,.tmp 6],(.seq (.reg false 1 [oN 4 (.alloc [.int .i64 0,.bool false,.nils,.nils,.nils]),oK 5 1 (.mov (.c (.nils))),oK 6 1 (.mov (.c (.bool false)))]) (.seq (.seq (.reg false 0 [oN 10 (oV 0),oN 11 (.call 89 [(.t 10)]),oN 12 (.un .not (.t 11))]) (.cond (.t 12) (.seq (.reg false 0 [oN 13 (.build [.int .i64 0,.bool false,.nils,.nils,.nils] []),oS (.store 5 (.t 4) (.t 13)),oN 5 (.mov (.c (.nils))),oN 6 (.mov (.c (.bool false)))]) .ret) .skip)) (.seq (.reg false 1 [oK 15 1 (oV 0),oK 16 1 (oV 1),oK 17 1 (.call 182 [(.t 15),(.t 16)]),oK 14 1 (oV 17),oK 18 1 (.extr 0 (.t 14)),oK 19 1 (.extr 1 (.t 14)),oK 20 1 (.extr 2 (.t 14)),oN 7 (.alloc [.int .i64 0,.bool false,.nils,.nils,.nils]),⟨none,none,1,.store 5 (.t 7) (.t 18),[]⟩,oK 8 1 (oV 19),oK 9 1 (oV 20)]) (.seq (.seq (.reg false 0 [oN 21 (oV 9),oN 22 (.un .not (.t 21))]) (.cond (.t 22) (.seq (.reg false 0 [oN 23 (.build [.int .i64 0,.bool false,.nils,.nils,.nils] []),oS (.store 5 (.t 4) (.t 23)),oN 5 (.mov (.c (.nils))),oN 6 (.mov (.c (.bool false)))]) .ret) .skip)) (.seq (.reg false 0 [oN 24 (.load 5 true (.t 7)),oN 25 (.call 183 [(.t 24)]),oN 26 (oV 8),oN 27 (.call 110 [(.t 26)]),oS (.store 5 (.t 4) (.t 25)),oN 5 (oV 27),oN 6 (.mov (.c (.bool true)))]) .ret)))))⟩
structure D_impl_EliminateNode (T : Nat → Option Fn) : Prop where
 hT : T 174 = some F_impl_EliminateNode
 d_impl_IsLinkSet : D_impl_IsLinkSet T
 d_impl_copyLinks : D_impl_copyLinks T
 d_impl_eliminateNode : D_impl_eliminateNode T
 d_impl_copyConditional : D_impl_copyConditional T
theorem c_eliminateNode {T : Nat → Option Fn} (h : D_impl_eliminateNode T) {S : List Lk} {v : Int} (hb : lksOk S = true) (hw : wfL Lk.wf S) : PF T 182 [lksV S,iv v] (.tup [cdV (elC S v),lksV (elM S v),.bool (elB S v)]):=by
 have hl : S.length ≤ 100:=lksOk_len hb
 have c0:=c_iRatFromInt h.d_impl_RatFromInt (n:=0)
 by_cases hv : 1 ≤ v ∧ v ≤ 9
 ·have hv1 : ¬ v < 1:=by omega
  have hv2 : ¬ v ≥ 10:=by omega
  refine pf_endL (fun x d=>(x == 39 && d == 999)) h.hT rfl rfl ?_
  dsimp only [F_impl_eliminateNode,oN,oS,oG,oK,oA,oH,oV,cI]
  refine ew ?_
  refine ew2 @hv1 @hv2 ?_
  refine PFK_of c0 ?_
  refine ew ?_
  refine loop_at (fun x d=>(x == 39 && d == 999)) (α:=Nat × Store × V × V) (fun q=>⟨argE [lksV S,iv v,.any,.any,.ptr 0 0 0,.nils,.bool false,.ptr 1 0 0,q.2.2.2,.any,.any,.any,.any,.any,.any,.any,.any,.any,.any,.any,.any,.any,.any,.any,.any,.any,.any,.any,.any,lksV S,iv (S.length : Nat),iv (q.1 : Nat)],q.2.1,0,0,[],[]⟩) (fun q=>q.1 ≤ S.length ∧ ElI q.2.1 v (elTot (armI S v q.1)) q.2.2.1 q.2.2.2 ((armI S v q.1).map paZ) ((armI S v q.1).map Pa.wc)) (fun q=>S.length - q.1) rfl (0,[some ⟨5,[[iv 0,.bool false,.nils,.nils,.nils]]⟩,some ⟨5,[[iv v,.bool (intR 0).neg,ints (intR 0).mag,ints (intR 0).den,.nils]]⟩,none],.nils,.nils) ?_ ?_ ?_
  ·exact ⟨Nat.zero_le _,by dsimp only;rw [armI_0];exact ⟨rfl,rfl,.inl ⟨rfl,rfl⟩,.inl ⟨rfl,rfl⟩⟩⟩
  ·(refine Fg_env ?_;exact fgW)
  ·rintro ⟨i,s,pv,wv⟩ ⟨hi,I⟩
   dsimp only at hi I
   have hX:=elTot_cn (armI S v i)
   have hAl:=armI_len S v i
   have I0:=I.a0
   have I1:=I.a1
   have hsl:=I.lt
   by_cases hc : (i : Int) < (S.length : Nat)
   ·have hil : i < S.length:=by omega
    have hx : (S.map Lk.cells).getD i [] = (S.getD i default).cells:=mg hil
    have es:=armI_s S v hil
    have hlk:=lksOk_mem hb (getD_mem hil)
    obtain ⟨kw,kx,ky,kp⟩:=lkOk_ok hlk
    generalize S.getD i default = l at *
    unfold armOf at es
    by_cases ha : l.a = v
    ·have f0 : (l.a = v) = True:=eq_true ha
     rw [if_pos ha] at es
     have n1:=c_ratNegR h.d_impl_ratNeg (cn_ok kx)
     have n2:=c_ratNegR h.d_impl_ratNeg (cn_ok ky)
     have ca:=c_ratAddR h.d_impl_ratAdd hX (cn_ok kw)
     generalize hXe : elTot (armI S v i) = X at *
     generalize armI S v i = A at *
     rcases I.p with ⟨hp,rfl⟩ | ⟨p,rfl,hp,hp3,hpl⟩
     ·have hA : A = []:=List.map_eq_nil_iff.1 hp
      subst hA
      rcases I.w with ⟨_,rfl⟩ | ⟨w,_,hw,_,hwl⟩
      case inr=>exact absurd hwl (by simp)
      refine ew6 @hc @hx @f0 (And.intro I0 I1) @numK_any @or_sc ?_
      refine PFK_of n1 ?_
      refine ew6 @hc @hx @f0 (And.intro I0 I1) @numK_any @or_sc ?_
      refine PFK_of n2 ?_
      refine ew6 @hc @hx @f0 (And.intro I0 I1) @numK_any @or_sc ?_
      refine ⟨by omega,by
       have hn0 : 2 ≤ List.length s:=hsl
       generalize List.length s = m at hn0 ⊢
       revert m
       refine OkA_allN _ _ 2 (fun n hn=>?_) (fun n hn=>?_) ?_
       ·simp only [sh];split <;> omega
       ·simp [shA,sh];try omega
       ·unfold OkA;decide +kernel,?_⟩
      refine ⟨by omega,?_⟩
      refine PFK_of ca ?_
      refine ew6 @hc @hx @f0 (And.intro I0 I1) @numK_any @or_sc ?_
      refine ⟨(i + 1,?s1,.msl (s.length + 1 + 1) 0 1,.msl (s.length + 4) 0 1),?m1,⟨?a1,?b1⟩,?e1⟩
      case e1=>dsimp only;(refine Fg_env ?_;exact fgW)
      case m1=>dsimp only;omega
      case a1=>dsimp only;omega
      case b1 =>
       dsimp only
       rw [es,elTot_snoc,hXe]
       refine ⟨(show objAt _ 0 = objAt s 0 by simp (disch:=first | omega | (simp only [List.length_append,List.length_set,List.length_cons,List.length_nil];omega)) only [EVs]).trans I0,?u1,.inr ⟨s.length + 1 + 1,?p1,?q1,by omega,by simp⟩,.inr ⟨s.length + 4,?r1,?t1,by omega,by simp⟩⟩
       case u1=>simp (disch:=first | omega | (simp only [List.length_append,List.length_set,List.length_cons,List.length_nil];omega)) only [EVs]
       case p1=>simp
       case r1=>simp
       case q1=>simp (disch:=first | omega | (simp only [List.length_append,List.length_set,List.length_cons,List.length_nil];omega)) only [EVs];simp [paZ]
       case t1=>simp (disch:=first | omega | (simp only [List.length_append,List.length_set,List.length_cons,List.length_nil];omega)) only [EVs];simp [Pa.wc]

     ·rcases I.w with ⟨hwn,_⟩ | ⟨w,rfl,hw,hw3,hwl⟩
      case inl=>have:=List.map_eq_nil_iff.1 hwn;subst this;exact absurd hpl (by simp)
      have hpq:=objAt_lt hp
      have hwq:=objAt_lt hw
      have hpw : p ≠ w:=fun e=>by rw [e,hw] at hp;cases hp
      simp only [List.length_map] at hpl hwl ⊢
      refine ew7 @hc @hx @f0 (And.intro I0 I1) @numK_any @or_sc (And.intro hp hw) ?_
      refine PFK_of n1 ?_
      refine ew7 @hc @hx @f0 (And.intro I0 I1) @numK_any @or_sc (And.intro hp hw) ?_
      refine PFK_of n2 ?_
      refine ew7 @hc @hx @f0 (And.intro I0 I1) @numK_any @or_sc (And.intro hp hw) ?_
      refine ⟨by omega,OkA_lst [1,p,s.length,s.length + 1,s.length + 1 + 1] [⟨14,[0],[0],false⟩,⟨13,[0],[],false⟩,⟨12,[1,3],[1,4],false⟩,⟨11,[],[3],false⟩,⟨10,[],[],false⟩,⟨9,[],[],false⟩,⟨8,[2],[],false⟩,⟨7,[2],[],false⟩,⟨6,[],[],false⟩,⟨5,[2],[],false⟩,⟨4,[2],[],false⟩,⟨3,[2],[],false⟩,⟨2,[2],[],false⟩,⟨1,[0],[],false⟩,⟨0,[0],[],false⟩] ?_ ?_ rfl ?_,?_⟩
      ·generalize List.length s = m at hsl hpq ⊢
       simp;omega
      ·intro o ho;simp at ho;omega
      ·show OkA 5 _ _
       unfold OkA;rfl
      refine ⟨by omega,?_⟩
      refine PFK_of ca ?_
      refine ew7 @hc @hx @f0 (And.intro I0 I1) @numK_any @or_sc (And.intro hp hw) ?_
      refine ⟨(i + 1,?s2,.msl (s.length + 1 + 1) 0 (A.length + 1),.msl (s.length + 4) 0 (A.length + 1)),?m2,⟨?a2,?b2⟩,?e2⟩
      case e2=>dsimp only;(refine Fg_env ?_;exact fgW)
      case m2=>dsimp only;omega
      case a2=>dsimp only;omega
      case b2 =>
       dsimp only
       rw [es,elTot_snoc,hXe]
       refine ⟨(show objAt _ 0 = objAt s 0 by simp (disch:=first | omega | (simp only [List.length_append,List.length_set,List.length_cons,List.length_nil];omega)) only [EVs]).trans I0,?u2,.inr ⟨s.length + 1 + 1,?p2,?q2,by omega,by simp⟩,.inr ⟨s.length + 4,?r2,?t2,by omega,by simp⟩⟩
       case u2=>simp (disch:=first | omega | (simp only [List.length_append,List.length_set,List.length_cons,List.length_nil];omega)) only [EVs]
       case p2=>simp
       case r2=>simp
       case q2=>simp (disch:=first | omega | (simp only [List.length_append,List.length_set,List.length_cons,List.length_nil];omega)) only [EVs];simp [paZ]
       case t2=>simp (disch:=first | omega | (simp only [List.length_append,List.length_set,List.length_cons,List.length_nil];omega)) only [EVs];simp [Pa.wc]

    ·rw [if_neg ha] at es
     by_cases hb2 : l.b = v
     ·have f0 : (l.a = v) = False:=eq_false ha
      have f1 : (l.b = v) = True:=eq_true hb2
      rw [if_pos hb2] at es
      have ca:=c_ratAddR h.d_impl_ratAdd hX (cn_ok kw)
      generalize hXe : elTot (armI S v i) = X at *
      generalize armI S v i = A at *
      rcases I.p with ⟨hp,rfl⟩ | ⟨p,rfl,hp,hp3,hpl⟩
      ·have hA : A = []:=List.map_eq_nil_iff.1 hp
       subst hA
       rcases I.w with ⟨_,rfl⟩ | ⟨w,_,hw,_,hwl⟩
       case inr=>exact absurd hwl (by simp)
       refine ew7 @hc @hx @f0 @f1 (And.intro I0 I1) @numK_any @or_sc ?_
       refine ⟨by omega,?_⟩
       refine ⟨by omega,?_⟩
       refine PFK_of ca ?_
       refine ew7 @hc @hx @f0 @f1 (And.intro I0 I1) @numK_any @or_sc ?_
       refine ⟨(i + 1,?s3,.msl (s.length + 1 + 1) 0 1,.msl (s.length + 4) 0 1),?m3,⟨?a3,?b3⟩,?e3⟩
       case e3=>dsimp only;(refine Fg_env ?_;exact fgW)
       case m3=>dsimp only;omega
       case a3=>dsimp only;omega
       case b3 =>
        dsimp only
        rw [es,elTot_snoc,hXe]
        refine ⟨(show objAt _ 0 = objAt s 0 by simp (disch:=first | omega | (simp only [List.length_append,List.length_set,List.length_cons,List.length_nil];omega)) only [EVs]).trans I0,?u3,.inr ⟨s.length + 1 + 1,?p3,?q3,by omega,by simp⟩,.inr ⟨s.length + 4,?r3,?t3,by omega,by simp⟩⟩
        case u3=>simp (disch:=first | omega | (simp only [List.length_append,List.length_set,List.length_cons,List.length_nil];omega)) only [EVs]
        case p3=>simp
        case r3=>simp
        case q3=>simp (disch:=first | omega | (simp only [List.length_append,List.length_set,List.length_cons,List.length_nil];omega)) only [EVs];simp [paZ]
        case t3=>simp (disch:=first | omega | (simp only [List.length_append,List.length_set,List.length_cons,List.length_nil];omega)) only [EVs];simp [Pa.wc]

      ·rcases I.w with ⟨hwn,_⟩ | ⟨w,rfl,hw,hw3,hwl⟩
       case inl=>have:=List.map_eq_nil_iff.1 hwn;subst this;exact absurd hpl (by simp)
       have hpq:=objAt_lt hp
       have hwq:=objAt_lt hw
       have hpw : p ≠ w:=fun e=>by rw [e,hw] at hp;cases hp
       simp only [List.length_map] at hpl hwl ⊢
       refine ew8 @hc @hx @f0 @f1 (And.intro I0 I1) @numK_any @or_sc (And.intro hp hw) ?_
       refine ⟨by omega,?_⟩
       refine ⟨by omega,?_⟩
       refine PFK_of ca ?_
       refine ew8 @hc @hx @f0 @f1 (And.intro I0 I1) @numK_any @or_sc (And.intro hp hw) ?_
       refine ⟨(i + 1,?s4,.msl (s.length + 1 + 1) 0 (A.length + 1),.msl (s.length + 4) 0 (A.length + 1)),?m4,⟨?a4,?b4⟩,?e4⟩
       case e4=>dsimp only;(refine Fg_env ?_;exact fgW)
       case m4=>dsimp only;omega
       case a4=>dsimp only;omega
       case b4 =>
        dsimp only
        rw [es,elTot_snoc,hXe]
        refine ⟨(show objAt _ 0 = objAt s 0 by simp (disch:=first | omega | (simp only [List.length_append,List.length_set,List.length_cons,List.length_nil];omega)) only [EVs]).trans I0,?u4,.inr ⟨s.length + 1 + 1,?p4,?q4,by omega,by simp⟩,.inr ⟨s.length + 4,?r4,?t4,by omega,by simp⟩⟩
        case u4=>simp (disch:=first | omega | (simp only [List.length_append,List.length_set,List.length_cons,List.length_nil];omega)) only [EVs]
        case p4=>simp
        case r4=>simp
        case q4=>simp (disch:=first | omega | (simp only [List.length_append,List.length_set,List.length_cons,List.length_nil];omega)) only [EVs];simp [paZ]
        case t4=>simp (disch:=first | omega | (simp only [List.length_append,List.length_set,List.length_cons,List.length_nil];omega)) only [EVs];simp [Pa.wc]

     ·have f0 : (l.a = v) = False:=eq_false ha
      have f1 : (l.b = v) = False:=eq_false hb2
      rw [if_neg hb2] at es
      rw [List.append_nil] at es
      refine ew4 @hc @hx @f0 @f1 ?_
      refine ⟨(i + 1,?s5,pv,wv),?m5,⟨?a5,?b5⟩,?e5⟩
      case e5=>dsimp only;(refine Fg_env ?_;exact fgW)
      case m5=>dsimp only;omega
      case a5=>dsimp only;omega
      case b5 =>
       dsimp only
       rw [es]
       exact ⟨(show objAt _ 0 = objAt s 0 by simp (disch:=first | omega | (simp only [List.length_append,List.length_set,List.length_cons,List.length_nil];omega)) only [EVs]).trans I0,(show objAt _ 1 = objAt s 1 by simp (disch:=first | omega | (simp only [List.length_append,List.length_set,List.length_cons,List.length_nil];omega)) only [EVs]).trans I1,I.p.fr fun q h1 h2=>by simp (disch:=first | omega | (simp only [List.length_append,List.length_set,List.length_cons,List.length_nil];omega)) only [EVs],I.w.fr fun q h1 h2=>by simp (disch:=first | omega | (simp only [List.length_append,List.length_set,List.length_cons,List.length_nil];omega)) only [EVs]⟩
   ·have hin : i = S.length:=by omega
    subst hin
    have hAe : armI S v S.length = armA S v:=rfl
    rw [hAe] at hX hAl I
    have hok : ∀ a ∈ armA S v,a.share.ok = true ∧ a.dx.cn ∧ a.dy.cn ∧ 0 ≤ a.node ∧ a.node ≤ 9:=fun a ha=>arm_ok hb ha
    have hB : elB S v = (cdOk (elCd v (armA S v)) && (elMs (armA S v)).all lkOk):=by
     unfold elB inB
     rw [hb,decide_eq_true hv.1,decide_eq_true hv.2];rfl
    have hC : (elCd v (armA S v)) = ⟨v,elTot (armA S v),(armA S v).map (elPa (elTot (armA S v)))⟩:=rfl
    have hT:=@el_t S v
    have hF:=@el_f S v
    clear hw
    generalize armA S v = A at *
    generalize hXe : elTot A = X at hX I hC
    have I1:=I.a1
    rcases I.p with ⟨hp,rfl⟩ | ⟨p,rfl,hp,hp3,hpl⟩
    ·have hA0 : A = []:=List.map_eq_nil_iff.1 hp
     subst hA0
     have hnc : cdOk (elCd v []) = false:=by
      unfold cdOk
      rw [hC];simp
     rw [hnc] at hB
     have hB : elB S v = false:=hB
     rw [(hF hB).1,(hF hB).2,hB]
     have wcd : (elCd v []).wf:=by
      rw [hC]
      exact ⟨cn_wf hX,by simp,fun x hx=>by cases hx⟩
     have cv:=c_iIsValidConditional h.d_impl_IsValidConditional (c:=elCd v []) wcd
     rw [hnc,hC] at cv
     have I0:=I.a0
     refine ew2 @hc @I1 ?_
     refine loop_at (fun x d=>(x == 39 && d == 999)) (α:=Store) (fun s=>⟨argE [.any,iv v,.any,.any,.ptr 0 0 0,.nils,.bool false,.ptr 1 0 0,.any,.any,.any,.any,.any,.any,.any,.any,.any,.any,.any,.any,.any,.any,.any,.any,.any,.any,.any,.any,.any,.any,.any,.any,.any,.any,.any,.any,.any,.any,.any,.any,.any,.any,.any,.any,.any,.any,.any,.any,.any,.any,.any,.any,.any,.any,.any,.any,.any,.any,.any,.any,.any,.any,.any,.any,.any,.any,.any,.any,.any,.any,.any,.any,.any,.any,.any,.any,.any,.any,.any,.any,.any,.any,.any,iv 0,iv 0],s,0,0,[],[]⟩) (fun s=>objAt s 0 = some ⟨5,[[iv 0,.bool false,.nils,.nils,.nils]]⟩ ∧ objAt s 1 = some ⟨5,[[iv v,.bool X.neg,ints X.mag,ints X.den,.nils]]⟩) (fun s=>0) rfl s ?_ ?_ ?_
     ·exact ⟨I0,I1⟩
     ·(refine Fg_env ?_;exact fgW)
     ·clear I I0 I1
      rintro s ⟨I0,I1⟩
      have hz : ¬ (0 : Int) < 0:=by decide
      have h0q:=objAt_lt I0
      have cv2 : PF T 185 [.agg [iv v,.bool X.neg,ints X.mag,ints X.den,.nils]] (.bool false):=by
       refine .laxF (args:=[cdV ⟨v,X,[]⟩]) (r:=.bool false) ?_ cv (laxV_refl _)
       have k1:=laxV_refl (ints X.mag)
       have k2:=laxV_refl (ints X.den)
       simp only [LaxL,LaxV] at k1 k2 ⊢
       exact ⟨_,_,rfl,⟨_,rfl,_,_,rfl,rfl,_,_,rfl,rfl,_,_,rfl,k1,_,_,rfl,k2,_,_,rfl,.inl ⟨rfl,.inl rfl⟩,rfl⟩,rfl⟩
      refine ew2 @hz @I1 ?_
      refine PFK_of cv2 ?_
      refine ew2 @I0 @I1 ?_
      exact el_zero (σ:=[])
    ·rcases I.w with ⟨hwn,_⟩ | ⟨w,rfl,hw,hw3,hwl⟩
     case inl=>have:=List.map_eq_nil_iff.1 hwn;subst this;exact absurd hpl (by simp)
     simp only [List.length_map] at hpl hwl I1 ⊢
     have hpq:=objAt_lt hp
     have hwq:=objAt_lt hw
     refine ew3 @hc @I1 @hp ?_
     refine loop_at (fun x d=>(x == 39 && d == 999)) (α:=Nat × Store) (fun q=>⟨argE [.any,iv v,.any,.any,.ptr 0 0 0,.nils,.bool false,.ptr 1 0 0,.msl w 0 A.length,.any,.any,.any,.any,.any,.any,.any,.any,.any,.any,.any,.any,.any,.any,.any,.any,.any,.any,.any,.any,.any,.any,.any,.any,.any,.any,.any,.any,.any,.any,.any,.any,.any,.any,.any,.any,.any,.any,.any,.any,.any,.any,.any,.any,.any,.any,.any,.any,.any,.any,.any,.any,.any,.any,.any,.any,.any,.any,.any,.any,.any,.any,.any,.any,.any,.any,.any,.any,.any,.any,.any,.any,.any,.any,iv (A.length : Nat),iv (q.1 : Nat)],q.2,0,0,[],[]⟩) (fun q=>(q.1 ≤ A.length ∧ objAt q.2 0 = some ⟨5,[[iv 0,.bool false,.nils,.nils,.nils]]⟩ ∧ objAt q.2 w = some ⟨3,A.map Pa.wc⟩) ∧ (q.1 < A.length → objAt q.2 1 = some ⟨5,[[iv v,.bool X.neg,ints X.mag,ints X.den,.msl p 0 A.length]]⟩ ∧ objAt q.2 p = some ⟨10,mixL (A.map fun a=>(elPa X a).cells) (A.map paZ) q.1⟩) ∧ (q.1 = A.length → objAt q.2 1 = some ⟨5,[(elCd v A).cells]⟩)) (fun q=>A.length - q.1) rfl (0,s) ?_ ?_ ?_
     ·exact ⟨⟨Nat.zero_le _,I.a0,hw⟩,fun _=>⟨I1,by dsimp only;rw [mixL_0];exact hp⟩,fun e=>by dsimp only at e;omega⟩
     ·(refine Fg_env ?_;exact fgW)
     ·clear I I1 I0 hp hw hpq hwq
      rintro ⟨j,s⟩ ⟨⟨hj,I0,hw⟩,hM,hE⟩
      dsimp only at hj I0 hw hM hE
      have hwq:=objAt_lt hw
      by_cases hc2 : (j : Int) < (A.length : Nat)
      ·have hjl : j < A.length:=by omega
       obtain ⟨I1,hp⟩:=hM hjl
       have hpq:=objAt_lt hp
       have hpw : p ≠ w:=fun e=>by rw [e,hw] at hp;cases hp
       have hpA:=hok _ (getD_mem hjl)
       have hg : (A.map fun a=>(elPa X a).cells).getD j [] = (elPa X (A.getD j default)).cells:=mg hjl
       have hrow : (mixL (A.map fun a=>(elPa X a).cells) (A.map paZ) j)[j]? = some (paZ (A.getD j default)):=by
        unfold mixL
        rw [List.getElem?_append_right (by simp;omega)]
        simp only [List.length_take,List.length_map,List.getElem?_drop]
        rw [show j + (j - min j A.length) = j by omega,mg? hjl]
       have hml : (mixL (A.map fun a=>(elPa X a).cells) (A.map paZ) j).length = A.length:=by rw [mixL_len (by simp)];simp
       have hst:=mixL_set (a:=A.map fun a=>(elPa X a).cells) (b:=A.map paZ) (j:=j) (d:=[]) (x:=(elPa X (A.getD j default)).cells) (by simp) (by simpa using hjl) hg
       have hgw : (A.map Pa.wc)[j]? = some (A.getD j default).wc:=mg? hjl
       have cd:=c_ratDivR h.d_impl_ratDiv (r:=(A.getD j default).share) (s:=X) (cn_ok hpA.1) hX
       generalize A.getD j default = a at *
       generalize mixL (A.map fun a=>(elPa X a).cells) (A.map paZ) j = M at *
       have hgw : (A.map Pa.wc)[j]? = some [.bool a.share.neg,ints a.share.mag,ints a.share.den]:=hgw
       have hrow : M[j]? = some [iv a.node,.bool false,.nils,.nils,.bool a.dx.neg,ints a.dx.mag,ints a.dx.den,.bool a.dy.neg,ints a.dy.mag,ints a.dy.den]:=hrow
       refine ew7 @hc2 @I1 @hp @hw (And.intro hrow hml) @hgw (And.intro numK_any or_sc) ?_
       refine PFK_of cd ?_
       refine ew7 @hc2 @I1 @hp @hw (And.intro hrow hml) @hgw (And.intro numK_any or_sc) ?_
       refine ⟨OkA_lst [1,w,p] [⟨12,[2],[2],false⟩,⟨11,[2],[],false⟩,⟨10,[2],[],false⟩,⟨9,[],[],false⟩,⟨8,[0],[],false⟩,⟨7,[0],[],false⟩,⟨6,[1],[],false⟩,⟨5,[1],[],false⟩,⟨4,[],[],false⟩,⟨3,[],[],false⟩,⟨2,[],[],false⟩,⟨1,[0],[],false⟩,⟨0,[0],[],false⟩] ?_ ?_ rfl ?_,?_⟩
       ·have : 1 ≠ w ∧ 1 ≠ p ∧ w ≠ p:=by omega
        simp [this]
       ·intro o ho;simp at ho;omega
       ·show OkA 3 _ _
        unfold OkA;rfl
       by_cases hj1 : j + 1 < A.length
       ·refine ⟨(j + 1,?s6),?m6,⟨⟨?a6,?b6,?c6⟩,fun _=>⟨?d6,?f6⟩,fun e=>absurd e (by dsimp only;omega)⟩,?e6⟩
        case e6=>dsimp only;(refine Fg_env ?_;exact fgW)
        case m6=>dsimp only;omega
        case a6=>dsimp only;omega
        case b6=>exact (show objAt _ 0 = objAt s 0 by simp (disch:=first | omega | (simp only [List.length_append,List.length_set,List.length_cons,List.length_nil];omega)) only [EVs]).trans I0
        case c6=>exact (show objAt _ w = objAt s w by simp (disch:=first | omega | (simp only [List.length_append,List.length_set,List.length_cons,List.length_nil];omega)) only [EVs]).trans hw
        case d6=>exact (show objAt _ 1 = objAt s 1 by simp (disch:=first | omega | (simp only [List.length_append,List.length_set,List.length_cons,List.length_nil];omega)) only [EVs]).trans I1
        case f6=>dsimp only;rw [← hst];exact objAt_seteq hpq
       ·have hjn : j + 1 = A.length:=by omega
        have hrows : mixL (A.map fun a=>(elPa X a).cells) (A.map paZ) A.length = (elCd v A).ps.map Pa.cells:=by
         have:=mixL_all (A.map fun a=>(elPa X a).cells) (A.map paZ) (by simp) (by simp)
         rw [List.length_map] at this
         rw [this,hC,List.map_map];rfl
        rw [hjn,hrows] at hst
        obtain ⟨s2,hs2⟩ : ∃ s2,s.set p (some ⟨10,M.set j (elPa X a).cells⟩) = s2:=⟨_,rfl⟩
        have k0 : objAt s2 0 = some ⟨5,[[iv 0,.bool false,.nils,.nils,.nils]]⟩:=by rw [← hs2,objAt_setne (by omega)];exact I0
        have k1 : objAt s2 1 = some ⟨5,[[iv v,.bool X.neg,ints X.mag,ints X.den,.msl p 0 A.length]]⟩:=by rw [← hs2,objAt_setne (by omega)];exact I1
        have kw : objAt s2 w = some ⟨3,A.map Pa.wc⟩:=by rw [← hs2,objAt_setne (by omega)];exact hw
        have kp : objAt s2 p = some ⟨10,(elCd v A).ps.map Pa.cells⟩:=by rw [← hs2,objAt_seteq hpq,hst]
        have hl2 : s2.length = s.length:=by rw [← hs2];simp
        have hres : resolve s2 FD (.msl p 0 A.length) = some (pasV (elCd v A).ps):=by
         have:=res_mslS (n:=10) kp (st_Pa _)
         rw [List.length_map,hC,List.length_map] at this
         rw [hC];exact this
        refine ⟨(j + 1,keepO s2 1 ⟨5,[(elCd v A).cells]⟩ [0,w]),?m7,⟨⟨?a7,?b7,?c7⟩,fun e=>absurd e (by dsimp only;omega),fun _=>?d7⟩,?e7⟩
        case e7 =>
         dsimp only
         show Fg _ ⟨_,s.set p (some ⟨10,M.set j (elPa X a).cells⟩),_,_,_,_⟩
         rw [hs2]
         refine Fg_own (p:=1) (n:=5) (A:=[[iv v,.bool X.neg,ints X.mag,ints X.den,.msl p 0 A.length]]) k1 rfl ?_ ?_ ?_
         ·intro o ho ob hob
          rcases List.mem_cons.1 ho with rfl | ho
          ·rw [k0] at hob;cases hob;simp [stillR,V.still]
          ·rw [List.mem_singleton.1 ho,kw] at hob;cases hob
           have:=st_R (A.map (·.share))
           rw [List.map_map] at this
           exact this
         ·intro i r r2 h1 h2
          cases i with
          | succ i=>cases h1
          |
           zero =>
           cases h1;cases h2
           rw [hC] at hres ⊢
           simp only [CanL,CanV]
           refine ⟨_,_,rfl,rfl,_,_,rfl,rfl,_,_,rfl,laxV_refl _,_,_,rfl,laxV_refl _,_,_,rfl,.inr (.inr ⟨hres,fun q hq k s0 l0 hk=>?_⟩),rfl⟩
           have:=reach_mslS kp (st_Pa _) q hq
           have:=keepW_inv hk
           simp at this
           omega
         ·refine ew ?_
          refine ⟨CanE_ptr (n:=1) ?_ (by omega),CanE_ptr (n:=1) ?_ (by omega),CanE_msl (n:=A.length) ?_ (Nat.le_refl _) rfl,by omega⟩
          ·rw [keepW_at (by omega),if_neg (by omega),if_pos (by simp),k0];rfl
          ·rw [keepW_at (by omega),if_pos rfl]
          ·rw [keepW_at (by omega),if_neg (by omega),if_pos (by simp),kw];simp
        case m7=>dsimp only;omega
        case a7=>dsimp only;omega
        case b7=>dsimp only;rw [keepO_at (by omega),if_neg (by omega),if_pos (by simp)];exact k0
        case c7=>dsimp only;rw [keepO_at (by omega),if_neg (by omega),if_pos (by simp)];exact kw
        case d7=>dsimp only;rw [keepO_at (by omega),if_pos rfl]
      ·have hjn : j = A.length:=by omega
       have I1:=hE hjn
       subst hjn
       have wcd : (elCd v A).wf:=by
        rw [hC]
        exact ⟨cn_wf hX,by simp;omega,fun x hx=>by
         obtain ⟨a,ha,rfl⟩:=List.mem_map.1 hx
         have:=hok a ha
         exact ⟨cn_wf (divR_cn _ _),cn_wf this.2.1,cn_wf this.2.2.1⟩⟩
       have cv:=c_iIsValidConditional h.d_impl_IsValidConditional (c:=elCd v A) wcd
       have hres : ∀ σ : Store,resolve σ FD (cdV (elCd v A)) = some (cdV (elCd v A)):=fun σ=>res_agg_still (st_Cd [elCd v A] _ (by simp))
       clear hM hE
       refine ew2 @hc2 @I1 ?_
       refine PFK_of cv ?_
       cases hcd : cdOk (elCd v A)
       ·rw [hcd] at hB
        have hB : elB S v = false:=hB
        rw [(hF hB).1,(hF hB).2,hB]
        refine ew2 @I1 @I0 ?_
        first | exact el_zero | exact el_zero (σ:=[])
       ·rw [hcd,Bool.true_and] at hB
        have hcc : (elCd v A).cells = [iv v,.bool X.neg,ints X.mag,ints X.den,pasV (elCd v A).ps]:=by rw [hC]
        rw [hcc] at I1
        have hpl2 : (elCd v A).ps.length = A.length:=by rw [hC];simp
        refine ew2 @I1 @hpl2 ?_
        refine loop_at (fun x d=>(x == 39 && d == 999)) (α:=Nat × Store × V) (fun q=>⟨argE [.any,iv v,.any,.any,.ptr 0 0 0,.nils,.bool false,.ptr 1 0 0,.msl w 0 A.length,.any,.any,.any,q.2.2,.any,.any,.any,.any,.any,.any,.any,.any,.any,.any,.any,.any,.any,.any,.any,.any,.any,.any,.any,.any,.any,.any,.any,.any,.any,.any,.any,.any,.any,.any,.any,.any,.any,.any,.any,.any,.any,.any,.any,.any,.any,.any,.any,.any,.any,.any,.any,.any,.any,.any,.any,.any,.any,.any,.any,.any,.any,.any,.any,.any,.any,.any,.any,.any,.any,.any,.any,.any,.any,.any,.any,.any,.any,.any,.any,.any,.any,.any,.any,.any,.any,.any,.any,.any,.any,.any,.any,.any,.any,.any,.any,.any,.any,pasV (elCd v A).ps,iv (A.length : Nat),iv (q.1 : Nat)],q.2.1,0,0,[],[]⟩) (fun q=>(q.1 ≤ A.length ∧ objAt q.2.1 0 = some ⟨5,[[iv 0,.bool false,.nils,.nils,.nils]]⟩ ∧ objAt q.2.1 w = some ⟨3,A.map Pa.wc⟩ ∧ objAt q.2.1 1 = some ⟨5,[[iv v,.bool X.neg,ints X.mag,ints X.den,pasV (elCd v A).ps]]⟩) ∧ LnA q.2.1 q.2.2 (elMesh A q.1) ∧ ∀ x ∈ elMesh A q.1,lkOk x = true) (fun q=>A.length - q.1) rfl (0,s ++ [none],.nils) ?_ ?_ ?_
        ·exact ⟨⟨Nat.zero_le _,(objAt_snoc_lt (by omega)).trans I0,(objAt_snoc_lt hwq).trans hw,(objAt_snoc_lt (by omega)).trans I1⟩,.inl ⟨rfl,rfl⟩,fun x hx=>by cases hx⟩
        ·(refine Fg_env ?_;exact fgW)
        ·clear I0 I1 hw hwq
         rintro ⟨i,s,mv⟩ ⟨⟨hi,I0,hw,I1⟩,hL,hall⟩
         dsimp only at hi I0 hw I1 hL hall
         have hwq:=objAt_lt hw
         have h1q:=objAt_lt I1
         have hLl:=elMesh_len A i
         by_cases hc3 : (i : Int) < (A.length : Nat)
         ·have hil : i < A.length:=by omega
          have hg : ((elCd v A).ps.map Pa.cells).getD i [] = (elPa X (A.getD i default)).cells:=by
           have:=mg (l:=(elCd v A).ps) (f:=Pa.cells) (j:=i) (by rw [hpl2];exact hil)
           rw [elCd_at hil,hXe] at this;exact this
          have hiA:=hok _ (getD_mem hil)
          refine ew3 @hc3 @hg @hpl2 ?_
          obtain ⟨qc,hqc⟩ : ∃ qc,List.length s = qc:=⟨_,rfl⟩
          have hq3 : 3 ≤ qc:=by omega
          refine loop_at (fun x d=>(x == 39 && d == 999)) (α:=Nat × Store × V) (fun q=>⟨argE [.any,iv v,.any,.any,.ptr 0 0 0,.nils,.bool false,.ptr 1 0 0,.msl w 0 A.length,.any,.any,.any,q.2.2,iv (i : Nat),.ptr qc 0 0,iv ((i : Nat) + 1 + (q.1 : Nat)),.any,.any,.any,.any,.any,.any,.any,.any,.any,.any,.any,.any,.any,.any,.any,.any,.any,.any,.any,.any,.any,.any,.any,.any,.any,.any,.any,.any,.any,.any,.any,.any,.any,.any,.any,.any,.any,.any,.any,.any,.any,.any,.any,.any,.any,.any,.any,.any,.any,.any,.any,.any,.any,.any,.any,.any,.any,.any,.any,.any,.any,.any,.any,.any,.any,.any,.any,.any,.any,.any,.any,.any,.any,.any,.any,.any,.any,.any,.any,.any,.any,.any,.any,.any,.any,.any,.any,.any,.any,.any,pasV (elCd v A).ps,iv (A.length : Nat),iv (i : Nat)],q.2.1,0,0,[],[]⟩) (fun q=>(i + 1 + q.1 ≤ A.length ∧ objAt q.2.1 0 = some ⟨5,[[iv 0,.bool false,.nils,.nils,.nils]]⟩ ∧ objAt q.2.1 w = some ⟨3,A.map Pa.wc⟩ ∧ objAt q.2.1 1 = some ⟨5,[[iv v,.bool X.neg,ints X.mag,ints X.den,pasV (elCd v A).ps]]⟩ ∧ objAt q.2.1 qc = some ⟨10,[(elPa X (A.getD i default)).cells]⟩) ∧ LnA q.2.1 q.2.2 (elMesh A i ++ elRow A i q.1) ∧ ∀ x ∈ elMesh A i ++ elRow A i q.1,lkOk x = true) (fun q=>A.length - q.1) rfl (0,s ++ [some ⟨10,[(elPa X (A.getD i default)).cells]⟩],mv) ?_ ?_ ?_
          ·refine ⟨⟨by dsimp only;omega,(objAt_snoc_lt (by omega)).trans I0,(objAt_snoc_lt hwq).trans hw,(objAt_snoc_lt h1q).trans I1,by dsimp only;rw [← hqc];exact objAt_snoc _ _⟩,?_,?_⟩
           ·dsimp only
            rw [elRow_0,List.append_nil]
            exact hL.fr fun p hp=>objAt_snoc_lt hp
           ·dsimp only
            rw [elRow_0,List.append_nil];exact hall
          ·subst hqc
           (refine Fg_env ?_;exact fgW)
          ·clear I0 I1 hw hwq h1q hL hall hqc
           rintro ⟨j,s,mv⟩ ⟨⟨hj,I0,hw,I1,Iq⟩,hL,hall⟩
           dsimp only at hj I0 hw I1 Iq hL hall
           have hwq:=objAt_lt hw
           have h1q:=objAt_lt I1
           have hqq:=objAt_lt Iq
           have hRl:=elRow_len A i j
           by_cases hc4 : (i : Int) + 1 + j < (A.length : Nat)
           ·have hkl : i + 1 + j < A.length:=by omega
            have hg2 : ((elCd v A).ps.map Pa.cells).getD (i + 1 + j) [] = (elPa X (A.getD (i + 1 + j) default)).cells:=by
             have:=mg (l:=(elCd v A).ps) (f:=Pa.cells) (j:=i + 1 + j) (by rw [hpl2];exact hkl)
             rw [elCd_at hkl,hXe] at this;exact this
            have hkA:=hok _ (getD_mem hkl)
            have ht : ((i : Int) + 1 + (j : Nat)).toNat = i + 1 + j:=by omega
            have hwi : (A.map Pa.wc)[i]? = some (A.getD i default).wc:=mg? hil
            have hwk : (A.map Pa.wc)[i + 1 + j]? = some (A.getD (i + 1 + j) default).wc:=mg? hkl
            have es:=elRow_s A hkl
            have hbad:=@elMs_bad A i (i + 1 + j) (by omega) hkl
            rw [hXe] at es hbad
            obtain ⟨a,ha⟩ : ∃ a,A.getD i default = a:=⟨_,rfl⟩
            obtain ⟨b,hb'⟩ : ∃ b,A.getD (i + 1 + j) default = b:=⟨_,rfl⟩
            rw [ha] at hiA es hbad Iq hwi
            rw [hb'] at hkA es hbad hg2 hwk
            have hwi : (A.map Pa.wc)[i]? = some [.bool a.share.neg,ints a.share.mag,ints a.share.den]:=hwi
            have hwk : (A.map Pa.wc)[i + 1 + j]? = some [.bool b.share.neg,ints b.share.mag,ints b.share.den]:=hwk
            have cm:=c_ratMulR h.d_impl_ratMul (r:=a.share) (s:=b.share) (cn_ok hiA.1) (cn_ok hkA.1)
            have cd:=c_ratDivR h.d_impl_ratDiv (r:=mulR a.share b.share) (s:=X) (mulR_cn _ _) hX
            have cx:=c_ratSubR h.d_impl_ratSub hiA.2.1 hkA.2.1
            have cy:=c_ratSubR h.d_impl_ratSub hiA.2.2.1 hkA.2.2.1
            have hcn:=elLk_cn X a b
            have civ:=c_iIsValidLink h.d_impl_IsValidLink (l:=elLk X a b) ⟨cn_wf hcn.1,cn_wf hcn.2.1,cn_wf hcn.2.2⟩
            refine ew7 @hc4 (And.intro hg2 ht) @hpl2 (And.intro I1 Iq) @hw (And.intro hwi hwk) (And.intro numK_any or_sc) ?_
            refine PFK_of cm ?_
            refine ew3 (And.intro I1 Iq) @hw (And.intro numK_any or_sc) ?_
            refine PFK_of cd ?_
            refine ew3 (And.intro I1 Iq) @hw (And.intro numK_any or_sc) ?_
            have hwqc : w ≠ qc:=fun e=>by rw [e,Iq] at hw;cases hw
            refine ⟨OkA_lst [1,w,qc,s.length,s.length + 1] [⟨18,[4],[4],false⟩,⟨17,[],[4],false⟩,⟨16,[],[],false⟩,⟨15,[],[],false⟩,⟨14,[0],[],false⟩,⟨13,[0],[],false⟩,⟨12,[],[],false⟩,⟨11,[1],[],false⟩,⟨10,[1],[],false⟩,⟨9,[],[],false⟩,⟨8,[],[],false⟩,⟨7,[1],[],false⟩,⟨6,[1],[],false⟩,⟨5,[],[],false⟩,⟨4,[],[],false⟩,⟨3,[3],[],false⟩,⟨2,[3],[],false⟩,⟨1,[2],[],false⟩,⟨0,[2],[],false⟩] ?_ ?_ rfl ?_,?_⟩
            ·clear I0 hw I1 Iq hL hall
             generalize List.length s = m at hwq h1q hqq ⊢
             have : 1 ≠ w ∧ 1 ≠ qc ∧ w ≠ qc ∧ 1 ≠ m ∧ 1 ≠ m + 1 ∧ w ≠ m ∧ w ≠ m + 1 ∧ qc ≠ m ∧ qc ≠ m + 1:=by omega
             simp [this];omega
            ·intro o ho;simp at ho;omega
            ·show OkA 5 _ _
             unfold OkA;rfl
            refine ew3 (And.intro I1 Iq) @hw (And.intro numK_any or_sc) ?_
            refine PFK_of cx ?_
            refine ew3 (And.intro I1 Iq) @hw (And.intro numK_any or_sc) ?_
            refine PFK_of cy ?_
            refine ew3 (And.intro I1 Iq) @hw (And.intro numK_any or_sc) ?_
            refine PFK_of civ ?_
            cases hlk : lkOk (elLk X a b)
            ·have hB2 : elB S v = false:=by rw [hB];exact hbad hlk
             rw [(hF hB2).1,(hF hB2).2,hB2]
             refine ew2 @I0 (And.intro numK_any or_sc) ?_
             exact el_zero (σ:=[])
            ·have en : elMesh A i ++ elRow A i (j + 1) = (elMesh A i ++ elRow A i j) ++ [elLk X a b]:=by rw [es,List.append_assoc]
             have hall2 : ∀ x ∈ elMesh A i ++ elRow A i (j + 1),lkOk x = true:=fun x hx=>by
              rw [en] at hx
              rcases List.mem_append.1 hx with hx | hx
              ·exact hall x hx
              ·rw [List.mem_singleton.1 hx];exact hlk
             have hMl : (elMesh A i ++ elRow A i j).length ≤ 20000:=by
              rw [List.length_append]
              have : i * A.length ≤ 100 * 100:=Nat.mul_le_mul (by omega) (by omega)
              omega
             generalize elMesh A i ++ elRow A i j = Ms at *
             rcases hL with ⟨rfl,rfl⟩ | ⟨m2,rfl,hm2⟩
             ·refine ew1 (And.intro numK_any or_sc) ?_
              refine ⟨by omega,(j + 1,?s8,.msl (s.length + 1 + 1 + 1) 0 1),?m8,⟨⟨?a8,?b8,?c8,?d8,?f8⟩,.inr ⟨s.length + 1 + 1 + 1,?g8,?h8⟩,hall2⟩,?e8⟩
              case e8=>dsimp only;(refine Fg_env ?_;exact fgW)
              case m8=>dsimp only;omega
              case a8=>dsimp only;omega
              case b8=>exact (show objAt _ 0 = objAt s 0 by simp (disch:=first | omega | (simp only [List.length_append,List.length_set,List.length_cons,List.length_nil];omega)) only [EVs]).trans I0
              case c8=>exact (show objAt _ w = objAt s w by simp (disch:=first | omega | (simp only [List.length_append,List.length_set,List.length_cons,List.length_nil];omega)) only [EVs]).trans hw
              case d8=>exact (show objAt _ 1 = objAt s 1 by simp (disch:=first | omega | (simp only [List.length_append,List.length_set,List.length_cons,List.length_nil];omega)) only [EVs]).trans I1
              case f8=>dsimp only;rw [ha];exact (show objAt _ qc = objAt s qc by simp (disch:=first | omega | (simp only [List.length_append,List.length_set,List.length_cons,List.length_nil];omega)) only [EVs]).trans Iq
              case g8=>dsimp only;rw [en];simp
              case h8 =>
               dsimp only
               rw [en]
               simp (disch:=first | omega | (simp only [List.length_append,List.length_set,List.length_cons,List.length_nil];omega)) only [EVs]
               simp [elLk,elPa]
             ·have hm2l:=objAt_lt hm2
              have n1 : m2 ≠ 1:=fun e=>by rw [e,I1] at hm2;cases hm2
              have n2 : m2 ≠ w:=fun e=>by rw [e,hw] at hm2;cases hm2
              have n3 : m2 ≠ qc:=fun e=>by rw [e,Iq] at hm2;cases hm2
              have n0 : m2 ≠ 0:=fun e=>by rw [e,I0] at hm2;cases hm2
              refine ew2 (And.intro numK_any or_sc) @hm2 ?_
              refine ⟨by omega,(j + 1,?s9,.msl (s.length + 1 + 1 + 1) 0 (Ms.length + 1)),?m9,⟨⟨?a9,?b9,?c9,?d9,?f9⟩,.inr ⟨s.length + 1 + 1 + 1,?g9,?h9⟩,hall2⟩,?e9⟩
              case e9=>dsimp only;(refine Fg_env ?_;exact fgW)
              case m9=>dsimp only;omega
              case a9=>dsimp only;omega
              case b9=>exact (show objAt _ 0 = objAt s 0 by simp (disch:=first | omega | (simp only [List.length_append,List.length_set,List.length_cons,List.length_nil];omega)) only [EVs]).trans I0
              case c9=>exact (show objAt _ w = objAt s w by simp (disch:=first | omega | (simp only [List.length_append,List.length_set,List.length_cons,List.length_nil];omega)) only [EVs]).trans hw
              case d9=>exact (show objAt _ 1 = objAt s 1 by simp (disch:=first | omega | (simp only [List.length_append,List.length_set,List.length_cons,List.length_nil];omega)) only [EVs]).trans I1
              case f9=>dsimp only;rw [ha];exact (show objAt _ qc = objAt s qc by simp (disch:=first | omega | (simp only [List.length_append,List.length_set,List.length_cons,List.length_nil];omega)) only [EVs]).trans Iq
              case g9=>dsimp only;rw [en];simp
              case h9 =>
               dsimp only
               rw [en]
               simp (disch:=first | omega | (simp only [List.length_append,List.length_set,List.length_cons,List.length_nil];omega)) only [EVs]
               simp [elLk,elPa]
           ·have hjn : j = A.length - (i + 1):=by omega
            refine ew5 @hc4 @hpl2 (And.intro I1 Iq) @hw (And.intro numK_any or_sc) ?_
            refine ⟨(i + 1,s,mv),?mA,⟨⟨?aA,I0,hw,I1⟩,?bA,?cA⟩,?eA⟩
            case eA=>dsimp only;(refine Fg_env ?_;exact fgW)
            case mA=>dsimp only;omega
            case aA=>dsimp only;omega
            case bA=>dsimp only;rw [hjn] at hL;exact hL
            case cA=>dsimp only;rw [hjn] at hall;exact hall
         ·have hin : i = A.length:=by omega
          subst hin
          have hB2 : elB S v = true:=by rw [hB];exact List.all_eq_true.2 hall
          rw [(hT hB2).1,(hT hB2).2,hB2]
          refine ew2 @hc3 (And.intro I1 I0) ?_
          refine el_end (s:=s) (c:=elCd v A) hcc (st_Cd [elCd v A] _ (by simp)) hL ?_ I1 ?_ ⟨_,I0⟩
          ·exact obE
          ·intro q hq0
           exact obE
 ·have hB : elB S v = false:=by
   unfold elB inB
   rcases Int.lt_or_le v 1 with k | k
   ·rw [decide_eq_false (show ¬ 1 ≤ v by omega)];simp
   ·rw [decide_eq_false (show ¬ v ≤ 9 by omega)];simp
  rw [(el_f hB).1,(el_f hB).2,hB]
  refine pf_endL (fun x d=>(x == 39 && d == 999)) h.hT rfl rfl ?_
  dsimp only [F_impl_eliminateNode,oN,oS,oG,oK,oA,oH,oV,cI]
  refine ew ?_
  by_cases hv1 : v < 1
  ·refine ew1 @hv1 ?_
   exact el_zero (σ:=[])
  ·have hv2 : v ≥ 10:=by omega
   refine ew2 @hv1 @hv2 ?_
   exact el_zero (σ:=[])
theorem Ep.cong {s : Store} {cs cs' ts ts' : List V} {os : List Nat} {L : List (Nat × Obj)} (E : Ep s cs ts os L) (h1 : cs' = cs) (h2 : ts' = ts) : Ep s cs' ts' os L:=by
 subst h1;subst h2;exact E
theorem po_copyConditional {T : Nat → Option Fn} (h : D_impl_copyConditional T) {c : Cd} (hn : 0 < c.ps.length) (hz : c.total.sz ≤ 1048576 ∧ ∀ a ∈ c.ps,a.sz ≤ 1048576) (hl : c.ps.length ≤ 1048576) : PO T 183 [cdV c] (cdV c):=by
 refine po_end2 (fun x d=>x == 145) h.hT rfl rfl ?_
 dsimp only [F_impl_copyConditional,oN,oS,oG,oK,oA,oH,oV,cI,St.enter,List.length_cons,List.length_nil,Nat.zero_add]
 refine ew ?_
 refine OwnK_got0 (po_copyRat h.d_impl_copyRat (r:=c.total) hz.1) (by (refine ew ?_;try with_reducible exact True.intro)) (by (refine ew ?_;try with_reducible exact True.intro)) ?_
 intro r q1 o1 G
 obtain ⟨_,rfl,hQ⟩:=G.ow.agg_inv
 obtain ⟨x1,x2,rfl⟩:=hQ.rat
 have lx:=OwL.leaf hQ rfl
 simp only [List.all_cons,List.all_nil,Bool.and_true,Bool.and_eq_true] at lx
 have gl:=G.len
 simp only [List.length_cons,List.length_nil,List.length_append] at gl
 have P0 : objAt q1 0 = some ⟨5,[c.cells]⟩:=G.old 0 (by simp)
 have P1 : objAt q1 1 = some ⟨5,[[iv 0,.bool false,.nils,.nils,.nils]]⟩:=G.old 1 (by simp)
 have hf : ∀ o ∈ o1,3 ≤ o:=fun o ho=>by have:=G.fresh o ho;simpa using this
 refine ew4 (And.intro P0 P1) @lx @gl @List.set_set.{0} ?_
 refine ⟨by unfold OkA;decide +kernel,?_⟩
 refine ew4 (And.intro P0 P1) @lx @gl @List.set_set.{0} ?_
 have E : Ep q1 [iv c.node,.bool c.total.neg,x1,x2] [iv c.node,.bool c.total.neg,ints c.total.mag,ints c.total.den] o1 [(1,⟨5,[[iv 0,.bool false,.nils,.nils,.nils]]⟩)]:=by
  have E0 : Ep [some ⟨5,[c.cells]⟩,some ⟨5,[[iv 0,.bool false,.nils,.nils,.nils]]⟩,none] [] [] [] [(1,⟨5,[[iv 0,.bool false,.nils,.nils,.nils]]⟩)]:=⟨cs_nil,by simp [objAt]⟩
  have:=E0.got (s1:=[some ⟨5,[c.cells]⟩,some ⟨5,[[iv 0,.bool false,.nils,.nils,.nils]]⟩,none]) (fun _ _=>rfl) (Nat.le_refl _) (owL_int (q:=.i64) (n:=c.node) hQ) G.nd (by simpa using G.fresh) (by simpa using G.old)
  simpa using this
 have E1:=E.reloc (p:=2) (ob:=⟨5,[[iv c.node,.bool c.total.neg,x1,x2,.nils]]⟩) (L':=[(1,⟨5,[[iv 0,.bool false,.nils,.nils,.nils]]⟩),(2,⟨5,[[iv c.node,.bool c.total.neg,x1,x2,.nils]]⟩)]) (fun hm=>by have:=hf 2 hm;omega) (by omega) (by simp)
 clear E G P0 P1 hQ hf gl
 refine loop_at (fun x d=>x == 145) (α:=Nat × Store × V × List (List V) × List Nat) (fun q=>⟨argE [.any,.any,.ptr 1 0 0,.ptr 2 0 0,.any,.any,.any,.any,.any,.any,.any,.any,.any,.any,pasV c.ps,iv (c.ps.length : Nat),iv (q.1 : Nat)],q.2.1,0,0,[],[]⟩) (fun q=>(q.1 ≤ c.ps.length ∧ q.2.2.2.1.length = q.1 ∧ ∀ r ∈ q.2.2.2.1,r.length = 10) ∧ ∃ M,LAt 10 q.2.2.1 q.2.2.2.1 M ∧ Ep q.2.1 ([iv c.node,.bool c.total.neg,x1,x2] ++ q.2.2.2.1.flatten) ([iv c.node,.bool c.total.neg,ints c.total.mag,ints c.total.den] ++ ((c.ps.take q.1).map Pa.cells).flatten) q.2.2.2.2 ([(1,⟨5,[[iv 0,.bool false,.nils,.nils,.nils]]⟩),(2,⟨5,[[iv c.node,.bool c.total.neg,x1,x2,q.2.2.1]]⟩)] ++ M)) (fun q=>c.ps.length - q.1) rfl (0,q1.set 2 (some ⟨5,[[iv c.node,.bool c.total.neg,x1,x2,.nils]]⟩),.nils,[],o1) ?_ ?_ ?_
 ·exact ⟨⟨Nat.zero_le _,rfl,fun r hr=>by cases hr⟩,[],.inl ⟨rfl,rfl,rfl⟩,by simpa using E1⟩
 ·(refine Fg_env ?_;exact fgW)
 ·clear E1
  rintro ⟨i,s,pv,A,os⟩ ⟨⟨hi,hAl,hA10⟩,M,hLA,E⟩
  dsimp only at hi hAl hA10 hLA E
  have L1:=E.at0 (p:=1) (ob:=⟨5,[[iv 0,.bool false,.nils,.nils,.nils]]⟩) (by simp)
  have L2:=E.at0 (p:=2) (ob:=⟨5,[[iv c.node,.bool c.total.neg,x1,x2,pv]]⟩) (by simp)
  by_cases hc : (i : Int) < (c.ps.length : Nat)
  ·have hil : i < c.ps.length:=by omega
   have hx : (c.ps.map Pa.cells).getD i [] = (c.ps.getD i default).cells:=mg hil
   have hza:=hz.2 _ (getD_mem hil)
   have ets : (c.ps.take (i + 1)).map Pa.cells = (c.ps.take i).map Pa.cells ++ [(c.ps.getD i default).cells]:=by rw [take_snoc hil,List.map_append];rfl
   generalize c.ps.getD i default = a at *
   unfold Pa.sz at hza
   refine ew2 @hc @hx ?_
   have hq0 : ∀ o,o < s.length → objAt (s ++ [some ⟨10,[a.cells]⟩] ++ [none]) o = objAt s o:=fun o ho=>by simp only [List.append_assoc];exact objAt_app_lt ho
   have hqe : objAt (s ++ [some ⟨10,[a.cells]⟩] ++ [none]) s.length = some ⟨10,[a.cells]⟩:=(objAt_snoc_lt (by simp)).trans (objAt_snoc _ _)
   have hs1 : (s ++ [some (⟨10,[a.cells]⟩ : Obj)] ++ [none]).length = s.length + 1 + 1:=by simp
   refine OwnK_got0 (po_copyRat h.d_impl_copyRat (r:=a.share) (by omega)) (by (refine ew ?_;try with_reducible exact True.intro)) (by (refine ew ?_;try with_reducible exact True.intro)) ?_
   intro r q2 o2 G
   obtain ⟨_,rfl,hQ⟩:=G.ow.agg_inv
   obtain ⟨y1,y2,rfl⟩:=hQ.rat
   have lq:=OwL.leaf hQ rfl
   simp only [List.all_cons,List.all_nil,Bool.and_true,Bool.and_eq_true] at lq
   have E2:=E.got (s1:=s ++ [some ⟨10,[a.cells]⟩] ++ [none]) hq0 (by omega) (owL_int (q:=.i64) (n:=a.node) hQ) G.nd G.fresh G.old
   have he2 : objAt q2 s.length = some ⟨10,[a.cells]⟩:=(G.old s.length (by omega)).trans hqe
   have ll2 : s.length + 1 + 1 ≤ q2.length:=by have:=G.len;omega
   have fr2 : ∀ o ∈ o2,s.length + 2 ≤ o:=fun o ho=>by have:=G.fresh o ho;simp at this;omega
   have lf2:=lq
   clear G hQ lq
   refine ew2 (And.intro he2 ll2) @lf2 ?_
   refine OwnK_got0 (po_copyRat h.d_impl_copyRat (r:=a.dx) (by omega)) (by (refine ew2 (And.intro he2 ll2) @lf2 ?_;try with_reducible exact True.intro)) (by (refine ew2 (And.intro he2 ll2) @lf2 ?_;try with_reducible exact True.intro)) ?_
   intro r q3 o3 G
   obtain ⟨_,rfl,hQ⟩:=G.ow.agg_inv
   obtain ⟨y3,y4,rfl⟩:=hQ.rat
   have lq:=OwL.leaf hQ rfl
   simp only [List.all_cons,List.all_nil,Bool.and_true,Bool.and_eq_true] at lq
   have E3:=E2.got (s1:=q2) (fun _ _=>rfl) (Nat.le_refl _) (hQ) G.nd G.fresh G.old
   have he3 : objAt q3 s.length = some ⟨10,[a.cells]⟩:=(G.old s.length (by omega)).trans he2
   have ll3 : s.length + 1 + 1 ≤ q3.length:=by have:=G.len;omega
   have fr3 : ∀ o ∈ o3,s.length + 2 ≤ o:=fun o ho=>by have:=G.fresh o ho;omega
   have lf3:=And.intro lf2 lq
   clear G hQ lq
   refine ew2 (And.intro he3 ll3) @lf3 ?_
   refine OwnK_got0 (po_copyRat h.d_impl_copyRat (r:=a.dy) (by omega)) (by (refine ew2 (And.intro he3 ll3) @lf3 ?_;try with_reducible exact True.intro)) (by (refine ew2 (And.intro he3 ll3) @lf3 ?_;try with_reducible exact True.intro)) ?_
   intro r q4 o4 G
   obtain ⟨_,rfl,hQ⟩:=G.ow.agg_inv
   obtain ⟨y5,y6,rfl⟩:=hQ.rat
   have lq:=OwL.leaf hQ rfl
   simp only [List.all_cons,List.all_nil,Bool.and_true,Bool.and_eq_true] at lq
   have E4:=E3.got (s1:=q3) (fun _ _=>rfl) (Nat.le_refl _) (hQ) G.nd G.fresh G.old
   have he4 : objAt q4 s.length = some ⟨10,[a.cells]⟩:=(G.old s.length (by omega)).trans he3
   have ll4 : s.length + 1 + 1 ≤ q4.length:=by have:=G.len;omega
   have fr4 : ∀ o ∈ o4,s.length + 2 ≤ o:=fun o ho=>by have:=G.fresh o ho;omega
   have lf4:=And.intro lf3 lq
   clear G hQ lq
   refine ew2 (And.intro he4 ll4) @lf4 ?_
   refine ⟨by
    have hn0 : 0 ≤ List.length s:=Nat.zero_le _
    generalize List.length s = m at hn0 ⊢
    revert m
    refine OkA_allN _ _ 0 (fun n hn=>?_) (fun n hn=>?_) ?_
    ·simp only [sh];split <;> omega
    ·simp [shA,sh];try omega
    ·unfold OkA;decide +kernel,?_⟩
   have L22:=E4.at0 (p:=2) (ob:=⟨5,[[iv c.node,.bool c.total.neg,x1,x2,pv]]⟩) (by simp)
   have L11:=E4.at0 (p:=1) (ob:=⟨5,[[iv 0,.bool false,.nils,.nils,.nils]]⟩) (by simp)
   have hf5 : s.length + 1 ∉ ((os ++ o2) ++ o3) ++ o4:=by
    intro hm
    simp only [List.mem_append] at hm
    rcases hm with ((hm | hm) | hm) | hm
    ·have:=E.oslt _ hm;omega
    ·have:=fr2 _ hm;omega
    ·have:=fr3 _ hm;omega
    ·have:=fr4 _ hm;omega
   have hf2:=(E4.l (2,⟨5,[[iv c.node,.bool c.total.neg,x1,x2,pv]]⟩) (by simp)).2
   have hf1:=(E4.l (1,⟨5,[[iv 0,.bool false,.nils,.nils,.nils]]⟩) (by simp)).2
   have hs3 : 2 < s.length:=L2.2
   rcases hLA with ⟨rfl,rfl,rfl⟩ | ⟨p,rfl,rfl⟩
   ·refine ew4 @L22 (And.intro he4 ll4) @lf4 @List.set_set.{0} ?_
    refine ⟨by omega,(i + 1,?s1,.msl (q4.length + 1) 0 1,[] ++ [[iv a.node,.bool a.share.neg,y1,y2,.bool a.dx.neg,y3,y4,.bool a.dy.neg,y5,y6]],((os ++ o2) ++ o3) ++ o4),?m1,⟨⟨?a1,?b1,?c1⟩,[(q4.length + 1,⟨10,[] ++ [[iv a.node,.bool a.share.neg,y1,y2,.bool a.dx.neg,y3,y4,.bool a.dy.neg,y5,y6]]⟩)],.inr ⟨q4.length + 1,?d1,rfl⟩,?f1⟩,?e1⟩
    case e1=>dsimp only;(refine Fg_env ?_;exact fgW)
    case m1=>dsimp only;omega
    case a1=>dsimp only;omega
    case b1=>dsimp only;simp at hAl ⊢;omega
    case c1 =>
     intro r hr
     rcases List.mem_append.1 hr with hr | hr
     ·exact hA10 r hr
     ·rw [List.mem_singleton.1 hr];rfl
    case d1=>dsimp only;simp
    case f1 =>
     dsimp only
     rw [ets]
     refine Ep.cong (E4.to ?_ ?_) ?_ ?_
     ·intro o ho
      have a1:=E4.oslt o ho
      have a2 : o ≠ s.length + 1:=fun e=>hf5 (e ▸ ho)
      have a3 : o ≠ 2:=fun e=>hf2 (e ▸ ho)
      exact obE
     ·intro q hq
      simp only [List.cons_append,List.nil_append,List.mem_cons,List.not_mem_nil,or_false] at hq
      rcases hq with rfl | rfl | rfl
      ·refine .inl ⟨by simp,?_⟩
       show objAt _ 1 = objAt q4 1
       exact obE
      ·refine .inr ⟨?_,hf2⟩
       show objAt _ 2 = _
       exact obE
      ·refine .inr ⟨?_,fun hm=>by have:=E4.oslt _ hm;omega⟩
       show objAt _ (q4.length + 1) = _
       exact obE
     ·simp
     ·simp
   ·have L33:=E4.at0 (p:=p) (ob:=⟨10,A⟩) (by simp)
    have hps : p < s.length:=(E.at0 (p:=p) (ob:=⟨10,A⟩) (by simp)).2
    have hp2 : p ≠ 2:=fun e=>by have:=L33.1;rw [e,L22.1] at this;cases this
    refine ew5 @L22 @L33 (And.intro he4 ll4) @lf4 @List.set_set.{0} ?_
    have hfp:=(E4.l (p,⟨10,A⟩) (by simp)).2
    have hp1 : p ≠ 1:=fun e=>by have:=L33.1;rw [e,L11.1] at this;cases this
    refine ⟨by omega,(i + 1,?s2,.msl (q4.length + 1) 0 (A.length + 1),A ++ [[iv a.node,.bool a.share.neg,y1,y2,.bool a.dx.neg,y3,y4,.bool a.dy.neg,y5,y6]],((os ++ o2) ++ o3) ++ o4),?m2,⟨⟨?a2,?b2,?c2⟩,[(q4.length + 1,⟨10,A ++ [[iv a.node,.bool a.share.neg,y1,y2,.bool a.dx.neg,y3,y4,.bool a.dy.neg,y5,y6]]⟩)],.inr ⟨q4.length + 1,?d2,rfl⟩,?f2⟩,?e2⟩
    case e2=>dsimp only;(refine Fg_env ?_;exact fgW)
    case m2=>dsimp only;omega
    case a2=>dsimp only;omega
    case b2=>dsimp only;simp;omega
    case c2 =>
     intro r hr
     rcases List.mem_append.1 hr with hr | hr
     ·exact hA10 r hr
     ·rw [List.mem_singleton.1 hr];rfl
    case d2=>dsimp only;simp
    case f2 =>
     dsimp only
     rw [ets]
     refine Ep.cong (E4.to ?_ ?_) ?_ ?_
     ·intro o ho
      have a1:=E4.oslt o ho
      have a2 : o ≠ s.length + 1:=fun e=>hf5 (e ▸ ho)
      have a3 : o ≠ 2:=fun e=>hf2 (e ▸ ho)
      have a4 : o ≠ p:=fun e=>hfp (e ▸ ho)
      exact obE
     ·intro q hq
      simp only [List.cons_append,List.nil_append,List.mem_cons,List.not_mem_nil,or_false] at hq
      rcases hq with rfl | rfl | rfl
      ·refine .inl ⟨by simp,?_⟩
       show objAt _ 1 = objAt q4 1
       exact obE
      ·refine .inr ⟨?_,hf2⟩
       show objAt _ 2 = _
       exact obE
      ·refine .inr ⟨?_,fun hm=>by have:=E4.oslt _ hm;omega⟩
       show objAt _ (q4.length + 1) = _
       exact obE
     ·simp
     ·simp
  ·have hin : i = c.ps.length:=by omega
   subst hin
   rcases hLA with ⟨rfl,rfl,rfl⟩ | ⟨p,rfl,rfl⟩
   ·simp at hAl;omega
   ·have L33:=E.at0 (p:=p) (ob:=⟨10,A⟩) (by simp)
    rw [List.take_length] at E
    refine ew2 @hc (And.intro L1 L2) ?_
    rw [if_pos (by rw [lx.2.1,lx.2.2];rfl)]
    have hf1:=(E.l (1,⟨5,[[iv 0,.bool false,.nils,.nils,.nils]]⟩) (by simp)).2
    have hp1 : p ≠ 1:=fun e=>by have:=L33.1;rw [e,L1.1] at this;cases this
    have Es:=E.reloc (p:=1) (ob:=⟨5,[[iv c.node,.bool c.total.neg,x1,x2,.msl p 0 A.length]]⟩) (L':=[(p,⟨10,A⟩)]) hf1 L1.2 (fun q hq=>.inl (by rw [List.mem_singleton.1 hq];exact ⟨hp1,by simp⟩))
    have hA' : A.length = (c.ps.map Pa.cells).length:=by rw [List.length_map];exact hAl
    have ht10 : ∀ r ∈ c.ps.map Pa.cells,r.length = 10:=fun r hr=>by obtain ⟨x,_,rfl⟩:=List.mem_map.1 hr;rfl
    have hfl : A.flatten.length = (c.ps.map Pa.cells).flatten.length:=by
     have e1 : ∀ (X : List (List V)),(∀ r ∈ X,r.length = 10) → X.flatten.length = X.length * 10:=fun X=>by
      induction X with
      | nil=>intro _;rfl
      | cons r X ih=>intro h;rw [List.flatten_cons,List.length_append,ih fun r hr=>h r (by simp [hr]),h r (by simp),List.length_cons];omega
     rw [e1 A hA10,e1 _ ht10,hA']
    obtain ⟨os1,E2,_⟩:=(Ep.cong (cs':=[iv c.node,.bool c.total.neg,x1,x2] ++ (A.flatten ++ [])) (ts':=[iv c.node,.bool c.total.neg,ints c.total.mag,ints c.total.den] ++ ((c.ps.map Pa.cells).flatten ++ [])) Es (by simp) (by simp)).swap rfl hfl
    obtain ⟨os2,E3⟩:=E2.close (p:=p) (n:=10) (k:=10) (by simp) hA10 ht10 hA'
    obtain ⟨os3,E4,_⟩:=(Ep.cong (cs':=[V.msl p 0 A.length] ++ ([iv c.node,.bool c.total.neg,x1,x2] ++ [])) (ts':=[pasV c.ps] ++ ([iv c.node,.bool c.total.neg,ints c.total.mag,ints c.total.den] ++ [])) E3 (by simp) (by simp)).swap rfl rfl
    refine fin_of (os:=os3) ?_ E4.c.nd
    show OwV _ (.agg ([iv c.node,.bool c.total.neg,x1,x2] ++ ([V.msl p 0 A.length] ++ []))) (.agg ([iv c.node,.bool c.total.neg,ints c.total.mag,ints c.total.den] ++ ([pasV c.ps] ++ []))) os3
    simp only [OwV]
    exact ⟨_,rfl,E4.c.ow⟩
theorem asc_len {A : List Pa} (h : NAsc A) (hb : ∀ a ∈ A,0 ≤ a.node ∧ a.node ≤ 9) : A.length ≤ 10:=by
 have key : ∀ i,i < A.length → (i : Int) ≤ (A.getD i default).node:=fun i=>by
  induction i with
  | zero=>intro hi;exact (hb _ (getD_mem hi)).1
  |
   succ i ih =>
   intro hi
   have h1:=ih (by omega)
   have h2:=h i (i + 1) (by omega) hi
   omega
 rcases Nat.lt_or_ge 10 A.length with h1 | h1
 ·have h2:=key 10 h1
  have h3:=(hb _ (getD_mem (l:=A) (i:=10) h1)).2
  omega
 ·exact h1
structure ElOk (c : Cd) (M : List Lk) : Prop where
 ne : 0 < c.ps.length
 len : c.ps.length ≤ 10
 cn : c.total.cn ∧ ∀ a ∈ c.ps,a.share.cn ∧ a.dx.cn ∧ a.dy.cn
 ms : ∀ x ∈ M,x.w.cn ∧ x.dx.cn ∧ x.dy.cn
 ml : M.length ≤ 101
theorem el_ok {S : List Lk} {v : Int} (h : elB S v = true) : ElOk (elC S v) (elM S v):=by
 rw [(el_t h).1,(el_t h).2]
 unfold elB at h
 simp only [Bool.and_eq_true] at h
 obtain ⟨⟨⟨hb,_⟩,hc⟩,_⟩:=h
 have hok : ∀ a ∈ armA S v,a.share.ok = true ∧ a.dx.cn ∧ a.dy.cn ∧ 0 ≤ a.node ∧ a.node ≤ 9:=fun a ha=>arm_ok hb ha
 have hl:=asc_len (el_asc hc) fun a ha=>⟨(hok a ha).2.2.2.1,(hok a ha).2.2.2.2⟩
 have hpl : (elCd v (armA S v)).ps.length = (armA S v).length:=List.length_map ..
 refine ⟨?_,by omega,⟨elTot_cn _,fun x hx=>?_⟩,elMs_cn,?_⟩
 ·rcases Nat.eq_zero_or_pos (elCd v (armA S v)).ps.length with e | e
  ·exfalso
   have : (elCd v (armA S v)).ps = []:=List.eq_nil_of_length_eq_zero e
   unfold cdOk at hc
   rw [this] at hc
   simp at hc
  ·exact e
 ·obtain ⟨a,ha,rfl⟩:=List.mem_map.1 hx
  exact ⟨divR_cn _ _,(hok a ha).2.1,(hok a ha).2.2.1⟩
 ·have h1:=elMesh_len (armA S v) (armA S v).length
  have h2 : (armA S v).length * (armA S v).length ≤ 10 * 10:=Nat.mul_le_mul hl hl
  show (elMesh _ _).length ≤ _
  omega
theorem cn_szT {r : R} (h : r.cn) : r.sz ≤ 1000:=by
 have:=cn_len h
 unfold R.sz;omega
theorem el_res (S : List Lk) (v : Int) : ((elC S v).sz ≤ 40000 ∧ (elC S v).ps.length ≤ 10 ∧ szL Lk.sz (elM S v) ≤ 20000) ∧ (elC S v).wf ∧ wfL Lk.wf (elM S v):=by
 cases hB : elB S v
 ·rw [(el_f hB).1,(el_f hB).2]
  exact ⟨⟨by decide,by decide,by decide⟩,⟨⟨by decide,by decide⟩,by decide,by simp⟩,by decide,by simp⟩
 ·have O:=el_ok hB
  have h1:=cn_szT O.cn.1
  have h2:=szL_bd (f:=Pa.sz) (k:=3000) (l:=(elC S v).ps) fun a ha=>by
   have h:=O.cn.2 a ha
   have:=cn_szT h.1;have:=cn_szT h.2.1;have:=cn_szT h.2.2
   unfold Pa.sz;omega
  have h3:=O.len
  refine ⟨⟨?_,h3,lks_sz O.ms O.ml⟩,⟨cn_wf O.cn.1,by omega,fun a ha=>?_⟩,lks_wf O.ms O.ml⟩
  ·unfold Cd.sz;omega
  ·have h:=O.cn.2 a ha
   exact ⟨cn_wf h.1,cn_wf h.2.1,cn_wf h.2.2⟩
theorem fin_el0 {σ : Store} : Fin σ (.tup [.agg [iv 0,.bool false,.nils,.nils,.nils],.nils,.bool false]) (.tup [cdV ⟨0,R0,[]⟩,lksV [],.bool false]) :=
 ⟨.tup [cdV ⟨0,R0,[]⟩,lksV [],.bool false],[],by
  simp only [LaxV,LaxL]
  exact ⟨_,rfl,_,_,rfl,⟨_,rfl,_,_,rfl,rfl,_,_,rfl,rfl,_,_,rfl,.inl ⟨rfl,.inl rfl⟩,_,_,rfl,.inl ⟨rfl,.inl rfl⟩,_,_,rfl,.inl ⟨rfl,.inl rfl⟩,rfl⟩,_,_,rfl,.inl ⟨rfl,.inl rfl⟩,_,_,rfl,rfl,rfl⟩,owV_tup (owL_v (o1:=[]) (owV_agg (owL_int (owL_bool (owL_v (o1:=[]) owV_ints0 (owL_v (o1:=[]) owV_ints0 (owL_v (o1:=[]) (by simp [OwV,pasV]) owL_nil)))))) (owL_v (o1:=[]) (by simp [OwV,lksV]) (owL_bool owL_nil))),.nil⟩
theorem po_iEliminateNode {T : Nat → Option Fn} (h : D_impl_EliminateNode T) {S : List Lk} {v : Int} (hw : wfL Lk.wf S) : PO T 174 [lksV S,iv v] (.tup [cdV (elC S v),lksV (elM S v),.bool (elB S v)]):=by
 have ci:=c_iIsLinkSet h.d_impl_IsLinkSet hw
 cases hb : lksOk S
 ·rw [hb] at ci
  have hB : elB S v = false:=by unfold elB;rw [hb];rfl
  rw [(el_f hB).1,(el_f hB).2,hB]
  refine po_end2 (fun _ _=>false) h.hT rfl rfl ?_
  dsimp only [F_impl_EliminateNode,oN,oS,oG,oK,oA,oH,oV,cI,St.enter,List.length_cons,List.length_nil,Nat.zero_add]
  refine ew ?_
  refine PFK_of ci ?_
  refine ew ?_
  exact fin_el0
 rw [hb] at ci
 have ce:=c_eliminateNode h.d_impl_eliminateNode (v:=v) hb hw
 cases hB : elB S v
 ·rw [(el_f hB).1,(el_f hB).2,hB] at ce
  rw [(el_f hB).1,(el_f hB).2]
  refine po_end2 (fun _ _=>false) h.hT rfl rfl ?_
  dsimp only [F_impl_EliminateNode,oN,oS,oG,oK,oA,oH,oV,cI,St.enter,List.length_cons,List.length_nil,Nat.zero_add]
  refine ew ?_
  refine PFK_of ci ?_
  refine ew ?_
  refine PFK_of ce ?_
  refine ew ?_
  exact fin_el0
 ·have O:=el_ok hB
  rw [hB] at ce
  generalize elC S v = c at *
  generalize elM S v = M at *
  have e4 : ∀ σ : Store,resolve σ FD (cdV c) = some (cdV c):=fun σ=>res_agg_still (st_Cd [c] _ (by simp))
  refine po_end2 (fun x d=>x == 183 || x == 110) h.hT rfl rfl ?_
  dsimp only [F_impl_EliminateNode,oN,oS,oG,oK,oA,oH,oV,cI,St.enter,List.length_cons,List.length_nil,Nat.zero_add]
  refine ew ?_
  refine PFK_of ci ?_
  refine ew ?_
  refine PFK_of ce ?_
  refine ew ?_
  refine RefK_got (po_copyConditional h.d_impl_copyConditional (c:=c) O.ne ⟨by have:=cn_szT O.cn.1;omega,fun a ha=>by have h1:=O.cn.2 a ha;have:=cn_szT h1.1;have:=cn_szT h1.2.1;have:=cn_szT h1.2.2;unfold Pa.sz;omega⟩ (by have:=O.len;omega)) (by (refine ew1 @e4 ?_;try with_reducible exact True.intro)) ?_
  intro r q1 o1 G
  have E : Ep [some ⟨5,[[iv 0,.bool false,.nils,.nils,.nils]]⟩,some ⟨5,[c.cells]⟩] [] [] [] []:=⟨cs_nil,by simp⟩
  have E1:=E.got (s1:=[some ⟨5,[[iv 0,.bool false,.nils,.nils,.nils]]⟩,some ⟨5,[c.cells]⟩]) (fun _ _=>rfl) (Nat.le_refl _) (owL_1 G.ow) G.nd G.fresh G.old
  obtain ⟨cs,rfl,hQ⟩:=G.ow.agg_inv
  have gl:=G.len
  have ho0:=(G.old 0 (by simp)).trans rfl
  have ho1:=(G.old 1 (by simp)).trans rfl
  obtain ⟨c2,c3,c4,rfl⟩:=hQ.cd
  have LF : [iv c.node,V.bool c.total.neg,c2,c3,c4].all V.leaf = true:=hQ.leaf rfl
  simp only [List.all_cons,List.all_nil,Bool.and_eq_true,Bool.and_true] at LF
  have lm:=lks_sz O.ms O.ml
  simp only [List.length_cons,List.length_nil] at gl
  refine ew2 @ho0 @ho1 ?_
  refine RefK_got (po_copyLinks h.d_impl_copyLinks (l:=M) (by omega)) (by (refine ew ?_;try with_reducible exact True.intro)) ?_
  intro r2 q2 o2 G2
  have E2:=E1.got (s1:=q1) (fun _ _=>rfl) (Nat.le_refl _) (owL_1 G2.ow) G2.nd G2.fresh G2.old
  have lr:=G2.ow.leaf rfl
  have gl2:=G2.len
  have hp0:=(G2.old 0 (by omega)).trans ho0
  have hp1:=(G2.old 1 (by omega)).trans ho1
  refine ew4 @LF @lr @hp0 @hp1 ?_
  have n0 : 0 ∉ ([] ++ o1) ++ o2:=fun hm=>by
   rcases List.mem_append.1 hm with hm | hm
   ·have:=G.fresh 0 (by simpa using hm);simp at this
   ·have:=G2.fresh 0 hm;omega
  have C3:=E2.c.set (o:=0) (x:=some ⟨5,[[iv c.node,.bool c.total.neg,c2,c3,c4]]⟩) n0
  have C4:=owL_append C3.ow (owL_bool (b:=true) owL_nil)
  rw [List.append_nil] at C4
  exact fin_of (owV_tup C4) C3.nd
def F_spec_l08Arms : Fn:=⟨2,53,[.tmp 4],(.seq (.reg false 0 [oN 4 (.mov (.c (.nils)))]) (.seq (.reg false 1 [oN 11 (.mkSl 10 [.int .i64 0,.bool false,.nils,.nils,.bool false,.nils,.nils,.bool false,.nils,.nils] 0 []),oK 5 1 (oV 11)]) (.seq (.seq (.reg false 0 [oN 12 (oV 0),oN 13 (oV 1),oN 14 (.call 238 [(.t 12),(.t 13)]),oN 15 (.len (.t 14)),oN 16 (.mov (cI 0))]) (.block 0 (.loop (.seq (.reg false 0 [oN 17 (.bin .lss (.t 16) (.t 15))]) (.seq (.cond (.t 17) .skip (.exit 0)) (.seq (.block 1 (.seq (.reg false 0 [oN 18 (.idx 1 (.t 14) (.t 16)),oN 19 (.load 1 false (.t 18)),oN 7 (oV 19)]) (.seq (.reg false 1 [oK 21 1 (oV 0),oK 22 1 (oV 7),oK 23 1 (oV 1),oK 24 1 (.call 225 [(.t 21),(.t 22),(.t 23)]),oK 20 1 (oV 24),oK 25 1 (.extr 0 (.t 20)),oK 26 1 (.extr 1 (.t 20)),oN 8 (.alloc [.int .i64 0,.int .i64 0,.bool false,.nils,.nils,.bool false,.nils,.nils,.bool false,.nils,.nils]),⟨none,none,1,.store 11 (.t 8) (.t 25),[]⟩,oK 9 1 (oV 26)]) (.seq (.reg false 1 [oK 27 1 (oV 7),oK 28 1 (.fld 2 (.t 8)),oK 29 1 (.load 3 true (.t 28)),oK 30 1 (.fld 5 (.t 8)),oK 31 1 (.load 3 true (.t 30)),oK 32 1 (.fld 8 (.t 8)),oK 33 1 (.load 3 true (.t 32)),oK 34 1 (.build [.int .i64 0,.bool false,.nils,.nils,.bool false,.nils,.nils,.bool false,.nils,.nils] [(0,1,(.t 27)),(1,3,(.t 29)),(4,3,(.t 31)),(7,3,(.t 33))]),oN 10 (.alloc [.int .i64 0,.bool false,.nils,.nils,.bool false,.nils,.nils,.bool false,.nils,.nils]),⟨none,none,1,.store 10 (.t 10) (.t 34),[]⟩]) (.seq (.seq (.reg false 0 [oN 35 (.fld 0 (.t 8)),oN 36 (.load 1 false (.t 35)),oN 37 (oV 1),oN 38 (.bin .eql (.t 36) (.t 37))]) (.cond (.t 38) (.seq (.reg false 0 [oN 39 (.fld 5 (.t 8)),oN 40 (.load 3 true (.t 39)),oN 41 (.call 399 [(.t 40)]),oN 42 (.fld 4 (.t 10)),oS (.store 3 (.t 42) (.t 41))]) (.reg false 0 [oN 43 (.fld 8 (.t 8)),oN 44 (.load 3 true (.t 43)),oN 45 (.call 399 [(.t 44)]),oN 46 (.fld 7 (.t 10)),oS (.store 3 (.t 46) (.t 45))])) .skip)) (.reg false 2 [oK 47 2 (oV 5),oK 48 2 (.load 10 true (.t 10)),oN 49 (.mkSl 10 [.int .i64 0,.bool false,.nils,.nils,.bool false,.nils,.nils,.bool false,.nils,.nils] 1 [(0,(.t 48))]),oK 50 1 (.app 10 176 (.t 47) (.t 49)),oK 5 2 (oV 50)])))))) (.reg false 0 [oN 51 (.bin .add (.t 16) (cI 1)),oN 16 (oV 51)]))))))) (.seq (.reg false 0 [oN 52 (oV 5),oN 4 (oV 52)]) .ret))))⟩
structure D_spec_l08Arms (T : Nat → Option Fn) : Prop where
 hT : T 397 = some F_spec_l08Arms
 d_spec_LinkOf : D_spec_LinkOf T
 d_spec_l07Near : D_spec_l07Near T
 d_spec_RatNeg : D_spec_RatNeg T
theorem c_l08Arms {T : Nat → Option Fn} (h : D_spec_l08Arms T) {S : List Lk} {v : Int} (hb : lksOk S = true) (hw : wfL Lk.wf S) (hz : szL Lk.sz S ≤ 1048576) : PF T 397 [lksV S,iv v] (pasV (armA S v)):=by
 have hl : S.length ≤ 1048576:=by have:=szL_eq Lk.sz S;omega
 have cn:=c_l07Near h.d_spec_l07Near (v:=v) hw hl hb
 have hnl : (nbI S v S.length).length ≤ 1048576:=Nat.le_trans (List.length_filterMap_le _ _) (by simp;omega)
 rw [← arm_map hb]
 generalize nbI S v S.length = nb at *
 refine pf_endL (fun _ _=>false) h.hT rfl rfl ?_
 dsimp only [F_spec_l08Arms,oN,oS,oG,oK,oA,oH,oV,cI]
 refine ev ?_
 refine ev ?_
 refine PFK_of cn ?_
 refine ev ?_
 refine loop_at (fun _ _=>false) (α:=Nat × List Pa) (fun q=>⟨argE [lksV S,iv v,.any,.any,.any,slV q.2.length,.any,.any,.any,.any,.any,.any,.any,.any,ints nb,iv (nb.length : Nat),iv (q.1 : Nat)],slS 10 (q.2.map Pa.cells),0,0,[],[]⟩) (fun q=>q.1 ≤ nb.length ∧ q.2 = (nb.take q.1).map (armAt S v)) (fun q=>nb.length - q.1) rfl (0,[]) ?_ ?_ ?_
 ·exact ⟨Nat.zero_le _,by simp⟩
 ·(refine Fg_re [] (by simp) (by intro p hp;cases hp) rfl ?_) <;> (try (refine ev ?_;try with_reducible exact True.intro)) <;> (repeat' (first | exact True.intro | omega | exact CanE_ptr rfl (by simp) | refine ⟨?_,?_⟩ | exact of_eq_true (CanE_nil _ _ _) | exact CanE_of rfl (by simp;done) | exact CanE_of rfl rfl | (refine CanE_msl rfl ?_ rfl;simp [irows];done) | (refine CanE_msl rfl ?_ rfl;simp [irows];omega) | (refine CanE_frz ?_ ?_;(focus ((refine ev ?_;try with_reducible exact True.intro);done));(intro q hq k s0 l0;simp;done))))
 ·rintro ⟨i,ys⟩ ⟨hi,hy⟩
  dsimp only at hi hy
  have hyl : ys.length ≤ 1048576:=by rw [hy];simp;omega
  by_cases hc : (i : Int) < (nb.length : Nat)
  ·have hil : i < nb.length:=by omega
   have es : (nb.take (i + 1)).map (armAt S v) = ys ++ [armAt S v (nb.getD i 0)]:=by
    rw [List.take_add_one,List.map_append,← hy,List.getElem?_eq_getElem hil,List.getD_eq_getElem?_getD,List.getElem?_eq_getElem hil];rfl
   have cl:=c_sLinkOf h.d_spec_LinkOf (l:=S) (a:=nb.getD i 0) (b:=v) hw hz
   have hlw:=lkOf_wf (a:=nb.getD i 0) (b:=v) hw
   obtain ⟨n,hn⟩ : ∃ n,nb.getD i 0 = n:=⟨_,rfl⟩
   rw [hn] at es cl hlw
   have hA : armAt S v n = if (lkOf S n v).a = v then ⟨n,(lkOf S n v).w,negR (lkOf S n v).dx,negR (lkOf S n v).dy⟩ else ⟨n,(lkOf S n v).w,(lkOf S n v).dx,(lkOf S n v).dy⟩:=rfl
   generalize lkOf S n v = l at *
   generalize lkOfB S n v = b at *
   have c1:=c_sRatNeg h.d_spec_RatNeg hlw.2.1
   have c2:=c_sRatNeg h.d_spec_RatNeg hlw.2.2
   by_cases e : l.a = v
   ·rw [if_pos e] at hA
    rw [hA] at es
    have f0 : (l.a = v) = True:=eq_true e
    rcases ys with _ | ⟨y,ys⟩ <;> simp only [List.length_nil,List.length_cons,slV_0,slV_s,List.map_nil,List.map_cons,slS_0,slS_s] at hyl ⊢
    ·refine ev3 @hc @hil @hn ?_
     refine PFK_of cl ?_
     refine ev1 @f0 ?_
     refine PFK_of c1 ?_
     refine ev ?_
     refine PFK_of c2 ?_
     refine ev ?_
     exact ⟨by omega,(i + 1,([]) ++ [⟨n,l.w,negR l.dx,negR l.dy⟩]),by dsimp only;omega,⟨by dsimp only;omega,es.symm⟩,by (simp only [List.map_append,List.map_cons,List.map_nil];refine Fg_push (k:=3) (by simp only [stR_app,stR_cons,stR_nil,and_true,true_and];(repeat' (first | exact st_Pa _ | exact st1_Pa _ | refine ⟨?_,?_⟩))) rfl ?_;(try (refine ev ?_;try with_reducible exact True.intro));(repeat' (first | exact True.intro | omega | exact CanE_push (by simp) (by simp) (by simp) | refine ⟨?_,?_⟩ | exact CanE_of rfl (by simp))))⟩
    ·refine ev3 @hc @hil @hn ?_
     refine PFK_of cl ?_
     refine ev1 @f0 ?_
     refine PFK_of c1 ?_
     refine ev ?_
     refine PFK_of c2 ?_
     refine ev ?_
     exact ⟨by omega,(i + 1,(y :: ys) ++ [⟨n,l.w,negR l.dx,negR l.dy⟩]),by dsimp only;omega,⟨by dsimp only;omega,es.symm⟩,by (simp only [List.map_append,List.map_cons,List.map_nil];refine Fg_push (k:=4) (by simp only [stR_app,stR_cons,stR_nil,and_true,true_and];(repeat' (first | exact st_Pa _ | exact st1_Pa _ | refine ⟨?_,?_⟩))) rfl ?_;(try (refine ev ?_;try with_reducible exact True.intro));(repeat' (first | exact True.intro | omega | exact CanE_push (by simp) (by simp) (by simp) | refine ⟨?_,?_⟩ | exact CanE_of rfl (by simp))))⟩
   ·rw [if_neg e] at hA
    rw [hA] at es
    rcases ys with _ | ⟨y,ys⟩ <;> simp only [List.length_nil,List.length_cons,slV_0,slV_s,List.map_nil,List.map_cons,slS_0,slS_s] at hyl ⊢
    ·refine ev3 @hc @hil @hn ?_
     refine PFK_of cl ?_
     refine ev1 @e ?_
     exact ⟨by omega,(i + 1,([]) ++ [⟨n,l.w,l.dx,l.dy⟩]),by dsimp only;omega,⟨by dsimp only;omega,es.symm⟩,by (simp only [List.map_append,List.map_cons,List.map_nil];refine Fg_push (k:=3) (by simp only [stR_app,stR_cons,stR_nil,and_true,true_and];(repeat' (first | exact st_Pa _ | exact st1_Pa _ | refine ⟨?_,?_⟩))) rfl ?_;(try (refine ev ?_;try with_reducible exact True.intro));(repeat' (first | exact True.intro | omega | exact CanE_push (by simp) (by simp) (by simp) | refine ⟨?_,?_⟩ | exact CanE_of rfl (by simp))))⟩
    ·refine ev3 @hc @hil @hn ?_
     refine PFK_of cl ?_
     refine ev1 @e ?_
     exact ⟨by omega,(i + 1,(y :: ys) ++ [⟨n,l.w,l.dx,l.dy⟩]),by dsimp only;omega,⟨by dsimp only;omega,es.symm⟩,by (simp only [List.map_append,List.map_cons,List.map_nil];refine Fg_push (k:=4) (by simp only [stR_app,stR_cons,stR_nil,and_true,true_and];(repeat' (first | exact st_Pa _ | exact st1_Pa _ | refine ⟨?_,?_⟩))) rfl ?_;(try (refine ev ?_;try with_reducible exact True.intro));(repeat' (first | exact True.intro | omega | exact CanE_push (by simp) (by simp) (by simp) | refine ⟨?_,?_⟩ | exact CanE_of rfl (by simp))))⟩
  ·have hin : i = nb.length:=by omega
   subst hin
   rw [List.take_length] at hy
   rw [← hy]
   rcases ys with _ | ⟨y,ys⟩ <;> simp only [List.length_nil,List.length_cons,slV_0,slV_s,List.map_nil,List.map_cons,slS_0,slS_s] at hyl ⊢
   ·refine ev1 @hc ?_
    exact of_eq_true (LaxV_nil 10)
   ·refine ev1 @hc ?_
    have:=resO_st (σ:=[some ⟨10,y.cells :: List.map Pa.cells ys⟩]) (st_Pa (y :: ys)) (s:=0) (l:=ys.length + 1) (n:=10) (by simp)
    rw [List.drop_zero,List.take_of_length_le (by simp)] at this
    rw [show resO [some ⟨10,y.cells :: List.map Pa.cells ys⟩] 0 (ys.length + 1) (some ⟨10,y.cells :: List.map Pa.cells ys⟩) = some (pasV (y :: ys)) from this]
    exact laxV_refl _
def F_spec_EliminateNode : Fn:=⟨2,126,[.cell 4 5 true,.tmp 5,.tmp 6],(.seq (.reg false 1 [oN 4 (.alloc [.int .i64 0,.bool false,.nils,.nils,.nils]),oK 5 1 (.mov (.c (.nils))),oK 6 1 (.mov (.c (.bool false)))]) (.seq (.seq (.reg false 0 [oN 19 (oV 0),oN 20 (.call 193 [(.t 19)]),oN 21 (.un .not (.t 20)),oN 22 (oV 21),oG 22 false 23 (oV 1),oG 22 false 24 (.call 35 [(.t 23),(cI 1),(cI 9)]),oG 22 false 25 (.un .not (.t 24)),oN 26 (.pick (.t 22) (.c (.bool true)) (.t 25))]) (.cond (.t 26) (.seq (.reg false 0 [oN 27 (.build [.int .i64 0,.bool false,.nils,.nils,.nils] []),oS (.store 5 (.t 4) (.t 27)),oN 5 (.mov (.c (.nils))),oN 6 (.mov (.c (.bool false)))]) .ret) .skip)) (.seq (.reg false 0 [oN 28 (oV 0),oN 29 (oV 1),oN 30 (.call 397 [(.t 28),(.t 29)]),oN 7 (oV 30)]) (.seq (.reg false 1 [oK 31 1 (.call 36 [(cI 0)]),oN 8 (.alloc [.bool false,.nils,.nils]),⟨none,none,1,.store 3 (.t 8) (.t 31),[]⟩]) (.seq (.seq (.reg false 0 [oN 32 (oV 7),oN 33 (.len (.t 32)),oN 34 (.mov (cI 0))]) (.block 0 (.loop (.seq (.reg false 0 [oN 35 (.bin .lss (.t 34) (.t 33))]) (.seq (.cond (.t 35) .skip (.exit 0)) (.seq (.block 1 (.seq (.reg false 1 [oK 36 1 (.idx 10 (.t 32) (.t 34)),oK 37 1 (.load 10 true (.t 36)),oN 10 (.alloc [.int .i64 0,.bool false,.nils,.nils,.bool false,.nils,.nils,.bool false,.nils,.nils]),⟨none,none,1,.store 10 (.t 10) (.t 37),[]⟩]) (.reg false 0 [oN 38 (.load 3 true (.t 8)),oN 39 (.fld 1 (.t 10)),oN 40 (.load 3 true (.t 39)),oN 41 (.call 189 [(.t 38),(.t 40)]),oS (.store 3 (.t 8) (.t 41))]))) (.reg false 0 [oN 42 (.bin .add (.t 34) (cI 1)),oN 34 (oV 42)]))))))) (.seq (.reg false 1 [oK 43 1 (oV 1),oK 44 1 (.load 3 true (.t 8)),oK 45 1 (.build [.int .i64 0,.bool false,.nils,.nils,.nils] [(0,1,(.t 43)),(1,3,(.t 44))]),oN 11 (.alloc [.int .i64 0,.bool false,.nils,.nils,.nils]),⟨none,none,1,.store 5 (.t 11) (.t 45),[]⟩]) (.seq (.seq (.reg false 0 [oN 46 (oV 7),oN 47 (.len (.t 46)),oN 48 (.mov (cI 0))]) (.block 2 (.loop (.seq (.reg false 0 [oN 49 (.bin .lss (.t 48) (.t 47))]) (.seq (.cond (.t 49) .skip (.exit 2)) (.seq (.block 3 (.seq (.reg false 1 [oK 50 1 (.idx 10 (.t 46) (.t 48)),oK 51 1 (.load 10 true (.t 50)),oN 13 (.alloc [.int .i64 0,.bool false,.nils,.nils,.bool false,.nils,.nils,.bool false,.nils,.nils]),⟨none,none,1,.store 10 (.t 13) (.t 51),[]⟩]) (.reg true 2 [oK 52 2 (.fld 4 (.t 11)),oA 53 2 (.load 1 false (.t 52)) [0],oK 54 2 (.fld 0 (.t 13)),oA 55 2 (.load 1 false (.t 54)) [2],oK 56 2 (.fld 1 (.t 13)),oA 57 2 (.load 3 true (.t 56)) [4],oK 58 2 (.load 3 true (.t 8)),oA 59 2 (.call 200 [(.t 57),(.t 58)]) [5,6],oK 60 2 (.fld 4 (.t 13)),oA 61 2 (.load 3 true (.t 60)) [8],oA 62 2 (.call 204 [(.t 61)]) [9,7],oK 63 2 (.fld 7 (.t 13)),oA 64 2 (.load 3 true (.t 63)) [11],oA 65 2 (.call 204 [(.t 64)]) [12,10],oA 66 2 (.build [.int .i64 0,.bool false,.nils,.nils,.bool false,.nils,.nils,.bool false,.nils,.nils] [(0,1,(.t 55)),(1,3,(.t 59)),(4,3,(.t 62)),(7,3,(.t 65))]) [3,7,10,13],oA 67 0 (.mkSl 10 [.int .i64 0,.bool false,.nils,.nils,.bool false,.nils,.nils,.bool false,.nils,.nils] 1 [(0,(.t 66))]) [14],oA 68 1 (.app 10 176 (.t 53) (.t 67)) [1,15,13],oA 69 2 (.fld 4 (.t 11)) [0,1,2,3,4,5,6,7,8,9,10,11,12,13,14,15,16],⟨none,none,2,.store 1 (.t 69) (.t 68),[17,16,16,0,1,2,3,4,5,6,7,8,9,10,11,12,13,14,15,16]⟩]))) (.reg false 0 [oN 70 (.bin .add (.t 48) (cI 1)),oN 48 (oV 70)]))))))) (.seq (.reg false 1 [oN 71 (.mkSl 11 [.int .i64 0,.int .i64 0,.bool false,.nils,.nils,.bool false,.nils,.nils,.bool false,.nils,.nils] 0 []),oK 14 1 (oV 71)]) (.seq (.seq (.reg false 0 [oN 72 (oV 7),oN 73 (.len (.t 72)),oN 74 (.mov (cI 0))]) (.block 4 (.loop (.seq (.reg false 0 [oN 75 (.bin .lss (.t 74) (.t 73))]) (.seq (.cond (.t 75) .skip (.exit 4)) (.seq (.block 5 (.seq (.reg false 1 [oK 76 1 (oV 74),oK 77 1 (.idx 10 (.t 72) (.t 74)),oK 78 1 (.load 10 true (.t 77)),oN 16 (.alloc [.int .i64 0,.bool false,.nils,.nils,.bool false,.nils,.nils,.bool false,.nils,.nils]),oK 15 1 (oV 76),⟨none,none,1,.store 10 (.t 16) (.t 78),[]⟩]) (.seq (.reg false 0 [oN 79 (oV 7),oN 80 (oV 15),oN 81 (.bin .add (.t 80) (cI 1)),oN 82 (.slice 10 (.t 79) (some (.t 81)) none),oN 83 (.len (.t 82)),oN 84 (.mov (cI 0))]) (.block 6 (.loop (.seq (.reg false 0 [oN 85 (.bin .lss (.t 84) (.t 83))]) (.seq (.cond (.t 85) .skip (.exit 6)) (.seq (.block 7 (.seq (.reg false 1 [oK 86 1 (.idx 10 (.t 82) (.t 84)),oK 87 1 (.load 10 true (.t 86)),oN 18 (.alloc [.int .i64 0,.bool false,.nils,.nils,.bool false,.nils,.nils,.bool false,.nils,.nils]),⟨none,none,1,.store 10 (.t 18) (.t 87),[]⟩]) (.reg true 2 [oK 88 2 (oV 14),oK 89 2 (.fld 0 (.t 16)),oA 90 2 (.load 1 false (.t 89)) [1],oK 91 2 (.fld 0 (.t 18)),oA 92 2 (.load 1 false (.t 91)) [3],oK 93 2 (.fld 1 (.t 16)),oA 94 2 (.load 3 true (.t 93)) [5],oK 95 2 (.fld 1 (.t 18)),oA 96 2 (.load 3 true (.t 95)) [7],oA 97 2 (.call 201 [(.t 94),(.t 96)]) [6,8],oK 98 2 (.load 3 true (.t 8)),oA 99 2 (.call 200 [(.t 97),(.t 98)]) [9,10,9],oK 100 2 (.fld 4 (.t 16)),oA 101 2 (.load 3 true (.t 100)) [12],oK 102 2 (.fld 4 (.t 18)),oA 103 2 (.load 3 true (.t 102)) [14],oA 104 2 (.call 203 [(.t 101),(.t 103)]) [13,15,11],oK 105 2 (.fld 7 (.t 16)),oA 106 2 (.load 3 true (.t 105)) [17],oK 107 2 (.fld 7 (.t 18)),oA 108 2 (.load 3 true (.t 107)) [19],oA 109 2 (.call 203 [(.t 106),(.t 108)]) [18,20,16],oA 110 2 (.build [.int .i64 0,.int .i64 0,.bool false,.nils,.nils,.bool false,.nils,.nils,.bool false,.nils,.nils] [(0,1,(.t 90)),(1,1,(.t 92)),(2,3,(.t 99)),(5,3,(.t 104)),(8,3,(.t 109))]) [2,4,11,16,21],oA 111 0 (.mkSl 11 [.int .i64 0,.int .i64 0,.bool false,.nils,.nils,.bool false,.nils,.nils,.bool false,.nils,.nils] 1 [(0,(.t 110))]) [22],oA 112 1 (.app 11 184 (.t 88) (.t 111)) [0,23,21],oA 14 2 (oV 112) [24,24,0,1,2,3,4,5,6,7,8,9,10,11,12,13,14,15,16,17,18,19,20,21,22,23,24]]))) (.reg false 0 [oN 113 (.bin .add (.t 84) (cI 1)),oN 84 (oV 113)]))))))))) (.reg false 0 [oN 114 (.bin .add (.t 74) (cI 1)),oN 74 (oV 114)]))))))) (.seq (.seq (.reg false 0 [oN 115 (.load 5 true (.t 11)),oN 116 (.call 294 [(.t 115)]),oN 117 (.un .not (.t 116)),oN 118 (oV 117),oG 118 false 119 (oV 14),oG 118 false 120 (.call 193 [(.t 119)]),oG 118 false 121 (.un .not (.t 120)),oN 122 (.pick (.t 118) (.c (.bool true)) (.t 121))]) (.cond (.t 122) (.seq (.reg false 0 [oN 123 (.build [.int .i64 0,.bool false,.nils,.nils,.nils] []),oS (.store 5 (.t 4) (.t 123)),oN 5 (.mov (.c (.nils))),oN 6 (.mov (.c (.bool false)))]) .ret) .skip)) (.seq (.reg false 0 [oN 124 (.load 5 true (.t 11)),oN 125 (oV 14),oS (.store 5 (.t 4) (.t 124)),oN 5 (oV 125),oN 6 (.mov (.c (.bool true)))]) .ret)))))))))))⟩
structure D_spec_EliminateNode (T : Nat → Option Fn) : Prop where
 hT : T 389 = some F_spec_EliminateNode
 d_spec_l01In : D_spec_l01In T
 d_spec_RatFromInt : D_spec_RatFromInt T
 d_spec_RatAdd : D_spec_RatAdd T
 d_spec_IsLinkSet : D_spec_IsLinkSet T
 d_spec_RatDiv : D_spec_RatDiv T
 d_spec_RatMul : D_spec_RatMul T
 d_spec_RatSub : D_spec_RatSub T
 d_spec_l04Copy : D_spec_l04Copy T
 d_spec_IsValidConditional : D_spec_IsValidConditional T
 d_spec_l08Arms : D_spec_l08Arms T
theorem el_false {S : List Lk} {v : Int} (hv : ¬ (1 ≤ v ∧ v ≤ 9)) : elB S v = false:=by
 unfold elB inB
 rcases Int.lt_or_le v 1 with k | k
 ·rw [decide_eq_false (show ¬ 1 ≤ v by omega)];simp
 ·rw [decide_eq_false (show ¬ v ≤ 9 by omega)];simp
theorem cn_sz {r : R} (h : r.cn) : r.sz ≤ 1048576:=by
 have:=cn_len h
 unfold R.sz;omega
theorem kw_at {σ : Store} {p n k : Nat} {os : List Nat} {ob : Obj} (hk : k ≠ p) (hm : k ∈ os) (h : objAt σ k = some ob) : (keepW σ p n os)[k]? = some (some (k,0,ob.rows.length)):=by
 rw [keepW_at (objAt_lt h),if_neg hk,if_pos hm,h];rfl
theorem kw_p {σ : Store} {p n : Nat} {os : List Nat} {ob : Obj} (h : objAt σ p = some ob) : (keepW σ p n os)[p]? = some (some (p,0,n)):=by
 rw [keepW_at (objAt_lt h),if_pos rfl]
theorem kO_p {σ : Store} {p : Nat} {ob o1 : Obj} {os : List Nat} (h : objAt σ p = some o1) : objAt (keepO σ p ob os) p = some ob:=by
 rw [keepO_at (objAt_lt h),if_pos rfl]
theorem kO_at {σ : Store} {p k : Nat} {ob o1 : Obj} {os : List Nat} (h : objAt σ k = some o1) (hk : k ≠ p) (hm : k ∈ os) : objAt (keepO σ p ob os) k = some o1:=by
 rw [keepO_at (objAt_lt h),if_neg hk,if_pos hm,h]
theorem el_frz {σ : Store} {cN : Nat} {v : Int} {X Y : R} {ps : List Pa} {pv : V} {vs : List V} {env : Nat → V} {b1 b2 : Nat} {r1 r2 m1 m2 : List Nat} (hcN : 2 ≤ cN)
  (h0 : objAt σ 0 = some ⟨5,[[iv 0,.bool false,.nils,.nils,.nils]]⟩) (h1 : objAt σ 1 = some ⟨3,[Y.cells]⟩) (hc : objAt σ cN = some ⟨5,[[iv v,.bool X.neg,ints X.mag,ints X.den,pv]]⟩)
  (hp : (ps = [] ∧ pv = .nils) ∨ ∃ p,pv = .msl p 0 ps.length ∧ objAt σ p = some ⟨10,ps.map Pa.cells⟩) (he : ∀ W : Win,W = keepW σ cN 1 [0,1] → W[0]? = some (some (0,0,1)) → W[1]? = some (some (1,0,1)) → W[cN]? = some (some (cN,0,1)) → EnvCan W σ vs 0 env) :
  Fg ⟨argE vs,keepO σ cN ⟨5,[[iv v,.bool X.neg,ints X.mag,ints X.den,pasV ps]]⟩ [0,1],0,b1,r1,m1⟩ ⟨env,σ,0,b2,r2,m2⟩:=by
 refine Fg_own (p:=cN) (n:=5) (A:=[[iv v,.bool X.neg,ints X.mag,ints X.den,pv]]) hc rfl ?_ ?_ (he _ rfl (kw_at (by omega) (by simp) h0) (kw_at (by omega) (by simp) h1) (kw_p hc))
 ·intro o ho ob hob
  rcases List.mem_cons.1 ho with rfl | ho
  ·rw [h0] at hob;cases hob;simp [stillR,V.still]
  ·rw [List.mem_singleton.1 ho,h1] at hob;cases hob;exact st_R [Y]
 ·intro i r r2 g1 g2
  cases i with
  | succ i=>cases g1
  |
   zero =>
   cases g1;cases g2
   simp only [CanL]
   refine ⟨_,_,rfl,canV_still rfl,_,_,rfl,canV_still rfl,_,_,rfl,canV_still rfl,_,_,rfl,canV_still rfl,_,_,rfl,?_,rfl⟩
   rcases hp with ⟨rfl,rfl⟩ | ⟨p,rfl,hp⟩
   ·simp only [CanV];exact .inr ⟨10,rfl⟩
   ·have hres : resolve σ FD (.msl p 0 ps.length) = some (pasV ps):=by
     have:=res_mslS (n:=10) hp (st_Pa _)
     rw [List.length_map] at this;exact this
    simp only [CanV]
    refine .inr (.inr ⟨hres,fun q hq k s0 l0 hk=>?_⟩)
    have e:=reach_mslS hp (st_Pa _) q hq
    have hk:=keepW_inv hk
    have n0 : p ≠ 0:=fun e=>by rw [e,h0] at hp;cases hp
    have n1 : p ≠ 1:=fun e=>by rw [e,h1] at hp;cases hp
    have n2 : p ≠ cN:=fun e=>by rw [e,hc] at hp;cases hp
    simp at hk
    omega
theorem el_end3 {σ : Store} {c : Cd} {M : List Lk} : optK (Option.map V.tup (match resolve σ 11 (V.agg c.cells) with | some d=>some [d,lksV M,V.bool true] | none=>none)) (LaxV (V.tup [cdV c,lksV M,V.bool true])):=by
 have e1 : resolve σ 11 (V.agg c.cells) = some (cdV c):=by
  show (c.cells.mapM (resolve σ (9 + 1))).map _ = _
  rw [mapM_still (fun v hv=>st_Cd [c] _ (by simp) v hv)];rfl
 rw [e1]
 exact laxV_refl _
theorem el_frm {σ : Store} {cN : Nat} {X : R} {c : Cd} {vs : List V} {env : Nat → V} {b1 b2 : Nat} {r1 r2 m1 m2 : List Nat} (hcN : 2 ≤ cN)
  (h0 : objAt σ 0 = some ⟨5,[[iv 0,.bool false,.nils,.nils,.nils]]⟩) (h1 : objAt σ 1 = some ⟨3,[X.cells]⟩) (hc : objAt σ cN = some ⟨5,[c.cells]⟩)
  (he : ∀ W : Win,(∀ (mv : V) (L : List Lk),LnA σ mv L → CanE W σ (lksV L) mv) → W[0]? = some (some (0,0,1)) → W[1]? = some (some (1,0,1)) → W[cN]? = some (some (cN,0,1)) → EnvCan W σ vs 0 env) :
  Fg ⟨argE vs,keepO σ cN ⟨5,[c.cells]⟩ [0,1],0,b1,r1,m1⟩ ⟨env,σ,0,b2,r2,m2⟩:=by
 refine Fg_own (p:=cN) (n:=5) (A:=[c.cells]) hc rfl ?_ ?_ (he _ ?_ (kw_at (by omega) (by simp) h0) (kw_at (by omega) (by simp) h1) (kw_p hc))
 ·intro o ho ob hob
  rcases List.mem_cons.1 ho with rfl | ho
  ·rw [h0] at hob;cases hob;simp [stillR,V.still]
  ·rw [List.mem_singleton.1 ho,h1] at hob;cases hob;exact st_R [X]
 ·intro i r r2 g1 g2
  cases i with
  | succ i=>cases g1
  |
   zero =>
   cases g1;cases g2
   exact canL_still fun v hv=>st_Cd [c] _ (by simp) v hv
 ·intro mv L hL
  rcases hL with ⟨rfl,rfl⟩ | ⟨p,rfl,hp⟩
  ·exact of_eq_true (CanE_nil _ _ _)
  ·have hres : resolve σ FD (.msl p 0 L.length) = some (lksV L):=by
    have:=res_mslS (n:=10) hp (st_Lk _)
    rw [List.length_map] at this;exact this
   refine CanE_frz hres fun q hq k s0 l0 hk=>?_
   have e:=reach_mslS hp (st_Lk _) q hq
   have hk:=keepW_inv hk
   have n0 : p ≠ 0:=fun e=>by rw [e,h0] at hp;cases hp
   have n1 : p ≠ 1:=fun e=>by rw [e,h1] at hp;cases hp
   have n2 : p ≠ cN:=fun e=>by rw [e,hc] at hp;cases hp
   simp at hk
   omega
theorem c_sEliminateNode {T : Nat → Option Fn} (h : D_spec_EliminateNode T) {S : List Lk} {v : Int} (hw : wfL Lk.wf S) (hz : szL Lk.sz S ≤ 1048576) : PF T 389 [lksV S,iv v] (.tup [cdV (elC S v),lksV (elM S v),.bool (elB S v)]):=by
 have hl : S.length ≤ 1048576:=by have:=szL_eq Lk.sz S;omega
 have ci:=c_sIsLinkSet h.d_spec_IsLinkSet hw
 cases hb : lksOk S
 ·rw [hb] at ci
  have hB : elB S v = false:=by unfold elB;rw [hb];rfl
  rw [(el_f hB).1,(el_f hB).2,hB]
  refine pf_endL (fun x d=>(x == 36 && d == 999)) h.hT rfl rfl ?_
  dsimp only [F_spec_EliminateNode,oN,oS,oG,oK,oA,oH,oV,cI]
  refine ew ?_
  refine PFK_of ci ?_
  refine ew ?_
  exact el_zero (σ:=[])
 rw [hb] at ci
 have cl:=c_l01In h.d_spec_l01In (a:=v) (b:=1) (c:=9)
 by_cases hv : 1 ≤ v ∧ v ≤ 9
 ·rw [decide_eq_true hv.1,decide_eq_true hv.2] at cl
  have ca:=c_l08Arms h.d_spec_l08Arms (v:=v) hb hw hz
  have c0:=c_sRatFromInt h.d_spec_RatFromInt (n:=0)
  have hAl:=armI_len S v S.length
  have hl1 : S.length ≤ 100:=lksOk_len hb
  have hAe : armI S v S.length = armA S v:=rfl
  rw [hAe] at hAl
  have hok : ∀ a ∈ armA S v,a.share.ok = true ∧ a.dx.cn ∧ a.dy.cn ∧ 0 ≤ a.node ∧ a.node ≤ 9:=fun a ha=>arm_ok hb ha
  have hX:=elTot_cn (armA S v)
  have hB : elB S v = (cdOk (elCd v (armA S v)) && (elMs (armA S v)).all lkOk):=by
   unfold elB inB
   rw [hb,decide_eq_true hv.1,decide_eq_true hv.2];rfl
  have hC : (elCd v (armA S v)) = ⟨v,elTot (armA S v),(armA S v).map (elPa (elTot (armA S v)))⟩:=rfl
  have hT:=@el_t S v
  have hF:=@el_f S v
  clear hAe hz hw
  generalize armA S v = A at *
  refine pf_endL (fun x d=>(x == 36 && d == 999)) h.hT rfl rfl ?_
  dsimp only [F_spec_EliminateNode,oN,oS,oG,oK,oA,oH,oV,cI]
  refine ew ?_
  refine PFK_of ci ?_
  refine ew ?_
  refine PFK_of cl ?_
  refine ew ?_
  refine PFK_of ca ?_
  refine ew ?_
  refine PFK_of c0 ?_
  refine ew ?_
  refine loop_at (fun x d=>(x == 36 && d == 999)) (α:=Nat × Store) (fun q=>⟨argE [.any,iv v,.any,.any,.ptr 0 0 0,.nils,.bool false,pasV A,.ptr 1 0 0,.any,.any,.any,.any,.any,.any,.any,.any,.any,.any,.any,.any,.any,.any,.any,.any,.any,.any,.any,.any,.any,.any,.any,pasV A,iv (A.length : Nat),iv (q.1 : Nat)],q.2,0,0,[],[]⟩) (fun q=>q.1 ≤ A.length ∧ objAt q.2 0 = some ⟨5,[[iv 0,.bool false,.nils,.nils,.nils]]⟩ ∧ objAt q.2 1 = some ⟨3,[(sumS A q.1).cells]⟩) (fun q=>A.length - q.1) rfl (0,[some ⟨5,[[iv 0,.bool false,.nils,.nils,.nils]]⟩,some ⟨3,[[.bool (intR 0).neg,ints (intR 0).mag,ints (intR 0).den]]⟩]) ?_ ?_ ?_
  ·exact ⟨Nat.zero_le _,rfl,by dsimp only;rw [sumS_0];rfl⟩
  ·(refine Fg_env ?_;exact fgW)
  ·rintro ⟨i,s⟩ ⟨hi,I0,I1⟩
   dsimp only at hi I0 I1
   have h1q:=objAt_lt I1
   have hsc:=sumS_cn A i
   by_cases hc : (i : Int) < (A.length : Nat)
   ·have hil : i < A.length:=by omega
    have hx : (A.map Pa.cells).getD i [] = (A.getD i default).cells:=mg hil
    have es:=sumS_s A hil
    have hiA:=hok _ (getD_mem hil)
    have cadd:=c_sRatAdd h.d_spec_RatAdd (r:=sumS A i) (s:=(A.getD i default).share) (cn_wf hsc) (cn_wf (cn_ok hiA.1))
    rw [← es] at cadd
    generalize A.getD i default = a at *
    generalize sumS A i = Y at *
    refine ew3 @hc @hx (And.intro I0 I1) ?_
    refine PFK_of cadd ?_
    refine ew2 (And.intro I0 I1) (And.intro numK_any or_sc) ?_
    refine ⟨(i + 1,?s1),?m1,⟨?a1,?b1,?c1⟩,?e1⟩
    case e1=>dsimp only;(refine Fg_env ?_;exact fgW)
    case m1=>dsimp only;omega
    case a1=>dsimp only;omega
    case b1=>exact (show objAt _ 0 = objAt s 0 by simp (disch:=first | omega | (simp only [List.length_append,List.length_set,List.length_cons,List.length_nil];omega)) only [EVs]).trans I0
    case c1=>dsimp only;simp (disch:=first | omega | (simp only [List.length_append,List.length_set,List.length_cons,List.length_nil];omega)) only [EVs]
   ·have hin : i = A.length:=by omega
    subst hin
    rw [show sumS A A.length = elTot A from rfl] at I1 hsc
    generalize hXe : elTot A = X at hX hC I1
    clear hsc
    refine ew2 @hc (And.intro I0 I1) ?_
    obtain ⟨cN,hcN⟩ : ∃ cN,List.length s = cN:=⟨_,rfl⟩
    have hc2 : 2 ≤ cN:=by omega
    obtain ⟨s1,hs1⟩ : ∃ s1,s ++ [some ⟨5,[[iv v,.bool X.neg,ints X.mag,ints X.den,.nils]]⟩] = s1:=⟨_,rfl⟩
    have k0 : objAt s1 0 = some ⟨5,[[iv 0,.bool false,.nils,.nils,.nils]]⟩:=by rw [← hs1];exact (objAt_snoc_lt (by omega)).trans I0
    have k1 : objAt s1 1 = some ⟨3,[X.cells]⟩:=by rw [← hs1];exact (objAt_snoc_lt (by omega)).trans I1
    have kc : objAt s1 cN = some ⟨5,[[iv v,.bool X.neg,ints X.mag,ints X.den,.nils]]⟩:=by rw [← hs1,← hcN];exact objAt_snoc _ _
    have hsl1 : s1.length = cN + 1:=by rw [← hs1];simp;omega
    clear I0 I1 h1q
    refine loop_at (fun x d=>(x == 36 && d == 999)) (α:=Nat × Store × V) (fun q=>⟨argE [.any,iv v,.any,.any,.ptr 0 0 0,.nils,.bool false,pasV A,.ptr 1 0 0,.any,.any,.ptr cN 0 0,.any,.any,.any,.any,.any,.any,.any,.any,.any,.any,.any,.any,.any,.any,.any,.any,.any,.any,.any,.any,.any,.any,.any,.any,.any,.any,.any,.any,.any,.any,.any,.any,.any,.any,pasV A,iv (A.length : Nat),iv (q.1 : Nat)],q.2.1,0,0,[],[]⟩) (fun q=>(q.1 ≤ A.length ∧ objAt q.2.1 0 = some ⟨5,[[iv 0,.bool false,.nils,.nils,.nils]]⟩ ∧ objAt q.2.1 1 = some ⟨3,[X.cells]⟩) ∧ (q.1 < A.length → objAt q.2.1 cN = some ⟨5,[[iv v,.bool X.neg,ints X.mag,ints X.den,q.2.2]]⟩ ∧ GnA 10 q.2.1 q.2.2 ((A.take q.1).map fun a=>(elPa X a).cells)) ∧ (q.1 = A.length → objAt q.2.1 cN = some ⟨5,[(elCd v A).cells]⟩)) (fun q=>A.length - q.1) rfl (0,if A.length = 0 then keepO s1 cN ⟨5,[(elCd v A).cells]⟩ [0,1] else s1,.nils) ?_ ?_ ?_
    ·dsimp only
     by_cases hA0 : A.length = 0
     ·rw [if_pos hA0]
      exact ⟨⟨Nat.zero_le _,kO_at k0 (by omega) (by simp),kO_at k1 (by omega) (by simp)⟩,fun e=>by omega,fun _=>kO_p kc⟩
     ·rw [if_neg hA0]
      exact ⟨⟨Nat.zero_le _,k0,k1⟩,fun _=>⟨kc,.inl ⟨by simp,rfl⟩⟩,fun e=>by omega⟩
    ·dsimp only
     rw [hcN,hs1]
     by_cases hA0 : A.length = 0
     ·rw [if_pos hA0]
      have hA : A = []:=List.eq_nil_of_length_eq_zero hA0
      rw [show (elCd v A).cells = [iv v,.bool X.neg,ints X.mag,ints X.den,pasV (elCd v A).ps] by rw [hC]]
      refine el_frz (Y:=X) (pv:=.nils) hc2 k0 k1 kc (.inl ⟨by rw [hC,hA];rfl,rfl⟩) ?_
      intro W _ w0 w1 wc
      refine ew ?_
      exact ⟨CanE_ptr w0 (by omega),CanE_ptr w1 (by omega),CanE_ptr wc (by omega),rfl⟩
     ·rw [if_neg hA0]
      (refine Fg_env ?_;exact fgW)
    ·clear k0 k1 kc hsl1 hs1 hcN
     rintro ⟨i,s,pv⟩ ⟨⟨hi,I0,I1⟩,hM,hE⟩
     dsimp only at hi I0 I1 hM hE
     have h1q:=objAt_lt I1
     by_cases hc3 : (i : Int) < (A.length : Nat)
     ·have hil : i < A.length:=by omega
      obtain ⟨Ic,hP⟩:=hM hil
      have hcq:=objAt_lt Ic
      have hx : (A.map Pa.cells).getD i [] = (A.getD i default).cells:=mg hil
      have hiA:=hok _ (getD_mem hil)
      have ets : (A.take (i + 1)).map (fun a=>(elPa X a).cells) = (A.take i).map (fun a=>(elPa X a).cells) ++ [(elPa X (A.getD i default)).cells]:=by rw [take_snoc hil,List.map_append];rfl
      have hAl2 : ((A.take i).map fun a=>(elPa X a).cells).length = i:=by simp;omega
      have cd:=c_sRatDiv h.d_spec_RatDiv (r:=(A.getD i default).share) (s:=X) (cn_wf (cn_ok hiA.1)) (cn_wf hX)
      have c1:=c_l04Copy h.d_spec_l04Copy (r:=(A.getD i default).dx) (cn_sz hiA.2.1)
      have c2:=c_l04Copy h.d_spec_l04Copy (r:=(A.getD i default).dy) (cn_sz hiA.2.2.1)
      generalize A.getD i default = a at *
      generalize (A.take i).map (fun a=>(elPa X a).cells) = P at *
      rcases hP with ⟨rfl,rfl⟩ | ⟨p,rfl,hp,hp3,hpl⟩
      ·refine ew4 @hc3 @hx (And.intro I0 (And.intro I1 Ic)) (And.intro numK_any or_sc) ?_
       refine PFK_of cd ?_
       refine ew2 (And.intro I0 (And.intro I1 Ic)) (And.intro numK_any or_sc) ?_
       refine PFK_of c1 ?_
       refine ew2 (And.intro I0 (And.intro I1 Ic)) (And.intro numK_any or_sc) ?_
       refine PFK_of c2 ?_
       refine ew2 (And.intro I0 (And.intro I1 Ic)) (And.intro numK_any or_sc) ?_
       have hpq:=h1q
       have hp0:=h1q
       refine ⟨by omega,OkA_lst [1,cN,s.length,s.length + 1,s.length + 1 + 1] [⟨18,[1],[1],false⟩,⟨17,[1],[],false⟩,⟨16,[3],[4],false⟩,⟨15,[],[3],false⟩,⟨14,[],[],false⟩,⟨13,[],[],false⟩,⟨12,[2],[],false⟩,⟨11,[2],[],false⟩,⟨10,[],[],false⟩,⟨9,[2],[],false⟩,⟨8,[2],[],false⟩,⟨7,[],[],false⟩,⟨6,[0],[],false⟩,⟨5,[2],[],false⟩,⟨4,[2],[],false⟩,⟨3,[2],[],false⟩,⟨2,[2],[],false⟩,⟨1,[1],[],false⟩,⟨0,[1],[],false⟩] ?_ ?_ rfl ?_,?_⟩
       ·clear hp0 I0 I1 Ic hE hM ca ci c0 cl
        generalize List.length s = m at h1q hcq hpq ⊢
        simp;omega
       ·intro o ho;simp at ho;omega
       ·show OkA 5 _ _
        unfold OkA;rfl
       by_cases hi1 : i + 1 < A.length
       ·refine ⟨(i + 1,?s2,.msl (s.length + 1 + 1) 0 1),?m2,⟨⟨?a2,?b2,?c2⟩,fun _=>⟨?d2,?f2⟩,fun e=>absurd e (by dsimp only;omega)⟩,?e2⟩
        case e2=>dsimp only;(refine Fg_env ?_;exact fgW)
        case m2=>dsimp only;omega
        case a2=>dsimp only;omega
        case b2=>exact (show objAt _ 0 = objAt s 0 by simp (disch:=first | omega | (simp only [List.length_append,List.length_set,List.length_cons,List.length_nil];omega)) only [EVs]).trans I0
        case c2=>exact (show objAt _ 1 = objAt s 1 by simp (disch:=first | omega | (simp only [List.length_append,List.length_set,List.length_cons,List.length_nil];omega)) only [EVs]).trans I1
        case d2=>dsimp only;simp (disch:=first | omega | (simp only [List.length_append,List.length_set,List.length_cons,List.length_nil];omega)) only [EVs]
        case f2 =>
         dsimp only
         rw [ets]
         refine .inr ⟨s.length + 1 + 1,?g2,?h2,by omega,by simp⟩
         case g2=>simp
         case h2=>simp (disch:=first | omega | (simp only [List.length_append,List.length_set,List.length_cons,List.length_nil];omega)) only [EVs];simp [elPa]
       ·have hin : i + 1 = A.length:=by omega
        have eps : (elCd v A).ps.map Pa.cells = [] ++ [(elPa X a).cells]:=by
         rw [← ets,hin,List.take_length,hC,List.map_map];rfl
        refine ⟨(i + 1,keepO ?s2x cN ⟨5,[[iv v,.bool X.neg,ints X.mag,ints X.den,pasV (elCd v A).ps]]⟩ [0,1],.nils),?m2x,⟨⟨?a2x,?b2x,?c2x⟩,fun e=>absurd e (by dsimp only;omega),fun _=>?d2x⟩,?e2x⟩
        case e2x =>
         dsimp only
         refine el_frz (Y:=X) (pv:=.msl (s.length + 1 + 1) 0 1) hc2 ?z0 ?z1 ?zc ?zp ?ze
         case z0=>exact (show objAt _ 0 = objAt s 0 by simp (disch:=first | omega | (simp only [List.length_append,List.length_set,List.length_cons,List.length_nil];omega)) only [EVs]).trans I0
         case z1=>exact (show objAt _ 1 = objAt s 1 by simp (disch:=first | omega | (simp only [List.length_append,List.length_set,List.length_cons,List.length_nil];omega)) only [EVs]).trans I1
         case zc=>simp (disch:=first | omega | (simp only [List.length_append,List.length_set,List.length_cons,List.length_nil];omega)) only [EVs]
         case zp =>
          refine .inr ⟨s.length + 1 + 1,?_,?_⟩
          ·rw [show (elCd v A).ps.length = A.length by rw [hC];simp,← hin,← hAl2];try rfl
          ·rw [eps];simp (disch:=first | omega | (simp only [List.length_append,List.length_set,List.length_cons,List.length_nil];omega)) only [EVs];simp [elPa]
         case ze =>
          intro W _ w0 w1 wc
          refine ew ?_
          exact ⟨CanE_ptr w0 (by omega),CanE_ptr w1 (by omega),CanE_ptr wc (by omega),by omega⟩
        case m2x=>dsimp only;omega
        case a2x=>dsimp only;omega
        case b2x=>exact kO_at ((show objAt _ 0 = objAt s 0 by simp (disch:=first | omega | (simp only [List.length_append,List.length_set,List.length_cons,List.length_nil];omega)) only [EVs]).trans I0) (by omega) (by simp)
        case c2x=>exact kO_at ((show objAt _ 1 = objAt s 1 by simp (disch:=first | omega | (simp only [List.length_append,List.length_set,List.length_cons,List.length_nil];omega)) only [EVs]).trans I1) (by omega) (by simp)
        case d2x =>
         rw [show (elCd v A).cells = [iv v,.bool X.neg,ints X.mag,ints X.den,pasV (elCd v A).ps] by rw [hC]]
         refine kO_p (o1:=⟨5,[[iv v,.bool X.neg,ints X.mag,ints X.den,.msl (s.length + 1 + 1) 0 1]]⟩) ?_
         exact obE
      ·have hpq:=objAt_lt hp
       have hpc : p ≠ cN:=fun e=>by rw [e,Ic] at hp;cases hp
       refine ew5 @hc3 @hx (And.intro I0 (And.intro I1 Ic)) @hp (And.intro numK_any or_sc) ?_
       refine PFK_of cd ?_
       refine ew3 (And.intro I0 (And.intro I1 Ic)) @hp (And.intro numK_any or_sc) ?_
       refine PFK_of c1 ?_
       refine ew3 (And.intro I0 (And.intro I1 Ic)) @hp (And.intro numK_any or_sc) ?_
       refine PFK_of c2 ?_
       refine ew3 (And.intro I0 (And.intro I1 Ic)) @hp (And.intro numK_any or_sc) ?_
       have hp0:=h1q
       refine ⟨by omega,OkA_lst [1,cN,s.length,s.length + 1,s.length + 1 + 1,p] [⟨18,[1],[1],false⟩,⟨17,[1],[],false⟩,⟨16,[5,3],[5,4],false⟩,⟨15,[],[3],false⟩,⟨14,[],[],false⟩,⟨13,[],[],false⟩,⟨12,[2],[],false⟩,⟨11,[2],[],false⟩,⟨10,[],[],false⟩,⟨9,[2],[],false⟩,⟨8,[2],[],false⟩,⟨7,[],[],false⟩,⟨6,[0],[],false⟩,⟨5,[2],[],false⟩,⟨4,[2],[],false⟩,⟨3,[2],[],false⟩,⟨2,[2],[],false⟩,⟨1,[1],[],false⟩,⟨0,[1],[],false⟩] ?_ ?_ rfl ?_,?_⟩
       ·clear hp0 hp I0 I1 Ic hE hM ca ci c0 cl
        generalize List.length s = m at h1q hcq hpq ⊢
        simp;omega
       ·intro o ho;simp at ho;omega
       ·show OkA 6 _ _
        unfold OkA;rfl
       by_cases hi1 : i + 1 < A.length
       ·refine ⟨(i + 1,?s3,.msl (s.length + 1 + 1) 0 (P.length + 1)),?m3,⟨⟨?a3,?b3,?c3⟩,fun _=>⟨?d3,?f3⟩,fun e=>absurd e (by dsimp only;omega)⟩,?e3⟩
        case e3=>dsimp only;(refine Fg_env ?_;exact fgW)
        case m3=>dsimp only;omega
        case a3=>dsimp only;omega
        case b3=>exact (show objAt _ 0 = objAt s 0 by simp (disch:=first | omega | (simp only [List.length_append,List.length_set,List.length_cons,List.length_nil];omega)) only [EVs]).trans I0
        case c3=>exact (show objAt _ 1 = objAt s 1 by simp (disch:=first | omega | (simp only [List.length_append,List.length_set,List.length_cons,List.length_nil];omega)) only [EVs]).trans I1
        case d3=>dsimp only;simp (disch:=first | omega | (simp only [List.length_append,List.length_set,List.length_cons,List.length_nil];omega)) only [EVs]
        case f3 =>
         dsimp only
         rw [ets]
         refine .inr ⟨s.length + 1 + 1,?g3,?h3,by omega,by simp⟩
         case g3=>simp
         case h3=>simp (disch:=first | omega | (simp only [List.length_append,List.length_set,List.length_cons,List.length_nil];omega)) only [EVs];simp [elPa]
       ·have hin : i + 1 = A.length:=by omega
        have eps : (elCd v A).ps.map Pa.cells = P ++ [(elPa X a).cells]:=by
         rw [← ets,hin,List.take_length,hC,List.map_map];rfl
        refine ⟨(i + 1,keepO ?s3x cN ⟨5,[[iv v,.bool X.neg,ints X.mag,ints X.den,pasV (elCd v A).ps]]⟩ [0,1],.nils),?m3x,⟨⟨?a3x,?b3x,?c3x⟩,fun e=>absurd e (by dsimp only;omega),fun _=>?d3x⟩,?e3x⟩
        case e3x =>
         dsimp only
         refine el_frz (Y:=X) (pv:=.msl (s.length + 1 + 1) 0 (P.length + 1)) hc2 ?z0 ?z1 ?zc ?zp ?ze
         case z0=>exact (show objAt _ 0 = objAt s 0 by simp (disch:=first | omega | (simp only [List.length_append,List.length_set,List.length_cons,List.length_nil];omega)) only [EVs]).trans I0
         case z1=>exact (show objAt _ 1 = objAt s 1 by simp (disch:=first | omega | (simp only [List.length_append,List.length_set,List.length_cons,List.length_nil];omega)) only [EVs]).trans I1
         case zc=>simp (disch:=first | omega | (simp only [List.length_append,List.length_set,List.length_cons,List.length_nil];omega)) only [EVs]
         case zp =>
          refine .inr ⟨s.length + 1 + 1,?_,?_⟩
          ·rw [show (elCd v A).ps.length = A.length by rw [hC];simp,← hin,← hAl2];try rfl
          ·rw [eps];simp (disch:=first | omega | (simp only [List.length_append,List.length_set,List.length_cons,List.length_nil];omega)) only [EVs];simp [elPa]
         case ze =>
          intro W _ w0 w1 wc
          refine ew ?_
          exact ⟨CanE_ptr w0 (by omega),CanE_ptr w1 (by omega),CanE_ptr wc (by omega),by omega⟩
        case m3x=>dsimp only;omega
        case a3x=>dsimp only;omega
        case b3x=>exact kO_at ((show objAt _ 0 = objAt s 0 by simp (disch:=first | omega | (simp only [List.length_append,List.length_set,List.length_cons,List.length_nil];omega)) only [EVs]).trans I0) (by omega) (by simp)
        case c3x=>exact kO_at ((show objAt _ 1 = objAt s 1 by simp (disch:=first | omega | (simp only [List.length_append,List.length_set,List.length_cons,List.length_nil];omega)) only [EVs]).trans I1) (by omega) (by simp)
        case d3x =>
         rw [show (elCd v A).cells = [iv v,.bool X.neg,ints X.mag,ints X.den,pasV (elCd v A).ps] by rw [hC]]
         refine kO_p (o1:=⟨5,[[iv v,.bool X.neg,ints X.mag,ints X.den,.msl (s.length + 1 + 1) 0 (P.length + 1)]]⟩) ?_
         exact obE
     ·have hin : i = A.length:=by omega
      have Ic:=hE hin
      subst hin
      have hcq:=objAt_lt Ic
      have hcc : (elCd v A).cells = [iv v,.bool X.neg,ints X.mag,ints X.den,pasV (elCd v A).ps]:=by rw [hC]
      clear hM hE
      refine ew1 @hc3 ?_
      obtain ⟨s1,hs1⟩ : ∃ s1,s ++ [none] = s1:=⟨_,rfl⟩
      have k0 : objAt s1 0 = some ⟨5,[[iv 0,.bool false,.nils,.nils,.nils]]⟩:=by rw [← hs1];exact (objAt_snoc_lt (by omega)).trans I0
      have k1 : objAt s1 1 = some ⟨3,[X.cells]⟩:=by rw [← hs1];exact (objAt_snoc_lt (by omega)).trans I1
      have kc : objAt s1 cN = some ⟨5,[(elCd v A).cells]⟩:=by rw [← hs1];exact (objAt_snoc_lt (by omega)).trans Ic
      clear I0 I1 Ic hcq h1q
      refine loop_at (fun x d=>(x == 36 && d == 999)) (α:=Nat × Store × V) (fun q=>⟨argE [.any,iv v,.any,.any,.ptr 0 0 0,.nils,.bool false,pasV A,.ptr 1 0 0,.any,.any,.ptr cN 0 0,.any,.any,q.2.2,.any,.any,.any,.any,.any,.any,.any,.any,.any,.any,.any,.any,.any,.any,.any,.any,.any,.any,.any,.any,.any,.any,.any,.any,.any,.any,.any,.any,.any,.any,.any,.any,.any,.any,.any,.any,.any,.any,.any,.any,.any,.any,.any,.any,.any,.any,.any,.any,.any,.any,.any,.any,.any,.any,.any,.any,.any,pasV A,iv (A.length : Nat),iv (q.1 : Nat)],q.2.1,0,0,[],[]⟩) (fun q=>(q.1 ≤ A.length ∧ objAt q.2.1 0 = some ⟨5,[[iv 0,.bool false,.nils,.nils,.nils]]⟩ ∧ objAt q.2.1 1 = some ⟨3,[X.cells]⟩ ∧ objAt q.2.1 cN = some ⟨5,[(elCd v A).cells]⟩) ∧ (q.1 < A.length → LnA q.2.1 q.2.2 (elMesh A q.1)) ∧ (q.1 = A.length → q.2.2 = lksV (elMs A))) (fun q=>A.length - q.1) rfl (0,s1,if A.length = 0 then lksV [] else .nils) ?_ ?_ ?_
      ·dsimp only
       refine ⟨⟨Nat.zero_le _,k0,k1,kc⟩,fun e=>.inl ⟨rfl,if_neg (by omega)⟩,fun e=>?_⟩
       rw [if_pos e.symm]
       unfold elMs
       rw [← e];rfl
      ·dsimp only
       rw [hs1]
       by_cases hA0 : A.length = 0
       ·rw [if_pos hA0]
        refine Fg_env ?_
        refine ew ?_
        (repeat' (first | exact EvV_nil _ | exact EvV_int (by omega) | refine ⟨?_,?_⟩ | exact EvV_of rfl | rfl))
       ·rw [if_neg hA0]
        (refine Fg_env ?_;exact fgW)
      ·clear k0 k1 kc hs1
       rintro ⟨i,s,mv⟩ ⟨⟨hi,I0,I1,Ic⟩,hM,hE⟩
       dsimp only at hi I0 I1 Ic hM hE
       have h1q:=objAt_lt I1
       have hcq:=objAt_lt Ic
       by_cases hc4 : (i : Int) < (A.length : Nat)
       ·have hil : i < A.length:=by omega
        have hL:=hM hil
        have hx : (A.map Pa.cells).getD i [] = (A.getD i default).cells:=mg hil
        have hiA:=hok _ (getD_mem hil)
        have hLl:=elMesh_len A i
        have ht : ((i : Int) + 1).toNat = i + 1:=by omega
        have hdr : (A.map Pa.cells).drop (i + 1) = (A.drop (i + 1)).map Pa.cells:=(List.map_drop ..).symm
        have hdl : (A.drop (i + 1)).length = A.length - (i + 1):=by simp
        refine ew5 @hc4 @hx @ht @hdr (And.intro I0 (And.intro I1 Ic)) ?_
        obtain ⟨qc,hqc⟩ : ∃ qc,List.length s = qc:=⟨_,rfl⟩
        refine loop_at (fun x d=>(x == 36 && d == 999)) (α:=Nat × Store × V) (fun q=>⟨argE [.any,iv v,.any,.any,.ptr 0 0 0,.nils,.bool false,pasV A,.ptr 1 0 0,.any,.any,.ptr cN 0 0,.any,.any,q.2.2,iv (i : Nat),.ptr qc 0 0,.any,.any,.any,.any,.any,.any,.any,.any,.any,.any,.any,.any,.any,.any,.any,.any,.any,.any,.any,.any,.any,.any,.any,.any,.any,.any,.any,.any,.any,.any,.any,.any,.any,.any,.any,.any,.any,.any,.any,.any,.any,.any,.any,.any,.any,.any,.any,.any,.any,.any,.any,.any,.any,.any,.any,pasV A,iv (A.length : Nat),iv (i : Nat),.any,.any,.any,.any,.any,.any,.any,pasV (A.drop (i + 1)),iv ((A.drop (i + 1)).length : Nat),iv (q.1 : Nat)],q.2.1,0,0,[],[]⟩) (fun q=>(i + 1 + q.1 ≤ A.length ∧ objAt q.2.1 0 = some ⟨5,[[iv 0,.bool false,.nils,.nils,.nils]]⟩ ∧ objAt q.2.1 1 = some ⟨3,[X.cells]⟩ ∧ objAt q.2.1 cN = some ⟨5,[(elCd v A).cells]⟩ ∧ objAt q.2.1 qc = some ⟨10,[(A.getD i default).cells]⟩) ∧ LnA q.2.1 q.2.2 (elMesh A i ++ elRow A i q.1)) (fun q=>A.length - q.1) rfl (0,s ++ [some ⟨10,[(A.getD i default).cells]⟩],mv) ?_ ?_ ?_
        ·refine ⟨⟨by dsimp only;omega,(objAt_snoc_lt (by omega)).trans I0,(objAt_snoc_lt h1q).trans I1,(objAt_snoc_lt hcq).trans Ic,by dsimp only;rw [← hqc];exact objAt_snoc _ _⟩,?_⟩
         dsimp only
         rw [elRow_0,List.append_nil]
         exact hL.fr fun p hp=>objAt_snoc_lt hp
        ·subst hqc
         (refine Fg_env ?_;exact fgW)
        ·have hq3 : 3 ≤ qc:=by omega
         clear I0 I1 Ic h1q hcq hL hM hE hqc
         rintro ⟨j,s,mv⟩ ⟨⟨hj,I0,I1,Ic,Iq⟩,hL⟩
         dsimp only at hj I0 I1 Ic Iq hL
         have h1q:=objAt_lt I1
         have hcq:=objAt_lt Ic
         have hqq:=objAt_lt Iq
         have hRl:=elRow_len A i j
         by_cases hc5 : (j : Int) < ((A.drop (i + 1)).length : Nat)
         ·have hkl : i + 1 + j < A.length:=by omega
          have hg2 : ((A.drop (i + 1)).map Pa.cells).getD j [] = (A.getD (i + 1 + j) default).cells:=by
           rw [mg (by omega),List.getD_eq_getElem?_getD,List.getElem?_drop,← List.getD_eq_getElem?_getD]
          have hkA:=hok _ (getD_mem hkl)
          have es:=elRow_s A hkl
          rw [hXe] at es
          obtain ⟨a,ha⟩ : ∃ a,A.getD i default = a:=⟨_,rfl⟩
          obtain ⟨b,hb'⟩ : ∃ b,A.getD (i + 1 + j) default = b:=⟨_,rfl⟩
          rw [ha] at hiA es Iq
          rw [hb'] at hkA es hg2
          have cm:=c_sRatMul h.d_spec_RatMul (r:=a.share) (s:=b.share) (cn_wf (cn_ok hiA.1)) (cn_wf (cn_ok hkA.1))
          have cd:=c_sRatDiv h.d_spec_RatDiv (r:=mulR a.share b.share) (s:=X) (cn_wf (mulR_cn _ _)) (cn_wf hX)
          have cx:=c_sRatSub h.d_spec_RatSub (r:=a.dx) (s:=b.dx) (cn_wf hiA.2.1) (cn_wf hkA.2.1)
          have cy:=c_sRatSub h.d_spec_RatSub (r:=a.dy) (s:=b.dy) (cn_wf hiA.2.2.1) (cn_wf hkA.2.2.1)
          have en : elMesh A i ++ elRow A i (j + 1) = (elMesh A i ++ elRow A i j) ++ [elLk X a b]:=by rw [es,List.append_assoc]
          have hMl : (elMesh A i ++ elRow A i j).length ≤ 20000:=by
           rw [List.length_append]
           have : i * A.length ≤ 100 * 100:=Nat.mul_le_mul (by omega) (by omega)
           omega
          generalize elMesh A i ++ elRow A i j = Ms at *
          rcases hL with ⟨rfl,rfl⟩ | ⟨m2,rfl,hm2⟩
          ·refine ew4 @hc5 @hg2 (And.intro I1 Iq) (And.intro numK_any or_sc) ?_
           refine PFK_of cm ?_
           refine ew2 (And.intro I1 Iq) (And.intro numK_any or_sc) ?_
           refine PFK_of cd ?_
           refine ew2 (And.intro I1 Iq) (And.intro numK_any or_sc) ?_
           refine PFK_of cx ?_
           refine ew2 (And.intro I1 Iq) (And.intro numK_any or_sc) ?_
           refine PFK_of cy ?_
           refine ew2 (And.intro I1 Iq) (And.intro numK_any or_sc) ?_
           refine ⟨by omega,OkA_lst [1,qc,s.length,s.length + 1,s.length + 1 + 1] [⟨25,[],[],false⟩,⟨24,[3],[4],false⟩,⟨23,[],[3],false⟩,⟨22,[],[],false⟩,⟨21,[],[],false⟩,⟨20,[2],[],false⟩,⟨19,[2],[],false⟩,⟨18,[1],[],false⟩,⟨17,[1],[],false⟩,⟨16,[],[],false⟩,⟨15,[2],[],false⟩,⟨14,[2],[],false⟩,⟨13,[1],[],false⟩,⟨12,[1],[],false⟩,⟨11,[],[],false⟩,⟨10,[0],[],false⟩,⟨9,[],[],false⟩,⟨8,[2],[],false⟩,⟨7,[2],[],false⟩,⟨6,[1],[],false⟩,⟨5,[1],[],false⟩,⟨4,[2],[],false⟩,⟨3,[2],[],false⟩,⟨2,[1],[],false⟩,⟨1,[1],[],false⟩,⟨0,[],[],false⟩] ?_ ?_ rfl ?_,?_⟩
           ·clear I0 I1 Ic Iq ca ci c0 cl
            generalize List.length s = m at h1q hcq hqq ⊢
            simp;omega
           ·intro o ho;simp at ho;omega
           ·show OkA 5 _ _
            unfold OkA;rfl
           refine ⟨(j + 1,?s6,.msl (s.length + 1 + 1) 0 1),?m6,⟨⟨?a6,?b6,?c6,?d6,?f6⟩,.inr ⟨s.length + 1 + 1,?g6,?h6⟩⟩,?e6⟩
           case e6=>dsimp only;(refine Fg_env ?_;exact fgW)
           case m6=>dsimp only;omega
           case a6=>dsimp only;omega
           case b6=>exact (show objAt _ 0 = objAt s 0 by simp (disch:=first | omega | (simp only [List.length_append,List.length_set,List.length_cons,List.length_nil];omega)) only [EVs]).trans I0
           case c6=>exact (show objAt _ 1 = objAt s 1 by simp (disch:=first | omega | (simp only [List.length_append,List.length_set,List.length_cons,List.length_nil];omega)) only [EVs]).trans I1
           case d6=>exact (show objAt _ cN = objAt s cN by simp (disch:=first | omega | (simp only [List.length_append,List.length_set,List.length_cons,List.length_nil];omega)) only [EVs]).trans Ic
           case f6=>dsimp only;rw [ha];exact (show objAt _ qc = objAt s qc by simp (disch:=first | omega | (simp only [List.length_append,List.length_set,List.length_cons,List.length_nil];omega)) only [EVs]).trans Iq
           case g6=>dsimp only;rw [en];simp
           case h6 =>
            dsimp only
            rw [en]
            simp (disch:=first | omega | (simp only [List.length_append,List.length_set,List.length_cons,List.length_nil];omega)) only [EVs]
            simp [elLk]
          ·have hm2l:=objAt_lt hm2
           have n1 : m2 ≠ 1:=fun e=>by rw [e,I1] at hm2;cases hm2
           have n2 : m2 ≠ cN:=fun e=>by rw [e,Ic] at hm2;cases hm2
           have n3 : m2 ≠ qc:=fun e=>by rw [e,Iq] at hm2;cases hm2
           have n0 : m2 ≠ 0:=fun e=>by rw [e,I0] at hm2;cases hm2
           refine ew5 @hc5 @hg2 (And.intro I1 Iq) (And.intro numK_any or_sc) @hm2 ?_
           refine PFK_of cm ?_
           refine ew3 (And.intro I1 Iq) (And.intro numK_any or_sc) @hm2 ?_
           refine PFK_of cd ?_
           refine ew3 (And.intro I1 Iq) (And.intro numK_any or_sc) @hm2 ?_
           refine PFK_of cx ?_
           refine ew3 (And.intro I1 Iq) (And.intro numK_any or_sc) @hm2 ?_
           refine PFK_of cy ?_
           refine ew3 (And.intro I1 Iq) (And.intro numK_any or_sc) @hm2 ?_
           refine ⟨by omega,OkA_lst [1,qc,s.length,s.length + 1,s.length + 1 + 1,m2] [⟨25,[],[],false⟩,⟨24,[5,3],[5,4],false⟩,⟨23,[],[3],false⟩,⟨22,[],[],false⟩,⟨21,[],[],false⟩,⟨20,[2],[],false⟩,⟨19,[2],[],false⟩,⟨18,[1],[],false⟩,⟨17,[1],[],false⟩,⟨16,[],[],false⟩,⟨15,[2],[],false⟩,⟨14,[2],[],false⟩,⟨13,[1],[],false⟩,⟨12,[1],[],false⟩,⟨11,[],[],false⟩,⟨10,[0],[],false⟩,⟨9,[],[],false⟩,⟨8,[2],[],false⟩,⟨7,[2],[],false⟩,⟨6,[1],[],false⟩,⟨5,[1],[],false⟩,⟨4,[2],[],false⟩,⟨3,[2],[],false⟩,⟨2,[1],[],false⟩,⟨1,[1],[],false⟩,⟨0,[],[],false⟩] ?_ ?_ rfl ?_,?_⟩
           ·clear I0 I1 Ic Iq ca ci c0 cl hm2
            generalize List.length s = m at h1q hcq hqq hm2l ⊢
            simp;omega
           ·intro o ho;simp at ho;omega
           ·show OkA 6 _ _
            unfold OkA;rfl
           refine ⟨(j + 1,?s7,.msl (s.length + 1 + 1) 0 (Ms.length + 1)),?m7,⟨⟨?a7,?b7,?c7,?d7,?f7⟩,.inr ⟨s.length + 1 + 1,?g7,?h7⟩⟩,?e7⟩
           case e7=>dsimp only;(refine Fg_env ?_;exact fgW)
           case m7=>dsimp only;omega
           case a7=>dsimp only;omega
           case b7=>exact (show objAt _ 0 = objAt s 0 by simp (disch:=first | omega | (simp only [List.length_append,List.length_set,List.length_cons,List.length_nil];omega)) only [EVs]).trans I0
           case c7=>exact (show objAt _ 1 = objAt s 1 by simp (disch:=first | omega | (simp only [List.length_append,List.length_set,List.length_cons,List.length_nil];omega)) only [EVs]).trans I1
           case d7=>exact (show objAt _ cN = objAt s cN by simp (disch:=first | omega | (simp only [List.length_append,List.length_set,List.length_cons,List.length_nil];omega)) only [EVs]).trans Ic
           case f7=>dsimp only;rw [ha];exact (show objAt _ qc = objAt s qc by simp (disch:=first | omega | (simp only [List.length_append,List.length_set,List.length_cons,List.length_nil];omega)) only [EVs]).trans Iq
           case g7=>dsimp only;rw [en];simp
           case h7 =>
            dsimp only
            rw [en]
            simp (disch:=first | omega | (simp only [List.length_append,List.length_set,List.length_cons,List.length_nil];omega)) only [EVs]
            simp [elLk]
         ·have hjn : j = A.length - (i + 1):=by omega
          have hL2 : LnA s mv (elMesh A (i + 1)):=by
           rw [hjn] at hL;exact hL
          refine ew1 @hc5 ?_
          by_cases hi1 : i + 1 < A.length
          ·refine ⟨(i + 1,s,mv),by dsimp only;omega,⟨⟨by dsimp only;omega,I0,I1,Ic⟩,fun _=>hL2,fun e=>absurd e (by dsimp only;omega)⟩,?_⟩
           dsimp only
           (refine Fg_env ?_;exact fgW)
          ·have hin : i + 1 = A.length:=by omega
           have hms : elMesh A (i + 1) = elMs A:=by unfold elMs;rw [hin]
           rw [hms] at hL2
           refine ⟨(i + 1,keepO s cN ⟨5,[(elCd v A).cells]⟩ [0,1],lksV (elMs A)),by dsimp only;omega,⟨⟨by dsimp only;omega,kO_at I0 (by omega) (by simp),kO_at I1 (by omega) (by simp),kO_p Ic⟩,fun e=>absurd e (by dsimp only;omega),fun _=>rfl⟩,?_⟩
           dsimp only
           refine el_frm hc2 I0 I1 Ic ?_
           intro W hW w0 w1 wc
           refine ew ?_
           exact ⟨CanE_ptr w0 (by omega),CanE_ptr w1 (by omega),CanE_ptr wc (by omega),hW _ _ hL2,by omega⟩
       ·have hin : i = A.length:=by omega
        have hmv:=hE hin
        subst hin
        subst hmv
        have wcd : (elCd v A).wf:=by
         rw [hC]
         exact ⟨cn_wf hX,by simp;omega,fun x hx=>by
          obtain ⟨a,ha,rfl⟩:=List.mem_map.1 hx
          have:=hok a ha
          exact ⟨cn_wf (divR_cn _ _),cn_wf this.2.1,cn_wf this.2.2.1⟩⟩
        have hml:=elMesh_len A A.length
        have hml2 : A.length * A.length ≤ 100 * 100:=Nat.mul_le_mul (by omega) (by omega)
        have wms : wfL Lk.wf (elMs A):=⟨by show (elMesh A A.length).length ≤ _;omega,fun x hx=>by
         have:=elMs_cn x hx
         exact ⟨cn_wf this.1,cn_wf this.2.1,cn_wf this.2.2⟩⟩
        have cv:=c_sIsValidConditional h.d_spec_IsValidConditional (c:=elCd v A) wcd
        have cs:=c_sIsLinkSet h.d_spec_IsLinkSet (l:=elMs A) wms
        refine ew2 @hc4 (And.intro I0 (And.intro I1 Ic)) ?_
        refine PFK_of cv ?_
        cases hcd : cdOk (elCd v A)
        ·rw [hcd] at hB
         have hB : elB S v = false:=hB
         rw [(hF hB).1,(hF hB).2,hB]
         refine ew1 @I0 ?_
         exact el_zero (σ:=[])
        ·rw [hcd,Bool.true_and] at hB
         rw [el_lks hcd] at cs
         refine ew1 @I0 ?_
         refine PFK_of cs ?_
         cases ha : (elMs A).all lkOk
         ·rw [ha] at hB
          rw [(hF hB).1,(hF hB).2,hB]
          refine ew1 @I0 ?_
          exact el_zero (σ:=[])
         ·rw [ha] at hB
          rw [(hT hB).1,(hT hB).2,hB]
          refine ew1 (And.intro I0 (And.intro I1 Ic)) ?_
          exact el_end3 (σ:=List.set s 0 (some ⟨5,[(elCd v A).cells]⟩))
 ·have hB:=el_false (S:=S) hv
  have hcl : (decide ((1 : Int) ≤ v) && decide (v ≤ 9)) = false:=by
   rcases Int.lt_or_le v 1 with k | k
   ·rw [decide_eq_false (show ¬ 1 ≤ v by omega)];rfl
   ·rw [decide_eq_false (show ¬ v ≤ 9 by omega)];simp
  rw [hcl] at cl
  rw [(el_f hB).1,(el_f hB).2,hB]
  refine pf_endL (fun x d=>(x == 36 && d == 999)) h.hT rfl rfl ?_
  dsimp only [F_spec_EliminateNode,oN,oS,oG,oK,oA,oH,oV,cI]
  refine ew ?_
  refine PFK_of ci ?_
  refine ew ?_
  refine PFK_of cl ?_
  refine ew ?_
  exact el_zero (σ:=[])
def F_laws_heldLinkS : Fn:=⟨2,133,[.tmp 4],(.seq (.reg false 0 [oN 4 (.mov (cI 0))]) (.seq (.seq (.reg false 0 [oN 5 (.mov (cI 0))]) (.block 0 (.loop (.seq (.seq (.reg false 0 [oN 6 (oV 5),oN 7 (oV 0),oN 8 (.len (.t 7)),oN 9 (.bin .lss (.t 6) (.t 8))]) (.cond (.t 9) .skip (.exit 0))) (.seq (.block 1 (.seq (.seq (.reg false 0 [oN 12 (oV 0),oN 13 (oV 5),oN 14 (.idx 11 (.t 12) (.t 13)),oN 15 (.fld 0 (.t 14)),oN 16 (.load 1 false (.t 15)),oN 17 (oV 1),oN 18 (.bin .neq (.t 16) (.t 17))]) (.cond (.t 18) (.seq (.reg false 0 [oN 4 (.mov (cI (-1)))]) .ret) .skip)) (.seq (.reg false 0 [oN 19 (oV 1),oN 20 (.bin .add (.t 19) (cI 1)),oN 1 (oV 20)]) (.seq (.seq (.reg false 0 [oN 21 (oV 0),oN 22 (oV 5),oN 23 (.idx 11 (.t 21) (.t 22)),oN 24 (.fld 1 (.t 23)),oN 25 (.load 1 false (.t 24)),oN 26 (oV 1),oN 27 (.bin .neq (.t 25) (.t 26))]) (.cond (.t 27) (.seq (.reg false 0 [oN 4 (.mov (cI (-1)))]) .ret) .skip)) (.seq (.reg false 0 [oN 28 (oV 1),oN 29 (.bin .add (.t 28) (cI 1)),oN 1 (oV 29)]) (.seq (.seq (.reg false 0 [oN 30 (oV 0),oN 31 (oV 5),oN 32 (.idx 11 (.t 30) (.t 31)),oN 33 (.fld 2 (.t 32)),oN 34 (.fld 0 (.t 33)),oN 35 (.fld 0 (.t 34)),oN 36 (.load 1 false (.t 35)),oN 37 (oV 1),oN 38 (.bin .rem (.t 37) (cI 3)),oN 39 (.bin .eql (.t 38) (cI 0)),oN 40 (.beq true (.t 36) (.t 39))]) (.cond (.t 40) (.seq (.reg false 0 [oN 4 (.mov (cI (-1)))]) .ret) .skip)) (.seq (.reg false 0 [oN 41 (oV 1),oN 42 (.bin .add (.t 41) (cI 1)),oN 1 (oV 42)]) (.seq (.reg false 0 [oN 43 (oV 0),oN 44 (oV 5),oN 45 (.idx 11 (.t 43) (.t 44)),oN 46 (.fld 2 (.t 45)),oN 47 (.fld 0 (.t 46)),oN 48 (.fld 1 (.t 47)),oN 49 (.load 1 false (.t 48)),oN 50 (oV 1),oN 51 (.call 59 [(.t 49),(.t 50)]),oN 1 (oV 51)]) (.seq (.seq (.reg false 0 [oN 52 (oV 1),oN 53 (.bin .lss (.t 52) (cI 0))]) (.cond (.t 53) (.seq (.reg false 0 [oN 4 (.mov (cI (-1)))]) .ret) .skip)) (.seq (.reg false 0 [oN 54 (oV 0),oN 55 (oV 5),oN 56 (.idx 11 (.t 54) (.t 55)),oN 57 (.fld 2 (.t 56)),oN 58 (.fld 2 (.t 57)),oN 59 (.load 1 false (.t 58)),oN 60 (oV 1),oN 61 (.call 59 [(.t 59),(.t 60)]),oN 1 (oV 61)]) (.seq (.seq (.reg false 0 [oN 62 (oV 1),oN 63 (.bin .lss (.t 62) (cI 0))]) (.cond (.t 63) (.seq (.reg false 0 [oN 4 (.mov (cI (-1)))]) .ret) .skip)) (.seq (.seq (.reg false 0 [oN 64 (oV 0),oN 65 (oV 5),oN 66 (.idx 11 (.t 64) (.t 65)),oN 67 (.fld 5 (.t 66)),oN 68 (.fld 0 (.t 67)),oN 69 (.fld 0 (.t 68)),oN 70 (.load 1 false (.t 69)),oN 71 (oV 1),oN 72 (.bin .rem (.t 71) (cI 3)),oN 73 (.bin .eql (.t 72) (cI 0)),oN 74 (.beq true (.t 70) (.t 73))]) (.cond (.t 74) (.seq (.reg false 0 [oN 4 (.mov (cI (-1)))]) .ret) .skip)) (.seq (.reg false 0 [oN 75 (oV 1),oN 76 (.bin .add (.t 75) (cI 1)),oN 1 (oV 76)]) (.seq (.reg false 0 [oN 77 (oV 0),oN 78 (oV 5),oN 79 (.idx 11 (.t 77) (.t 78)),oN 80 (.fld 5 (.t 79)),oN 81 (.fld 0 (.t 80)),oN 82 (.fld 1 (.t 81)),oN 83 (.load 1 false (.t 82)),oN 84 (oV 1),oN 85 (.call 59 [(.t 83),(.t 84)]),oN 1 (oV 85)]) (.seq (.seq (.reg false 0 [oN 86 (oV 1),oN 87 (.bin .lss (.t 86) (cI 0))]) (.cond (.t 87) (.seq (.reg false 0 [oN 4 (.mov (cI (-1)))]) .ret) .skip)) (.seq (.reg false 0 [oN 88 (oV 0),oN 89 (oV 5),oN 90 (.idx 11 (.t 88) (.t 89)),oN 91 (.fld 5 (.t 90)),oN 92 (.fld 2 (.t 91)),oN 93 (.load 1 false (.t 92)),oN 94 (oV 1),oN 95 (.call 59 [(.t 93),(.t 94)]),oN 1 (oV 95)]) (.seq (.seq (.reg false 0 [oN 96 (oV 1),oN 97 (.bin .lss (.t 96) (cI 0))]) (.cond (.t 97) (.seq (.reg false 0 [oN 4 (.mov (cI (-1)))]) .ret) .skip)) (.seq (.seq (.reg false 0 [oN 98 (oV 0),oN 99 (oV 5),oN 100 (.idx 11 (.t 98) (.t 99)),oN 101 (.fld 8 (.t 100)),oN 102 (.fld 0 (.t 101)),oN 103 (.fld 0 (.t 102)),oN 104 (.load 1 false (.t 103)),oN 105 (oV 1),oN 106 (.bin .rem (.t 105) (cI 3)),oN 107 (.bin .eql (.t 106) (cI 0)),oN 108 (.beq true (.t 104) (.t 107))]) (.cond (.t 108) (.seq (.reg false 0 [oN 4 (.mov (cI (-1)))]) .ret) .skip)) (.seq (.reg false 0 [oN 109 (oV 1),oN 110 (.bin .add (.t 109) (cI 1)),oN 1 (oV 110)]) (.seq (.reg false 0 [oN 111 (oV 0),oN 112 (oV 5),oN 113 (.idx 11 (.t 111) (.t 112)),oN 114 (.fld 8 (.t 113)),oN 115 (.fld 0 (.t 114)),oN 116 (.fld 1 (.t 115)),oN 117 (.load 1 false (.t 116)),oN 118 (oV 1),oN 119 (.call 59 [(.t 117),(.t 118)]),oN 1 (oV 119)]) (.seq (.seq (.reg false 0 [oN 120 (oV 1),oN 121 (.bin .lss (.t 120) (cI 0))]) (.cond (.t 121) (.seq (.reg false 0 [oN 4 (.mov (cI (-1)))]) .ret) .skip)) (.seq (.reg false 0 [oN 122 (oV 0),oN 123 (oV 5),oN 124 (.idx 11 (.t 122) (.t 123)),oN 125 (.fld 8 (.t 124)),oN 126 (.fld 2 (.t 125)),oN 127 (.load 1 false (.t 126)),oN 128 (oV 1),oN 129 (.call 59 [(.t 127),(.t 128)]),oN 1 (oV 129)]) (.seq (.reg false 0 [oN 130 (oV 1),oN 131 (.bin .lss (.t 130) (cI 0))]) (.cond (.t 131) (.seq (.reg false 0 [oN 4 (.mov (cI (-1)))]) .ret) .skip)))))))))))))))))))))))) (.reg false 0 [oN 10 (oV 5),oN 11 (.bin .add (.t 10) (cI 1)),oN 5 (oV 11)])))))) (.seq (.reg false 0 [oN 132 (oV 1),oN 4 (oV 132)]) .ret)))⟩
structure D_laws_heldLinkS (T : Nat → Option Fn) : Prop where
 hT : T 229 = some F_laws_heldLinkS
 d_laws_heldIntS : D_laws_heldIntS T
def F_laws_heldParentS : Fn:=⟨2,124,[.tmp 4],(.seq (.reg false 0 [oN 4 (.mov (cI 0))]) (.seq (.seq (.reg false 0 [oN 5 (.mov (cI 0))]) (.block 0 (.loop (.seq (.seq (.reg false 0 [oN 6 (oV 5),oN 7 (oV 0),oN 8 (.len (.t 7)),oN 9 (.bin .lss (.t 6) (.t 8))]) (.cond (.t 9) .skip (.exit 0))) (.seq (.block 1 (.seq (.seq (.reg false 0 [oN 12 (oV 0),oN 13 (oV 5),oN 14 (.idx 10 (.t 12) (.t 13)),oN 15 (.fld 0 (.t 14)),oN 16 (.load 1 false (.t 15)),oN 17 (oV 1),oN 18 (.bin .neq (.t 16) (.t 17))]) (.cond (.t 18) (.seq (.reg false 0 [oN 4 (.mov (cI (-1)))]) .ret) .skip)) (.seq (.reg false 0 [oN 19 (oV 1),oN 20 (.bin .add (.t 19) (cI 1)),oN 1 (oV 20)]) (.seq (.seq (.reg false 0 [oN 21 (oV 0),oN 22 (oV 5),oN 23 (.idx 10 (.t 21) (.t 22)),oN 24 (.fld 1 (.t 23)),oN 25 (.fld 0 (.t 24)),oN 26 (.fld 0 (.t 25)),oN 27 (.load 1 false (.t 26)),oN 28 (oV 1),oN 29 (.bin .rem (.t 28) (cI 3)),oN 30 (.bin .eql (.t 29) (cI 0)),oN 31 (.beq true (.t 27) (.t 30))]) (.cond (.t 31) (.seq (.reg false 0 [oN 4 (.mov (cI (-1)))]) .ret) .skip)) (.seq (.reg false 0 [oN 32 (oV 1),oN 33 (.bin .add (.t 32) (cI 1)),oN 1 (oV 33)]) (.seq (.reg false 0 [oN 34 (oV 0),oN 35 (oV 5),oN 36 (.idx 10 (.t 34) (.t 35)),oN 37 (.fld 1 (.t 36)),oN 38 (.fld 0 (.t 37)),oN 39 (.fld 1 (.t 38)),oN 40 (.load 1 false (.t 39)),oN 41 (oV 1),oN 42 (.call 59 [(.t 40),(.t 41)]),oN 1 (oV 42)]) (.seq (.seq (.reg false 0 [oN 43 (oV 1),oN 44 (.bin .lss (.t 43) (cI 0))]) (.cond (.t 44) (.seq (.reg false 0 [oN 4 (.mov (cI (-1)))]) .ret) .skip)) (.seq (.reg false 0 [oN 45 (oV 0),oN 46 (oV 5),oN 47 (.idx 10 (.t 45) (.t 46)),oN 48 (.fld 1 (.t 47)),oN 49 (.fld 2 (.t 48)),oN 50 (.load 1 false (.t 49)),oN 51 (oV 1),oN 52 (.call 59 [(.t 50),(.t 51)]),oN 1 (oV 52)]) (.seq (.seq (.reg false 0 [oN 53 (oV 1),oN 54 (.bin .lss (.t 53) (cI 0))]) (.cond (.t 54) (.seq (.reg false 0 [oN 4 (.mov (cI (-1)))]) .ret) .skip)) (.seq (.seq (.reg false 0 [oN 55 (oV 0),oN 56 (oV 5),oN 57 (.idx 10 (.t 55) (.t 56)),oN 58 (.fld 4 (.t 57)),oN 59 (.fld 0 (.t 58)),oN 60 (.fld 0 (.t 59)),oN 61 (.load 1 false (.t 60)),oN 62 (oV 1),oN 63 (.bin .rem (.t 62) (cI 3)),oN 64 (.bin .eql (.t 63) (cI 0)),oN 65 (.beq true (.t 61) (.t 64))]) (.cond (.t 65) (.seq (.reg false 0 [oN 4 (.mov (cI (-1)))]) .ret) .skip)) (.seq (.reg false 0 [oN 66 (oV 1),oN 67 (.bin .add (.t 66) (cI 1)),oN 1 (oV 67)]) (.seq (.reg false 0 [oN 68 (oV 0),oN 69 (oV 5),oN 70 (.idx 10 (.t 68) (.t 69)),oN 71 (.fld 4 (.t 70)),oN 72 (.fld 0 (.t 71)),oN 73 (.fld 1 (.t 72)),oN 74 (.load 1 false (.t 73)),oN 75 (oV 1),oN 76 (.call 59 [(.t 74),(.t 75)]),oN 1 (oV 76)]) (.seq (.seq (.reg false 0 [oN 77 (oV 1),oN 78 (.bin .lss (.t 77) (cI 0))]) (.cond (.t 78) (.seq (.reg false 0 [oN 4 (.mov (cI (-1)))]) .ret) .skip)) (.seq (.reg false 0 [oN 79 (oV 0),oN 80 (oV 5),oN 81 (.idx 10 (.t 79) (.t 80)),oN 82 (.fld 4 (.t 81)),oN 83 (.fld 2 (.t 82)),oN 84 (.load 1 false (.t 83)),oN 85 (oV 1),oN 86 (.call 59 [(.t 84),(.t 85)]),oN 1 (oV 86)]) (.seq (.seq (.reg false 0 [oN 87 (oV 1),oN 88 (.bin .lss (.t 87) (cI 0))]) (.cond (.t 88) (.seq (.reg false 0 [oN 4 (.mov (cI (-1)))]) .ret) .skip)) (.seq (.seq (.reg false 0 [oN 89 (oV 0),oN 90 (oV 5),oN 91 (.idx 10 (.t 89) (.t 90)),oN 92 (.fld 7 (.t 91)),oN 93 (.fld 0 (.t 92)),oN 94 (.fld 0 (.t 93)),oN 95 (.load 1 false (.t 94)),oN 96 (oV 1),oN 97 (.bin .rem (.t 96) (cI 3)),oN 98 (.bin .eql (.t 97) (cI 0)),oN 99 (.beq true (.t 95) (.t 98))]) (.cond (.t 99) (.seq (.reg false 0 [oN 4 (.mov (cI (-1)))]) .ret) .skip)) (.seq (.reg false 0 [oN 100 (oV 1),oN 101 (.bin .add (.t 100) (cI 1)),oN 1 (oV 101)]) (.seq (.reg false 0 [oN 102 (oV 0),oN 103 (oV 5),oN 104 (.idx 10 (.t 102) (.t 103)),oN 105 (.fld 7 (.t 104)),oN 106 (.fld 0 (.t 105)),oN 107 (.fld 1 (.t 106)),oN 108 (.load 1 false (.t 107)),oN 109 (oV 1),oN 110 (.call 59 [(.t 108),(.t 109)]),oN 1 (oV 110)]) (.seq (.seq (.reg false 0 [oN 111 (oV 1),oN 112 (.bin .lss (.t 111) (cI 0))]) (.cond (.t 112) (.seq (.reg false 0 [oN 4 (.mov (cI (-1)))]) .ret) .skip)) (.seq (.reg false 0 [oN 113 (oV 0),oN 114 (oV 5),oN 115 (.idx 10 (.t 113) (.t 114)),oN 116 (.fld 7 (.t 115)),oN 117 (.fld 2 (.t 116)),oN 118 (.load 1 false (.t 117)),oN 119 (oV 1),oN 120 (.call 59 [(.t 118),(.t 119)]),oN 1 (oV 120)]) (.seq (.reg false 0 [oN 121 (oV 1),oN 122 (.bin .lss (.t 121) (cI 0))]) (.cond (.t 122) (.seq (.reg false 0 [oN 4 (.mov (cI (-1)))]) .ret) .skip)))))))))))))))))))))) (.reg false 0 [oN 10 (oV 5),oN 11 (.bin .add (.t 10) (cI 1)),oN 5 (oV 11)])))))) (.seq (.reg false 0 [oN 123 (oV 1),oN 4 (oV 123)]) .ret)))⟩
structure D_laws_heldParentS (T : Nat → Option Fn) : Prop where
 hT : T 398 = some F_laws_heldParentS
 d_laws_heldIntS : D_laws_heldIntS T
def F_laws_heldBigInt : Fn:=⟨2,12,[.tmp 4],(.seq (.reg false 1 [oN 2 (.box (.t 0)),oK 4 1 (.mov (cI 0))]) (.seq (.reg false 0 [oN 5 (.fld 1 (.t 2)),oN 6 (.load 1 false (.t 5)),oN 7 (oV 1),oN 8 (.call 59 [(.t 6),(.t 7)]),oN 1 (oV 8)]) (.seq (.seq (.reg false 0 [oN 9 (oV 1),oN 10 (.bin .lss (.t 9) (cI 0))]) (.cond (.t 10) (.seq (.reg false 0 [oN 4 (.mov (cI (-1)))]) .ret) .skip)) (.seq (.reg false 0 [oN 11 (oV 1),oN 4 (oV 11)]) .ret))))⟩
structure D_laws_heldBigInt (T : Nat → Option Fn) : Prop where
 hT : T 58 = some F_laws_heldBigInt
 d_laws_heldIntS : D_laws_heldIntS T
def F_laws_heldRat : Fn:=⟨2,18,[.tmp 4],(.seq (.reg false 1 [oN 2 (.box (.t 0)),oK 4 1 (.mov (cI 0))]) (.seq (.reg false 0 [oN 5 (.fld 0 (.t 2)),oN 6 (.load 2 true (.t 5)),oN 7 (oV 1),oN 8 (.call 58 [(.t 6),(.t 7)]),oN 1 (oV 8)]) (.seq (.seq (.reg false 0 [oN 9 (oV 1),oN 10 (.bin .lss (.t 9) (cI 0))]) (.cond (.t 10) (.seq (.reg false 0 [oN 4 (.mov (cI (-1)))]) .ret) .skip)) (.seq (.reg false 0 [oN 11 (.fld 2 (.t 2)),oN 12 (.load 1 false (.t 11)),oN 13 (oV 1),oN 14 (.call 59 [(.t 12),(.t 13)]),oN 1 (oV 14)]) (.seq (.seq (.reg false 0 [oN 15 (oV 1),oN 16 (.bin .lss (.t 15) (cI 0))]) (.cond (.t 16) (.seq (.reg false 0 [oN 4 (.mov (cI (-1)))]) .ret) .skip)) (.seq (.reg false 0 [oN 17 (oV 1),oN 4 (oV 17)]) .ret))))))⟩
structure D_laws_heldRat (T : Nat → Option Fn) : Prop where
 hT : T 42 = some F_laws_heldRat
 d_laws_heldBigInt : D_laws_heldBigInt T
 d_laws_heldIntS : D_laws_heldIntS T
def F_laws_heldConditional : Fn:=⟨2,18,[.tmp 4],(.seq (.reg false 1 [oN 2 (.box (.t 0)),oK 4 1 (.mov (cI 0))]) (.seq (.reg false 0 [oN 5 (.fld 1 (.t 2)),oN 6 (.load 3 true (.t 5)),oN 7 (oV 1),oN 8 (.call 42 [(.t 6),(.t 7)]),oN 1 (oV 8)]) (.seq (.seq (.reg false 0 [oN 9 (oV 1),oN 10 (.bin .lss (.t 9) (cI 0))]) (.cond (.t 10) (.seq (.reg false 0 [oN 4 (.mov (cI (-1)))]) .ret) .skip)) (.seq (.reg false 0 [oN 11 (.fld 4 (.t 2)),oN 12 (.load 1 false (.t 11)),oN 13 (oV 1),oN 14 (.call 398 [(.t 12),(.t 13)]),oN 1 (oV 14)]) (.seq (.seq (.reg false 0 [oN 15 (oV 1),oN 16 (.bin .lss (.t 15) (cI 0))]) (.cond (.t 16) (.seq (.reg false 0 [oN 4 (.mov (cI (-1)))]) .ret) .skip)) (.seq (.reg false 0 [oN 17 (oV 1),oN 4 (oV 17)]) .ret))))))⟩
structure D_laws_heldConditional (T : Nat → Option Fn) : Prop where
 hT : T 390 = some F_laws_heldConditional
 d_laws_heldRat : D_laws_heldRat T
 d_laws_heldParentS : D_laws_heldParentS T
theorem c_heldLinkS {T : Nat → Option Fn} (h : D_laws_heldLinkS T) {l : List Lk} {k : Int} (hl : szL Lk.sz l ≤ 1000000000:=by first | omega | assumption | (simp;omega)) (hk : 0 ≤ k ∧ k + cnL Lk.ct l l.length ≤ 1000000000000:=by first | omega | assumption | (simp;omega)) :
  PF T 229 [lksV (mkL Lk.mk3 Lk.ct k l),iv k] (iv (k + cnL Lk.ct l l.length)):=by
 have hll : l.length ≤ 1000000000:=by unfold szL at hl;omega
 have hml:=mkL_len Lk.mk3 Lk.ct k l
 refine pf_end (fun _ _=>false) h.hT rfl rfl ?_
 dsimp only [F_laws_heldLinkS,oN,oS,oG,oK,oA,oH,oV,cI]
 refine ev ?_
 refine loop_at (fun _ _=>false) (α:=Nat) (fun i=>⟨argE [lksV (mkL Lk.mk3 Lk.ct k l),iv (k + cnL Lk.ct l i),.any,.any,.any,iv (i : Nat)],[],0,0,[],[]⟩) (fun i=>i ≤ l.length) (fun i=>l.length - i) rfl 0 ?_ ?_ ?_
 ·omega
 ·(refine Fg_env ?_) <;> (try (refine ev1 @cnL_0 ?_;try with_reducible exact True.intro)) <;> (repeat' (first | refine ⟨?_,?_⟩ | exact EvV_int (by omega) | exact EvV_of (by simp) | exact EvV_nil _))
 ·intro i hi
  refine ev1 @hml ?_
  refine brK_dec (fun hc=>?_) fun hc=>?_
  ·have hil : i < l.length:=by omega
   have hrow:=(mg (f:=Lk.cells) (show i < (mkL Lk.mk3 Lk.ct k l).length by omega)).trans (congrArg Lk.cells (mkL_at Lk.mk3 Lk.ct k l i hil))
   obtain ⟨x,hx⟩ : ∃ x,l.getD i default = x:=⟨_,rfl⟩
   have hcn:=cnL_s Lk.ct l hil
   have hcl:=cnL_le Lk.ct l (i:=i + 1) hil
   have hxs : Lk.sz x ≤ 1000000000:=by
    have:=szL_at Lk.sz hil
    rw [hx] at this
    omega
   rw [hx] at hcn hrow
   rw [hcn] at hcl
   have hct : Lk.ct x = 1 + 1 + 1 + x.w.mag.length + x.w.den.length + 1 + x.dx.mag.length + x.dx.den.length + 1 + x.dy.mag.length + x.dy.den.length:=rfl
   obtain ⟨kk,hkk⟩ : ∃ kk,k + (cnL Lk.ct l i : Int) = kk:=⟨_,rfl⟩
   rw [hkk] at hrow
   have hrow : (List.map Lk.cells (mkL Lk.mk3 Lk.ct k l)).getD i [] = [iv (kk),iv (kk + 1),.bool (decide ((kk + 1 + 1).tmod 3 = 0)),ints (cnt x.w.mag.length (kk + 1 + 1 + 1)),ints (cnt x.w.den.length (kk + 1 + 1 + 1 + x.w.mag.length)),.bool (decide ((kk + 1 + 1 + 1 + x.w.mag.length + x.w.den.length).tmod 3 = 0)),ints (cnt x.dx.mag.length (kk + 1 + 1 + 1 + x.w.mag.length + x.w.den.length + 1)),ints (cnt x.dx.den.length (kk + 1 + 1 + 1 + x.w.mag.length + x.w.den.length + 1 + x.dx.mag.length)),.bool (decide ((kk + 1 + 1 + 1 + x.w.mag.length + x.w.den.length + 1 + x.dx.mag.length + x.dx.den.length).tmod 3 = 0)),ints (cnt x.dy.mag.length (kk + 1 + 1 + 1 + x.w.mag.length + x.w.den.length + 1 + x.dx.mag.length + x.dx.den.length + 1)),ints (cnt x.dy.den.length (kk + 1 + 1 + 1 + x.w.mag.length + x.w.den.length + 1 + x.dx.mag.length + x.dx.den.length + 1 + x.dy.mag.length))]:=hrow
   simp only [Lk.sz,R.sz] at hxs
   refine ev4 @hc @hrow @hkk @hml ?_
   refine PFK_of (c_heldIntS h.d_laws_heldIntS (n:=x.w.mag.length) (k:=kk + 1 + 1 + 1) (by omega) (by omega)) ?_
   refine ev2 @hrow @hml ?_
   refine brK_dec (fun hc=>absurd hc (by omega)) fun _=>?_
   refine ev2 @hrow @hml ?_
   refine PFK_of (c_heldIntS h.d_laws_heldIntS (n:=x.w.den.length) (k:=kk + 1 + 1 + 1 + x.w.mag.length) (by omega) (by omega)) ?_
   refine ev2 @hrow @hml ?_
   refine brK_dec (fun hc=>absurd hc (by omega)) fun _=>?_
   refine ev2 @hrow @hml ?_
   refine PFK_of (c_heldIntS h.d_laws_heldIntS (n:=x.dx.mag.length) (k:=kk + 1 + 1 + 1 + x.w.mag.length + x.w.den.length + 1) (by omega) (by omega)) ?_
   refine ev2 @hrow @hml ?_
   refine brK_dec (fun hc=>absurd hc (by omega)) fun _=>?_
   refine ev2 @hrow @hml ?_
   refine PFK_of (c_heldIntS h.d_laws_heldIntS (n:=x.dx.den.length) (k:=kk + 1 + 1 + 1 + x.w.mag.length + x.w.den.length + 1 + x.dx.mag.length) (by omega) (by omega)) ?_
   refine ev2 @hrow @hml ?_
   refine brK_dec (fun hc=>absurd hc (by omega)) fun _=>?_
   refine ev2 @hrow @hml ?_
   refine PFK_of (c_heldIntS h.d_laws_heldIntS (n:=x.dy.mag.length) (k:=kk + 1 + 1 + 1 + x.w.mag.length + x.w.den.length + 1 + x.dx.mag.length + x.dx.den.length + 1) (by omega) (by omega)) ?_
   refine ev2 @hrow @hml ?_
   refine brK_dec (fun hc=>absurd hc (by omega)) fun _=>?_
   refine ev2 @hrow @hml ?_
   refine PFK_of (c_heldIntS h.d_laws_heldIntS (n:=x.dy.den.length) (k:=kk + 1 + 1 + 1 + x.w.mag.length + x.w.den.length + 1 + x.dx.mag.length + x.dx.den.length + 1 + x.dy.mag.length) (by omega) (by omega)) ?_
   refine ev2 @hrow @hml ?_
   refine brK_dec (fun hc=>absurd hc (by omega)) fun _=>?_
   refine ev2 @hrow @hml ?_
   exact ⟨i + 1,by omega,by omega,by (refine Fg_env ?_;exact fgV)⟩
  ·have : i = l.length:=by omega
   subst this
   (refine ev1 @hc ?_;try with_reducible exact True.intro)
theorem c_heldParentS {T : Nat → Option Fn} (h : D_laws_heldParentS T) {l : List Pa} {k : Int} (hl : szL Pa.sz l ≤ 1000000000:=by first | omega | assumption | (simp;omega)) (hk : 0 ≤ k ∧ k + cnL Pa.ct l l.length ≤ 1000000000000:=by first | omega | assumption | (simp;omega)) :
  PF T 398 [pasV (mkL Pa.mk3 Pa.ct k l),iv k] (iv (k + cnL Pa.ct l l.length)):=by
 have hll : l.length ≤ 1000000000:=by unfold szL at hl;omega
 have hml:=mkL_len Pa.mk3 Pa.ct k l
 refine pf_end (fun _ _=>false) h.hT rfl rfl ?_
 dsimp only [F_laws_heldParentS,oN,oS,oG,oK,oA,oH,oV,cI]
 refine ev ?_
 refine loop_at (fun _ _=>false) (α:=Nat) (fun i=>⟨argE [pasV (mkL Pa.mk3 Pa.ct k l),iv (k + cnL Pa.ct l i),.any,.any,.any,iv (i : Nat)],[],0,0,[],[]⟩) (fun i=>i ≤ l.length) (fun i=>l.length - i) rfl 0 ?_ ?_ ?_
 ·omega
 ·(refine Fg_env ?_) <;> (try (refine ev1 @cnL_0 ?_;try with_reducible exact True.intro)) <;> (repeat' (first | refine ⟨?_,?_⟩ | exact EvV_int (by omega) | exact EvV_of (by simp) | exact EvV_nil _))
 ·intro i hi
  refine ev1 @hml ?_
  refine brK_dec (fun hc=>?_) fun hc=>?_
  ·have hil : i < l.length:=by omega
   have hrow:=(mg (f:=Pa.cells) (show i < (mkL Pa.mk3 Pa.ct k l).length by omega)).trans (congrArg Pa.cells (mkL_at Pa.mk3 Pa.ct k l i hil))
   obtain ⟨x,hx⟩ : ∃ x,l.getD i default = x:=⟨_,rfl⟩
   have hcn:=cnL_s Pa.ct l hil
   have hcl:=cnL_le Pa.ct l (i:=i + 1) hil
   have hxs : Pa.sz x ≤ 1000000000:=by
    have:=szL_at Pa.sz hil
    rw [hx] at this
    omega
   rw [hx] at hcn hrow
   rw [hcn] at hcl
   have hct : Pa.ct x = 1 + 1 + x.share.mag.length + x.share.den.length + 1 + x.dx.mag.length + x.dx.den.length + 1 + x.dy.mag.length + x.dy.den.length:=rfl
   obtain ⟨kk,hkk⟩ : ∃ kk,k + (cnL Pa.ct l i : Int) = kk:=⟨_,rfl⟩
   rw [hkk] at hrow
   have hrow : (List.map Pa.cells (mkL Pa.mk3 Pa.ct k l)).getD i [] = [iv (kk),.bool (decide ((kk + 1).tmod 3 = 0)),ints (cnt x.share.mag.length (kk + 1 + 1)),ints (cnt x.share.den.length (kk + 1 + 1 + x.share.mag.length)),.bool (decide ((kk + 1 + 1 + x.share.mag.length + x.share.den.length).tmod 3 = 0)),ints (cnt x.dx.mag.length (kk + 1 + 1 + x.share.mag.length + x.share.den.length + 1)),ints (cnt x.dx.den.length (kk + 1 + 1 + x.share.mag.length + x.share.den.length + 1 + x.dx.mag.length)),.bool (decide ((kk + 1 + 1 + x.share.mag.length + x.share.den.length + 1 + x.dx.mag.length + x.dx.den.length).tmod 3 = 0)),ints (cnt x.dy.mag.length (kk + 1 + 1 + x.share.mag.length + x.share.den.length + 1 + x.dx.mag.length + x.dx.den.length + 1)),ints (cnt x.dy.den.length (kk + 1 + 1 + x.share.mag.length + x.share.den.length + 1 + x.dx.mag.length + x.dx.den.length + 1 + x.dy.mag.length))]:=hrow
   simp only [Pa.sz,R.sz] at hxs
   refine ev4 @hc @hrow @hkk @hml ?_
   refine PFK_of (c_heldIntS h.d_laws_heldIntS (n:=x.share.mag.length) (k:=kk + 1 + 1) (by omega) (by omega)) ?_
   refine ev2 @hrow @hml ?_
   refine brK_dec (fun hc=>absurd hc (by omega)) fun _=>?_
   refine ev2 @hrow @hml ?_
   refine PFK_of (c_heldIntS h.d_laws_heldIntS (n:=x.share.den.length) (k:=kk + 1 + 1 + x.share.mag.length) (by omega) (by omega)) ?_
   refine ev2 @hrow @hml ?_
   refine brK_dec (fun hc=>absurd hc (by omega)) fun _=>?_
   refine ev2 @hrow @hml ?_
   refine PFK_of (c_heldIntS h.d_laws_heldIntS (n:=x.dx.mag.length) (k:=kk + 1 + 1 + x.share.mag.length + x.share.den.length + 1) (by omega) (by omega)) ?_
   refine ev2 @hrow @hml ?_
   refine brK_dec (fun hc=>absurd hc (by omega)) fun _=>?_
   refine ev2 @hrow @hml ?_
   refine PFK_of (c_heldIntS h.d_laws_heldIntS (n:=x.dx.den.length) (k:=kk + 1 + 1 + x.share.mag.length + x.share.den.length + 1 + x.dx.mag.length) (by omega) (by omega)) ?_
   refine ev2 @hrow @hml ?_
   refine brK_dec (fun hc=>absurd hc (by omega)) fun _=>?_
   refine ev2 @hrow @hml ?_
   refine PFK_of (c_heldIntS h.d_laws_heldIntS (n:=x.dy.mag.length) (k:=kk + 1 + 1 + x.share.mag.length + x.share.den.length + 1 + x.dx.mag.length + x.dx.den.length + 1) (by omega) (by omega)) ?_
   refine ev2 @hrow @hml ?_
   refine brK_dec (fun hc=>absurd hc (by omega)) fun _=>?_
   refine ev2 @hrow @hml ?_
   refine PFK_of (c_heldIntS h.d_laws_heldIntS (n:=x.dy.den.length) (k:=kk + 1 + 1 + x.share.mag.length + x.share.den.length + 1 + x.dx.mag.length + x.dx.den.length + 1 + x.dy.mag.length) (by omega) (by omega)) ?_
   refine ev2 @hrow @hml ?_
   refine brK_dec (fun hc=>absurd hc (by omega)) fun _=>?_
   refine ev2 @hrow @hml ?_
   exact ⟨i + 1,by omega,by omega,by (refine Fg_env ?_;exact fgV)⟩
  ·have : i = l.length:=by omega
   subst this
   (refine ev1 @hc ?_;try with_reducible exact True.intro)
theorem c_heldBigInt {T : Nat → Option Fn} (h : D_laws_heldBigInt T) {x : Bi} {k : Int} (hl : x.mag.length ≤ 1000000000:=by first | omega | assumption | (simp;omega)) (hk : 0 ≤ k ∧ k + Bi.ct2 x ≤ 1000000000000:=by first | omega | assumption | (simp;omega)) :
  PF T 58 [biV (Bi.mk2 k x),iv k] (iv (k + Bi.ct2 x)):=by
 have hk':=hk
 simp only [Bi.ct2] at hk'
 refine pf_end (fun _ _=>false) h.hT rfl rfl ?_
 dsimp only [F_laws_heldBigInt,oN,oS,oG,oK,oA,oH,oV,cI]
 refine ev ?_
 refine PFK_of (c_heldIntS h.d_laws_heldIntS (n:=x.mag.length) (k:=k) (by first | omega | (simp only [Bi.ct2,R.ct2,Bi.ct2];omega)) (by first | omega | (simp only [Bi.ct2,R.ct2,Bi.ct2];omega))) ?_
 refine ev ?_
 refine brK_dec (fun hc=>absurd hc (by first | omega | (simp only [Bi.ct2];omega))) fun _=>?_
 refine ev ?_
 exact ivc (by first | rfl | (simp only [Bi.ct2];omega))
theorem c_heldRat {T : Nat → Option Fn} (h : D_laws_heldRat T) {x : R} {k : Int} (hl : x.sz ≤ 1000000000:=by first | omega | assumption | (simp;omega)) (hk : 0 ≤ k ∧ k + R.ct2 x ≤ 1000000000000:=by first | omega | assumption | (simp;omega)) :
  PF T 42 [ratV (R.mk2 k x),iv k] (iv (k + R.ct2 x)):=by
 have hl':=hl
 simp only [R.sz] at hl'
 have hk':=hk
 simp only [R.ct2,Bi.ct2] at hk'
 refine pf_end (fun _ _=>false) h.hT rfl rfl ?_
 dsimp only [F_laws_heldRat,oN,oS,oG,oK,oA,oH,oV,cI]
 refine ev ?_
 refine PFK_of (c_heldBigInt h.d_laws_heldBigInt (x:=x.num) (k:=k) (by first | omega | (simp only [R.sz,R.ct2,Bi.ct2];omega)) (by first | omega | (simp only [R.sz,R.ct2,Bi.ct2];omega))) ?_
 refine ev ?_
 refine brK_dec (fun hc=>absurd hc (by first | omega | (simp only [R.ct2,Bi.ct2];omega))) fun _=>?_
 refine ev ?_
 refine PFK_of (c_heldIntS h.d_laws_heldIntS (n:=x.den.length) (k:=k + Bi.ct2 x.num) (by first | omega | (simp only [R.sz,R.ct2,Bi.ct2];omega)) (by first | omega | (simp only [R.sz,R.ct2,Bi.ct2];omega))) ?_
 refine ev ?_
 refine brK_dec (fun hc=>absurd hc (by first | omega | (simp only [R.ct2,Bi.ct2];omega))) fun _=>?_
 refine ev ?_
 exact ivc (by first | rfl | (simp only [R.ct2,Bi.ct2];omega))
theorem c_heldConditional {T : Nat → Option Fn} (h : D_laws_heldConditional T) {x : Cd} {k : Int} (hl : x.sz ≤ 1000000000:=by first | omega | assumption | (simp;omega)) (hk : 0 ≤ k ∧ k + Cd.ct2 x ≤ 1000000000000:=by first | omega | assumption | (simp;omega)) :
  PF T 390 [cdV (Cd.mk2 k x),iv k] (iv (k + Cd.ct2 x)):=by
 have hl':=hl
 simp only [Cd.sz,R.sz] at hl'
 have hk':=hk
 simp only [Cd.ct2,R.ct2,Bi.ct2] at hk'
 refine pf_end (fun _ _=>false) h.hT rfl rfl ?_
 dsimp only [F_laws_heldConditional,oN,oS,oG,oK,oA,oH,oV,cI]
 refine ev ?_
 refine PFK_of (c_heldRat h.d_laws_heldRat (x:=x.total) (k:=k) (by first | omega | (simp only [Cd.sz,R.sz,R.ct2,Bi.ct2];omega)) (by first | omega | (simp only [Cd.sz,R.sz,R.ct2,Bi.ct2];omega))) ?_
 refine ev ?_
 refine brK_dec (fun hc=>absurd hc (by first | omega | (simp only [Cd.ct2,R.ct2,Bi.ct2];omega))) fun _=>?_
 refine ev ?_
 refine PFK_of (c_heldParentS h.d_laws_heldParentS (l:=x.ps) (k:=k + x.total.ct2) (by first | omega | (simp only [Cd.sz,R.sz,R.ct2,Bi.ct2];omega)) (by first | omega | (simp only [Cd.sz,R.sz,R.ct2,Bi.ct2];omega))) ?_
 refine ev ?_
 refine brK_dec (fun hc=>absurd hc (by first | omega | (simp only [Cd.ct2,R.ct2,Bi.ct2];omega))) fun _=>?_
 refine ev ?_
 exact ivc (by first | rfl | (simp only [Cd.ct2,R.ct2,Bi.ct2];omega))
theorem cnL_bd {α : Type} {c f : α → Nat} {K : Nat} (h : ∀ x,c x ≤ K * (1 + f x)) (l : List α) : cnL c l l.length ≤ K * szL f l:=by
 unfold cnL szL
 rw [List.take_length]
 induction l with
 | nil=>simp
 |
  cons x l ih =>
  rw [List.map_cons,List.sum_cons,List.map_cons,List.sum_cons,List.length_cons]
  have:=h x
  rw [show l.length + 1 + (f x + (l.map f).sum) = (1 + f x) + (l.length + (l.map f).sum) by omega,Nat.mul_add]
  omega
theorem cb_Lk (x : Lk) : Lk.ct x ≤ 5 * (1 + x.sz):=by unfold Lk.ct Lk.sz R.sz;omega
theorem cb_Pa (x : Pa) : Pa.ct x ≤ 5 * (1 + x.sz):=by unfold Pa.ct Pa.sz R.sz;omega
theorem cb_LinkS (l : List Lk) : cnL Lk.ct l l.length ≤ 5 * szL Lk.sz l:=cnL_bd cb_Lk l
theorem cb_ParentS (l : List Pa) : cnL Pa.ct l l.length ≤ 5 * szL Pa.sz l:=cnL_bd cb_Pa l
theorem cb_Rat (x : R) : x.ct2 ≤ x.sz:=by unfold R.ct2 Bi.ct2 R.sz;exact Nat.le_refl _
theorem cb_Conditional (x : Cd) : x.ct2 ≤ 5 * x.sz:=by have:=cb_Rat x.total;have:=cb_ParentS x.ps;unfold Cd.ct2 Cd.sz;omega
end Go.Ml
end
