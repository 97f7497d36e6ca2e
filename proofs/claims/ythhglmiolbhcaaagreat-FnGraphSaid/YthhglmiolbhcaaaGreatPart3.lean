/- A small language for the functions of this claim, its soundness, contracts. -/
import Derived.Test.YthhglmiolbhcaaaGreatPart2
section
set_option linter.unusedSimpArgs false
set_option linter.unusedVariables false
set_option maxRecDepth 100000
set_option maxHeartbeats 4000000
namespace Go.Ml
def F_impl_copyRat : Fn := ⟨1, 15, [.cell 2 3 true], (.seq (.reg false 2 [oN 1 (.box (.t 0)), oK 2 1 (.alloc [.bool false, .nils, .nils])]) (.seq (.reg true 0 [oN 3 (.fld 0 (.t 1)), oA 4 0 (.fld 0 (.t 3)) [0], oA 5 0 (.load 1 false (.t 4)) [1], oN 6 (.fld 0 (.t 1)), oA 7 0 (.fld 1 (.t 6)) [3], oA 8 0 (.load 1 false (.t 7)) [4], oA 9 0 (.call 139 [(.t 8)]) [5], oA 10 0 (.build [.bool false, .nils] [(0, 1, (.t 5)), (1, 1, (.t 9))]) [2, 6], oN 11 (.fld 2 (.t 1)), oA 12 0 (.load 1 false (.t 11)) [8], oA 13 0 (.call 139 [(.t 12)]) [9, 6], oA 14 0 (.build [.bool false, .nils, .nils] [(0, 2, (.t 10)), (2, 1, (.t 13))]) [7, 10], ⟨none, none, 0, .store 3 (.t 2) (.t 14), [11, 10, 0, 1, 2, 3, 4, 5, 6, 7, 8, 9, 10, 11]⟩]) .ret))⟩
structure D_impl_copyRat (T : Nat → Option Fn) : Prop where
  hT : T 145 = some F_impl_copyRat
  d_impl_copyInts : D_impl_copyInts T
def F_impl_copyLink : Fn := ⟨1, 17, [.cell 2 11 true], (.seq (.reg false 2 [oN 1 (.box (.t 0)), oK 2 1 (.alloc [.int .i64 0, .int .i64 0, .bool false, .nils, .nils, .bool false, .nils, .nils, .bool false, .nils, .nils])]) (.seq (.reg true 0 [oN 3 (.fld 0 (.t 1)), oA 4 0 (.load 1 false (.t 3)) [0], oN 5 (.fld 1 (.t 1)), oA 6 0 (.load 1 false (.t 5)) [2], oN 7 (.fld 2 (.t 1)), oA 8 0 (.load 3 true (.t 7)) [4], oA 9 0 (.call 145 [(.t 8)]) [5], oN 10 (.fld 5 (.t 1)), oA 11 0 (.load 3 true (.t 10)) [7], oA 12 0 (.call 145 [(.t 11)]) [8, 6], oN 13 (.fld 8 (.t 1)), oA 14 0 (.load 3 true (.t 13)) [10], oA 15 0 (.call 145 [(.t 14)]) [11, 9], oA 16 0 (.build [.int .i64 0, .int .i64 0, .bool false, .nils, .nils, .bool false, .nils, .nils, .bool false, .nils, .nils] [(0, 1, (.t 4)), (1, 1, (.t 6)), (2, 3, (.t 9)), (5, 3, (.t 12)), (8, 3, (.t 15))]) [1, 3, 6, 9, 12], ⟨none, none, 0, .store 11 (.t 2) (.t 16), [13, 12, 0, 1, 2, 3, 4, 5, 6, 7, 8, 9, 10, 11, 12, 13]⟩]) .ret))⟩
structure D_impl_copyLink (T : Nat → Option Fn) : Prop where
  hT : T 133 = some F_impl_copyLink
  d_impl_copyRat : D_impl_copyRat T
theorem po_copyRat {T : Nat → Option Fn} (h : D_impl_copyRat T) {r : R} (hl : r.sz ≤ 1048576 := by first | omega | assumption | (simp; omega)) : PO T 145 [ratV r] (ratV r) := by
  simp only [R.sz] at hl
  refine po_end2 (fun x d => x == 139) h.hT rfl rfl ?_
  dsimp only [F_impl_copyRat, oN, oS, oG, oK, oA, oH, oV, cI, St.enter, List.length_cons, List.length_nil, Nat.zero_add]
  (refine ew ?_; try with_reducible exact True.intro)
  have O := fun s : Store => (@ow_nil 2 s).bool r.neg
  refine OwnK_got0 (po_copyInts h.d_impl_copyInts (l := r.mag) (by omega)) (by (refine ew ?_; try with_reducible exact True.intro)) (by (refine ew ?_; try with_reducible exact True.intro)) ?_
  intro v1 σ1 o1 g
  have B1 := g.at 1 (by simp) rfl
  have B0 := g.at 0 (by simp) rfl
  have lq : 2 ≤ σ1.length := g.len
  have lf := g.lf rfl
  have lb := g.lfb rfl
  replace O := (O _).got g (by simp)
  (refine ew5 @B0 @B1 @lq @lf @lb ?_; try with_reducible exact True.intro)
  refine OwnK_got0 (po_copyInts h.d_impl_copyInts (l := r.den) (by omega)) (by (refine ew ?_; try with_reducible exact True.intro)) (by (refine ew ?_; try with_reducible exact True.intro)) ?_
  intro v2 σ2 o2 g2
  replace B1 := (g2.old 1 (by omega)).trans B1
  have lq2 : 2 ≤ σ2.length := by have := g2.len; omega
  have lf2 := g2.lf rfl
  have lb2 := g2.lfb rfl
  replace O := O.got g2 (by omega)
  (refine ew6 @B1 @lq2 @lf2 @lb2 @lf @lb ?_; try with_reducible exact True.intro)
  refine ⟨by unfold OkA; decide +kernel, ?_⟩
  (refine ew1 @lq2 ?_; try with_reducible exact True.intro)
  exact (O.set (by decide)).fin
theorem po_copyLink {T : Nat → Option Fn} (h : D_impl_copyLink T) {x : Lk} (hl : x.sz ≤ 1048576 := by first | omega | assumption | (simp; omega)) : PO T 133 [lkV x] (lkV x) := by
  simp only [Lk.sz, R.sz] at hl
  refine po_end2 (fun x d => x == 145) h.hT rfl rfl ?_
  dsimp only [F_impl_copyLink, oN, oS, oG, oK, oA, oH, oV, cI, St.enter, List.length_cons, List.length_nil, Nat.zero_add]
  (refine ew ?_; try with_reducible exact True.intro)
  have O := fun s : Store => @ow_nil 2 s
  replace O := fun s => (O s).int .i64 x.a
  replace O := fun s => (O s).int .i64 x.b
  refine OwnK_got0 (po_copyRat h.d_impl_copyRat (r := x.w) (by simp only [R.sz]; omega)) (by (refine ew ?_; try with_reducible exact True.intro)) (by (refine ew ?_; try with_reducible exact True.intro)) ?_
  intro r σ1 os g
  have lq : 2 ≤ σ1.length := g.len
  have B0 := g.at 0 (by simp) rfl
  have B1 := g.at 1 (by simp) rfl
  replace O := (O _).got g (by simp)
  obtain ⟨a0, d0, _, _, rfl, _, k1, k2⟩ := g.ow.rat_inv
  replace O := O.flat rfl
  have la := k1.leaf rfl
  have ld := k2.leaf rfl
  have lfs := And.intro la ld
  have fc := (fun q => cells_agg (cs := [.bool x.w.neg, a0, d0]) (by simp [la, ld, show ∀ b, V.leaf (.bool b) = true from fun _ => rfl]) q)
  clear g
  (refine ew5 @B0 @B1 @lq @lfs @fc ?_; try with_reducible exact True.intro)
  refine OwnK_got0 (po_copyRat h.d_impl_copyRat (r := x.dx) (by simp only [R.sz]; omega)) (by (refine ew5 @B0 @B1 @lq @lfs @fc ?_; try with_reducible exact True.intro)) (by (refine ew5 @B0 @B1 @lq @lfs @fc ?_; try with_reducible exact True.intro)) ?_
  intro r σ2 os g
  replace B0 := (g.old 0 (by omega)).trans B0
  replace B1 := (g.old 1 (by omega)).trans B1
  replace O := O.got g (by omega)
  replace lq : 2 ≤ σ2.length := by have := g.len; omega
  obtain ⟨a1, d1, _, _, rfl, _, k1, k2⟩ := g.ow.rat_inv
  replace O := O.flat rfl
  have la := k1.leaf rfl
  have ld := k2.leaf rfl
  replace lfs := And.intro lfs (And.intro la ld)
  replace fc := And.intro fc (fun q => cells_agg (cs := [.bool x.dx.neg, a1, d1]) (by simp [la, ld, show ∀ b, V.leaf (.bool b) = true from fun _ => rfl]) q)
  clear g
  (refine ew5 @B0 @B1 @lq @lfs @fc ?_; try with_reducible exact True.intro)
  refine OwnK_got0 (po_copyRat h.d_impl_copyRat (r := x.dy) (by simp only [R.sz]; omega)) (by (refine ew5 @B0 @B1 @lq @lfs @fc ?_; try with_reducible exact True.intro)) (by (refine ew5 @B0 @B1 @lq @lfs @fc ?_; try with_reducible exact True.intro)) ?_
  intro r σ3 os g
  replace B0 := (g.old 0 (by omega)).trans B0
  replace B1 := (g.old 1 (by omega)).trans B1
  replace O := O.got g (by omega)
  replace lq : 2 ≤ σ3.length := by have := g.len; omega
  obtain ⟨a2, d2, _, _, rfl, _, k1, k2⟩ := g.ow.rat_inv
  replace O := O.flat rfl
  have la := k1.leaf rfl
  have ld := k2.leaf rfl
  replace lfs := And.intro lfs (And.intro la ld)
  replace fc := And.intro fc (fun q => cells_agg (cs := [.bool x.dy.neg, a2, d2]) (by simp [la, ld, show ∀ b, V.leaf (.bool b) = true from fun _ => rfl]) q)
  clear g
  (refine ew5 @B0 @B1 @lq @lfs @fc ?_; try with_reducible exact True.intro)
  refine ⟨by unfold OkA; decide +kernel, ?_⟩
  (refine ew1 @lq ?_; try with_reducible exact True.intro)
  exact (O.set (by decide)).fin
end Go.Ml
end
section
set_option linter.unusedSimpArgs false
set_option linter.unusedVariables false
set_option maxRecDepth 100000
set_option maxHeartbeats 8000000
namespace Go.Ml
def F_spec_l06Squares : Fn := ⟨2, 12, [.cell 4 3 true], (.seq (.reg false 3 [oN 2 (.box (.t 0)), oK 3 1 (.box (.t 1)), oK 4 2 (.alloc [.bool false, .nils, .nils])]) (.seq (.reg true 0 [oN 5 (.load 3 true (.t 2)), oN 6 (.load 3 true (.t 2)), oA 7 0 (.call 201 [(.t 5), (.t 6)]) [0, 1], oN 8 (.load 3 true (.t 3)), oN 9 (.load 3 true (.t 3)), oA 10 0 (.call 201 [(.t 8), (.t 9)]) [3, 4, 2], oA 11 0 (.call 189 [(.t 7), (.t 10)]) [2, 5, 5], ⟨none, none, 0, .store 3 (.t 4) (.t 11), [6, 6, 0, 1, 2, 3, 4, 5, 6]⟩]) .ret))⟩
structure D_spec_l06Squares (T : Nat → Option Fn) : Prop where
  hT : T 202 = some F_spec_l06Squares
  d_spec_RatAdd : D_spec_RatAdd T
  d_spec_RatMul : D_spec_RatMul T
def F_spec_NewLink : Fn := ⟨5, 59, [.cell 10 11 true, .tmp 11], (.seq (.reg false 1 [oN 10 (.alloc [.int .i64 0, .int .i64 0, .bool false, .nils, .nils, .bool false, .nils, .nils, .bool false, .nils, .nils]), oK 11 1 (.mov (.c (.bool false)))]) (.seq (.seq (.reg false 0 [oN 12 (oV 0), oN 13 (.call 34 [(.t 12)]), oN 14 (.un .not (.t 13)), oN 15 (oV 14), oG 15 false 16 (oV 1), oG 15 false 17 (.call 34 [(.t 16)]), oG 15 false 18 (.un .not (.t 17)), oN 19 (.pick (.t 15) (.c (.bool true)) (.t 18)), oN 20 (oV 19), oG 20 false 21 (oV 0), oG 20 false 22 (oV 1), oG 20 false 23 (.bin .eql (.t 21) (.t 22)), oN 24 (.pick (.t 20) (.c (.bool true)) (.t 23)), oN 25 (oV 24), oG 25 false 26 (oV 2), oG 25 false 27 (.call 35 [(.t 26), (cI 1), (cI 9999)]), oG 25 false 28 (.un .not (.t 27)), oN 29 (.pick (.t 25) (.c (.bool true)) (.t 28)), oN 30 (oV 29), oG 30 false 31 (oV 3), oG 30 false 32 (.call 35 [(.t 31), (cI (-1000000)), (cI 1000000)]), oG 30 false 33 (.un .not (.t 32)), oN 34 (.pick (.t 30) (.c (.bool true)) (.t 33)), oN 35 (oV 34), oG 35 false 36 (oV 4), oG 35 false 37 (.call 35 [(.t 36), (cI (-1000000)), (cI 1000000)]), oG 35 false 38 (.un .not (.t 37)), oN 39 (.pick (.t 35) (.c (.bool true)) (.t 38))]) (.cond (.t 39) (.seq (.reg false 0 [oN 40 (.build [.int .i64 0, .int .i64 0, .bool false, .nils, .nils, .bool false, .nils, .nils, .bool false, .nils, .nils] []), oS (.store 11 (.t 10) (.t 40)), oN 11 (.mov (.c (.bool false)))]) .ret) .skip)) (.seq (.seq (.reg false 0 [oN 41 (oV 0), oN 42 (oV 1), oN 43 (.bin .gtr (.t 41) (.t 42))]) (.cond (.t 43) (.reg false 0 [oN 44 (oV 1), oN 45 (oV 0), oN 46 (oV 3), oN 47 (.un .neg (.t 46)), oN 48 (oV 4), oN 49 (.un .neg (.t 48)), oN 0 (oV 44), oN 1 (oV 45), oN 3 (oV 47), oN 4 (oV 49)]) .skip)) (.seq (.reg false 0 [oN 50 (oV 0), oN 51 (oV 1), oN 52 (oV 2), oN 53 (.call 36 [(.t 52)]), oN 54 (oV 3), oN 55 (.call 36 [(.t 54)]), oN 56 (oV 4), oN 57 (.call 36 [(.t 56)]), oN 58 (.build [.int .i64 0, .int .i64 0, .bool false, .nils, .nils, .bool false, .nils, .nils, .bool false, .nils, .nils] [(0, 1, (.t 50)), (1, 1, (.t 51)), (2, 3, (.t 53)), (5, 3, (.t 55)), (8, 3, (.t 57))]), oS (.store 11 (.t 10) (.t 58)), oN 11 (.mov (.c (.bool true)))]) .ret))))⟩
structure D_spec_NewLink (T : Nat → Option Fn) : Prop where
  hT : T 14 = some F_spec_NewLink
  d_spec_l06Node : D_spec_l06Node T
  d_spec_l01In : D_spec_l01In T
  d_spec_RatFromInt : D_spec_RatFromInt T
end Go.Ml
end
section
set_option linter.unusedSimpArgs false
namespace Go.Ml
theorem sgnR_ok {r : R} (h : 0 < sgnR r) : r.ok = true := by
  rw [ok_iff]; intro e; unfold sgnR at h; rw [e] at h; simp [signQ] at h
def inB (a lo hi : Int) : Bool := decide (lo ≤ a) && decide (a ≤ hi)
def paAt (c : Cd) (i : Nat) : Bool :=
  inB (c.ps.getD i default).node 0 9 && !decide ((c.ps.getD i default).node = c.node) && (decide (i = 0) || decide ((c.ps.getD (i - 1) default).node < (c.ps.getD i default).node)) &&
    decide (0 < sgnR (c.ps.getD i default).share) && (c.ps.getD i default).dx.ok && (c.ps.getD i default).dy.ok
def sumS (l : List Pa) (n : Nat) : R := (l.take n).foldl (fun s p => addR s p.share) (intR 0)
def paOk (c : Cd) : Prop := ∀ i, i < c.ps.length → paAt c i = true
instance (c : Cd) : Decidable (paOk c) := inferInstanceAs (Decidable (∀ i, i < c.ps.length → paAt c i = true))
def cdOk (c : Cd) : Bool := decide (paOk c) && inB c.node 1 9 && decide (0 < sgnR c.total) && !c.ps.isEmpty && decide (sumS c.ps c.ps.length = intR 1)
end Go.Ml
end
section
set_option linter.unusedSimpArgs false
set_option linter.unusedVariables false
set_option maxRecDepth 100000
set_option maxHeartbeats 8000000
namespace Go.Ml
def sqR (x y : R) : R := addR (mulR x x) (mulR y y)
theorem sqR_cn (x y : R) : (sqR x y).cn := addR_cn _ _
theorem c_l06Squares {T : Nat → Option Fn} (h : D_spec_l06Squares T) {x y : R} (hx : x.wf := by first | with_reducible assumption | exact cn_wf (by first | with_reducible assumption | with_reducible exact addR_cn _ _ | with_reducible exact subR_cn _ _ | with_reducible exact mulR_cn _ _ | with_reducible exact divR_cn _ _ | with_reducible exact negR_cn _ | with_reducible exact cn_0 | with_reducible exact intR_cn (by decide))) (hy : y.wf := by first | with_reducible assumption | exact cn_wf (by first | with_reducible assumption | with_reducible exact addR_cn _ _ | with_reducible exact subR_cn _ _ | with_reducible exact mulR_cn _ _ | with_reducible exact divR_cn _ _ | with_reducible exact negR_cn _ | with_reducible exact cn_0 | with_reducible exact intR_cn (by decide))) : PF T 202 [ratV x, ratV y] (ratV (sqR x y)) := by
  refine pf_endL (fun _ _ => false) h.hT rfl rfl ?_
  dsimp only [F_spec_l06Squares, oN, oS, oG, oK, oA, oH, oV, cI]
  (refine ev ?_; try with_reducible exact True.intro)
  refine PFK_of (c_sRatMul h.d_spec_RatMul hx hx) ?_
  (refine ev ?_; try with_reducible exact True.intro)
  refine PFK_of (c_sRatMul h.d_spec_RatMul hy hy) ?_
  (refine ev ?_; try with_reducible exact True.intro)
  refine PFK_of (c_sRatAdd h.d_spec_RatAdd (by first | with_reducible assumption | exact cn_wf (by first | with_reducible assumption | with_reducible exact addR_cn _ _ | with_reducible exact subR_cn _ _ | with_reducible exact mulR_cn _ _ | with_reducible exact divR_cn _ _ | with_reducible exact negR_cn _ | with_reducible exact cn_0 | with_reducible exact intR_cn (by decide))) (by first | with_reducible assumption | exact cn_wf (by first | with_reducible assumption | with_reducible exact addR_cn _ _ | with_reducible exact subR_cn _ _ | with_reducible exact mulR_cn _ _ | with_reducible exact divR_cn _ _ | with_reducible exact negR_cn _ | with_reducible exact cn_0 | with_reducible exact intR_cn (by decide)))) ?_
  (refine ev ?_; try with_reducible exact True.intro)
  refine ⟨by unfold OkA; decide +kernel, ?_⟩
  exact laxV_refl _
theorem lkOk_ok {l : Lk} (h : lkOk l = true) : l.w.ok = true ∧ l.dx.ok = true ∧ l.dy.ok = true ∧ 0 < sgnR l.w := by
  unfold lkOk at h
  simp only [Bool.and_eq_true, decide_eq_true_eq] at h
  exact ⟨sgnR_ok h.1.1.2, h.1.2, h.2, h.1.1.2⟩
theorem lkOk_cn {l : Lk} (h : lkOk l = true) : l.w.cn ∧ l.dx.cn ∧ l.dy.cn := by
  obtain ⟨a, b, c, _⟩ := lkOk_ok h
  exact ⟨cn_ok a, cn_ok b, cn_ok c⟩
end Go.Ml
end
section
set_option linter.unusedSimpArgs false
set_option linter.unusedVariables false
set_option maxRecDepth 100000
set_option maxHeartbeats 4000000
namespace Go.Ml
def F_impl_comesBefore : Fn := ⟨2, 24, [.tmp 4], (.seq (.reg false 2 [oN 2 (.box (.t 0)), oK 3 1 (.box (.t 1)), oK 4 2 (.mov (.c (.bool false)))]) (.seq (.reg false 0 [oN 5 (.fld 0 (.t 2)), oN 6 (.load 1 false (.t 5)), oN 7 (.fld 0 (.t 3)), oN 8 (.load 1 false (.t 7)), oN 9 (.bin .lss (.t 6) (.t 8)), oN 10 (oV 9), oG 10 false 11 (.fld 0 (.t 2)), oG 10 false 12 (.load 1 false (.t 11)), oG 10 false 13 (.fld 0 (.t 3)), oG 10 false 14 (.load 1 false (.t 13)), oG 10 false 15 (.bin .eql (.t 12) (.t 14)), oG 10 false 16 (oV 15), oG 16 true 17 (.fld 1 (.t 2)), oG 16 true 18 (.load 1 false (.t 17)), oG 16 true 19 (.fld 1 (.t 3)), oG 16 true 20 (.load 1 false (.t 19)), oG 16 true 21 (.bin .lss (.t 18) (.t 20)), oG 10 false 22 (.pick (.t 16) (.t 21) (.c (.bool false))), oN 23 (.pick (.t 10) (.c (.bool true)) (.t 22)), oN 4 (oV 23)]) .ret))⟩
structure D_impl_comesBefore (T : Nat → Option Fn) : Prop where
  hT : T 111 = some F_impl_comesBefore
def F_impl_IsLinkSet : Fn := ⟨1, 30, [.tmp 2], (.seq (.reg false 0 [oN 2 (.mov (.c (.bool false)))]) (.seq (.seq (.reg false 0 [oN 5 (oV 0), oN 6 (.len (.t 5)), oN 7 (.mov (cI 0))]) (.block 0 (.loop (.seq (.reg false 0 [oN 8 (.bin .lss (.t 7) (.t 6))]) (.seq (.cond (.t 8) .skip (.exit 0)) (.seq (.block 1 (.seq (.reg false 1 [oK 9 1 (oV 7), oK 10 1 (.idx 11 (.t 5) (.t 7)), oK 11 1 (.load 11 true (.t 10)), oN 4 (.alloc [.int .i64 0, .int .i64 0, .bool false, .nils, .nils, .bool false, .nils, .nils, .bool false, .nils, .nils]), oK 3 1 (oV 9), ⟨none, none, 1, .store 11 (.t 4) (.t 11), []⟩]) (.seq (.reg true 0 [oN 12 (.load 11 true (.t 4)), oA 13 0 (.call 84 [(.t 12)]) [0], oA 14 0 (.un .not (.t 13)) [1], oA 15 0 (oV 14) [2, 1], oH 15 false 16 0 (oV 3) [3], oH 15 false 17 0 (.bin .gtr (.t 16) (cI 0)) [4, 3], oH 15 false 18 0 (oV 17) [5, 3, 3], oH 18 true 19 0 (oV 0) [6], oH 18 true 20 0 (oV 3) [6], oH 18 true 21 0 (.bin .sub (.t 20) (cI 1)) [8, 6], oH 18 true 22 0 (.idx 11 (.t 19) (.t 21)) [7, 9, 6], oH 18 true 23 0 (.load 11 true (.t 22)) [10, 6], oH 18 true 24 0 (.load 11 true (.t 4)) [6], oH 18 true 25 0 (.call 111 [(.t 23), (.t 24)]) [11, 12, 6, 6], oH 18 true 26 0 (.un .not (.t 25)) [13, 6], oH 15 false 27 0 (.pick (.t 18) (.t 26) (.c (.bool false))) [6, 14, 3], oA 28 0 (.pick (.t 15) (.c (.bool true)) (.t 27)) [3, 15]]) (.cond (.t 28) (.seq (.reg false 0 [oN 2 (.mov (.c (.bool false)))]) .ret) .skip)))) (.reg false 0 [oN 29 (.bin .add (.t 7) (cI 1)), oN 7 (oV 29)]))))))) (.seq (.reg false 0 [oN 2 (.mov (.c (.bool true)))]) .ret)))⟩
structure D_impl_IsLinkSet (T : Nat → Option Fn) : Prop where
  hT : T 89 = some F_impl_IsLinkSet
  d_impl_IsValidLink : D_impl_IsValidLink T
  d_impl_comesBefore : D_impl_comesBefore T
def F_spec_l06Less : Fn := ⟨2, 24, [.tmp 4], (.seq (.reg false 2 [oN 2 (.box (.t 0)), oK 3 1 (.box (.t 1)), oK 4 2 (.mov (.c (.bool false)))]) (.seq (.reg false 0 [oN 5 (.fld 0 (.t 2)), oN 6 (.load 1 false (.t 5)), oN 7 (.fld 0 (.t 3)), oN 8 (.load 1 false (.t 7)), oN 9 (.bin .lss (.t 6) (.t 8)), oN 10 (oV 9), oG 10 false 11 (.fld 0 (.t 2)), oG 10 false 12 (.load 1 false (.t 11)), oG 10 false 13 (.fld 0 (.t 3)), oG 10 false 14 (.load 1 false (.t 13)), oG 10 false 15 (.bin .eql (.t 12) (.t 14)), oG 10 false 16 (oV 15), oG 16 true 17 (.fld 1 (.t 2)), oG 16 true 18 (.load 1 false (.t 17)), oG 16 true 19 (.fld 1 (.t 3)), oG 16 true 20 (.load 1 false (.t 19)), oG 16 true 21 (.bin .lss (.t 18) (.t 20)), oG 10 false 22 (.pick (.t 16) (.t 21) (.c (.bool false))), oN 23 (.pick (.t 10) (.c (.bool true)) (.t 22)), oN 4 (oV 23)]) .ret))⟩
structure D_spec_l06Less (T : Nat → Option Fn) : Prop where
  hT : T 195 = some F_spec_l06Less
def F_spec_IsLinkSet : Fn := ⟨1, 30, [.tmp 2], (.seq (.reg false 0 [oN 2 (.mov (.c (.bool false)))]) (.seq (.seq (.reg false 0 [oN 5 (oV 0), oN 6 (.len (.t 5)), oN 7 (.mov (cI 0))]) (.block 0 (.loop (.seq (.reg false 0 [oN 8 (.bin .lss (.t 7) (.t 6))]) (.seq (.cond (.t 8) .skip (.exit 0)) (.seq (.block 1 (.seq (.reg false 1 [oK 9 1 (oV 7), oK 10 1 (.idx 11 (.t 5) (.t 7)), oK 11 1 (.load 11 true (.t 10)), oN 4 (.alloc [.int .i64 0, .int .i64 0, .bool false, .nils, .nils, .bool false, .nils, .nils, .bool false, .nils, .nils]), oK 3 1 (oV 9), ⟨none, none, 1, .store 11 (.t 4) (.t 11), []⟩]) (.seq (.reg true 0 [oN 12 (.load 11 true (.t 4)), oA 13 0 (.call 83 [(.t 12)]) [0], oA 14 0 (.un .not (.t 13)) [1], oA 15 0 (oV 14) [2, 1], oH 15 false 16 0 (oV 3) [3], oH 15 false 17 0 (.bin .gtr (.t 16) (cI 0)) [4, 3], oH 15 false 18 0 (oV 17) [5, 3, 3], oH 18 true 19 0 (oV 0) [6], oH 18 true 20 0 (oV 3) [6], oH 18 true 21 0 (.bin .sub (.t 20) (cI 1)) [8, 6], oH 18 true 22 0 (.idx 11 (.t 19) (.t 21)) [7, 9, 6], oH 18 true 23 0 (.load 11 true (.t 22)) [10, 6], oH 18 true 24 0 (.load 11 true (.t 4)) [6], oH 18 true 25 0 (.call 195 [(.t 23), (.t 24)]) [11, 12, 6, 6], oH 18 true 26 0 (.un .not (.t 25)) [13, 6], oH 15 false 27 0 (.pick (.t 18) (.t 26) (.c (.bool false))) [6, 14, 3], oA 28 0 (.pick (.t 15) (.c (.bool true)) (.t 27)) [3, 15]]) (.cond (.t 28) (.seq (.reg false 0 [oN 2 (.mov (.c (.bool false)))]) .ret) .skip)))) (.reg false 0 [oN 29 (.bin .add (.t 7) (cI 1)), oN 7 (oV 29)]))))))) (.seq (.reg false 0 [oN 2 (.mov (.c (.bool true)))]) .ret)))⟩
structure D_spec_IsLinkSet (T : Nat → Option Fn) : Prop where
  hT : T 193 = some F_spec_IsLinkSet
  d_spec_IsValidLink : D_spec_IsValidLink T
  d_spec_l06Less : D_spec_l06Less T
def lkLess (k l : Lk) : Bool := decide (k.a < l.a) || (decide (k.a = l.a) && decide (k.b < l.b))
theorem c_comesBefore {T : Nat → Option Fn} (h : D_impl_comesBefore T) {k l : Lk} : PF T 111 [lkV k, lkV l] (.bool (lkLess k l)) := by
  unfold lkLess
  by_cases h1 : k.a < l.a
  · simp only [h1, decide_true, Bool.true_or]
    refine pf_end (fun _ _ => false) h.hT rfl rfl ?_
    dsimp only [F_impl_comesBefore, oN, oS, oG, oK, oA, oH, oV, cI]
    (refine ev ?_; try with_reducible exact True.intro)
    (refine ev1 @h1 ?_; try with_reducible exact True.intro)
  · by_cases h2 : k.a = l.a
    · simp only [h2, Int.lt_irrefl, decide_true, decide_false, Bool.true_and, Bool.false_or]
      refine pf_end (fun _ _ => false) h.hT rfl rfl ?_
      dsimp only [F_impl_comesBefore, oN, oS, oG, oK, oA, oH, oV, cI]
      (refine ev ?_; try with_reducible exact True.intro)
      (refine ev2 @h2 @Int.lt_irrefl ?_; try with_reducible exact True.intro)
    · simp only [h1, h2, decide_false, Bool.false_and, Bool.false_or]
      refine pf_end (fun _ _ => false) h.hT rfl rfl ?_
      dsimp only [F_impl_comesBefore, oN, oS, oG, oK, oA, oH, oV, cI]
      (refine ev ?_; try with_reducible exact True.intro)
      (refine ev2 @h1 @h2 ?_; try with_reducible exact True.intro)
theorem c_l06Less {T : Nat → Option Fn} (h : D_spec_l06Less T) {k l : Lk} : PF T 195 [lkV k, lkV l] (.bool (lkLess k l)) := by
  unfold lkLess
  by_cases h1 : k.a < l.a
  · simp only [h1, decide_true, Bool.true_or]
    refine pf_end (fun _ _ => false) h.hT rfl rfl ?_
    dsimp only [F_spec_l06Less, oN, oS, oG, oK, oA, oH, oV, cI]
    (refine ev ?_; try with_reducible exact True.intro)
    (refine ev1 @h1 ?_; try with_reducible exact True.intro)
  · by_cases h2 : k.a = l.a
    · simp only [h2, Int.lt_irrefl, decide_true, decide_false, Bool.true_and, Bool.false_or]
      refine pf_end (fun _ _ => false) h.hT rfl rfl ?_
      dsimp only [F_spec_l06Less, oN, oS, oG, oK, oA, oH, oV, cI]
      (refine ev ?_; try with_reducible exact True.intro)
      (refine ev2 @h2 @Int.lt_irrefl ?_; try with_reducible exact True.intro)
    · simp only [h1, h2, decide_false, Bool.false_and, Bool.false_or]
      refine pf_end (fun _ _ => false) h.hT rfl rfl ?_
      dsimp only [F_spec_l06Less, oN, oS, oG, oK, oA, oH, oV, cI]
      (refine ev ?_; try with_reducible exact True.intro)
      (refine ev2 @h1 @h2 ?_; try with_reducible exact True.intro)
def allB (n : Nat) (p : Nat → Bool) : Bool := decide (∀ i, i < n → p i = true)
theorem allB_t {n : Nat} {p : Nat → Bool} (h : ∀ i, i < n → p i = true) : allB n p = true := decide_eq_true h
theorem allB_f {n : Nat} {p : Nat → Bool} {i : Nat} (hi : i < n) (h : p i = false) : allB n p = false := decide_eq_false fun k => by rw [k i hi] at h; cases h
theorem allB_iff {n : Nat} {p : Nat → Bool} : allB n p = true ↔ ∀ i, i < n → p i = true := by simp [allB]
def lksAt (l : List Lk) (i : Nat) : Bool := lkOk (l.getD i default) && (decide (i = 0) || lkLess (l.getD (i - 1) default) (l.getD i default))
def lksOk (l : List Lk) : Bool := allB l.length (lksAt l)
theorem c_iIsLinkSet {T : Nat → Option Fn} (h : D_impl_IsLinkSet T) {l : List Lk} (hw : wfL Lk.wf l := by first | omega | assumption | (simp; omega)) : PF T 89 [lksV l] (.bool (lksOk l)) := by
  have hlen := hw.1
  refine pf_end (fun _ _ => false) h.hT rfl rfl ?_
  dsimp only [F_impl_IsLinkSet, oN, oS, oG, oK, oA, oH, oV, cI]
  (refine ev ?_; try with_reducible exact True.intro)
  refine loop_at (fun _ _ => false) (α := Nat) (fun i => ⟨argE [lksV l, .any, .bool false, .any, .any, lksV l, iv (l.length : Nat), iv (i : Nat)], [], 0, 0, [], []⟩) (fun i => i ≤ l.length ∧ ∀ j, j < i → lksAt l j = true) (fun i => l.length - i) rfl 0 ?_ ?_ ?_
  · exact ⟨by omega, by intro j hj; omega⟩
  · first | ((refine Fg_env ?_) <;> (try (refine ev ?_; try with_reducible exact True.intro)) <;> (repeat' (first | refine ⟨?_, ?_⟩ | exact EvV_int (by omega) | exact EvV_of (by simp) | exact EvV_nil _)); done) | ((refine Fg_re [] (by simp) (by intro p hp; cases hp) rfl ?_) <;> (try (refine ev ?_; try with_reducible exact True.intro)) <;> (repeat' (first | exact True.intro | omega | exact CanE_ptr rfl (by simp) | refine ⟨?_, ?_⟩ | exact of_eq_true (CanE_nil _ _ _) | exact CanE_of rfl (by simp; done) | exact CanE_of rfl rfl | (refine CanE_msl rfl ?_ rfl; simp [irows]; done) | (refine CanE_msl rfl ?_ rfl; simp [irows]; omega) | (refine CanE_frz ?_ ?_; (focus ((refine ev ?_; try with_reducible exact True.intro); done)); (intro q hq k s0 l0; simp; done)))); done)
  · rintro i ⟨hi, hj⟩
    (refine ev ?_; try with_reducible exact True.intro)
    refine brK_dec (fun hc => ?_) fun hc => ?_ <;> (refine ev2 @hc @mg ?_; try with_reducible exact True.intro)
    · have hil : i < l.length := by omega
      have cv := c_iIsValidLink h.d_impl_IsValidLink (l := l.getD i default) (hw.at_ hil)
      have cb := c_comesBefore h.d_impl_comesBefore (k := l.getD (i - 1) default) (l := l.getD i default)
      cases hv : lkOk (l.getD i default)
      · rw [hv] at cv
        refine PFK_of cv ?_
        (refine ev ?_; try with_reducible exact True.intro)
        have : lksOk l = false := allB_f hil (by simp only [lksAt, hv, Bool.false_and])
        rw [this]
      · rw [hv] at cv
        refine PFK_of cv ?_
        by_cases h0 : i = 0
        · have h0' : ¬ (0 : Int) < (i : Nat) := by omega
          (refine ev1 @h0' ?_; try with_reducible exact True.intro)
          refine ⟨i + 1, by omega, ⟨by omega, fun j hj' => ?_⟩, by first | ((refine Fg_env ?_) <;> (try (refine ev ?_; try with_reducible exact True.intro)) <;> (repeat' (first | refine ⟨?_, ?_⟩ | exact EvV_int (by omega) | exact EvV_of (by simp) | exact EvV_nil _)); done) | ((refine Fg_re [] (by simp) (by intro p hp; cases hp) rfl ?_) <;> (try (refine ev ?_; try with_reducible exact True.intro)) <;> (repeat' (first | exact True.intro | omega | exact CanE_ptr rfl (by simp) | refine ⟨?_, ?_⟩ | exact of_eq_true (CanE_nil _ _ _) | exact CanE_of rfl (by simp; done) | exact CanE_of rfl rfl | (refine CanE_msl rfl ?_ rfl; simp [irows]; done) | (refine CanE_msl rfl ?_ rfl; simp [irows]; omega) | (refine CanE_frz ?_ ?_; (focus ((refine ev ?_; try with_reducible exact True.intro); done)); (intro q hq k s0 l0; simp; done)))); done)⟩
          have : j = i := by omega
          subst this; unfold lksAt; rw [hv, decide_eq_true h0]; rfl
        · have h0' : (0 : Int) < (i : Nat) := by omega
          have e1 : ((i : Int) - 1).toNat = i - 1 := by omega
          cases hb : lkLess (l.getD (i - 1) default) (l.getD i default)
          · rw [hb] at cb
            (refine ev3 @h0' @mg @e1 ?_; try with_reducible exact True.intro)
            refine PFK_of cb ?_
            (refine ev ?_; try with_reducible exact True.intro)
            have : lksOk l = false := allB_f hil (by simp only [lksAt, hv, hb, h0, decide_false, Bool.or_self, Bool.and_false])
            rw [this]
          · rw [hb] at cb
            (refine ev3 @h0' @mg @e1 ?_; try with_reducible exact True.intro)
            refine PFK_of cb ?_
            (refine ev ?_; try with_reducible exact True.intro)
            refine ⟨i + 1, by omega, ⟨by omega, fun j hj' => ?_⟩, by first | ((refine Fg_env ?_) <;> (try (refine ev ?_; try with_reducible exact True.intro)) <;> (repeat' (first | refine ⟨?_, ?_⟩ | exact EvV_int (by omega) | exact EvV_of (by simp) | exact EvV_nil _)); done) | ((refine Fg_re [] (by simp) (by intro p hp; cases hp) rfl ?_) <;> (try (refine ev ?_; try with_reducible exact True.intro)) <;> (repeat' (first | exact True.intro | omega | exact CanE_ptr rfl (by simp) | refine ⟨?_, ?_⟩ | exact of_eq_true (CanE_nil _ _ _) | exact CanE_of rfl (by simp; done) | exact CanE_of rfl rfl | (refine CanE_msl rfl ?_ rfl; simp [irows]; done) | (refine CanE_msl rfl ?_ rfl; simp [irows]; omega) | (refine CanE_frz ?_ ?_; (focus ((refine ev ?_; try with_reducible exact True.intro); done)); (intro q hq k s0 l0; simp; done)))); done)⟩
            by_cases e : j = i
            · subst e; simp only [lksAt, hv, hb, Bool.or_true, Bool.and_self]
            · exact hj j (by omega)
    · have : lksOk l = true := allB_t fun j hj' => hj j (by omega)
      rw [this]
theorem c_sIsLinkSet {T : Nat → Option Fn} (h : D_spec_IsLinkSet T) {l : List Lk} (hw : wfL Lk.wf l := by first | omega | assumption | (simp; omega)) : PF T 193 [lksV l] (.bool (lksOk l)) := by
  have hlen := hw.1
  refine pf_end (fun _ _ => false) h.hT rfl rfl ?_
  dsimp only [F_spec_IsLinkSet, oN, oS, oG, oK, oA, oH, oV, cI]
  (refine ev ?_; try with_reducible exact True.intro)
  refine loop_at (fun _ _ => false) (α := Nat) (fun i => ⟨argE [lksV l, .any, .bool false, .any, .any, lksV l, iv (l.length : Nat), iv (i : Nat)], [], 0, 0, [], []⟩) (fun i => i ≤ l.length ∧ ∀ j, j < i → lksAt l j = true) (fun i => l.length - i) rfl 0 ?_ ?_ ?_
  · exact ⟨by omega, by intro j hj; omega⟩
  · first | ((refine Fg_env ?_) <;> (try (refine ev ?_; try with_reducible exact True.intro)) <;> (repeat' (first | refine ⟨?_, ?_⟩ | exact EvV_int (by omega) | exact EvV_of (by simp) | exact EvV_nil _)); done) | ((refine Fg_re [] (by simp) (by intro p hp; cases hp) rfl ?_) <;> (try (refine ev ?_; try with_reducible exact True.intro)) <;> (repeat' (first | exact True.intro | omega | exact CanE_ptr rfl (by simp) | refine ⟨?_, ?_⟩ | exact of_eq_true (CanE_nil _ _ _) | exact CanE_of rfl (by simp; done) | exact CanE_of rfl rfl | (refine CanE_msl rfl ?_ rfl; simp [irows]; done) | (refine CanE_msl rfl ?_ rfl; simp [irows]; omega) | (refine CanE_frz ?_ ?_; (focus ((refine ev ?_; try with_reducible exact True.intro); done)); (intro q hq k s0 l0; simp; done)))); done)
  · rintro i ⟨hi, hj⟩
    (refine ev ?_; try with_reducible exact True.intro)
    refine brK_dec (fun hc => ?_) fun hc => ?_ <;> (refine ev2 @hc @mg ?_; try with_reducible exact True.intro)
    · have hil : i < l.length := by omega
      have cv := c_sIsValidLink h.d_spec_IsValidLink (l := l.getD i default) (hw.at_ hil)
      have cb := c_l06Less h.d_spec_l06Less (k := l.getD (i - 1) default) (l := l.getD i default)
      cases hv : lkOk (l.getD i default)
      · rw [hv] at cv
        refine PFK_of cv ?_
        (refine ev ?_; try with_reducible exact True.intro)
        have : lksOk l = false := allB_f hil (by simp only [lksAt, hv, Bool.false_and])
        rw [this]
      · rw [hv] at cv
        refine PFK_of cv ?_
        by_cases h0 : i = 0
        · have h0' : ¬ (0 : Int) < (i : Nat) := by omega
          (refine ev1 @h0' ?_; try with_reducible exact True.intro)
          refine ⟨i + 1, by omega, ⟨by omega, fun j hj' => ?_⟩, by first | ((refine Fg_env ?_) <;> (try (refine ev ?_; try with_reducible exact True.intro)) <;> (repeat' (first | refine ⟨?_, ?_⟩ | exact EvV_int (by omega) | exact EvV_of (by simp) | exact EvV_nil _)); done) | ((refine Fg_re [] (by simp) (by intro p hp; cases hp) rfl ?_) <;> (try (refine ev ?_; try with_reducible exact True.intro)) <;> (repeat' (first | exact True.intro | omega | exact CanE_ptr rfl (by simp) | refine ⟨?_, ?_⟩ | exact of_eq_true (CanE_nil _ _ _) | exact CanE_of rfl (by simp; done) | exact CanE_of rfl rfl | (refine CanE_msl rfl ?_ rfl; simp [irows]; done) | (refine CanE_msl rfl ?_ rfl; simp [irows]; omega) | (refine CanE_frz ?_ ?_; (focus ((refine ev ?_; try with_reducible exact True.intro); done)); (intro q hq k s0 l0; simp; done)))); done)⟩
          have : j = i := by omega
          subst this; unfold lksAt; rw [hv, decide_eq_true h0]; rfl
        · have h0' : (0 : Int) < (i : Nat) := by omega
          have e1 : ((i : Int) - 1).toNat = i - 1 := by omega
          cases hb : lkLess (l.getD (i - 1) default) (l.getD i default)
          · rw [hb] at cb
            (refine ev3 @h0' @mg @e1 ?_; try with_reducible exact True.intro)
            refine PFK_of cb ?_
            (refine ev ?_; try with_reducible exact True.intro)
            have : lksOk l = false := allB_f hil (by simp only [lksAt, hv, hb, h0, decide_false, Bool.or_self, Bool.and_false])
            rw [this]
          · rw [hb] at cb
            (refine ev3 @h0' @mg @e1 ?_; try with_reducible exact True.intro)
            refine PFK_of cb ?_
            (refine ev ?_; try with_reducible exact True.intro)
            refine ⟨i + 1, by omega, ⟨by omega, fun j hj' => ?_⟩, by first | ((refine Fg_env ?_) <;> (try (refine ev ?_; try with_reducible exact True.intro)) <;> (repeat' (first | refine ⟨?_, ?_⟩ | exact EvV_int (by omega) | exact EvV_of (by simp) | exact EvV_nil _)); done) | ((refine Fg_re [] (by simp) (by intro p hp; cases hp) rfl ?_) <;> (try (refine ev ?_; try with_reducible exact True.intro)) <;> (repeat' (first | exact True.intro | omega | exact CanE_ptr rfl (by simp) | refine ⟨?_, ?_⟩ | exact of_eq_true (CanE_nil _ _ _) | exact CanE_of rfl (by simp; done) | exact CanE_of rfl rfl | (refine CanE_msl rfl ?_ rfl; simp [irows]; done) | (refine CanE_msl rfl ?_ rfl; simp [irows]; omega) | (refine CanE_frz ?_ ?_; (focus ((refine ev ?_; try with_reducible exact True.intro); done)); (intro q hq k s0 l0; simp; done)))); done)⟩
            by_cases e : j = i
            · subst e; simp only [lksAt, hv, hb, Bool.or_true, Bool.and_self]
            · exact hj j (by omega)
    · have : lksOk l = true := allB_t fun j hj' => hj j (by omega)
      rw [this]
end Go.Ml
end
section
set_option linter.unusedSimpArgs false
namespace Go.Ml
def putI : List Int → Int → List Int
  | [], n => [n]
  | x :: l, n => if x < n then x :: putI l n else if x = n then x :: l else n :: x :: l
def Asc (l : List Int) : Prop := l.Pairwise (· < ·)
theorem putI_mem {l : List Int} {n a : Int} : a ∈ putI l n ↔ a = n ∨ a ∈ l := by
  induction l with
  | nil => simp [putI]
  | cons x l ih =>
    unfold putI
    split
    · rw [List.mem_cons, ih, List.mem_cons]
      constructor
      · rintro (h | h | h) <;> simp [h]
      · rintro (h | h | h) <;> simp [h]
    · split
      · rename_i e; subst e
        constructor
        · intro h; exact .inr h
        · rintro (h | h)
          · rw [h]; simp
          · exact h
      · simp
theorem putI_asc {l : List Int} {n : Int} (h : Asc l) : Asc (putI l n) := by
  unfold Asc at *
  induction l with
  | nil => simp [putI]
  | cons x l ih =>
    rw [List.pairwise_cons] at h
    unfold putI
    split
    · rename_i hx
      rw [List.pairwise_cons]
      refine ⟨fun a ha => ?_, ih h.2⟩
      rcases putI_mem.1 ha with rfl | ha
      · exact hx
      · exact h.1 a ha
    · split
      · rw [List.pairwise_cons]; exact h
      · rename_i h1 h2
        have : n < x := by omega
        rw [List.pairwise_cons, List.pairwise_cons]
        refine ⟨fun a ha => ?_, h⟩
        rcases List.mem_cons.1 ha with rfl | ha
        · exact this
        · have := h.1 a ha; omega
theorem asc_ext : ∀ {l m : List Int}, Asc l → Asc m → (∀ a, a ∈ l ↔ a ∈ m) → l = m
  | [], [], _, _, _ => rfl
  | [], y :: m, _, _, h => absurd ((h y).2 (by simp)) (by simp)
  | x :: l, [], _, _, h => absurd ((h x).1 (by simp)) (by simp)
  | x :: l, y :: m, hl, hm, h => by
    unfold Asc at hl hm
    rw [List.pairwise_cons] at hl hm
    have e : x = y := by
      rcases List.mem_cons.1 ((h x).1 (by simp)) with h1 | h1
      · exact h1
      · rcases List.mem_cons.1 ((h y).2 (by simp)) with h2 | h2
        · exact h2.symm
        · have := hl.1 y h2; have := hm.1 x h1; omega
    subst e
    congr 1
    refine asc_ext hl.2 hm.2 fun a => ?_
    constructor
    · intro ha
      rcases List.mem_cons.1 ((h a).1 (by simp [ha])) with h1 | h1
      · have := hl.1 a ha; omega
      · exact h1
    · intro ha
      rcases List.mem_cons.1 ((h a).2 (by simp [ha])) with h1 | h1
      · have := hm.1 a ha; omega
      · exact h1
theorem nodup_le : ∀ {a b : List Int}, a.Nodup → (∀ x ∈ a, x ∈ b) → a.length ≤ b.length
  | [], b, _, _ => by simp
  | x :: a, b, hn, h => by
    rw [List.nodup_cons] at hn
    have hx := h x (by simp)
    have := nodup_le (a := a) (b := b.erase x) hn.2 fun y hy => by
      have hyx : y ≠ x := fun e => hn.1 (e ▸ hy)
      exact (List.mem_erase_of_ne hyx).2 (h y (by simp [hy]))
    rw [List.length_erase_of_mem hx] at this
    have := List.length_pos_of_mem hx
    simp only [List.length_cons]; omega
theorem asc_nodup {l : List Int} (h : Asc l) : l.Nodup := by
  unfold Asc at h
  exact h.imp fun h e => by omega
end Go.Ml
end
section
set_option linter.unusedSimpArgs false
set_option linter.unusedVariables false
set_option maxRecDepth 100000
set_option maxHeartbeats 4000000
namespace Go.Ml
def ends (l : List Lk) (v : Int) : Bool := l.any fun x => decide (x.a = v) || decide (x.b = v)
def nodesI (l : List Lk) (v : Nat) : List Int := ((List.range v).filter fun (u : Nat) => decide (1 ≤ u) && ends l u).map fun u => ((u : Nat) : Int)
end Go.Ml
end
section
set_option linter.unusedSimpArgs false
namespace Go.Ml
def netAt (l : List Cd) (i : Nat) : Prop :=
  cdOk (l.getD i default) = true ∧ (∀ k, k < (l.getD i default).ps.length → ((l.getD i default).ps.getD k default).node = 0 ∨ ∃ j, i < j ∧ j < l.length ∧ (l.getD j default).node = ((l.getD i default).ps.getD k default).node) ∧
    ∀ j, i < j → j < l.length → (l.getD j default).node ≠ (l.getD i default).node
noncomputable instance (l : List Cd) : Decidable (∀ i, i < l.length → netAt l i) := Classical.propDecidable _
end Go.Ml
end
section
set_option linter.unusedSimpArgs false
set_option linter.unusedVariables false
set_option maxRecDepth 100000
set_option maxHeartbeats 4000000
namespace Go.Ml
def F_impl_hasInt : Fn := ⟨2, 17, [.tmp 4], (.seq (.reg false 0 [oN 4 (.mov (.c (.bool false)))]) (.seq (.seq (.reg false 0 [oN 7 (oV 0), oN 8 (.len (.t 7)), oN 9 (.mov (cI 0))]) (.block 0 (.loop (.seq (.reg false 0 [oN 10 (.bin .lss (.t 9) (.t 8))]) (.seq (.cond (.t 10) .skip (.exit 0)) (.seq (.block 1 (.seq (.reg false 0 [oN 11 (.idx 1 (.t 7) (.t 9)), oN 12 (.load 1 false (.t 11)), oN 6 (oV 12)]) (.seq (.reg false 0 [oN 13 (oV 6), oN 14 (oV 1), oN 15 (.bin .eql (.t 13) (.t 14))]) (.cond (.t 15) (.seq (.reg false 0 [oN 4 (.mov (.c (.bool true)))]) .ret) .skip)))) (.reg false 0 [oN 16 (.bin .add (.t 9) (cI 1)), oN 9 (oV 16)]))))))) (.seq (.reg false 0 [oN 4 (.mov (.c (.bool false)))]) .ret)))⟩
structure D_impl_hasInt (T : Nat → Option Fn) : Prop where
  hT : T 236 = some F_impl_hasInt
theorem c_hasInt {T : Nat → Option Fn} (h : D_impl_hasInt T) {l : List Int} {n : Int} (hl : l.length ≤ 9223372036854775807 := by first | omega | assumption | (simp; omega)) : PF T 236 [ints l, iv n] (.bool (decide (n ∈ l))) := by
  refine pf_end (fun _ _ => false) h.hT rfl rfl ?_
  dsimp only [F_impl_hasInt, oN, oS, oG, oK, oA, oH, oV, cI]
  (refine ev ?_; try with_reducible exact True.intro)
  refine loop_at (fun _ _ => false) (α := Nat) (fun i => ⟨argE [ints l, iv n, .any, .any, .bool false, .any, .any, ints l, iv (l.length : Nat), iv (i : Nat)], [], 0, 0, [], []⟩) (fun i => i ≤ l.length ∧ ∀ j, j < i → l.getD j 0 ≠ n) (fun i => l.length - i) rfl 0 ?_ ?_ ?_
  · exact ⟨by omega, by intro j hj; omega⟩
  · first | ((refine Fg_env ?_) <;> (try (refine ev ?_; try with_reducible exact True.intro)) <;> (repeat' (first | refine ⟨?_, ?_⟩ | exact EvV_int (by omega) | exact EvV_of (by simp) | exact EvV_nil _)); done) | ((refine Fg_re [] (by simp) (by intro p hp; cases hp) rfl ?_) <;> (try (refine ev ?_; try with_reducible exact True.intro)) <;> (repeat' (first | exact True.intro | omega | exact CanE_ptr rfl (by simp) | refine ⟨?_, ?_⟩ | exact of_eq_true (CanE_nil _ _ _) | exact CanE_of rfl (by simp; done) | exact CanE_of rfl rfl | (refine CanE_msl rfl ?_ rfl; simp [irows]; done) | (refine CanE_msl rfl ?_ rfl; simp [irows]; omega) | (refine CanE_frz ?_ ?_; (focus ((refine ev ?_; try with_reducible exact True.intro); done)); (intro q hq k s0 l0; simp; done)))); done)
  · rintro i ⟨hi, hj⟩
    (refine ev ?_; try with_reducible exact True.intro)
    refine brK_dec (fun hc => ?_) fun hc => ?_ <;> (refine ev1 @hc ?_; try with_reducible exact True.intro)
    · have hil : i < l.length := by omega
      by_cases he : l.getD i 0 = n
      · (refine ev1 @he ?_; try with_reducible exact True.intro)
        have : n ∈ l := by rw [← he, List.getD_eq_getElem?_getD, List.getElem?_eq_getElem hil]; exact List.getElem_mem hil
        rw [decide_eq_true this]
      · (refine ev1 @he ?_; try with_reducible exact True.intro)
        refine ⟨i + 1, by omega, ⟨by omega, fun j hj' => ?_⟩, by first | ((refine Fg_env ?_) <;> (try (refine ev ?_; try with_reducible exact True.intro)) <;> (repeat' (first | refine ⟨?_, ?_⟩ | exact EvV_int (by omega) | exact EvV_of (by simp) | exact EvV_nil _)); done) | ((refine Fg_re [] (by simp) (by intro p hp; cases hp) rfl ?_) <;> (try (refine ev ?_; try with_reducible exact True.intro)) <;> (repeat' (first | exact True.intro | omega | exact CanE_ptr rfl (by simp) | refine ⟨?_, ?_⟩ | exact of_eq_true (CanE_nil _ _ _) | exact CanE_of rfl (by simp; done) | exact CanE_of rfl rfl | (refine CanE_msl rfl ?_ rfl; simp [irows]; done) | (refine CanE_msl rfl ?_ rfl; simp [irows]; omega) | (refine CanE_frz ?_ ?_; (focus ((refine ev ?_; try with_reducible exact True.intro); done)); (intro q hq k s0 l0; simp; done)))); done)⟩
        by_cases e : j = i
        · subst e; exact he
        · exact hj j (by omega)
    · have : n ∉ l := by
        intro hm
        obtain ⟨j, hj'⟩ := List.mem_iff_getElem?.1 hm
        have hlt := (List.getElem?_eq_some_iff.1 hj').1
        refine hj j (by omega) ?_
        rw [List.getD_eq_getElem?_getD, hj']; rfl
      rw [decide_eq_false this]
end Go.Ml
end
section
set_option linter.unusedSimpArgs false
set_option linter.unusedVariables false
set_option maxRecDepth 100000
set_option maxHeartbeats 4000000
namespace Go.Ml
theorem lkOk_nd {l : Lk} (h : lkOk l = true) : 0 ≤ l.a ∧ l.a < l.b ∧ l.b ≤ 9 := by
  unfold lkOk nd at h
  simp only [Bool.and_eq_true, decide_eq_true_eq] at h
  omega
theorem lksOk_at {l : List Lk} (h : lksOk l = true) {k : Nat} (hk : k < l.length) : lkOk (l.getD k default) = true := by
  have := allB_iff.1 h k hk
  unfold lksAt at this
  simp only [Bool.and_eq_true] at this
  exact this.1
def nodesM (l : List Lk) : List Int := if lksOk l = true then nodesI l 10 else []
def ordP (l : List Lk) (o : List Int) : Prop := lksOk l = true ∧ o.length = (nodesM l).length ∧ ∀ x ∈ nodesM l, x ∈ o
instance (l : List Lk) (o : List Int) : Decidable (ordP l o) := inferInstanceAs (Decidable (_ ∧ _ ∧ _))
end Go.Ml
end
section
set_option linter.unusedSimpArgs false
set_option linter.unusedVariables false
set_option maxRecDepth 100000
set_option maxHeartbeats 4000000
namespace Go.Ml
def F_impl_neighborsOf : Fn := ⟨2, 35, [.tmp 4], (.seq (.reg false 0 [oN 4 (.mov (.c (.nils)))]) (.seq (.reg false 1 [oN 8 (.mkSl 1 [.int .i64 0] 0 []), oK 5 1 (oV 8)]) (.seq (.seq (.reg false 0 [oN 9 (oV 0), oN 10 (.len (.t 9)), oN 11 (.mov (cI 0))]) (.block 0 (.loop (.seq (.reg false 0 [oN 12 (.bin .lss (.t 11) (.t 10))]) (.seq (.cond (.t 12) .skip (.exit 0)) (.seq (.block 1 (.seq (.reg false 1 [oK 13 1 (.idx 11 (.t 9) (.t 11)), oK 14 1 (.load 11 true (.t 13)), oN 7 (.alloc [.int .i64 0, .int .i64 0, .bool false, .nils, .nils, .bool false, .nils, .nils, .bool false, .nils, .nils]), ⟨none, none, 1, .store 11 (.t 7) (.t 14), []⟩]) (.seq (.reg false 0 [oN 15 (.fld 0 (.t 7)), oN 16 (.load 1 false (.t 15)), oN 17 (oV 1), oN 18 (.bin .eql (.t 16) (.t 17))]) (.cond (.t 18) (.reg false 2 [oK 19 2 (oV 5), oK 20 2 (.fld 1 (.t 7)), oK 21 2 (.load 1 false (.t 20)), oN 22 (.mkSl 1 [.int .i64 0] 1 [(0, (.t 21))]), oK 23 1 (.app 1 8 (.t 19) (.t 22)), oK 5 2 (oV 23)]) (.seq (.reg false 0 [oN 24 (.fld 1 (.t 7)), oN 25 (.load 1 false (.t 24)), oN 26 (oV 1), oN 27 (.bin .eql (.t 25) (.t 26))]) (.cond (.t 27) (.reg false 2 [oK 28 2 (oV 5), oK 29 2 (.fld 0 (.t 7)), oK 30 2 (.load 1 false (.t 29)), oN 31 (.mkSl 1 [.int .i64 0] 1 [(0, (.t 30))]), oK 32 1 (.app 1 8 (.t 28) (.t 31)), oK 5 2 (oV 32)]) .skip)))))) (.reg false 0 [oN 33 (.bin .add (.t 11) (cI 1)), oN 11 (oV 33)]))))))) (.seq (.reg false 0 [oN 34 (oV 5), oN 4 (oV 34)]) .ret))))⟩
structure D_impl_neighborsOf (T : Nat → Option Fn) : Prop where
  hT : T 239 = some F_impl_neighborsOf
theorem lkLess_iff {k l : Lk} : lkLess k l = true ↔ k.a < l.a ∨ (k.a = l.a ∧ k.b < l.b) := by simp [lkLess]
theorem lkLess_trans {k l m : Lk} (h : lkLess k l = true) (h2 : lkLess l m = true) : lkLess k m = true := by
  rw [lkLess_iff] at *; omega
theorem lksOk_adj {l : List Lk} (h : lksOk l = true) {i : Nat} (hi : i + 1 < l.length) : lkLess (l.getD i default) (l.getD (i + 1) default) = true := by
  have := allB_iff.1 h (i + 1) hi
  unfold lksAt at this
  simp only [Bool.and_eq_true, Bool.or_eq_true, decide_eq_true_eq] at this
  rcases this.2 with h | h
  · omega
  · exact h
theorem lksOk_lt {l : List Lk} (h : lksOk l = true) : ∀ (j i : Nat), i < j → j < l.length → lkLess (l.getD i default) (l.getD j default) = true
  | 0, i, hi, _ => by omega
  | j + 1, i, hi, hj => by
    have ha := lksOk_adj h hj
    by_cases e : i = j
    · subst e; exact ha
    · exact lkLess_trans (lksOk_lt h j i (by omega) (by omega)) ha
theorem getD_get {α : Type} [Inhabited α] {l : List α} {i : Nat} (h : i < l.length) : l.getD i default = l[i] := by
  rw [List.getD_eq_getElem?_getD, List.getElem?_eq_getElem h]; rfl
theorem lksOk_pw {l : List Lk} (h : lksOk l = true) : l.Pairwise fun k l => lkLess k l = true ∧ 0 ≤ k.a ∧ k.a < k.b ∧ 0 ≤ l.a ∧ l.a < l.b := by
  rw [List.pairwise_iff_getElem]
  intro i j hi hj hij
  have h1 := lksOk_lt h j i hij hj
  have h2 := lkOk_nd (lksOk_at h hi)
  have h3 := lkOk_nd (lksOk_at h hj)
  rw [getD_get hi, getD_get hj] at h1
  rw [getD_get hi] at h2
  rw [getD_get hj] at h3
  exact ⟨h1, h2.1, h2.2.1, h3.1, h3.2.1⟩
theorem lksOk_mem {l : List Lk} (h : lksOk l = true) {x : Lk} (hx : x ∈ l) : lkOk x = true := by
  obtain ⟨i, hi⟩ := List.mem_iff_getElem?.1 hx
  have hlt := (List.getElem?_eq_some_iff.1 hi).1
  have := lksOk_at h hlt
  rwa [List.getD_eq_getElem?_getD, hi] at this
def nbOf (v : Int) (x : Lk) : Option Int := if x.a = v then some x.b else if x.b = v then some x.a else none
def nbI (l : List Lk) (v : Int) (i : Nat) : List Int := (l.take i).filterMap (nbOf v)
theorem nbI_0 (l : List Lk) (v : Int) : nbI l v 0 = [] := by simp [nbI]
theorem take_snoc {α : Type} [Inhabited α] {l : List α} {i : Nat} (h : i < l.length) : l.take (i + 1) = l.take i ++ [l.getD i default] := by
  rw [List.take_add_one, List.getElem?_eq_getElem h, List.getD_eq_getElem?_getD, List.getElem?_eq_getElem h]; rfl
theorem nbI_s (l : List Lk) (v : Int) {i : Nat} (h : i < l.length) : nbI l v (i + 1) = nbI l v i ++ (match nbOf v (l.getD i default) with | some n => [n] | none => []) := by
  unfold nbI; rw [take_snoc h, List.filterMap_append, List.filterMap_cons]
  cases nbOf v (l.getD i default) <;> rfl
theorem nbI_len (l : List Lk) (v : Int) (i : Nat) : (nbI l v i).length ≤ i := by
  unfold nbI
  exact Nat.le_trans (List.length_filterMap_le _ _) (by simp; omega)
theorem po_neighborsOf {T : Nat → Option Fn} (h : D_impl_neighborsOf T) {l : List Lk} {v : Int} (hw : wfL Lk.wf l := by first | omega | assumption | (simp; omega)) (hl : l.length ≤ 1048576 := by first | omega | assumption | (simp; omega)) : PO T 239 [lksV l, iv v] (ints (nbI l v l.length)) := by
  refine po_end2 (fun _ _ => false) h.hT rfl rfl ?_
  dsimp only [F_impl_neighborsOf, oN, oS, oG, oK, oA, oH, oV, cI, St.enter, List.length_cons, List.length_nil, Nat.zero_add]
  (refine ew ?_; try with_reducible exact True.intro)
  refine loop_at (fun _ _ => false) (α := Nat × List Int) (fun q => ⟨argE [lksV l, iv v, .any, .any, .nils, slV q.2.length, .any, .any, .any, lksV l, iv (l.length : Nat), iv (q.1 : Nat)], slS 1 (irows q.2), 0, 0, [], []⟩) (fun q => q.1 ≤ l.length ∧ q.2 = nbI l v q.1) (fun q => l.length - q.1) rfl (0, []) ?_ ?_ ?_
  · exact ⟨by omega, (nbI_0 l v).symm⟩
  · (refine Fg_re [] (by simp) (by intro p hp; cases hp) rfl ?_) <;> (try (refine ew ?_; try with_reducible exact True.intro)) <;> (repeat' (first | exact True.intro | omega | exact CanE_ptr rfl (by simp) | refine ⟨?_, ?_⟩ | exact of_eq_true (CanE_nil _ _ _) | exact CanE_of rfl (by simp; done) | exact CanE_of rfl rfl | (refine CanE_msl rfl ?_ rfl; simp [irows]; done) | (refine CanE_msl rfl ?_ rfl; simp [irows]; omega) | (refine CanE_frz ?_ ?_; (focus ((refine ew ?_; try with_reducible exact True.intro); done)); (intro q hq k s0 l0; simp; done))))
  · rintro ⟨i, xs⟩ ⟨hi, hx0⟩
    dsimp only at hi hx0
    have hx : xs.length ≤ 1048576 := by rw [hx0]; have := nbI_len l v i; omega
    by_cases hc : (i : Int) < (l.length : Nat)
    · have hil : i < l.length := by omega
      have es := nbI_s l v hil
      rw [← hx0] at es
      unfold nbOf at es
      by_cases ha : (l.getD i default).a = v
      · rw [if_pos ha] at es
        (rcases xs with _ | ⟨x, xs⟩ <;> simp only [List.length_nil, List.length_cons, slV_0, slV_s, slI_nil, slI_cons] at hx ⊢)
        · (refine ew3 @hc @mg @ha ?_; try with_reducible exact True.intro)
          exact ⟨by omega, (i + 1, ([]) ++ [(l.getD i default).b]), by dsimp only; omega, ⟨by dsimp only; omega, es.symm⟩, by (simp only [← irows_snoc]; refine Fg_push (k := 2) (still_isnoc _ _) rfl ?_; (try (refine ew ?_; try with_reducible exact True.intro)); (repeat' (first | exact True.intro | omega | exact CanE_push (by simp) (by simp) (by simp) | refine ⟨?_, ?_⟩ | exact CanE_of rfl (by simp))))⟩
        · (refine ew3 @hc @mg @ha ?_; try with_reducible exact True.intro)
          exact ⟨by omega, (i + 1, (x :: xs) ++ [(l.getD i default).b]), by dsimp only; omega, ⟨by dsimp only; omega, es.symm⟩, by (simp only [← irows_snoc]; refine Fg_push (k := 3) (still_isnoc _ _) rfl ?_; (try (refine ew ?_; try with_reducible exact True.intro)); (repeat' (first | exact True.intro | omega | exact CanE_push (by simp) (by simp) (by simp) | refine ⟨?_, ?_⟩ | exact CanE_of rfl (by simp))))⟩
      · by_cases hb : (l.getD i default).b = v
        · rw [if_neg ha, if_pos hb] at es
          (rcases xs with _ | ⟨x, xs⟩ <;> simp only [List.length_nil, List.length_cons, slV_0, slV_s, slI_nil, slI_cons] at hx ⊢)
          · (refine ew4 @hc @mg @ha @hb ?_; try with_reducible exact True.intro)
            exact ⟨by omega, (i + 1, ([]) ++ [(l.getD i default).a]), by dsimp only; omega, ⟨by dsimp only; omega, es.symm⟩, by (simp only [← irows_snoc]; refine Fg_push (k := 2) (still_isnoc _ _) rfl ?_; (try (refine ew ?_; try with_reducible exact True.intro)); (repeat' (first | exact True.intro | omega | exact CanE_push (by simp) (by simp) (by simp) | refine ⟨?_, ?_⟩ | exact CanE_of rfl (by simp))))⟩
          · (refine ew4 @hc @mg @ha @hb ?_; try with_reducible exact True.intro)
            exact ⟨by omega, (i + 1, (x :: xs) ++ [(l.getD i default).a]), by dsimp only; omega, ⟨by dsimp only; omega, es.symm⟩, by (simp only [← irows_snoc]; refine Fg_push (k := 3) (still_isnoc _ _) rfl ?_; (try (refine ew ?_; try with_reducible exact True.intro)); (repeat' (first | exact True.intro | omega | exact CanE_push (by simp) (by simp) (by simp) | refine ⟨?_, ?_⟩ | exact CanE_of rfl (by simp))))⟩
        · rw [if_neg ha, if_neg hb, List.append_nil] at es
          (rcases xs with _ | ⟨x, xs⟩ <;> simp only [List.length_nil, List.length_cons, slV_0, slV_s, slI_nil, slI_cons] at hx ⊢)
          · (refine ew4 @hc @mg @ha @hb ?_; try with_reducible exact True.intro)
            exact ⟨(i + 1, []), by dsimp only; omega, ⟨by dsimp only; omega, es.symm⟩, by (refine Fg_re [] (by simp) (by intro p hp; cases hp) rfl ?_) <;> (try (refine ew ?_; try with_reducible exact True.intro)) <;> (repeat' (first | exact True.intro | omega | exact CanE_ptr rfl (by simp) | refine ⟨?_, ?_⟩ | exact of_eq_true (CanE_nil _ _ _) | exact CanE_of rfl (by simp; done) | exact CanE_of rfl rfl | (refine CanE_msl rfl ?_ rfl; simp [irows]; done) | (refine CanE_msl rfl ?_ rfl; simp [irows]; omega) | (refine CanE_frz ?_ ?_; (focus ((refine ew ?_; try with_reducible exact True.intro); done)); (intro q hq k s0 l0; simp; done))))⟩
          · (refine ew4 @hc @mg @ha @hb ?_; try with_reducible exact True.intro)
            exact ⟨(i + 1, x :: xs), by dsimp only; omega, ⟨by dsimp only; omega, es.symm⟩, by (refine Fg_re [(0, _)] (by simp) (by intro p hp; simp only [List.mem_cons, List.not_mem_nil, or_false] at hp; rcases hp with rfl <;> refine ⟨rfl, ?_⟩ <;> first | exact ir_still _ | simp [stillR, V.still]) rfl ?_) <;> (try (refine ew ?_; try with_reducible exact True.intro)) <;> (repeat' (first | exact True.intro | omega | exact CanE_ptr rfl (by simp) | refine ⟨?_, ?_⟩ | exact of_eq_true (CanE_nil _ _ _) | exact CanE_of rfl (by simp; done) | exact CanE_of rfl rfl | (refine CanE_msl rfl ?_ rfl; simp [irows]; done) | (refine CanE_msl rfl ?_ rfl; simp [irows]; omega) | (refine CanE_frz ?_ ?_; (focus ((refine ew ?_; try with_reducible exact True.intro); done)); (intro q hq k s0 l0; simp; done))))⟩
    · have : i = l.length := by omega
      subst this
      rw [← hx0]
      (rcases xs with _ | ⟨x, xs⟩ <;> simp only [List.length_nil, List.length_cons, slV_0, slV_s, slI_nil, slI_cons] at hx ⊢)
      · (refine ew1 @hc ?_; try with_reducible exact True.intro)
        exact fin_nil
      · (refine ew1 @hc ?_; try with_reducible exact True.intro)
        exact fin_ints (o := 0) (l := x :: xs) rfl
end Go.Ml
end
section
set_option linter.unusedSimpArgs false
set_option linter.unusedVariables false
set_option maxRecDepth 100000
set_option maxHeartbeats 4000000
namespace Go.Ml
def F_spec_l04Copy : Fn := ⟨1, 17, [.cell 2 3 true], (.seq (.reg false 2 [oN 1 (.box (.t 0)), oK 2 1 (.alloc [.bool false, .nils, .nils])]) (.seq (.reg true 4 [oK 3 4 (.fld 0 (.t 1)), oA 4 4 (.fld 0 (.t 3)) [0], oA 5 4 (.load 1 false (.t 4)) [1], oN 6 (.mkSl 1 [.int .i64 0] 0 []), oK 7 4 (.fld 0 (.t 1)), oA 8 4 (.fld 1 (.t 7)) [4], oA 9 4 (.load 1 false (.t 8)) [5], oA 10 1 (.app 1 8 (.t 6) (.t 9)) [3, 6], oA 11 4 (.build [.bool false, .nils] [(0, 1, (.t 5)), (1, 1, (.t 10))]) [2, 7], oK 12 2 (.mkSl 1 [.int .i64 0] 0 []), oK 13 4 (.fld 2 (.t 1)), oA 14 4 (.load 1 false (.t 13)) [10], oA 15 3 (.app 1 8 (.t 12) (.t 14)) [9, 11, 7], oA 16 4 (.build [.bool false, .nils, .nils] [(0, 2, (.t 11)), (2, 1, (.t 15))]) [8, 12], ⟨none, none, 4, .store 3 (.t 2) (.t 16), [13, 12, 0, 1, 2, 3, 4, 5, 6, 7, 8, 9, 10, 11, 12, 13]⟩]) .ret))⟩
structure D_spec_l04Copy (T : Nat → Option Fn) : Prop where
  hT : T 204 = some F_spec_l04Copy
def F_spec_l06Copy : Fn := ⟨1, 17, [.cell 2 11 true], (.seq (.reg false 2 [oN 1 (.box (.t 0)), oK 2 1 (.alloc [.int .i64 0, .int .i64 0, .bool false, .nils, .nils, .bool false, .nils, .nils, .bool false, .nils, .nils])]) (.seq (.reg true 0 [oN 3 (.fld 0 (.t 1)), oA 4 0 (.load 1 false (.t 3)) [0], oN 5 (.fld 1 (.t 1)), oA 6 0 (.load 1 false (.t 5)) [2], oN 7 (.fld 2 (.t 1)), oA 8 0 (.load 3 true (.t 7)) [4], oA 9 0 (.call 204 [(.t 8)]) [5], oN 10 (.fld 5 (.t 1)), oA 11 0 (.load 3 true (.t 10)) [7], oA 12 0 (.call 204 [(.t 11)]) [8, 6], oN 13 (.fld 8 (.t 1)), oA 14 0 (.load 3 true (.t 13)) [10], oA 15 0 (.call 204 [(.t 14)]) [11, 9], oA 16 0 (.build [.int .i64 0, .int .i64 0, .bool false, .nils, .nils, .bool false, .nils, .nils, .bool false, .nils, .nils] [(0, 1, (.t 4)), (1, 1, (.t 6)), (2, 3, (.t 9)), (5, 3, (.t 12)), (8, 3, (.t 15))]) [1, 3, 6, 9, 12], ⟨none, none, 0, .store 11 (.t 2) (.t 16), [13, 12, 0, 1, 2, 3, 4, 5, 6, 7, 8, 9, 10, 11, 12, 13]⟩]) .ret))⟩
structure D_spec_l06Copy (T : Nat → Option Fn) : Prop where
  hT : T 197 = some F_spec_l06Copy
  d_spec_l04Copy : D_spec_l04Copy T
theorem lax_rat {r : R} {a b : V} (h1 : LaxV (ints r.mag) a) (h2 : LaxV (ints r.den) b) : LaxV (ratV r) (.agg [.bool r.neg, a, b]) := by
  simp only [LaxV_agg, LaxL_c, LaxL_n, LaxV_bool, true_and, and_true]
  exact ⟨h1, h2⟩
theorem lax_ints0 {l : List Int} (h : irows l = []) : LaxV (ints l) .nils := by
  show LaxV (.sl 1 (irows l)) .nils
  rw [h]; exact of_eq_true (LaxV_nil 1)
theorem c_l04Copy {T : Nat → Option Fn} (h : D_spec_l04Copy T) {r : R} (hl : r.sz ≤ 1048576 := by first | omega | assumption | (simp; omega)) : PF T 204 [ratV r] (ratV r) := by
  simp only [R.sz] at hl
  refine pf_endL (fun _ _ => false) h.hT rfl rfl ?_
  dsimp only [F_spec_l04Copy, oN, oS, oG, oK, oA, oH, oV, cI]
  (refine ev ?_; try with_reducible exact True.intro)
  refine ⟨fun e1 => ⟨fun e2 => ?_, fun e2 => ⟨by omega, ?_⟩⟩, fun e1 => ⟨by omega, fun e2 => ?_, fun e2 => ⟨by omega, ?_⟩⟩⟩
  · refine ⟨by unfold OkA; decide +kernel, ?_⟩
    exact lax_rat (lax_ints0 e1) (lax_ints0 e2)
  · refine ⟨by unfold OkA; decide +kernel, ?_⟩
    exact lax_rat (lax_ints0 e1) (laxV_refl _)
  · refine ⟨by unfold OkA; decide +kernel, ?_⟩
    exact lax_rat (laxV_refl _) (lax_ints0 e2)
  · refine ⟨by unfold OkA; decide +kernel, ?_⟩
    exact lax_rat (laxV_refl _) (laxV_refl _)
theorem c_l06Copy {T : Nat → Option Fn} (h : D_spec_l06Copy T) {x : Lk} (hl : x.sz ≤ 1048576 := by first | omega | assumption | (simp; omega)) : PF T 197 [lkV x] (lkV x) := by
  simp only [Lk.sz, R.sz] at hl
  refine pf_endL (fun _ _ => false) h.hT rfl rfl ?_
  dsimp only [F_spec_l06Copy, oN, oS, oG, oK, oA, oH, oV, cI]
  (refine ev ?_; try with_reducible exact True.intro)
  refine PFK_of (c_l04Copy h.d_spec_l04Copy (r := x.w) (by simp only [R.sz]; omega)) ?_
  (refine ev ?_; try with_reducible exact True.intro)
  refine PFK_of (c_l04Copy h.d_spec_l04Copy (r := x.dx) (by simp only [R.sz]; omega)) ?_
  (refine ev ?_; try with_reducible exact True.intro)
  refine PFK_of (c_l04Copy h.d_spec_l04Copy (r := x.dy) (by simp only [R.sz]; omega)) ?_
  (refine ev ?_; try with_reducible exact True.intro)
  refine ⟨by unfold OkA; decide +kernel, ?_⟩
  (refine ev ?_; try with_reducible exact True.intro)
  exact laxV_refl _
abbrev Lk0 : Lk := ⟨0, 0, R0, R0, R0⟩
theorem laxLk0 : LaxV (lkV Lk0) (.agg [iv 0, iv 0, .bool false, .nils, .nils, .bool false, .nils, .nils, .bool false, .nils, .nils]) := by
  show LaxV (.agg [iv 0, iv 0, .bool false, .sl 1 [], .sl 1 [], .bool false, .sl 1 [], .sl 1 [], .bool false, .sl 1 [], .sl 1 []]) _
  simp only [LaxV_agg, LaxL_c, LaxL_n, LaxV_bool, LaxV_int, LaxV_nil, and_true]
theorem lax_tup1 {v w : V} {b : Bool} (h : LaxV v w) : LaxV (.tup [v, .bool b]) (.tup [w, .bool b]) := by
  simp only [LaxV, LaxL]
  exact ⟨_, rfl, _, _, rfl, h, _, _, rfl, rfl, rfl⟩
end Go.Ml
end
section
set_option linter.unusedSimpArgs false
set_option linter.unusedVariables false
set_option maxRecDepth 100000
set_option maxHeartbeats 8000000
namespace Go.Ml
def F_spec_MergeLinks : Fn := ⟨2, 104, [.cell 4 11 true, .cell 5 3 true, .tmp 6], (.seq (.reg false 4 [oN 2 (.box (.t 0)), oK 3 1 (.box (.t 1)), oK 4 2 (.alloc [.int .i64 0, .int .i64 0, .bool false, .nils, .nils, .bool false, .nils, .nils, .bool false, .nils, .nils]), oK 5 3 (.alloc [.bool false, .nils, .nils]), oK 6 4 (.mov (.c (.bool false)))]) (.seq (.seq (.reg false 0 [oN 10 (.load 11 true (.t 2)), oN 11 (.call 83 [(.t 10)]), oN 12 (.un .not (.t 11)), oN 13 (oV 12), oG 13 false 14 (.load 11 true (.t 3)), oG 13 false 15 (.call 83 [(.t 14)]), oG 13 false 16 (.un .not (.t 15)), oN 17 (.pick (.t 13) (.c (.bool true)) (.t 16)), oN 18 (oV 17), oG 18 false 19 (.fld 0 (.t 2)), oG 18 false 20 (.load 1 false (.t 19)), oG 18 false 21 (.fld 0 (.t 3)), oG 18 false 22 (.load 1 false (.t 21)), oG 18 false 23 (.bin .neq (.t 20) (.t 22)), oN 24 (.pick (.t 18) (.c (.bool true)) (.t 23)), oN 25 (oV 24), oG 25 false 26 (.fld 1 (.t 2)), oG 25 false 27 (.load 1 false (.t 26)), oG 25 false 28 (.fld 1 (.t 3)), oG 25 false 29 (.load 1 false (.t 28)), oG 25 false 30 (.bin .neq (.t 27) (.t 29)), oN 31 (.pick (.t 25) (.c (.bool true)) (.t 30))]) (.cond (.t 31) (.seq (.reg false 0 [oN 32 (.build [.int .i64 0, .int .i64 0, .bool false, .nils, .nils, .bool false, .nils, .nils, .bool false, .nils, .nils] []), oN 33 (.build [.bool false, .nils, .nils] []), oS (.store 11 (.t 4) (.t 32)), oS (.store 3 (.t 5) (.t 33)), oN 6 (.mov (.c (.bool false)))]) .ret) .skip)) (.seq (.reg false 1 [oK 34 1 (.fld 2 (.t 2)), oK 35 1 (.load 3 true (.t 34)), oK 36 1 (.fld 2 (.t 3)), oK 37 1 (.load 3 true (.t 36)), oK 38 1 (.call 189 [(.t 35), (.t 37)]), oN 7 (.alloc [.bool false, .nils, .nils]), ⟨none, none, 1, .store 3 (.t 7) (.t 38), []⟩]) (.seq (.reg false 1 [oK 39 1 (.fld 0 (.t 2)), oK 40 1 (.load 1 false (.t 39)), oK 41 1 (.fld 1 (.t 2)), oK 42 1 (.load 1 false (.t 41)), oK 43 1 (.load 3 true (.t 7)), oK 44 1 (.build [.int .i64 0, .int .i64 0, .bool false, .nils, .nils, .bool false, .nils, .nils, .bool false, .nils, .nils] [(0, 1, (.t 40)), (1, 1, (.t 42)), (2, 3, (.t 43))]), oN 8 (.alloc [.int .i64 0, .int .i64 0, .bool false, .nils, .nils, .bool false, .nils, .nils, .bool false, .nils, .nils]), ⟨none, none, 1, .store 11 (.t 8) (.t 44), []⟩]) (.seq (.reg true 0 [oN 45 (.fld 2 (.t 2)), oA 46 0 (.load 3 true (.t 45)) [0], oN 47 (.fld 5 (.t 2)), oA 48 0 (.load 3 true (.t 47)) [2], oA 49 0 (.call 201 [(.t 46), (.t 48)]) [1, 3], oN 50 (.fld 2 (.t 3)), oA 51 0 (.load 3 true (.t 50)) [5], oN 52 (.fld 5 (.t 3)), oA 53 0 (.load 3 true (.t 52)) [7], oA 54 0 (.call 201 [(.t 51), (.t 53)]) [6, 8, 4], oA 55 0 (.call 189 [(.t 49), (.t 54)]) [4, 9, 9], oN 56 (.load 3 true (.t 7)), oA 57 0 (.call 200 [(.t 55), (.t 56)]) [10, 11, 10], oA 58 0 (.fld 5 (.t 8)) [0, 1, 2, 3, 4, 5, 6, 7, 8, 9, 10, 11, 12], ⟨none, none, 0, .store 3 (.t 58) (.t 57), [13, 12, 12, 0, 1, 2, 3, 4, 5, 6, 7, 8, 9, 10, 11, 12]⟩]) (.seq (.reg true 0 [oN 59 (.fld 2 (.t 2)), oA 60 0 (.load 3 true (.t 59)) [0], oN 61 (.fld 8 (.t 2)), oA 62 0 (.load 3 true (.t 61)) [2], oA 63 0 (.call 201 [(.t 60), (.t 62)]) [1, 3], oN 64 (.fld 2 (.t 3)), oA 65 0 (.load 3 true (.t 64)) [5], oN 66 (.fld 8 (.t 3)), oA 67 0 (.load 3 true (.t 66)) [7], oA 68 0 (.call 201 [(.t 65), (.t 67)]) [6, 8, 4], oA 69 0 (.call 189 [(.t 63), (.t 68)]) [4, 9, 9], oN 70 (.load 3 true (.t 7)), oA 71 0 (.call 200 [(.t 69), (.t 70)]) [10, 11, 10], oA 72 0 (.fld 8 (.t 8)) [0, 1, 2, 3, 4, 5, 6, 7, 8, 9, 10, 11, 12], ⟨none, none, 0, .store 3 (.t 72) (.t 71), [13, 12, 12, 0, 1, 2, 3, 4, 5, 6, 7, 8, 9, 10, 11, 12]⟩]) (.seq (.reg true 1 [oK 73 1 (.fld 2 (.t 2)), oA 74 1 (.load 3 true (.t 73)) [0], oK 75 1 (.fld 2 (.t 3)), oA 76 1 (.load 3 true (.t 75)) [2], oA 77 1 (.call 201 [(.t 74), (.t 76)]) [1, 3], oK 78 1 (.load 3 true (.t 7)), oA 79 1 (.call 200 [(.t 77), (.t 78)]) [4, 5, 4], oK 80 1 (.fld 5 (.t 2)), oA 81 1 (.load 3 true (.t 80)) [7], oK 82 1 (.fld 5 (.t 3)), oA 83 1 (.load 3 true (.t 82)) [9], oA 84 1 (.call 203 [(.t 81), (.t 83)]) [8, 10, 6], oK 85 1 (.fld 8 (.t 2)), oA 86 1 (.load 3 true (.t 85)) [12], oK 87 1 (.fld 8 (.t 3)), oA 88 1 (.load 3 true (.t 87)) [14], oA 89 1 (.call 203 [(.t 86), (.t 88)]) [13, 15, 11], oA 90 1 (.call 202 [(.t 84), (.t 89)]) [11, 16, 16], oA 91 1 (.call 201 [(.t 79), (.t 90)]) [6, 17, 17], oN 9 (.alloc [.bool false, .nils, .nils]), ⟨none, none, 1, .store 3 (.t 9) (.t 91), [19, 18, 18, 0, 1, 2, 3, 4, 5, 6, 7, 8, 9, 10, 11, 12, 13, 14, 15, 16, 17, 18, 19]⟩]) (.seq (.seq (.reg false 0 [oN 92 (.load 11 true (.t 8)), oN 93 (.call 83 [(.t 92)]), oN 94 (.un .not (.t 93)), oN 95 (oV 94), oG 95 false 96 (.load 3 true (.t 9)), oG 95 false 97 (.call 100 [(.t 96)]), oG 95 false 98 (.un .not (.t 97)), oN 99 (.pick (.t 95) (.c (.bool true)) (.t 98))]) (.cond (.t 99) (.seq (.reg false 0 [oN 100 (.build [.int .i64 0, .int .i64 0, .bool false, .nils, .nils, .bool false, .nils, .nils, .bool false, .nils, .nils] []), oN 101 (.build [.bool false, .nils, .nils] []), oS (.store 11 (.t 4) (.t 100)), oS (.store 3 (.t 5) (.t 101)), oN 6 (.mov (.c (.bool false)))]) .ret) .skip)) (.seq (.reg true 0 [oN 102 (.load 11 true (.t 8)), oN 103 (.load 3 true (.t 9)), ⟨none, none, 0, .store 11 (.t 4) (.t 102), [0, 0]⟩, ⟨none, none, 0, .store 3 (.t 5) (.t 103), [1, 2, 0, 1, 2]⟩, oA 6 0 (.mov (.c (.bool true))) [3, 0, 1, 2, 3]]) .ret)))))))))⟩
structure D_spec_MergeLinks (T : Nat → Option Fn) : Prop where
  hT : T 196 = some F_spec_MergeLinks
  d_spec_IsValidLink : D_spec_IsValidLink T
  d_spec_RatOk : D_spec_RatOk T
  d_spec_RatAdd : D_spec_RatAdd T
  d_spec_RatDiv : D_spec_RatDiv T
  d_spec_RatMul : D_spec_RatMul T
  d_spec_l06Squares : D_spec_l06Squares T
  d_spec_RatSub : D_spec_RatSub T
theorem lax_tup2 {v w x y : V} {b : Bool} (h : LaxV v w) (h2 : LaxV x y) : LaxV (.tup [v, x, .bool b]) (.tup [w, y, .bool b]) := by
  simp only [LaxV, LaxL]
  exact ⟨_, rfl, _, _, rfl, h, _, _, rfl, h2, _, _, rfl, rfl, rfl⟩
def mgW (k l : Lk) : R := addR k.w l.w
def mgX (k l : Lk) : R := divR (addR (mulR k.w k.dx) (mulR l.w l.dx)) (mgW k l)
def mgY (k l : Lk) : R := divR (addR (mulR k.w k.dy) (mulR l.w l.dy)) (mgW k l)
def mgE (k l : Lk) : R := mulR (divR (mulR k.w l.w) (mgW k l)) (sqR (subR k.dx l.dx) (subR k.dy l.dy))
theorem mgW_cn (k l : Lk) : (mgW k l).cn := addR_cn _ _
theorem mgX_cn (k l : Lk) : (mgX k l).cn := divR_cn _ _
theorem mgY_cn (k l : Lk) : (mgY k l).cn := divR_cn _ _
theorem mgE_cn (k l : Lk) : (mgE k l).cn := mulR_cn _ _
def mgL (k l : Lk) : Lk := ⟨k.a, k.b, mgW k l, mgX k l, mgY k l⟩
def mgG (k l : Lk) : Bool := (mgW k l).ok && (mgX k l).ok && (mgY k l).ok && (mgE k l).ok
def mgP (k l : Lk) : Bool := lkOk k && lkOk l && decide (k.a = l.a) && decide (k.b = l.b)
def mgOk (k l : Lk) : Bool := mgP k l && mgG k l
def mgLV (k l : Lk) : Lk := if mgOk k l = true then mgL k l else Lk0
def mgEV (k l : Lk) : R := if mgOk k l = true then mgE k l else R0
theorem addR_pos {r s : R} (hr : 0 < sgnR r) (hs : 0 < sgnR s) (ho : (addR r s).ok = true) : 0 < sgnR (addR r s) := by
  unfold sgnR at *
  rw [ok_iff] at ho
  rw [addR_q] at ho ⊢
  cases h1 : r.q with
  | none => rw [h1] at hr; simp [signQ] at hr
  | some a =>
    cases h2 : s.q with
    | none => rw [h2] at hs; simp [signQ] at hs
    | some b =>
      simp only [h1, h2] at ho hr hs ⊢
      simp only [addQ] at ho ⊢
      have hf : fits (a + b) = true := by
        cases hf : fits (a + b) with
        | true => rfl
        | false => rw [norm_none hf] at ho; exact absurd rfl ho
      rw [norm_fits hf]
      simp only [signQ] at hr hs ⊢
      have pos : ∀ q : Rat, 0 < sgn q.num ↔ 0 < q := by
        intro q
        rw [Rat.lt_iff, show (0 : Rat).num = 0 from rfl, show (0 : Rat).den = 1 from rfl, Int.zero_mul, Int.natCast_one, Int.mul_one]
        unfold sgn
        split
        · constructor <;> intro h <;> omega
        · split
          · constructor <;> intro h <;> omega
          · constructor <;> intro h <;> omega
      rw [pos] at hr hs ⊢
      have h3 : a + 0 < a + b := Rat.add_lt_add_left.2 hs
      rw [Rat.add_zero] at h3
      exact Std.lt_trans hr h3
theorem mg_valid {k l : Lk} (h : mgP k l = true) : lkOk (mgL k l) = ((mgW k l).ok && (mgX k l).ok && (mgY k l).ok) := by
  unfold mgP at h
  simp only [Bool.and_eq_true, decide_eq_true_eq] at h
  obtain ⟨⟨⟨h1, h2⟩, _⟩, _⟩ := h
  have p1 := (lkOk_ok h1).2.2.2
  have p2 := (lkOk_ok h2).2.2.2
  have h1' := h1
  unfold lkOk at h1'
  simp only [Bool.and_eq_true] at h1'
  unfold lkOk mgL
  rw [h1'.1.1.1.1.1, h1'.1.1.1.1.2, h1'.1.1.1.2]
  cases hw : (mgW k l).ok with
  | false =>
    have : ¬ 0 < signQ (mgW k l).q := by rw [nok_iff.1 hw]; simp [signQ]
    simp [this]
  | true =>
    have : 0 < signQ (mgW k l).q := addR_pos p1 p2 hw
    simp [this]
theorem c_sMergeLinks {T : Nat → Option Fn} (h : D_spec_MergeLinks T) {k l : Lk} (hk : k.wf := by first | with_reducible assumption | exact cn_wf (by first | with_reducible assumption | with_reducible exact addR_cn _ _ | with_reducible exact subR_cn _ _ | with_reducible exact mulR_cn _ _ | with_reducible exact divR_cn _ _ | with_reducible exact negR_cn _ | with_reducible exact cn_0 | with_reducible exact intR_cn (by decide))) (hl : l.wf := by first | with_reducible assumption | exact cn_wf (by first | with_reducible assumption | with_reducible exact addR_cn _ _ | with_reducible exact subR_cn _ _ | with_reducible exact mulR_cn _ _ | with_reducible exact divR_cn _ _ | with_reducible exact negR_cn _ | with_reducible exact cn_0 | with_reducible exact intR_cn (by decide))) : PF T 196 [lkV k, lkV l] (.tup [lkV (mgLV k l), ratV (mgEV k l), .bool (mgOk k l)]) := by
  have ck := c_sIsValidLink h.d_spec_IsValidLink hk
  have cl := c_sIsValidLink h.d_spec_IsValidLink hl
  have bad : mgP k l = false → LaxV (.tup [lkV (mgLV k l), ratV (mgEV k l), .bool (mgOk k l)]) (.tup [.agg [iv 0, iv 0, .bool false, .nils, .nils, .bool false, .nils, .nils, .bool false, .nils, .nils], .agg [.bool false, .nils, .nils], .bool false]) := by
    intro hp
    unfold mgLV mgEV mgOk
    rw [hp]
    exact lax_tup2 laxLk0 laxR0
  cases h1 : lkOk k
  · have hp := bad (by unfold mgP; rw [h1]; rfl)
    rw [h1] at ck
    clear bad
    refine pf_endL (fun _ _ => false) h.hT rfl rfl ?_
    dsimp only [F_spec_MergeLinks, oN, oS, oG, oK, oA, oH, oV, cI]
    (refine ev ?_; try with_reducible exact True.intro)
    refine PFK_of ck ?_
    (refine ev ?_; try with_reducible exact True.intro)
    exact hp
  rw [h1] at ck
  cases h2 : lkOk l
  · have hp := bad (by unfold mgP; rw [h1, h2]; rfl)
    rw [h2] at cl
    clear bad
    refine pf_endL (fun _ _ => false) h.hT rfl rfl ?_
    dsimp only [F_spec_MergeLinks, oN, oS, oG, oK, oA, oH, oV, cI]
    (refine ev ?_; try with_reducible exact True.intro)
    refine PFK_of ck ?_
    (refine ev ?_; try with_reducible exact True.intro)
    refine PFK_of cl ?_
    (refine ev ?_; try with_reducible exact True.intro)
    exact hp
  rw [h2] at cl
  by_cases h3 : k.a = l.a
  case neg =>
    have hp := bad (by unfold mgP; rw [h1, h2, decide_eq_false h3]; rfl)
    clear bad
    refine pf_endL (fun _ _ => false) h.hT rfl rfl ?_
    dsimp only [F_spec_MergeLinks, oN, oS, oG, oK, oA, oH, oV, cI]
    (refine ev ?_; try with_reducible exact True.intro)
    refine PFK_of ck ?_
    (refine ev ?_; try with_reducible exact True.intro)
    refine PFK_of cl ?_
    (refine ev1 @h3 ?_; try with_reducible exact True.intro)
    exact hp
  by_cases h4 : k.b = l.b
  case neg =>
    have hp := bad (by unfold mgP; rw [h1, h2, decide_eq_true h3, decide_eq_false h4]; rfl)
    have h3' : (k.a = l.a) = True := eq_true h3
    clear bad
    refine pf_endL (fun _ _ => false) h.hT rfl rfl ?_
    dsimp only [F_spec_MergeLinks, oN, oS, oG, oK, oA, oH, oV, cI]
    (refine ev ?_; try with_reducible exact True.intro)
    refine PFK_of ck ?_
    (refine ev ?_; try with_reducible exact True.intro)
    refine PFK_of cl ?_
    (refine ev2 @h3' @h4 ?_; try with_reducible exact True.intro)
    exact hp
  have hp : mgP k l = true := by unfold mgP; rw [h1, h2, decide_eq_true h3, decide_eq_true h4]; rfl
  have hv := mg_valid hp
  have h3' : (k.a = l.a) = True := eq_true h3
  have h4' : (k.b = l.b) = True := eq_true h4
  clear bad
  obtain ⟨k1, k2, k3⟩ := hk
  obtain ⟨l1, l2, l3⟩ := hl
  have e1 : mgLV k l = if mgG k l = true then mgL k l else Lk0 := by unfold mgLV mgOk; rw [hp, Bool.true_and]
  have e2 : mgEV k l = if mgG k l = true then mgE k l else R0 := by unfold mgEV mgOk; rw [hp, Bool.true_and]
  have e3 : mgOk k l = mgG k l := by unfold mgOk; rw [hp, Bool.true_and]
  rw [e1, e2, e3]
  clear e1 e2 e3
  have cv := c_sIsValidLink h.d_spec_IsValidLink (l := mgL k l) ⟨cn_wf (mgW_cn _ _), cn_wf (mgX_cn _ _), cn_wf (mgY_cn _ _)⟩
  have co := c_sRatOk h.d_spec_RatOk (r := mgE k l) (cn_wf (mgE_cn _ _))
  rw [hv] at cv
  refine pf_endL (fun _ _ => false) h.hT rfl rfl ?_
  dsimp only [F_spec_MergeLinks, oN, oS, oG, oK, oA, oH, oV, cI]
  (refine ev ?_; try with_reducible exact True.intro)
  refine PFK_of ck ?_
  (refine ev ?_; try with_reducible exact True.intro)
  refine PFK_of cl ?_
  (refine ev2 @h3' @h4' ?_; try with_reducible exact True.intro)
  refine PFK_of (c_sRatAdd h.d_spec_RatAdd k1 l1) ?_
  (refine ev ?_; try with_reducible exact True.intro)
  refine PFK_of (c_sRatMul h.d_spec_RatMul k1 k2) ?_
  (refine ev ?_; try with_reducible exact True.intro)
  refine PFK_of (c_sRatMul h.d_spec_RatMul l1 l2) ?_
  (refine ev ?_; try with_reducible exact True.intro)
  refine PFK_of (c_sRatAdd h.d_spec_RatAdd (by first | with_reducible assumption | exact cn_wf (by first | with_reducible assumption | with_reducible exact addR_cn _ _ | with_reducible exact subR_cn _ _ | with_reducible exact mulR_cn _ _ | with_reducible exact divR_cn _ _ | with_reducible exact negR_cn _ | with_reducible exact cn_0 | with_reducible exact intR_cn (by decide))) (by first | with_reducible assumption | exact cn_wf (by first | with_reducible assumption | with_reducible exact addR_cn _ _ | with_reducible exact subR_cn _ _ | with_reducible exact mulR_cn _ _ | with_reducible exact divR_cn _ _ | with_reducible exact negR_cn _ | with_reducible exact cn_0 | with_reducible exact intR_cn (by decide)))) ?_
  (refine ev ?_; try with_reducible exact True.intro)
  refine PFK_of (c_sRatDiv h.d_spec_RatDiv (by first | with_reducible assumption | exact cn_wf (by first | with_reducible assumption | with_reducible exact addR_cn _ _ | with_reducible exact subR_cn _ _ | with_reducible exact mulR_cn _ _ | with_reducible exact divR_cn _ _ | with_reducible exact negR_cn _ | with_reducible exact cn_0 | with_reducible exact intR_cn (by decide))) (by first | with_reducible assumption | exact cn_wf (by first | with_reducible assumption | with_reducible exact addR_cn _ _ | with_reducible exact subR_cn _ _ | with_reducible exact mulR_cn _ _ | with_reducible exact divR_cn _ _ | with_reducible exact negR_cn _ | with_reducible exact cn_0 | with_reducible exact intR_cn (by decide)))) ?_
  (refine ev ?_; try with_reducible exact True.intro)
  refine ⟨by unfold OkA; decide +kernel, ?_⟩
  (refine ev ?_; try with_reducible exact True.intro)
  refine PFK_of (c_sRatMul h.d_spec_RatMul k1 k3) ?_
  (refine ev ?_; try with_reducible exact True.intro)
  refine PFK_of (c_sRatMul h.d_spec_RatMul l1 l3) ?_
  (refine ev ?_; try with_reducible exact True.intro)
  refine PFK_of (c_sRatAdd h.d_spec_RatAdd (by first | with_reducible assumption | exact cn_wf (by first | with_reducible assumption | with_reducible exact addR_cn _ _ | with_reducible exact subR_cn _ _ | with_reducible exact mulR_cn _ _ | with_reducible exact divR_cn _ _ | with_reducible exact negR_cn _ | with_reducible exact cn_0 | with_reducible exact intR_cn (by decide))) (by first | with_reducible assumption | exact cn_wf (by first | with_reducible assumption | with_reducible exact addR_cn _ _ | with_reducible exact subR_cn _ _ | with_reducible exact mulR_cn _ _ | with_reducible exact divR_cn _ _ | with_reducible exact negR_cn _ | with_reducible exact cn_0 | with_reducible exact intR_cn (by decide)))) ?_
  (refine ev ?_; try with_reducible exact True.intro)
  refine PFK_of (c_sRatDiv h.d_spec_RatDiv (by first | with_reducible assumption | exact cn_wf (by first | with_reducible assumption | with_reducible exact addR_cn _ _ | with_reducible exact subR_cn _ _ | with_reducible exact mulR_cn _ _ | with_reducible exact divR_cn _ _ | with_reducible exact negR_cn _ | with_reducible exact cn_0 | with_reducible exact intR_cn (by decide))) (by first | with_reducible assumption | exact cn_wf (by first | with_reducible assumption | with_reducible exact addR_cn _ _ | with_reducible exact subR_cn _ _ | with_reducible exact mulR_cn _ _ | with_reducible exact divR_cn _ _ | with_reducible exact negR_cn _ | with_reducible exact cn_0 | with_reducible exact intR_cn (by decide)))) ?_
  (refine ev ?_; try with_reducible exact True.intro)
  refine ⟨by unfold OkA; decide +kernel, ?_⟩
  (refine ev ?_; try with_reducible exact True.intro)
  refine PFK_of (c_sRatMul h.d_spec_RatMul k1 l1) ?_
  (refine ev ?_; try with_reducible exact True.intro)
  refine PFK_of (c_sRatDiv h.d_spec_RatDiv (by first | with_reducible assumption | exact cn_wf (by first | with_reducible assumption | with_reducible exact addR_cn _ _ | with_reducible exact subR_cn _ _ | with_reducible exact mulR_cn _ _ | with_reducible exact divR_cn _ _ | with_reducible exact negR_cn _ | with_reducible exact cn_0 | with_reducible exact intR_cn (by decide))) (by first | with_reducible assumption | exact cn_wf (by first | with_reducible assumption | with_reducible exact addR_cn _ _ | with_reducible exact subR_cn _ _ | with_reducible exact mulR_cn _ _ | with_reducible exact divR_cn _ _ | with_reducible exact negR_cn _ | with_reducible exact cn_0 | with_reducible exact intR_cn (by decide)))) ?_
  (refine ev ?_; try with_reducible exact True.intro)
  refine PFK_of (c_sRatSub h.d_spec_RatSub k2 l2) ?_
  (refine ev ?_; try with_reducible exact True.intro)
  refine PFK_of (c_sRatSub h.d_spec_RatSub k3 l3) ?_
  (refine ev ?_; try with_reducible exact True.intro)
  refine PFK_of (c_l06Squares h.d_spec_l06Squares (by first | with_reducible assumption | exact cn_wf (by first | with_reducible assumption | with_reducible exact addR_cn _ _ | with_reducible exact subR_cn _ _ | with_reducible exact mulR_cn _ _ | with_reducible exact divR_cn _ _ | with_reducible exact negR_cn _ | with_reducible exact cn_0 | with_reducible exact intR_cn (by decide))) (by first | with_reducible assumption | exact cn_wf (by first | with_reducible assumption | with_reducible exact addR_cn _ _ | with_reducible exact subR_cn _ _ | with_reducible exact mulR_cn _ _ | with_reducible exact divR_cn _ _ | with_reducible exact negR_cn _ | with_reducible exact cn_0 | with_reducible exact intR_cn (by decide)))) ?_
  (refine ev ?_; try with_reducible exact True.intro)
  refine PFK_of (c_sRatMul h.d_spec_RatMul (by first | with_reducible assumption | exact cn_wf (by first | with_reducible assumption | with_reducible exact addR_cn _ _ | with_reducible exact subR_cn _ _ | with_reducible exact mulR_cn _ _ | with_reducible exact divR_cn _ _ | with_reducible exact negR_cn _ | with_reducible exact cn_0 | with_reducible exact intR_cn (by decide))) (cn_wf (sqR_cn _ _))) ?_
  (refine ev ?_; try with_reducible exact True.intro)
  refine ⟨by unfold OkA; decide +kernel, ?_⟩
  (refine ev ?_; try with_reducible exact True.intro)
  have hG : mgG k l = (((mgW k l).ok && (mgX k l).ok && (mgY k l).ok) && (mgE k l).ok) := rfl
  rw [hG]
  clear hG
  cases hg : ((mgW k l).ok && (mgX k l).ok && (mgY k l).ok)
  · rw [hg] at cv
    refine PFK_of cv ?_
    (refine ev ?_; try with_reducible exact True.intro)
    exact lax_tup2 laxLk0 laxR0
  rw [hg] at cv
  refine PFK_of cv ?_
  (refine ev ?_; try with_reducible exact True.intro)
  cases hE : (mgE k l).ok
  · rw [hE] at co
    refine PFK_of co ?_
    (refine ev ?_; try with_reducible exact True.intro)
    exact lax_tup2 laxLk0 laxR0
  rw [hE] at co
  refine PFK_of co ?_
  (refine ev ?_; try with_reducible exact True.intro)
  refine ⟨by unfold OkA; decide +kernel, ?_⟩
  (refine ev ?_; try with_reducible exact True.intro)
  exact laxV_refl _
end Go.Ml
end
section
set_option linter.unusedSimpArgs false
set_option linter.unusedVariables false
namespace Go.Ml
abbrev Gd := Nat → Nat → Bool
def gset (g : Gd) (i j : Nat) (b : Bool) : Gd := fun x y => if x = i ∧ y = j then b else g x y
def grow (g : Gd) (a : Nat) : List (List V) := (List.range 10).map fun j => [.bool (g a j)]
theorem grow_set {g : Gd} {a j : Nat} {b : Bool} : (grow g a).set j [.bool b] = grow (gset g a j b) a := by
  apply List.ext_getElem?
  intro n
  rw [List.getElem?_set]
  simp only [grow, List.getElem?_map, List.length_map, List.length_range]
  by_cases hn : n < 10
  · rw [List.getElem?_range hn]
    by_cases e : j = n
    · rw [if_pos e, if_pos (by omega)]
      simp only [Option.map_some, gset]
      rw [if_pos (by simp [e])]
    · rw [if_neg e]
      simp only [Option.map_some, gset]
      rw [if_neg (by omega)]
  · rw [List.getElem?_eq_none (by simp; omega)]
    split
    · split
      · omega
      · rfl
    · rfl
theorem grow_ne {g : Gd} {a c j : Nat} {b : Bool} (h : c ≠ a) : grow (gset g a j b) c = grow g c := by
  unfold grow gset
  apply List.map_congr_left
  intro k _
  rw [if_neg (by omega)]
end Go.Ml
end
section
set_option linter.unusedSimpArgs false
set_option linter.unusedVariables false
namespace Go.Ml
def onR (b : Nat) : List (List V) := (List.range 10).map fun i => [.msl (b + i) 0 10]
def gst (g : Gd) : Store := some ⟨1, [[.msl 1 0 10]]⟩ :: some ⟨1, onR 2⟩ :: (List.range 10).map fun a => some ⟨1, grow g a⟩
theorem gst_len (g : Gd) : (gst g).length = 12 := by simp [gst]
structure GridAt (s : Store) (b : Nat) (g : Gd) : Prop where
  p : objAt s b = some ⟨1, [[.msl (b + 1) 0 10]]⟩
  on : objAt s (b + 1) = some ⟨1, onR (b + 2)⟩
  row : ∀ a, a < 10 → objAt s (b + 2 + a) = some ⟨1, grow g a⟩
theorem gst_row {g : Gd} {a : Nat} (ha : a < 10) : objAt (gst g) (2 + a) = some ⟨1, grow g a⟩ := by
  rw [Nat.add_comm]
  show ((List.range 10).map fun a => some (⟨1, grow g a⟩ : Obj))[a]?.getD none = _
  rw [List.getElem?_map, List.getElem?_range ha]; rfl
theorem GridAt.lt {s : Store} {b : Nat} {g : Gd} (h : GridAt s b g) : b + 12 ≤ s.length := by
  have := objAt_lt (h.row 9 (by omega)); omega
theorem GridAt.frame {s s2 : Store} {b : Nat} {g : Gd} (h : GridAt s b g) (hs : ∀ q, b ≤ q → q < b + 12 → objAt s2 q = objAt s q) : GridAt s2 b g :=
  ⟨(hs _ (by omega) (by omega)).trans h.p, (hs _ (by omega) (by omega)).trans h.on, fun a ha => (hs _ (by omega) (by omega)).trans (h.row a ha)⟩
theorem GridAt.set {s : Store} {b : Nat} {g : Gd} (h : GridAt s b g) {i j : Nat} {x : Bool} (hi : i < 10) (hj : j < 10) : GridAt (s.set (b + 2 + i) (some ⟨1, (grow g i).set j [.bool x]⟩)) b (gset g i j x) := by
  have hl := h.lt
  refine ⟨(objAt_setne (by omega)).trans h.p, (objAt_setne (by omega)).trans h.on, fun a ha => ?_⟩
  by_cases e : a = i
  · subst e
    rw [objAt_seteq (by omega), grow_set]
  · rw [objAt_setne (by omega), h.row a ha, grow_ne e]
theorem mapV_still {f : Nat → Option Nat} {v : V} (h : v.still = true) : mapV f v = v := by
  cases v <;> simp_all [V.still, mapV]
theorem mapO_on {ρ : Nat → Option Nat} {b b' : Nat} (h : ∀ i, i < 10 → ρ (b + i) = some (b' + i)) : mapO ρ ⟨1, onR b⟩ = ⟨1, onR b'⟩ := by
  unfold mapO onR
  congr 1
  rw [List.map_map]
  apply List.map_congr_left
  intro i hi
  simp [mapV, h i (List.mem_range.1 hi)]
theorem mapO_grow (f : Nat → Option Nat) (g : Gd) (a : Nat) : mapO f ⟨1, grow g a⟩ = ⟨1, grow g a⟩ := by
  unfold mapO
  congr 1
theorem RefK_run0 {T : Nat → Option Fn} {f : Nat} {as : List Src} {dst : Option Nat} {env : Nat → V} {σ : Store} {kp bs : Nat} {rs ms : List Nat} {k : St → Prop} {as' : List V} {r : V} {σ' : Store}
    (h : Run T (.fn f as' []) (.fn r σ')) (ha : resK env σ as (· = as')) (hr : reachAll env σ as = []) (hk : k ⟨updO env dst (mapV (shiftN σ.length) r), addS σ σ', kp, bs, rs, ms⟩) : RefK T f as dst ⟨env, σ, kp, bs, rs, ms⟩ k := by
  obtain ⟨as2, e, rfl⟩ := resK_spec ha
  exact ⟨_, .own e h (R := []) (by split; rfl; exact hr.symm), hk⟩
theorem place_range {b j : Nat} : ∀ n, j < n → place ((List.range n).map (b + ·)) (b + j) = some j := by
  intro n hj
  have h1 : ((List.range n).map (b + ·))[j]? = some (b + j) := by rw [List.getElem?_map, List.getElem?_range hj]; rfl
  have h2 : ((List.range n).map (b + ·)).Nodup := by
    refine List.pairwise_map.2 (List.nodup_range.imp fun hne e => hne (by omega))
  exact place_get h2 h1
def g12 (b : Nat) : List Nat := (List.range 12).map (b + ·)
theorem gst_range (g : Gd) : gst g = (List.range 12).map fun j => objAt (gst g) j := by
  apply List.ext_getElem?
  intro n
  rw [List.getElem?_map]
  by_cases h : n < 12
  · rw [List.getElem?_range h]
    simp only [Option.map_some, objAt]
    rw [List.getElem?_eq_getElem (by rw [gst_len]; exact h)]; rfl
  · rw [List.getElem?_eq_none (by rw [gst_len]; omega), List.getElem?_eq_none (by simp; omega)]; rfl
theorem mapO_row {ρ : Nat → Option Nat} {o o' : Nat} (h : ρ o = some o') {s l : Nat} : mapO ρ ⟨1, [[.msl o s l]]⟩ = ⟨1, [[.msl o' s l]]⟩ := by
  simp [mapO, mapV, h]
theorem GridAt.gc {s : Store} {b : Nat} {g : Gd} (h : GridAt s b g) : gcS (g12 b) s = gst g := by
  rw [gst_range g]
  unfold gcS
  rw [g12, List.map_map]
  apply List.map_congr_left
  intro j hj
  have hj := List.mem_range.1 hj
  show (objAt s (b + j)).map (mapO (place ((List.range 12).map (b + ·)))) = objAt (gst g) j
  by_cases h0 : j = 0
  · subst h0
    rw [Nat.add_zero, h.p]
    exact congrArg some (mapO_row (place_range 12 (by omega : 1 < 12)))
  by_cases h1 : j = 1
  · subst h1
    rw [h.on]
    refine congrArg some (mapO_on fun i hi => ?_)
    rw [show b + 2 + i = b + (2 + i) by omega]
    exact place_range 12 (by omega)
  obtain ⟨a, rfl⟩ : ∃ a, j = 2 + a := ⟨j - 2, by omega⟩
  rw [← Nat.add_assoc, h.row a (by omega), gst_row (by omega)]
  exact congrArg some (mapO_grow _ _ _)
theorem res_mslS {s : Store} {o n m : Nat} {rows : List (List V)} (h : objAt s o = some ⟨m, rows⟩) (hs : stillR rows) : resolve s (n + 2) (.msl o 0 rows.length) = some (.sl m rows) := by
  rw [resolve]
  simp only [h, Nat.zero_add, Nat.le_refl, if_true, List.drop_zero, List.take_length]
  rw [mapM_stillR hs]; rfl
end Go.Ml
namespace Go.Ml
theorem loop_step {T : Nat → Option Fn} (rf : Nat → Nat → Bool) {c : C} {Q : Ex → St → Prop} {st : St} (hk : c.okC = true) (h : wp T rf c (fun e st' => seqK e (LoopK T c Q st') (Q e st')) st) : LoopK T c Q st := by
  obtain ⟨e, st1, h1, h2⟩ := wp_sound hk h
  cases e with
  | normal =>
    obtain ⟨e, st2, h4, h5⟩ := h2
    exact ⟨e, st2, .loopN h1 h4, h5⟩
  | exit id => exact ⟨_, _, .loopE (by simp) h1, h2⟩
  | ret => exact ⟨_, _, .loopE (by simp) h1, h2⟩
end Go.Ml
end
section
set_option linter.unusedSimpArgs false
set_option linter.unusedVariables false
set_option maxRecDepth 100000
set_option maxHeartbeats 8000000
namespace Go.Ml
def F_spec_l06All : Fn := ⟨1, 20, [.tmp 2], (.seq (.reg false 0 [oN 2 (.mov (.c (.nils)))]) (.seq (.reg false 1 [oN 6 (.mkSl 11 [.int .i64 0, .int .i64 0, .bool false, .nils, .nils, .bool false, .nils, .nils, .bool false, .nils, .nils] 0 []), oK 3 1 (oV 6)]) (.seq (.seq (.reg false 0 [oN 7 (oV 0), oN 8 (.len (.t 7)), oN 9 (.mov (cI 0))]) (.block 0 (.loop (.seq (.reg false 0 [oN 10 (.bin .lss (.t 9) (.t 8))]) (.seq (.cond (.t 10) .skip (.exit 0)) (.seq (.block 1 (.seq (.reg false 1 [oK 11 1 (.idx 11 (.t 7) (.t 9)), oK 12 1 (.load 11 true (.t 11)), oN 5 (.alloc [.int .i64 0, .int .i64 0, .bool false, .nils, .nils, .bool false, .nils, .nils, .bool false, .nils, .nils]), ⟨none, none, 1, .store 11 (.t 5) (.t 12), []⟩]) (.reg false 2 [oK 13 2 (oV 3), oK 14 2 (.load 11 true (.t 5)), oK 15 2 (.call 197 [(.t 14)]), oN 16 (.mkSl 11 [.int .i64 0, .int .i64 0, .bool false, .nils, .nils, .bool false, .nils, .nils, .bool false, .nils, .nils] 1 [(0, (.t 15))]), oK 17 1 (.app 11 184 (.t 13) (.t 16)), oK 3 2 (oV 17)]))) (.reg false 0 [oN 18 (.bin .add (.t 9) (cI 1)), oN 9 (oV 18)]))))))) (.seq (.reg false 0 [oN 19 (oV 3), oN 2 (oV 19)]) .ret))))⟩
structure D_spec_l06All (T : Nat → Option Fn) : Prop where
  hT : T 194 = some F_spec_l06All
  d_spec_l06Copy : D_spec_l06Copy T
def F_spec_AddLink : Fn := ⟨2, 86, [.tmp 4, .cell 5 3 true, .tmp 6], (.seq (.reg false 2 [oN 3 (.box (.t 1)), oK 4 2 (.mov (.c (.nils))), oK 5 1 (.alloc [.bool false, .nils, .nils]), oK 6 2 (.mov (.c (.bool false)))]) (.seq (.seq (.reg false 0 [oN 13 (oV 0), oN 14 (.call 193 [(.t 13)]), oN 15 (.un .not (.t 14)), oN 16 (oV 15), oG 16 false 17 (.load 11 true (.t 3)), oG 16 false 18 (.call 83 [(.t 17)]), oG 16 false 19 (.un .not (.t 18)), oN 20 (.pick (.t 16) (.c (.bool true)) (.t 19))]) (.cond (.t 20) (.seq (.reg false 0 [oN 21 (.build [.bool false, .nils, .nils] []), oN 4 (.mov (.c (.nils))), oS (.store 3 (.t 5) (.t 21)), oN 6 (.mov (.c (.bool false)))]) .ret) .skip)) (.seq (.reg false 0 [oN 22 (oV 0), oN 23 (.call 194 [(.t 22)]), oN 7 (oV 23)]) (.seq (.reg false 0 [oN 8 (.mov (cI 0))]) (.seq (.block 0 (.loop (.seq (.seq (.reg true 0 [oN 24 (oV 8), oN 25 (oV 7), oA 26 0 (.len (.t 25)) [1], oA 27 0 (.bin .lss (.t 24) (.t 26)) [0, 2], oA 28 0 (oV 27) [3], oH 28 true 29 0 (oV 7) [4], oH 28 true 30 0 (oV 8) [4], oH 28 true 31 0 (.idx 11 (.t 29) (.t 30)) [5, 6, 4], oH 28 true 32 0 (.load 11 true (.t 31)) [7, 4], oH 28 true 33 0 (.load 11 true (.t 3)) [4], oH 28 true 34 0 (.call 195 [(.t 32), (.t 33)]) [8, 9, 4, 4], oA 35 0 (.pick (.t 28) (.t 34) (.c (.bool false))) [4, 10]]) (.cond (.t 35) .skip (.exit 0))) (.block 1 (.reg false 0 [oN 36 (oV 8), oN 37 (.bin .add (.t 36) (cI 1)), oN 8 (oV 37)]))))) (.seq (.seq (.reg true 0 [oN 38 (oV 8), oN 39 (oV 7), oA 40 0 (.len (.t 39)) [1], oA 41 0 (.bin .lss (.t 38) (.t 40)) [0, 2], oA 42 0 (oV 41) [3], oH 42 true 43 0 (.load 11 true (.t 3)) [4], oH 42 true 44 0 (oV 7) [4], oH 42 true 45 0 (oV 8) [4], oH 42 true 46 0 (.idx 11 (.t 44) (.t 45)) [6, 7, 4], oH 42 true 47 0 (.load 11 true (.t 46)) [8, 4], oH 42 true 48 0 (.call 195 [(.t 43), (.t 47)]) [5, 9, 4, 4], oH 42 true 49 0 (.un .not (.t 48)) [10, 4], oA 50 0 (.pick (.t 42) (.t 49) (.c (.bool false))) [4, 11]]) (.cond (.t 50) (.seq (.reg true 2 [oK 52 2 (oV 7), oK 53 2 (oV 8), oA 54 2 (.idx 11 (.t 52) (.t 53)) [0, 1], oA 55 2 (.load 11 true (.t 54)) [2], oK 56 2 (.load 11 true (.t 3)), oA 57 2 (.call 196 [(.t 55), (.t 56)]) [3, 4], oA 51 2 (oV 57) [5], oA 58 2 (.extr 0 (.t 51)) [6], oA 59 2 (.extr 1 (.t 51)) [6], oA 60 2 (.extr 2 (.t 51)) [6], oN 9 (.alloc [.int .i64 0, .int .i64 0, .bool false, .nils, .nils, .bool false, .nils, .nils, .bool false, .nils, .nils]), oK 10 1 (.alloc [.bool false, .nils, .nils]), ⟨none, none, 2, .store 11 (.t 9) (.t 58), [10, 7, 5, 0, 1, 2, 3, 4, 5, 6, 7, 10, 11]⟩, ⟨none, none, 2, .store 3 (.t 10) (.t 59), [11, 8, 12, 0, 1, 2, 3, 4, 5, 6, 7, 8, 10, 11, 12]⟩, oA 11 2 (oV 60) [9, 13, 0, 1, 2, 3, 4, 5, 6, 7, 8, 9, 10, 11, 12, 13]]) (.seq (.seq (.reg false 0 [oN 61 (oV 11), oN 62 (.un .not (.t 61))]) (.cond (.t 62) (.seq (.reg false 0 [oN 63 (.build [.bool false, .nils, .nils] []), oN 4 (.mov (.c (.nils))), oS (.store 3 (.t 5) (.t 63)), oN 6 (.mov (.c (.bool false)))]) .ret) .skip)) (.seq (.reg false 0 [oN 64 (oV 7), oN 65 (oV 8), oN 66 (.load 11 true (.t 9)), oN 67 (.idx 11 (.t 64) (.t 65)), oS (.store 11 (.t 67) (.t 66))]) (.seq (.reg true 0 [oN 68 (oV 7), oN 69 (.load 3 true (.t 10)), oA 4 0 (oV 68) [0, 0], ⟨none, none, 0, .store 3 (.t 5) (.t 69), [1, 2, 0, 1, 2]⟩, oA 6 0 (.mov (.c (.bool true))) [3, 0, 1, 2, 3]]) .ret)))) .skip)) (.seq (.reg false 2 [oN 70 (.mkSl 11 [.int .i64 0, .int .i64 0, .bool false, .nils, .nils, .bool false, .nils, .nils, .bool false, .nils, .nils] 0 []), oK 71 2 (oV 7), oK 72 2 (oV 8), oK 73 2 (.slice 11 (.t 71) none (some (.t 72))), oK 74 1 (.app 11 184 (.t 70) (.t 73)), oK 12 2 (oV 74)]) (.seq (.reg false 2 [oK 75 2 (oV 12), oK 76 2 (.load 11 true (.t 3)), oK 77 2 (.call 197 [(.t 76)]), oN 78 (.mkSl 11 [.int .i64 0, .int .i64 0, .bool false, .nils, .nils, .bool false, .nils, .nils, .bool false, .nils, .nils] 1 [(0, (.t 77))]), oK 79 1 (.app 11 184 (.t 75) (.t 78)), oK 12 2 (oV 79)]) (.seq (.reg false 1 [oK 80 1 (oV 12), oK 81 1 (oV 7), oK 82 1 (oV 8), oK 83 1 (.slice 11 (.t 81) (some (.t 82)) none), oN 84 (.app 11 184 (.t 80) (.t 83)), oK 85 1 (.call 36 [(cI 0)]), oK 4 1 (oV 84), ⟨none, none, 1, .store 3 (.t 5) (.t 85), []⟩, oK 6 1 (.mov (.c (.bool true)))]) .ret)))))))))⟩
structure D_spec_AddLink (T : Nat → Option Fn) : Prop where
  hT : T 188 = some F_spec_AddLink
  d_spec_RatFromInt : D_spec_RatFromInt T
  d_spec_IsValidLink : D_spec_IsValidLink T
  d_spec_IsLinkSet : D_spec_IsLinkSet T
  d_spec_l06All : D_spec_l06All T
  d_spec_l06Less : D_spec_l06Less T
  d_spec_MergeLinks : D_spec_MergeLinks T
  d_spec_l06Copy : D_spec_l06Copy T
def posL (l : Lk) : List Lk → Nat
  | [] => 0
  | x :: xs => if lkLess x l = true then posL l xs + 1 else 0
theorem posL_le (l : Lk) : ∀ s : List Lk, posL l s ≤ s.length
  | [] => Nat.le_refl _
  | x :: xs => by
    have := posL_le l xs
    unfold posL; split <;> simp <;> omega
theorem posL_at {l : Lk} : ∀ {s : List Lk} {i : Nat}, i ≤ posL l s → i < s.length → lkLess (s.getD i default) l = decide (i < posL l s)
  | [], i, _, h => absurd h (Nat.not_lt_zero _)
  | x :: xs, 0, h, _ => by
    unfold posL
    cases hx : lkLess x l
    · simp [hx]
    · simp [hx]
  | x :: xs, i + 1, h, hi => by
    unfold posL at h ⊢
    split at h
    · rename_i hx
      have := posL_at (s := xs) (i := i) (l := l) (by omega) (by simpa using hi)
      rw [List.getD_cons_succ, this, if_pos hx]
      simp
    · omega
def adR (s : List Lk) (l : Lk) : Option (List Lk × R) :=
  let i := posL l s
  if i = s.length ∨ lkLess l (s.getD i default) = true then some (s.take i ++ l :: s.drop i, intR 0)
  else if mgG (s.getD i default) l = true then some (s.take i ++ mgL (s.getD i default) l :: s.drop (i + 1), mgE (s.getD i default) l) else none
def adOk (s : List Lk) (l : Lk) : Bool := lksOk s && lkOk l && (adR s l).isSome
def adV (s : List Lk) (l : Lk) : List Lk := if lksOk s = true ∧ lkOk l = true then ((adR s l).map (·.1)).getD [] else []
def adE (s : List Lk) (l : Lk) : R := if lksOk s = true ∧ lkOk l = true then ((adR s l).map (·.2)).getD R0 else R0
theorem ad_bad {s : List Lk} {l : Lk} (h : ¬ (lksOk s = true ∧ lkOk l = true)) : adV s l = [] ∧ adE s l = R0 ∧ adOk s l = false := by
  refine ⟨if_neg h, if_neg h, ?_⟩
  unfold adOk
  cases h1 : lksOk s
  · rfl
  · cases h2 : lkOk l
    · rfl
    · exact absurd ⟨h1, h2⟩ h
theorem ad_good {s : List Lk} {l : Lk} (h1 : lksOk s = true) (h2 : lkOk l = true) : adV s l = ((adR s l).map (·.1)).getD [] ∧ adE s l = ((adR s l).map (·.2)).getD R0 ∧ adOk s l = (adR s l).isSome :=
  ⟨if_pos ⟨h1, h2⟩, if_pos ⟨h1, h2⟩, by unfold adOk; rw [h1, h2]; rfl⟩
theorem r_l06All {T : Nat → Option Fn} (h : D_spec_l06All T) {l : List Lk} (hz : szL Lk.sz l ≤ 1048576) : Run T (.fn 194 [lksV l] []) (.fn (slV l.length) (slS 11 (l.map Lk.cells))) := by
  have hl : l.length ≤ 1048576 := by have := szL_eq Lk.sz l; omega
  have : ∃ r σ', Run T (.fn 194 [lksV l] []) (.fn r σ') ∧ (r = slV l.length ∧ σ' = slS 11 (l.map Lk.cells)) := by
    refine run_end (fun _ _ => false) h.hT rfl rfl ?_
    dsimp only [F_spec_l06All, oN, oS, oG, oK, oA, oH, oV, cI, St.enter, List.length_cons, List.length_nil, Nat.zero_add]
    (refine ew ?_; try with_reducible exact True.intro)
    refine loop_at (fun _ _ => false) (α := Nat × List Lk) (fun q => ⟨argE [.any, .any, .any, slV q.2.length, .any, .any, .any, lksV l, iv (l.length : Nat), iv (q.1 : Nat)], slS 11 (q.2.map Lk.cells), 0, 0, [], []⟩) (fun q => q.1 ≤ l.length ∧ q.2 = l.take q.1) (fun q => l.length - q.1) rfl (0, []) ?_ ?_ ?_
    · exact ⟨by omega, by simp⟩
    · (refine Fg_re [] (by simp) (by intro p hp; cases hp) rfl ?_) <;> (try (refine ew ?_; try with_reducible exact True.intro)) <;> (repeat' (first | exact True.intro | omega | exact CanE_ptr rfl (by simp) | refine ⟨?_, ?_⟩ | exact of_eq_true (CanE_nil _ _ _) | exact CanE_of rfl (by simp; done) | exact CanE_of rfl rfl | (refine CanE_msl rfl ?_ rfl; simp [irows]; done) | (refine CanE_msl rfl ?_ rfl; simp [irows]; omega) | (refine CanE_frz ?_ ?_; (focus ((refine ew ?_; try with_reducible exact True.intro); done)); (intro q hq k s0 l0; simp; done))))
    · rintro ⟨i, xs⟩ ⟨hi, hx0⟩
      dsimp only at hi hx0
      have hx : xs.length ≤ 1048576 := by rw [hx0]; simp; omega
      by_cases hc : (i : Int) < (l.length : Nat)
      · have hil : i < l.length := by omega
        have es : l.take (i + 1) = l.take i ++ [l.getD i default] := by
          rw [List.take_add_one, List.getElem?_eq_getElem hil, List.getD_eq_getElem?_getD, List.getElem?_eq_getElem hil]; rfl
        rw [← hx0] at es
        have hys := szL_memb (f := Lk.sz) hz (getD_mem hil)
        obtain ⟨y, hy⟩ : ∃ y, l.getD i default = y := ⟨_, rfl⟩
        rw [hy] at es hys
        have cc := c_l06Copy h.d_spec_l06Copy hys
        (rcases xs with _ | ⟨x, xs⟩ <;> simp only [List.length_nil, List.length_cons, slV_0, slV_s, List.map_nil, List.map_cons, slS_0, slS_s] at hx ⊢)
        · (refine ew3 @hc @mg @hy ?_; try with_reducible exact True.intro)
          refine PFK_of cc ?_
          (refine ew ?_; try with_reducible exact True.intro)
          exact ⟨by omega, (i + 1, ([]) ++ [y]), by dsimp only; omega, ⟨by dsimp only; omega, es.symm⟩, by (simp only [List.map_append, List.map_cons, List.map_nil]; refine Fg_push (k := 2) (by simp only [stR_app, stR_cons, stR_nil, and_true, true_and]; (repeat' (first | exact st_Lk _ | exact st1_Lk _ | refine ⟨?_, ?_⟩))) rfl ?_; (try (refine ew ?_; try with_reducible exact True.intro)); (repeat' (first | exact True.intro | omega | exact CanE_push (by simp) (by simp) (by simp) | refine ⟨?_, ?_⟩ | exact CanE_of rfl (by simp))))⟩
        · (refine ew3 @hc @mg @hy ?_; try with_reducible exact True.intro)
          refine PFK_of cc ?_
          (refine ew ?_; try with_reducible exact True.intro)
          exact ⟨by omega, (i + 1, (x :: xs) ++ [y]), by dsimp only; omega, ⟨by dsimp only; omega, es.symm⟩, by (simp only [List.map_append, List.map_cons, List.map_nil]; refine Fg_push (k := 3) (by simp only [stR_app, stR_cons, stR_nil, and_true, true_and]; (repeat' (first | exact st_Lk _ | exact st1_Lk _ | refine ⟨?_, ?_⟩))) rfl ?_; (try (refine ew ?_; try with_reducible exact True.intro)); (repeat' (first | exact True.intro | omega | exact CanE_push (by simp) (by simp) (by simp) | refine ⟨?_, ?_⟩ | exact CanE_of rfl (by simp))))⟩
      · have hie : i = l.length := by omega
        rw [hie, List.take_length] at hx0
        have hx1 : l = xs := hx0.symm
        subst hx1
        clear hx0 hie
        rcases l with _ | ⟨x, xs⟩ <;> simp only [List.length_nil, List.length_cons, slV_0, slV_s, List.map_nil, List.map_cons, slS_0, slS_s] at hc ⊢
        · (refine ew1 @hc ?_; try with_reducible exact True.intro)
        · (refine ew1 @hc ?_; try with_reducible exact True.intro)
  obtain ⟨r, σ', h1, rfl, rfl⟩ := this
  exact h1
theorem lax_ad0 : LaxV (.tup [lksV [], ratV R0, .bool false]) (.tup [.nils, .agg [.bool false, .nils, .nils], .bool false]) := by
  simp only [LaxV, LaxL]
  exact ⟨_, rfl, _, _, rfl, .inl ⟨rfl, .inl rfl⟩, _, _, rfl, laxR0, _, _, rfl, rfl, rfl⟩
theorem addS_st {n m : Nat} {s : Store} {rows : List (List V)} (h : stillR rows) (hs : s.length = m) : addS s [some ⟨n, rows⟩] = s ++ [some ⟨n, rows⟩] := by
  unfold addS
  simp only [List.map_cons, List.map_nil, Option.map_some, mapO]
  congr 4
  have : ∀ r ∈ rows, r.map (mapV (shiftN s.length)) = r := fun r hr => by
    conv => rhs; rw [← List.map_id r]
    apply List.map_congr_left
    intro v hv
    exact mapV_still (h r hr v hv)
  conv => rhs; rw [← List.map_id rows]
  apply List.map_congr_left
  intro r hr
  exact this r hr
theorem end_ad {σ : Store} {rows : List (List V)} {L : List Lk} {n : Nat} {r : R} {b : Bool} {t : V} (hrow : rows = L.map Lk.cells) (hn : n = L.length) (ht : t = .tup [lksV L, ratV r, .bool b]) :
    optK (Option.map V.tup (match resO1 σ 0 n (some ⟨11, rows⟩) with
      | some d => (match (match resolve σ 11 (.agg r.cells) with
        | some d => some [d, V.bool b]
        | none => none) with
        | some ds => some (d :: ds)
        | none => none)
      | none => none)) (LaxV t) := by
  subst hrow hn ht
  have h1 : resO1 σ 0 L.length (some ⟨11, L.map Lk.cells⟩) = some (.sl 11 (L.map Lk.cells)) := by
    rw [resO1_st (st_Lk L) (by simp), List.drop_zero, List.take_of_length_le (by simp)]
  have h2 : resolve σ 11 (.agg r.cells) = some (.agg r.cells) := by
    show resolve σ (10 + 1) (.agg r.cells) = _
    rw [resolve, mapM_still (n := 9) (fun v hv => st_R [r] _ (by simp) v hv)]; rfl
  rw [h1, h2]
  exact laxV_refl _
theorem c_sAddLink {T : Nat → Option Fn} (h : D_spec_AddLink T) {s : List Lk} {l : Lk} (hw : wfL Lk.wf s := by first | omega | assumption | (simp; omega)) (hl : l.wf := by first | with_reducible assumption | exact cn_wf (by first | with_reducible assumption | with_reducible exact addR_cn _ _ | with_reducible exact subR_cn _ _ | with_reducible exact mulR_cn _ _ | with_reducible exact divR_cn _ _ | with_reducible exact negR_cn _ | with_reducible exact cn_0 | with_reducible exact intR_cn (by decide))) (hz : szL Lk.sz s ≤ 1048576 := by first | omega | assumption | (simp; omega)) (hz2 : l.sz ≤ 1048576 := by first | omega | assumption | (simp; omega)) : PF T 188 [lksV s, lkV l] (.tup [lksV (adV s l), ratV (adE s l), .bool (adOk s l)]) := by
  have hll : s.length ≤ 1048576 := by have := szL_eq Lk.sz s; omega
  have ci := c_sIsLinkSet h.d_spec_IsLinkSet hw
  have cl := c_sIsValidLink h.d_spec_IsValidLink hl
  cases h1 : lksOk s
  · rw [h1] at ci
    obtain ⟨e1, e2, e3⟩ := ad_bad (s := s) (l := l) (by rw [h1]; simp)
    rw [e1, e2, e3]
    refine pf_endL (fun _ _ => false) h.hT rfl rfl ?_
    dsimp only [F_spec_AddLink, oN, oS, oG, oK, oA, oH, oV, cI]
    (refine ev ?_; try with_reducible exact True.intro)
    refine PFK_of ci ?_
    (refine ev ?_; try with_reducible exact True.intro)
    exact lax_ad0
  rw [h1] at ci
  cases h2 : lkOk l
  · rw [h2] at cl
    obtain ⟨e1, e2, e3⟩ := ad_bad (s := s) (l := l) (by rw [h2]; simp)
    rw [e1, e2, e3]
    refine pf_endL (fun _ _ => false) h.hT rfl rfl ?_
    dsimp only [F_spec_AddLink, oN, oS, oG, oK, oA, oH, oV, cI]
    (refine ev ?_; try with_reducible exact True.intro)
    refine PFK_of ci ?_
    (refine ev ?_; try with_reducible exact True.intro)
    refine PFK_of cl ?_
    (refine ev ?_; try with_reducible exact True.intro)
    exact lax_ad0
  rw [h2] at cl
  have ra := r_l06All h.d_spec_l06All hz
  obtain ⟨e1, e2, e3⟩ := ad_good h1 h2
  rw [e1, e2, e3]
  clear e1 e2 e3
  have hst := st_Lk s
  rcases s with _ | ⟨s0, s⟩
  · have ra : Run T (.fn 194 [lksV []] []) (.fn .nils []) := ra
    have c6 := c_l06Copy h.d_spec_l06Copy hz2
    have c0 := c_sRatFromInt h.d_spec_RatFromInt (n := 0) (by omega)
    refine pf_endL (fun x d => x == 194) h.hT rfl rfl ?_
    dsimp only [F_spec_AddLink, oN, oS, oG, oK, oA, oH, oV, cI]
    (refine ew ?_; try with_reducible exact True.intro)
    refine PFK_of ci ?_
    (refine ew ?_; try with_reducible exact True.intro)
    refine PFK_of cl ?_
    (refine ew ?_; try with_reducible exact True.intro)
    refine RefK_run0 ra (by (refine ew ?_; try with_reducible exact True.intro)) (by (refine ew ?_; try with_reducible exact True.intro)) ?_
    rw [show ∀ s : Store, addS s [] = s from fun s => by simp [addS]]
    rw [show ∀ g, mapV g .nils = .nils from fun g => rfl]
    (refine ew ?_; try with_reducible exact True.intro)
    refine loop_step (fun x d => x == 194) rfl ?_
    have h00 : ((0 : Int) < ((0 : Nat) : Int)) = False := by simp
    (refine ew1 @h00 ?_; try with_reducible exact True.intro)
    refine PFK_of c6 ?_
    (refine ew ?_; try with_reducible exact True.intro)
    refine ⟨by omega, ?_⟩
    refine PFK_of c0 ?_
    (refine ew ?_; try with_reducible exact True.intro)
    have hadI : adR [] l = some ([l], intR 0) := by
      unfold adR posL
      exact if_pos (.inl rfl)
    rw [hadI]
    exact laxV_refl _
  · simp only [List.length_cons, slV_s, List.map_cons, slS_s] at ra
    generalize hS : s0 :: s = S at *
    have hSl : S.length = s.length + 1 := by rw [← hS]; rfl
    have hSm : s0.cells :: s.map Lk.cells = S.map Lk.cells := by rw [← hS]; rfl
    rw [hSm, ← hSl] at ra
    refine pf_endL (fun x d => x == 194) h.hT rfl rfl ?_
    dsimp only [F_spec_AddLink, oN, oS, oG, oK, oA, oH, oV, cI]
    (refine ew ?_; try with_reducible exact True.intro)
    refine PFK_of ci ?_
    (refine ew ?_; try with_reducible exact True.intro)
    refine PFK_of cl ?_
    (refine ew ?_; try with_reducible exact True.intro)
    refine RefK_run0 ra (by (refine ew ?_; try with_reducible exact True.intro)) (by (refine ew ?_; try with_reducible exact True.intro)) ?_
    rw [addS_st hst (m := 2) rfl]
    rw [show mapV (shiftN ([some ⟨11, [l.cells]⟩, some ⟨3, [[.bool false, .nils, .nils]]⟩] : Store).length) (.msl 0 0 S.length) = .msl 2 0 S.length from rfl]
    (refine ew ?_; try with_reducible exact True.intro)
    have hpl := posL_le l S
    refine loop_at (fun x d => x == 194) (α := Nat) (fun i => ⟨argE [.any, .any, .any, .ptr 0 0 0, .any, .ptr 1 0 0, .any, .msl 2 0 S.length, iv (i : Nat)], [some ⟨11, [l.cells]⟩, some ⟨3, [[.bool false, .nils, .nils]]⟩, some ⟨11, S.map Lk.cells⟩], 0, 0, [], []⟩) (fun i => i ≤ posL l S) (fun i => posL l S - i) rfl 0 ?_ ?_ ?_
    · omega
    · (refine Fg_env ?_) <;> (try (refine ew ?_; try with_reducible exact True.intro)) <;> (repeat' (first | refine ⟨?_, ?_⟩ | exact EvV_int (by omega) | exact EvV_of (by simp) | exact EvV_nil _))
    · intro i hi
      have hT : ∀ k, List.take k (S.map Lk.cells) = (S.take k).map Lk.cells := fun k => List.map_take.symm
      have hD : ∀ k, List.drop k (S.map Lk.cells) = (S.drop k).map Lk.cells := fun k => List.map_drop.symm
      have hap : (∀ A, A.map Lk.cells ++ [l.cells] = (A ++ [l]).map Lk.cells) ∧ ∀ A B : List Lk, A.map Lk.cells ++ B.map Lk.cells = (A ++ B).map Lk.cells := ⟨fun A => by simp, fun A B => by simp⟩
      by_cases hc : (i : Int) < (S.length : Nat)
      · have hil : i < S.length := by omega
        have hpa := posL_at hi hil
        have hrow := mg? (f := Lk.cells) hil
        generalize hx : S.getD i default = x at hpa hrow
        have cl1 := c_l06Less h.d_spec_l06Less (k := x) (l := l)
        rw [hpa] at cl1
        (refine ew2 @hc @hrow ?_; try with_reducible exact True.intro)
        refine PFK_of cl1 ?_
        by_cases hip : i < posL l S
        · rw [decide_eq_true hip]
          (refine ew ?_; try with_reducible exact True.intro)
          exact ⟨i + 1, by omega, by omega, by (refine Fg_env ?_) <;> (try (refine ew ?_; try with_reducible exact True.intro)) <;> (repeat' (first | refine ⟨?_, ?_⟩ | exact EvV_int (by omega) | exact EvV_of (by simp) | exact EvV_nil _))⟩
        · rw [decide_eq_false hip]
          have hie : i = posL l S := by omega
          have cl2 := c_l06Less h.d_spec_l06Less (k := l) (l := x)
          (refine ew2 @hc @hrow ?_; try with_reducible exact True.intro)
          refine PFK_of cl2 ?_
          have c6 := c_l06Copy h.d_spec_l06Copy hz2
          have c0 := c_sRatFromInt h.d_spec_RatFromInt (n := 0) (by omega)
          have hadI : lkLess l x = true → adR S l = some (S.take i ++ l :: S.drop i, intR 0) := fun h => by
            unfold adR
            dsimp only
            rw [← hie, hx]
            exact if_pos (.inr h)
          cases hlx : lkLess l x
          · (refine ew2 @hc @hrow ?_; try with_reducible exact True.intro)
            have hxo : lkOk x = true := hx ▸ lksOk_at h1 hil
            have hxw : x.wf := by
              have := hw.2 x (by rw [← hx, List.getD_eq_getElem?_getD, List.getElem?_eq_getElem hil]; exact List.getElem_mem hil)
              exact this
            have hab : x.a = l.a ∧ x.b = l.b := by
              rw [decide_eq_false hip] at hpa
              unfold lkLess at hpa hlx
              simp at hpa hlx
              omega
            have hP : mgP x l = true := by unfold mgP; rw [hxo, h2, decide_eq_true hab.1, decide_eq_true hab.2]; rfl
            have hadM : adR S l = if mgG x l = true then some (S.take i ++ mgL x l :: S.drop (i + 1), mgE x l) else none := by
              unfold adR
              dsimp only
              rw [← hie, hx, if_neg (by rw [hlx]; simp; omega)]
            have cm := c_sMergeLinks h.d_spec_MergeLinks hxw hl
            have e1 : mgOk x l = mgG x l := by unfold mgOk; rw [hP, Bool.true_and]
            have e2 : mgLV x l = if mgG x l = true then mgL x l else Lk0 := by unfold mgLV; rw [e1]
            have e3 : mgEV x l = if mgG x l = true then mgE x l else R0 := by unfold mgEV; rw [e1]
            rw [e1, e2, e3] at cm
            rw [hadM]
            cases hg : mgG x l
            · rw [hg, if_neg (by simp), if_neg (by simp)] at cm
              refine PFK_of cm ?_
              (refine ew ?_; try with_reducible exact True.intro)
              refine ⟨by unfold OkA; decide +kernel, ?_⟩
              exact lax_ad0
            · rw [hg, if_pos rfl, if_pos rfl] at cm
              generalize mgL x l = mm at cm ⊢
              generalize mgE x l = me at cm ⊢
              refine PFK_of cm ?_
              (refine ew ?_; try with_reducible exact True.intro)
              have hset : (List.map Lk.cells S).set i mm.cells = List.map Lk.cells (S.take i ++ mm :: S.drop (i + 1)) := by
                rw [List.set_eq_take_append_cons_drop, if_pos (by simpa using hil), List.map_append, List.map_cons, List.map_take, List.map_drop]
              refine ⟨by unfold OkA; decide +kernel, ?_⟩
              have hLl : (S.take i ++ mm :: S.drop (i + 1)).length = S.length := by simp; omega
              generalize S.take i ++ mm :: S.drop (i + 1) = L' at hset hLl ⊢
              have htk : List.take S.length L' = L' := List.take_of_length_le (by omega)
              (refine ew3 @hrow @hset @htk ?_; try with_reducible exact True.intro)
              refine ⟨by unfold OkA; decide +kernel, ?_⟩
              (refine ew1 @htk ?_; try with_reducible exact True.intro)
              exact end_ad rfl hLl.symm rfl
          · rw [hadI hlx]
            have hd : (List.map Lk.cells (List.drop i S) = []) = False := eq_false (by intro e; have := congrArg List.length e; rw [List.length_map, List.length_drop] at this; have h9 : ([] : List (List V)).length = 0 := rfl; omega)
            have hl1 : (List.drop i S).length ≤ 1048576 := by rw [List.length_drop]; omega
            have hl2 : (List.take i S).length ≤ 1048576 := by rw [List.length_take]; omega
            rcases Nat.eq_zero_or_pos i with h0 | h0
            · have hn : (List.map Lk.cells (List.take i S) = []) = True := eq_true (by rw [h0]; rfl)
              (refine ew6 @hc @hrow @hT @hD @hn @hd ?_; try with_reducible exact True.intro)
              refine PFK_of c6 ?_
              (refine ew4 @hT @hD @hn @hd ?_; try with_reducible exact True.intro)
              refine ⟨by omega, ?_⟩
              refine ⟨by omega, ?_⟩
              refine PFK_of c0 ?_
              (refine ew4 @hT @hD @hn @hd ?_; try with_reducible exact True.intro)
              exact end_ad (L := S.take i ++ l :: S.drop i) (by rw [h0]; simp) (by rw [h0]; simp; omega) rfl
            · have hn : (List.map Lk.cells (List.take i S) = []) = False := eq_false (by intro e; have := congrArg List.length e; rw [List.length_map, List.length_take] at this; have h9 : ([] : List (List V)).length = 0 := rfl; omega)
              (refine ew6 @hc @hrow @hT @hD @hn @hd ?_; try with_reducible exact True.intro)
              refine ⟨by omega, ?_⟩
              refine PFK_of c6 ?_
              (refine ew5 @hT @hD @hn @hd @hap ?_; try with_reducible exact True.intro)
              refine ⟨by omega, ?_⟩
              refine ⟨by simp only [List.length_append, List.length_cons, List.length_nil]; omega, ?_⟩
              refine PFK_of c0 ?_
              (refine ew5 @hT @hD @hn @hd @hap ?_; try with_reducible exact True.intro)
              exact end_ad (L := S.take i ++ l :: S.drop i) (by simp) (by simp; omega) rfl
      · have hie : i = S.length := by omega
        have c6 := c_l06Copy h.d_spec_l06Copy hz2
        have c0 := c_sRatFromInt h.d_spec_RatFromInt (n := 0) (by omega)
        have hadI : adR S l = some (S ++ [l], intR 0) := by
          unfold adR
          dsimp only
          have hpe : posL l S = S.length := by omega
          rw [hpe, if_pos (.inl rfl), List.take_length, List.drop_length]
        rw [hadI]
        have hS1 : (List.map Lk.cells S = []) = False := eq_false (by intro e; have := congrArg List.length e; rw [List.length_map] at this; have h9 : ([] : List (List V)).length = 0 := rfl; omega)
        (refine ew4 @hc @hT @hD @hS1 ?_; try with_reducible exact True.intro)
        refine ⟨by omega, ?_⟩
        refine PFK_of c6 ?_
        have hd : (List.map Lk.cells (List.drop i S) = []) = True := eq_true (by rw [List.drop_eq_nil_of_le (by omega)]; rfl)
        (refine ew5 @hT @hD @hS1 @hap @hd ?_; try with_reducible exact True.intro)
        refine ⟨by omega, ?_⟩
        refine PFK_of c0 ?_
        (refine ew5 @hT @hD @hS1 @hap @hd ?_; try with_reducible exact True.intro)
        exact end_ad (L := S ++ [l]) (by simp) (by simp) rfl
end Go.Ml
end
section
namespace Go.Ml
theorem szL_bd {α : Type} {f : α → Nat} {k : Nat} : ∀ {l : List α}, (∀ x ∈ l, f x ≤ k) → szL f l ≤ l.length * (k + 1)
  | [], _ => by simp [szL]
  | x :: l, h => by
    have h1 := h x (by simp)
    have h2 := szL_bd (f := f) (k := k) (l := l) fun y hy => h y (by simp [hy])
    unfold szL at h2 ⊢
    simp only [List.length_cons, List.map_cons, List.sum_cons]
    rw [Nat.succ_mul]
    omega
end Go.Ml
end
section
set_option linter.unusedSimpArgs false
set_option linter.unusedVariables false
set_option maxRecDepth 100000
set_option maxHeartbeats 8000000
namespace Go.Ml
theorem lksOk_key {l : List Lk} (h : lksOk l = true) : ∀ i, i < l.length → (i : Int) ≤ 10 * (l.getD i default).a + (l.getD i default).b
  | 0, hi => by
    have := lkOk_nd (lksOk_at h hi)
    omega
  | i + 1, hi => by
    have k1 := lksOk_key h i (by omega)
    have k2 := lksOk_adj h hi
    have k3 := lkOk_nd (lksOk_at h hi)
    have k4 := lkOk_nd (lksOk_at h (show i < l.length by omega))
    unfold lkLess at k2
    simp only [Bool.or_eq_true, Bool.and_eq_true, decide_eq_true_eq] at k2
    omega
theorem lksOk_len {l : List Lk} (h : lksOk l = true) : l.length ≤ 100 := by
  rcases Nat.lt_or_ge 100 l.length with hl | hl
  · have k1 := lksOk_key h (l.length - 1) (by omega)
    have k3 := lkOk_nd (lksOk_at h (show l.length - 1 < l.length by omega))
    omega
  · exact hl
theorem adR_mem {s : List Lk} {l : Lk} {t : List Lk} {e : R} (h : adR s l = some (t, e)) (h1 : lksOk s = true) (h2 : lkOk l = true) : (∀ x ∈ t, x.w.cn ∧ x.dx.cn ∧ x.dy.cn) ∧ e.cn ∧ t.length ≤ s.length + 1 := by
  unfold adR at h
  dsimp only at h
  have hp := posL_le l s
  have hs : ∀ x ∈ s, x.w.cn ∧ x.dx.cn ∧ x.dy.cn := fun x hx => lkOk_cn (lksOk_mem h1 hx)
  split at h
  · cases h
    refine ⟨fun x hx => ?_, intR_cn (by decide), by simp; omega⟩
    simp only [List.mem_append, List.mem_cons] at hx
    rcases hx with hx | rfl | hx
    · exact hs x (List.mem_of_mem_take hx)
    · exact lkOk_cn h2
    · exact hs x (List.mem_of_mem_drop hx)
  · rename_i hc
    split at h
    · cases h
      refine ⟨fun x hx => ?_, mgE_cn _ _, by simp; omega⟩
      simp only [List.mem_append, List.mem_cons] at hx
      rcases hx with hx | rfl | hx
      · exact hs x (List.mem_of_mem_take hx)
      · exact ⟨mgW_cn _ _, mgX_cn _ _, mgY_cn _ _⟩
      · exact hs x (List.mem_of_mem_drop hx)
    · cases h
theorem lk_cn_sz {x : Lk} (h : x.w.cn ∧ x.dx.cn ∧ x.dy.cn) : x.sz ≤ 144 := by
  have a := cn_len h.1
  have b := cn_len h.2.1
  have c := cn_len h.2.2
  unfold Lk.sz R.sz
  omega
theorem adV_cn (s : List Lk) (l : Lk) : (∀ x ∈ adV s l, x.w.cn ∧ x.dx.cn ∧ x.dy.cn) ∧ (adE s l).cn ∧ (adV s l).length ≤ 101 := by
  by_cases h : lksOk s = true ∧ lkOk l = true
  · obtain ⟨e1, e2, _⟩ := ad_good h.1 h.2
    have hl := lksOk_len h.1
    rw [e1, e2]
    cases hr : adR s l with
    | none => exact ⟨by simp, cn_0, by simp⟩
    | some p =>
      obtain ⟨k1, k2, k3⟩ := adR_mem (t := p.1) (e := p.2) hr h.1 h.2
      exact ⟨k1, k2, by simp only [Option.map_some, Option.getD_some]; omega⟩
  · obtain ⟨e1, e2, _⟩ := ad_bad h
    rw [e1, e2]
    exact ⟨by simp, cn_0, by simp⟩
end Go.Ml
end
section
set_option linter.unusedSimpArgs false
set_option linter.unusedVariables false
set_option maxRecDepth 100000
set_option maxHeartbeats 8000000
namespace Go.Ml
theorem wfL_at {α : Type} [Inhabited α] {f : α → Prop} {l : List α} (h : wfL f l) {k : Nat} (hk : k < l.length) : f (l.getD k default) := by
  refine h.2 _ ?_
  rw [List.getD_eq_getElem?_getD, List.getElem?_eq_getElem hk]; exact List.getElem_mem hk
end Go.Ml
end
section
set_option linter.unusedSimpArgs false
set_option linter.unusedVariables false
set_option maxRecDepth 100000
set_option maxHeartbeats 8000000
namespace Go.Ml
def F_spec_JoinLinks : Fn := ⟨1, 41, [.tmp 2, .cell 3 3 true, .tmp 4], (.seq (.reg false 1 [oK 2 1 (.mov (.c (.nils))), oN 3 (.alloc [.bool false, .nils, .nils]), oK 4 1 (.mov (.c (.bool false)))]) (.seq (.reg false 1 [oN 12 (.mkSl 11 [.int .i64 0, .int .i64 0, .bool false, .nils, .nils, .bool false, .nils, .nils, .bool false, .nils, .nils] 0 []), oK 5 1 (oV 12)]) (.seq (.reg false 1 [oK 13 1 (.call 36 [(cI 0)]), oN 6 (.alloc [.bool false, .nils, .nils]), ⟨none, none, 1, .store 3 (.t 6) (.t 13), []⟩]) (.seq (.seq (.reg false 0 [oN 14 (oV 0), oN 15 (.len (.t 14)), oN 16 (.mov (cI 0))]) (.block 0 (.loop (.seq (.reg false 0 [oN 17 (.bin .lss (.t 16) (.t 15))]) (.seq (.cond (.t 17) .skip (.exit 0)) (.seq (.block 1 (.seq (.reg false 1 [oK 18 1 (.idx 11 (.t 14) (.t 16)), oK 19 1 (.load 11 true (.t 18)), oN 8 (.alloc [.int .i64 0, .int .i64 0, .bool false, .nils, .nils, .bool false, .nils, .nils, .bool false, .nils, .nils]), ⟨none, none, 1, .store 11 (.t 8) (.t 19), []⟩]) (.seq (.reg false 1 [oK 21 1 (oV 5), oK 22 1 (.load 11 true (.t 8)), oK 23 1 (.call 188 [(.t 21), (.t 22)]), oK 20 1 (oV 23), oK 24 1 (.extr 0 (.t 20)), oK 25 1 (.extr 1 (.t 20)), oK 26 1 (.extr 2 (.t 20)), oN 10 (.alloc [.bool false, .nils, .nils]), oK 9 1 (oV 24), ⟨none, none, 1, .store 3 (.t 10) (.t 25), []⟩, oK 11 1 (oV 26)]) (.seq (.seq (.reg false 0 [oN 27 (oV 11), oN 28 (.un .not (.t 27))]) (.cond (.t 28) (.seq (.reg false 0 [oN 29 (.build [.bool false, .nils, .nils] []), oN 2 (.mov (.c (.nils))), oS (.store 3 (.t 3) (.t 29)), oN 4 (.mov (.c (.bool false)))]) .ret) .skip)) (.seq (.reg false 0 [oN 30 (oV 9), oN 5 (oV 30)]) (.reg false 0 [oN 31 (.load 3 true (.t 6)), oN 32 (.load 3 true (.t 10)), oN 33 (.call 189 [(.t 31), (.t 32)]), oS (.store 3 (.t 6) (.t 33))])))))) (.reg false 0 [oN 34 (.bin .add (.t 16) (cI 1)), oN 16 (oV 34)]))))))) (.seq (.seq (.reg false 0 [oN 35 (.load 3 true (.t 6)), oN 36 (.call 100 [(.t 35)]), oN 37 (.un .not (.t 36))]) (.cond (.t 37) (.seq (.reg false 0 [oN 38 (.build [.bool false, .nils, .nils] []), oN 2 (.mov (.c (.nils))), oS (.store 3 (.t 3) (.t 38)), oN 4 (.mov (.c (.bool false)))]) .ret) .skip)) (.seq (.reg true 0 [oN 39 (oV 5), oN 40 (.load 3 true (.t 6)), oA 2 0 (oV 39) [0, 0], ⟨none, none, 0, .store 3 (.t 3) (.t 40), [1, 2, 0, 1, 2]⟩, oA 4 0 (.mov (.c (.bool true))) [3, 0, 1, 2, 3]]) .ret))))))⟩
structure D_spec_JoinLinks (T : Nat → Option Fn) : Prop where
  hT : T 179 = some F_spec_JoinLinks
  d_spec_RatFromInt : D_spec_RatFromInt T
  d_spec_RatOk : D_spec_RatOk T
  d_spec_AddLink : D_spec_AddLink T
  d_spec_RatAdd : D_spec_RatAdd T
theorem lksOk_iff {l : List Lk} : lksOk l = true ↔ (∀ x ∈ l, lkOk x = true) ∧ l.Pairwise fun k l => lkLess k l = true := by
  constructor
  · intro h
    exact ⟨fun x hx => lksOk_mem h hx, (lksOk_pw h).imp fun h => h.1⟩
  · rintro ⟨h1, h2⟩
    unfold lksOk
    refine allB_t fun i hi => ?_
    have a := h1 (l.getD i default) (getD_mem hi)
    unfold lksAt
    rw [List.pairwise_iff_getElem] at h2
    rcases Nat.eq_zero_or_pos i with h0 | h0
    · subst h0; rw [a, decide_eq_true rfl]; rfl
    · have := h2 (i - 1) i (by omega) hi (by omega)
      have e1 : l.getD (i - 1) default = l[i - 1] := by rw [List.getD_eq_getElem?_getD, List.getElem?_eq_getElem]; rfl
      have e2 : l.getD i default = l[i] := by rw [List.getD_eq_getElem?_getD, List.getElem?_eq_getElem]; rfl
      rw [← e1, ← e2] at this
      rw [a, this, Bool.or_true]; rfl
theorem lkLess_irr (k : Lk) : lkLess k k = false := by simp [lkLess]
theorem lkLess_tri {k l : Lk} (h1 : lkLess k l = false) (h2 : lkLess l k = false) : k.a = l.a ∧ k.b = l.b := by
  unfold lkLess at h1 h2
  simp at h1 h2
  omega
theorem lkLess_congr {k l m : Lk} (ha : l.a = m.a) (hb : l.b = m.b) : lkLess k l = lkLess k m ∧ lkLess l k = lkLess m k := by
  unfold lkLess; rw [ha, hb]; exact ⟨rfl, rfl⟩
theorem posL_pre {l : Lk} : ∀ {s : List Lk} {x : Lk}, x ∈ s.take (posL l s) → lkLess x l = true
  | [], x, h => by simp [posL] at h
  | y :: s, x, h => by
    unfold posL at h
    split at h
    · rename_i hy
      rw [List.take_succ_cons] at h
      rcases List.mem_cons.1 h with rfl | h
      · exact hy
      · exact posL_pre h
    · simp at h
theorem posL_post {l : Lk} {s : List Lk} (h : s.Pairwise fun k l => lkLess k l = true) : ∀ x ∈ s.drop (posL l s), lkLess x l = false := by
  induction s with
  | nil => intro x hx; simp at hx
  | cons y s ih =>
    rw [List.pairwise_cons] at h
    intro x hx
    unfold posL at hx
    split at hx
    · rw [List.drop_succ_cons] at hx
      exact ih h.2 x hx
    · rename_i hy
      rw [List.drop_zero] at hx
      have hy : lkLess y l = false := by simpa using hy
      rcases List.mem_cons.1 hx with rfl | hx
      · exact hy
      · cases hxl : lkLess x l
        · rfl
        · have := lkLess_trans (h.1 x hx) hxl
          rw [this] at hy; cases hy
theorem pw_mid {A B : List Lk} {m : Lk} (h : (A ++ B).Pairwise fun k l => lkLess k l = true) (h1 : ∀ x ∈ A, lkLess x m = true) (h2 : ∀ x ∈ B, lkLess m x = true) : (A ++ m :: B).Pairwise fun k l => lkLess k l = true := by
  rw [List.pairwise_append] at h ⊢
  refine ⟨h.1, List.pairwise_cons.2 ⟨h2, h.2.1⟩, fun x hx y hy => ?_⟩
  rcases List.mem_cons.1 hy with rfl | hy
  · exact h1 x hx
  · exact h.2.2 x hx y hy
theorem adR_ok {s : List Lk} {l : Lk} {t : List Lk} {e : R} (h : adR s l = some (t, e)) (h1 : lksOk s = true) (h2 : lkOk l = true) : lksOk t = true := by
  obtain ⟨hv, hp⟩ := lksOk_iff.1 h1
  have hpl := posL_le l s
  have hpre := @posL_pre l s
  have hpost := posL_post (l := l) hp
  unfold adR at h
  dsimp only at h
  generalize posL l s = i at *
  have hsp : s.take i ++ s.drop i = s := List.take_append_drop i s
  split at h
  · rename_i hc
    cases h
    refine lksOk_iff.2 ⟨fun x hx => ?_, pw_mid (by rw [hsp]; exact hp) (fun x hx => hpre hx) fun x hx => ?_⟩
    · simp only [List.mem_append, List.mem_cons] at hx
      rcases hx with hx | rfl | hx
      · exact hv x (List.mem_of_mem_take hx)
      · exact h2
      · exact hv x (List.mem_of_mem_drop hx)
    · rcases hc with hc | hc
      · rw [hc, List.drop_length] at hx; cases hx
      · by_cases hi : i < s.length
        · have hd : s.drop i = s.getD i default :: s.drop (i + 1) := by
            rw [List.drop_eq_getElem_cons hi, List.getD_eq_getElem?_getD, List.getElem?_eq_getElem hi]; rfl
          rw [hd] at hx
          rcases List.mem_cons.1 hx with rfl | hx
          · exact hc
          · have hpd := hp.drop (i := i)
            rw [hd, List.pairwise_cons] at hpd
            exact lkLess_trans hc (hpd.1 x hx)
        · rw [List.drop_eq_nil_of_le (by omega)] at hx; cases hx
  · rename_i hc
    split at h
    · rename_i hg
      cases h
      have hi : i < s.length := by
        rcases Nat.lt_or_ge i s.length with k | k
        · exact k
        · exact absurd (.inl (by omega)) hc
      have hd : s.drop i = s.getD i default :: s.drop (i + 1) := by
        rw [List.drop_eq_getElem_cons hi, List.getD_eq_getElem?_getD, List.getElem?_eq_getElem hi]; rfl
      have hx0 := hpost (s.getD i default) (by rw [hd]; simp)
      have hxl : lkLess l (s.getD i default) = false := by
        cases hq : lkLess l (s.getD i default)
        · rfl
        · exact absurd (.inr hq) hc
      have hsm := getD_mem (l := s) hi
      generalize s.getD i default = x at *
      obtain ⟨ea, eb⟩ := lkLess_tri hx0 hxl
      have hP : mgP x l = true := by unfold mgP; rw [hv x hsm, h2, decide_eq_true ea, decide_eq_true eb]; rfl
      have hm : lkOk (mgL x l) = true := by
        rw [mg_valid hP]
        unfold mgG at hg
        simp only [Bool.and_eq_true] at hg ⊢
        exact hg.1
      have hcg := fun k => lkLess_congr (k := k) (l := mgL x l) (m := x) rfl rfl
      have hp2 : (s.take i ++ x :: s.drop (i + 1)).Pairwise fun k l => lkLess k l = true := by rw [← hd, hsp]; exact hp
      rw [List.pairwise_append] at hp2
      refine lksOk_iff.2 ⟨fun y hy => ?_, pw_mid ?_ (fun y hy => ?_) fun y hy => ?_⟩
      · simp only [List.mem_append, List.mem_cons] at hy
        rcases hy with hy | rfl | hy
        · exact hv y (List.mem_of_mem_take hy)
        · exact hm
        · exact hv y (List.mem_of_mem_drop hy)
      · rw [List.pairwise_append]
        exact ⟨hp2.1, (List.pairwise_cons.1 hp2.2.1).2, fun a ha b hb => hp2.2.2 a ha b (List.mem_cons_of_mem _ hb)⟩
      · rw [(hcg y).1]; exact hp2.2.2 y hy x (by simp)
      · rw [(hcg y).2]; exact (List.pairwise_cons.1 hp2.2.1).1 y hy
    · cases h
theorem adV_ok {s : List Lk} {l : Lk} (h : adOk s l = true) : lksOk (adV s l) = true ∧ lksOk s = true ∧ lkOk l = true := by
  unfold adOk at h
  simp only [Bool.and_eq_true] at h
  obtain ⟨⟨h1, h2⟩, h3⟩ := h
  refine ⟨?_, h1, h2⟩
  rw [(ad_good h1 h2).1]
  cases hr : adR s l with
  | none => rw [hr] at h3; cases h3
  | some p => exact adR_ok (t := p.1) (e := p.2) hr h1 h2
def joF (l : List Lk) : Nat → Option (List Lk × R)
  | 0 => some ([], intR 0)
  | k + 1 => match joF l k with
    | none => none
    | some p => if adOk p.1 (l.getD k default) = true then some (adV p.1 (l.getD k default), addR p.2 (adE p.1 (l.getD k default))) else none
def joG (l : List Lk) : Option (List Lk × R) := match joF l l.length with
  | none => none
  | some p => if p.2.ok = true then some p else none
def joOk (l : List Lk) : Bool := (joG l).isSome
def joV (l : List Lk) : List Lk := ((joG l).map (·.1)).getD []
def joE (l : List Lk) : R := ((joG l).map (·.2)).getD R0
theorem joF_none {l : List Lk} {k : Nat} (h : joF l k = none) : ∀ n, k ≤ n → joF l n = none
  | 0, hn => by rw [Nat.le_zero.1 hn] at h; exact h
  | n + 1, hn => by
    rcases Nat.lt_or_ge k (n + 1) with hk | hk
    · simp only [joF, joF_none h n (by omega)]
    · rw [show n + 1 = k by omega]; exact h
theorem addR_bad {r s : R} (h : r.ok = false) : (addR r s).ok = false := by
  rw [nok_iff, addR_q, nok_iff.1 h, addQ_none_l]
theorem joF_inv {l : List Lk} : ∀ {k : Nat} {p : List Lk × R}, joF l k = some p → lksOk p.1 = true ∧ p.2.cn ∧ (∀ x ∈ p.1, x.w.cn ∧ x.dx.cn ∧ x.dy.cn) ∧ p.1.length ≤ 101
  | 0, p, h => by cases h; exact ⟨by decide, intR_cn (by decide), by simp, by simp⟩
  | k + 1, p, h => by
    simp only [joF] at h
    cases hf : joF l k with
    | none => rw [hf] at h; cases h
    | some r =>
      rw [hf] at h
      dsimp only at h
      split at h
      · rename_i hk
        cases h
        have := adV_cn r.1 (l.getD k default)
        exact ⟨(adV_ok hk).1, addR_cn _ _, this.1, this.2.2⟩
      · cases h
theorem joG_none {l : List Lk} (h : joG l = none) : joV l = [] ∧ joE l = R0 ∧ joOk l = false := by
  unfold joV joE joOk; rw [h]; exact ⟨rfl, rfl, rfl⟩
theorem joG_of_none {l : List Lk} {k : Nat} (h : joF l k = none) (hk : k ≤ l.length) : joG l = none := by
  unfold joG; rw [joF_none h l.length hk]
theorem joG_cn {l : List Lk} : (∀ x ∈ joV l, x.w.cn ∧ x.dx.cn ∧ x.dy.cn) ∧ (joE l).cn ∧ (joV l).length ≤ 101 ∧ lksOk (joV l) = true := by
  cases hg : joG l with
  | none =>
    obtain ⟨e1, e2, _⟩ := joG_none hg
    rw [e1, e2]; exact ⟨by simp, cn_0, by simp, by decide⟩
  | some p =>
    have e1 : joV l = p.1 := by unfold joV; rw [hg]; rfl
    have e2 : joE l = p.2 := by unfold joE; rw [hg]; rfl
    rw [e1, e2]
    unfold joG at hg
    cases hf : joF l l.length with
    | none => rw [hf] at hg; cases hg
    | some q =>
      rw [hf] at hg
      dsimp only at hg
      split at hg
      · cases hg
        obtain ⟨a, b, c, d⟩ := joF_inv hf
        exact ⟨c, b, d, a⟩
      · cases hg
theorem lks_sz {s : List Lk} (h : ∀ x ∈ s, x.w.cn ∧ x.dx.cn ∧ x.dy.cn) (hl : s.length ≤ 101) : szL Lk.sz s ≤ 20000 := by
  have := szL_bd (f := Lk.sz) (k := 144) fun x hx => lk_cn_sz (h x hx)
  omega
theorem lks_wf {s : List Lk} (h : ∀ x ∈ s, x.w.cn ∧ x.dx.cn ∧ x.dy.cn) (hl : s.length ≤ 101) : wfL Lk.wf s :=
  ⟨by omega, fun x hx => ⟨cn_wf (h x hx).1, cn_wf (h x hx).2.1, cn_wf (h x hx).2.2⟩⟩
theorem res_rc (σ : Store) (r : R) : resolve σ 11 (.agg r.cells) = some (.agg r.cells) := by
  show resolve σ (10 + 1) (.agg r.cells) = _
  rw [resolve, mapM_still (n := 9) (fun v hv => st_R [r] _ (by simp) v hv)]; rfl
theorem c_sJoinLinks {T : Nat → Option Fn} (h : D_spec_JoinLinks T) {l : List Lk} (hw : wfL Lk.wf l := by first | omega | assumption | (simp; omega)) (hz : szL Lk.sz l ≤ 1048576 := by first | omega | assumption | (simp; omega)) : PF T 179 [lksV l] (.tup [lksV (joV l), ratV (joE l), .bool (joOk l)]) := by
  have hl : l.length ≤ 1048576 := by have := szL_eq Lk.sz l; omega
  refine pf_endL (fun _ _ => false) h.hT rfl rfl ?_
  dsimp only [F_spec_JoinLinks, oN, oS, oG, oK, oA, oH, oV, cI]
  (refine ev ?_; try with_reducible exact True.intro)
  refine PFK_of (c_sRatFromInt h.d_spec_RatFromInt (n := 0)) ?_
  (refine ev ?_; try with_reducible exact True.intro)
  refine loop_at (fun _ _ => false) (α := Nat × List Lk × R) (fun q => ⟨argE [lksV l, .any, .any, .ptr 0 0 0, .any, lksV q.2.1, .ptr 1 0 0, .any, .any, .any, .any, .any, .any, .any, lksV l, iv (l.length : Nat), iv (q.1 : Nat)], [some ⟨3, [[.bool false, .nils, .nils]]⟩, some ⟨3, [q.2.2.cells]⟩], 0, 0, [], []⟩) (fun q => q.1 ≤ l.length ∧ joF l q.1 = some (q.2.1, q.2.2)) (fun q => l.length - q.1) rfl (0, [], intR 0) ?_ ?_ ?_
  · exact ⟨by omega, rfl⟩
  · (refine Fg_re [(0, _), (2, _)] (by simp) (by intro p hp; simp only [List.mem_cons, List.not_mem_nil, or_false] at hp; rcases hp with rfl | rfl <;> refine ⟨rfl, ?_⟩ <;> first | exact ir_still _ | simp [stillR, V.still]) rfl ?_) <;> (try (refine ev ?_; try with_reducible exact True.intro)) <;> (repeat' (first | exact True.intro | omega | exact CanE_ptr rfl (by simp) | refine ⟨?_, ?_⟩ | exact of_eq_true (CanE_nil _ _ _) | exact CanE_of rfl (by simp; done) | exact CanE_of rfl rfl | (refine CanE_msl rfl ?_ rfl; simp [irows]; done) | (refine CanE_msl rfl ?_ rfl; simp [irows]; omega) | (refine CanE_frz ?_ ?_; (focus ((refine ev ?_; try with_reducible exact True.intro); done)); (intro q hq k s0 l0; simp; done))))
  · rintro ⟨k, S, e⟩ ⟨hk, hf⟩
    dsimp only at hk hf
    obtain ⟨i1, i2, i3, i4⟩ := joF_inv hf
    dsimp only at i1 i2 i3 i4
    by_cases hc : (k : Int) < (l.length : Nat)
    · have hkl : k < l.length := by omega
      have hxw := wfL_at hw hkl
      have hxz := szL_memb (f := Lk.sz) hz (getD_mem hkl)
      have hs : joF l (k + 1) = if adOk S (l.getD k default) = true then some (adV S (l.getD k default), addR e (adE S (l.getD k default))) else none := by simp only [joF, hf]
      have hmx : (l.map Lk.cells).getD k [] = (l.getD k default).cells := mg hkl
      have hbad : joF l (k + 1) = none → joG l = none := fun h => joG_of_none h (by omega)
      generalize l.getD k default = x at hs hxw hxz hmx
      have ca := c_sAddLink h.d_spec_AddLink (s := S) (l := x) (lks_wf i3 i4) hxw (by have := lks_sz i3 i4; omega) hxz
      have hac := adV_cn S x
      cases ho : adOk S x
      · rw [ho] at hs ca
        obtain ⟨e1, e2, e3⟩ := joG_none (hbad hs)
        rw [e1, e2, e3]
        (refine ev2 @hc @hmx ?_; try with_reducible exact True.intro)
        refine PFK_of ca ?_
        (refine ev ?_; try with_reducible exact True.intro)
        exact lax_ad0
      · rw [ho, if_pos rfl] at hs
        rw [ho] at ca
        generalize adV S x = S' at hs ca hac
        generalize adE S x = e' at hs ca hac
        (refine ev2 @hc @hmx ?_; try with_reducible exact True.intro)
        refine PFK_of ca ?_
        (refine ev ?_; try with_reducible exact True.intro)
        refine PFK_of (c_sRatAdd h.d_spec_RatAdd (cn_wf i2) (cn_wf hac.2.1)) ?_
        (refine ev ?_; try with_reducible exact True.intro)
        exact ⟨(k + 1, S', addR e e'), by dsimp only; omega, ⟨by dsimp only; omega, hs⟩, by (refine Fg_re [(0, _), (1, _)] (by simp) (by intro p hp; simp only [List.mem_cons, List.not_mem_nil, or_false] at hp; rcases hp with rfl | rfl <;> refine ⟨rfl, ?_⟩ <;> first | exact ir_still _ | simp [stillR, V.still]) rfl ?_) <;> (try (refine ev ?_; try with_reducible exact True.intro)) <;> (repeat' (first | exact True.intro | omega | exact CanE_ptr rfl (by simp) | refine ⟨?_, ?_⟩ | exact of_eq_true (CanE_nil _ _ _) | exact CanE_of rfl (by simp; done) | exact CanE_of rfl rfl | (refine CanE_msl rfl ?_ rfl; simp [irows]; done) | (refine CanE_msl rfl ?_ rfl; simp [irows]; omega) | (refine CanE_frz ?_ ?_; (focus ((refine ev ?_; try with_reducible exact True.intro); done)); (intro q hq k s0 l0; simp; done))))⟩
    · have hie : k = l.length := by omega
      have hg : joG l = if e.ok = true then some (S, e) else none := by unfold joG; rw [← hie, hf]
      have co := c_sRatOk h.d_spec_RatOk (cn_wf i2)
      cases hb : e.ok
      · rw [hb] at co hg
        obtain ⟨e1, e2, e3⟩ := joG_none hg
        rw [e1, e2, e3]
        (refine ev1 @hc ?_; try with_reducible exact True.intro)
        refine PFK_of co ?_
        (refine ev ?_; try with_reducible exact True.intro)
        exact lax_ad0
      · rw [hb, if_pos rfl] at hg
        have e1 : joV l = S := by unfold joV; rw [hg]; rfl
        have e2 : joE l = e := by unfold joE; rw [hg]; rfl
        have e3 : joOk l = true := by unfold joOk; rw [hg]; rfl
        rw [e1, e2, e3]
        rw [hb] at co
        (refine ev1 @hc ?_; try with_reducible exact True.intro)
        refine PFK_of co ?_
        (refine ev ?_; try with_reducible exact True.intro)
        refine ⟨by unfold OkA; decide +kernel, ?_⟩
        rw [res_rc]
        exact laxV_refl _
end Go.Ml
end
section
set_option linter.unusedSimpArgs false
set_option linter.unusedVariables false
set_option maxRecDepth 100000
set_option maxHeartbeats 8000000
namespace Go.Ml
def DepN : Nat → V → Prop
  | 0, _ => False
  | n + 1, .sl _ rows => ∀ r ∈ rows, ∀ c ∈ r, DepN n c
  | n + 1, .agg cs => ∀ c ∈ cs, DepN n c
  | n + 1, .tup cs => ∀ c ∈ cs, DepN n c
  | _ + 1, .fptr _ _ => False
  | _ + 1, _ => True
theorem DepN.le : ∀ {n : Nat} {v : V}, DepN n v → DepLe n v
  | 0, _, h => h
  | n + 1, v, h => by
    cases v with
    | sl k rows => simp only [DepN, DepLe] at h ⊢; exact fun r hr c hc => (h r hr c hc).le
    | agg cs => simp only [DepN, DepLe] at h ⊢; exact fun c hc => (h c hc).le
    | tup cs => simp only [DepN, DepLe] at h ⊢; exact fun c hc => (h c hc).le
    | _ => simp [DepLe]
theorem res_dep {σ : Store} : ∀ (n : Nat) {v t : V}, resolve σ (n + 1) v = some t → DepN n t → resolve σ n v = some t
  | 0, v, t, _, hd => by simp [DepN] at hd
  | n + 1, v, t, h, hd => by
    have ih := @res_dep σ n
    have hl : ∀ (l l' : List V), l.mapM (resolve σ (n + 1)) = some l' → (∀ c ∈ l', DepN n c) → l.mapM (resolve σ n) = some l' := by
      intro l
      induction l with
      | nil => intro l' h _; exact h
      | cons x l ihl =>
        intro l' h hd
        rw [List.mapM_cons] at h ⊢
        cases hx : resolve σ (n + 1) x with
        | none => rw [hx] at h; cases h
        | some y =>
          rw [hx] at h
          cases hl : l.mapM (resolve σ (n + 1)) with
          | none => rw [hl] at h; cases h
          | some ys =>
            rw [hl] at h
            cases h
            rw [ih hx (hd y (by simp)), ihl ys hl fun c hc => hd c (by simp [hc])]
            rfl
    have hr : ∀ (l : List (List V)) (l' : List (List V)), (l.mapM fun (r : List V) => r.mapM (resolve σ (n + 1))) = some l' → (∀ r ∈ l', ∀ c ∈ r, DepN n c) → (l.mapM fun (r : List V) => r.mapM (resolve σ n)) = some l' := by
      intro l
      induction l with
      | nil => intro l' h _; exact h
      | cons x l ihl =>
        intro l' h hd
        rw [List.mapM_cons] at h ⊢
        cases hx : x.mapM (resolve σ (n + 1)) with
        | none => rw [hx] at h; cases h
        | some y =>
          rw [hx] at h
          cases hl' : l.mapM fun (r : List V) => r.mapM (resolve σ (n + 1)) with
          | none => rw [hl'] at h; cases h
          | some ys =>
            rw [hl'] at h
            cases h
            rw [hl x y hx (hd y (by simp)), ihl ys hl' fun c hc => hd c (by simp [hc])]
            rfl
    cases v with
    | msl o s l =>
      simp only [resolve] at h ⊢
      cases ho : objAt σ o with
      | none => rw [ho] at h; cases h
      | some ob =>
        rw [ho] at h
        dsimp only at h ⊢
        split at h
        · rename_i hle
          rw [if_pos hle]
          obtain ⟨rows, h1, rfl⟩ := Option.map_eq_some_iff.1 h
          rw [hr _ _ h1 (by simpa only [DepN] using hd)]
          rfl
        · cases h
    | ptr o r off =>
      simp only [resolve] at h ⊢
      cases ho : objAt σ o with
      | none => rw [ho] at h; cases h
      | some ob =>
        rw [ho] at h
        dsimp only at h ⊢
        cases hro : ob.rows[r]? with
        | none => rw [hro] at h; cases h
        | some row =>
          rw [hro] at h
          dsimp only at h ⊢
          obtain ⟨rows, h1, rfl⟩ := Option.map_eq_some_iff.1 h
          simp [DepN] at hd
    | agg cs =>
      simp only [resolve] at h ⊢
      obtain ⟨rows, h1, rfl⟩ := Option.map_eq_some_iff.1 h
      rw [hl _ _ h1 (by simpa only [DepN] using hd)]
      rfl
    | tup cs =>
      simp only [resolve] at h ⊢
      obtain ⟨rows, h1, rfl⟩ := Option.map_eq_some_iff.1 h
      rw [hl _ _ h1 (by simpa only [DepN] using hd)]
      rfl
    | _ => simpa only [resolve] using h
theorem owX_res {σ : Store} : ∀ {ts : List (Bool × V)} {vs : List V} {os : List Nat}, OwX σ vs ts os → (∀ p ∈ ts, DepN 11 p.2) → vs.mapM (resolve σ 11) = some (ts.map (·.2))
  | [], vs, os, h, _ => by
    simp only [OwX] at h
    obtain ⟨rfl, rfl⟩ := h
    rfl
  | (b, t) :: ts, vs, os, h, hd => by
    simp only [OwX] at h
    obtain ⟨v, vs', o1, o2, rfl, rfl, h1, h2⟩ := h
    have e2 := owX_res h2 fun p hp => hd p (by simp [hp])
    have hdt : DepN 11 t := hd (b, t) (by simp)
    have e1 : resolve σ 11 v = some t := by
      cases b with
      | true => exact ow_res 11 (by simpa using h1) hdt.le
      | false =>
        have h1 : resolve σ FD v = some t ∧ o1 = [] := by simpa using h1
        exact res_dep 11 h1.1 hdt
    rw [List.mapM_cons, e1, e2]
    rfl
theorem PX.frz {T : Nat → Option Fn} {f : Nat} {args : List V} {ts : List (Bool × V)} (h : PX T f args ts) (hd : ∀ p ∈ ts, DepN 11 p.2) : PF T f args (.tup (ts.map (·.2))) := by
  obtain ⟨vs, σ', os, h1, h2, h3⟩ := h
  refine .frz h1 ?_
  show resolve σ' (11 + 1) _ = _
  rw [resolve, owX_res h2 hd]
  rfl
theorem Ep.fr {s S1 : Store} {cs ts : List V} {os : List Nat} {L : List (Nat × Obj)} (E : Ep s cs ts os L) (h1 : ∀ o, o < s.length → objAt S1 o = objAt s o) : Ep S1 cs ts os L :=
  ⟨E.c.frame fun o ho => h1 o (E.c.lt o ho), fun q hq => ⟨(h1 _ (E.lt q hq)).trans (E.l q hq).1, (E.l q hq).2⟩⟩
end Go.Ml
end
section
set_option linter.unusedSimpArgs false
set_option linter.unusedVariables false
set_option maxRecDepth 100000
set_option maxHeartbeats 8000000
namespace Go.Ml
def inC (n : Int) : Bool := decide (-1000000 ≤ n) && decide (n ≤ 1000000)
theorem inC_rng {n : Int} (h : inC n = true) : -1000000 ≤ n ∧ n ≤ 1000000 := by simpa [inC] using h
def wtC (w : Int) : Bool := decide (1 ≤ w) && decide (w ≤ 9999)
theorem wtC_rng {n : Int} (h : wtC n = true) : 1 ≤ n ∧ n ≤ 9999 := by simpa [wtC] using h
def nlOk (a b w x y : Int) : Bool := nd a && nd b && !decide (a = b) && wtC w && inC x && inC y
def nlV (a b w x y : Int) : Lk := if nlOk a b w x y = true then (if b < a then ⟨b, a, intR w, intR (-x), intR (-y)⟩ else ⟨a, b, intR w, intR x, intR y⟩) else Lk0
theorem c_sNewLink {T : Nat → Option Fn} (h : D_spec_NewLink T) {a b w x y : Int} : PF T 14 [iv a, iv b, iv w, iv x, iv y] (.tup [lkV (nlV a b w x y), .bool (nlOk a b w x y)]) := by
  have ca := c_l06Node h.d_spec_l06Node (a := a)
  have cb := c_l06Node h.d_spec_l06Node (a := b)
  have cw : PF T 35 [iv w, iv 1, iv 9999] (.bool (wtC w)) := c_l01In h.d_spec_l01In
  have cx : PF T 35 [iv x, iv (-1000000), iv 1000000] (.bool (inC x)) := c_l01In h.d_spec_l01In
  have cy : PF T 35 [iv y, iv (-1000000), iv 1000000] (.bool (inC y)) := c_l01In h.d_spec_l01In
  unfold nlV nlOk
  cases h1 : nd a
  · rw [h1] at ca
    refine pf_endL (fun _ _ => false) h.hT rfl rfl ?_
    dsimp only [F_spec_NewLink, oN, oS, oG, oK, oA, oH, oV, cI]
    (refine ev ?_; try with_reducible exact True.intro)
    refine PFK_of ca ?_
    (refine ev ?_; try with_reducible exact True.intro)
    exact lax_tup1 laxLk0
  rw [h1] at ca
  cases h2 : nd b
  · rw [h2] at cb
    refine pf_endL (fun _ _ => false) h.hT rfl rfl ?_
    dsimp only [F_spec_NewLink, oN, oS, oG, oK, oA, oH, oV, cI]
    (refine ev ?_; try with_reducible exact True.intro)
    refine PFK_of ca ?_
    (refine ev ?_; try with_reducible exact True.intro)
    refine PFK_of cb ?_
    (refine ev ?_; try with_reducible exact True.intro)
    exact lax_tup1 laxLk0
  rw [h2] at cb
  by_cases h3 : a = b
  · have h3' : (a = b) = True := eq_true h3
    simp only [h3', decide_true]
    refine pf_endL (fun _ _ => false) h.hT rfl rfl ?_
    dsimp only [F_spec_NewLink, oN, oS, oG, oK, oA, oH, oV, cI]
    (refine ev ?_; try with_reducible exact True.intro)
    refine PFK_of ca ?_
    (refine ev ?_; try with_reducible exact True.intro)
    refine PFK_of cb ?_
    (refine ev1 @h3' ?_; try with_reducible exact True.intro)
    exact lax_tup1 laxLk0
  cases h4 : wtC w
  · rw [h4] at cw
    refine pf_endL (fun _ _ => false) h.hT rfl rfl ?_
    dsimp only [F_spec_NewLink, oN, oS, oG, oK, oA, oH, oV, cI]
    (refine ev ?_; try with_reducible exact True.intro)
    refine PFK_of ca ?_
    (refine ev ?_; try with_reducible exact True.intro)
    refine PFK_of cb ?_
    (refine ev1 @h3 ?_; try with_reducible exact True.intro)
    refine PFK_of cw ?_
    (refine ev ?_; try with_reducible exact True.intro)
    exact lax_tup1 laxLk0
  rw [h4] at cw
  have hw := wtC_rng h4
  cases h5 : inC x
  · rw [h5] at cx
    refine pf_endL (fun _ _ => false) h.hT rfl rfl ?_
    dsimp only [F_spec_NewLink, oN, oS, oG, oK, oA, oH, oV, cI]
    (refine ev ?_; try with_reducible exact True.intro)
    refine PFK_of ca ?_
    (refine ev ?_; try with_reducible exact True.intro)
    refine PFK_of cb ?_
    (refine ev1 @h3 ?_; try with_reducible exact True.intro)
    refine PFK_of cw ?_
    (refine ev ?_; try with_reducible exact True.intro)
    refine PFK_of cx ?_
    (refine ev ?_; try with_reducible exact True.intro)
    exact lax_tup1 laxLk0
  rw [h5] at cx
  have hx := inC_rng h5
  cases h6 : inC y
  · rw [h6] at cy
    refine pf_endL (fun _ _ => false) h.hT rfl rfl ?_
    dsimp only [F_spec_NewLink, oN, oS, oG, oK, oA, oH, oV, cI]
    (refine ev ?_; try with_reducible exact True.intro)
    refine PFK_of ca ?_
    (refine ev ?_; try with_reducible exact True.intro)
    refine PFK_of cb ?_
    (refine ev1 @h3 ?_; try with_reducible exact True.intro)
    refine PFK_of cw ?_
    (refine ev ?_; try with_reducible exact True.intro)
    refine PFK_of cx ?_
    (refine ev ?_; try with_reducible exact True.intro)
    refine PFK_of cy ?_
    (refine ev ?_; try with_reducible exact True.intro)
    exact lax_tup1 laxLk0
  rw [h6] at cy
  have hy := inC_rng h6
  have hk : (true && true && !decide (a = b) && true && true && true) = true := by rw [decide_eq_false h3]; rfl
  rw [hk]
  by_cases h7 : b < a
  · simp only [if_true, if_pos h7]
    refine pf_endL (fun _ _ => false) h.hT rfl rfl ?_
    dsimp only [F_spec_NewLink, oN, oS, oG, oK, oA, oH, oV, cI]
    (refine ev ?_; try with_reducible exact True.intro)
    refine PFK_of ca ?_
    (refine ev ?_; try with_reducible exact True.intro)
    refine PFK_of cb ?_
    (refine ev1 @h3 ?_; try with_reducible exact True.intro)
    refine PFK_of cw ?_
    (refine ev ?_; try with_reducible exact True.intro)
    refine PFK_of cx ?_
    (refine ev ?_; try with_reducible exact True.intro)
    refine PFK_of cy ?_
    (refine ev1 @h7 ?_; try with_reducible exact True.intro)
    refine PFK_of (c_sRatFromInt h.d_spec_RatFromInt (n := w) (by omega)) ?_
    (refine ev ?_; try with_reducible exact True.intro)
    refine PFK_of (c_sRatFromInt h.d_spec_RatFromInt (n := 0 - x) (by omega)) ?_
    (refine ev ?_; try with_reducible exact True.intro)
    refine PFK_of (c_sRatFromInt h.d_spec_RatFromInt (n := 0 - y) (by omega)) ?_
    (refine ev ?_; try with_reducible exact True.intro)
    rw [Int.zero_sub, Int.zero_sub]
    exact laxV_refl _
  · simp only [if_true, if_neg h7]
    refine pf_endL (fun _ _ => false) h.hT rfl rfl ?_
    dsimp only [F_spec_NewLink, oN, oS, oG, oK, oA, oH, oV, cI]
    (refine ev ?_; try with_reducible exact True.intro)
    refine PFK_of ca ?_
    (refine ev ?_; try with_reducible exact True.intro)
    refine PFK_of cb ?_
    (refine ev1 @h3 ?_; try with_reducible exact True.intro)
    refine PFK_of cw ?_
    (refine ev ?_; try with_reducible exact True.intro)
    refine PFK_of cx ?_
    (refine ev ?_; try with_reducible exact True.intro)
    refine PFK_of cy ?_
    (refine ev1 @h7 ?_; try with_reducible exact True.intro)
    refine PFK_of (c_sRatFromInt h.d_spec_RatFromInt (n := w) (by omega)) ?_
    (refine ev ?_; try with_reducible exact True.intro)
    refine PFK_of (c_sRatFromInt h.d_spec_RatFromInt (n := x) (by omega)) ?_
    (refine ev ?_; try with_reducible exact True.intro)
    refine PFK_of (c_sRatFromInt h.d_spec_RatFromInt (n := y) (by omega)) ?_
    (refine ev ?_; try with_reducible exact True.intro)
    exact laxV_refl _
end Go.Ml
end
section
set_option linter.unusedSimpArgs false
set_option linter.unusedVariables false
set_option maxRecDepth 100000
set_option maxHeartbeats 8000000
namespace Go.Ml
def F_spec_l01Byte : Fn := ⟨1, 58, [.tmp 2], (.seq (.reg false 0 [oN 2 (.mov (cI 0))]) (.seq (.reg false 0 [oN 4 (oV 0), oN 5 (oV 0), oN 6 (.chk (.t 5)), oN 7 (.fld 2 (.t 6)), oN 8 (.load 1 false (.t 7)), oN 9 (.bin .mul (.t 8) (cI 6364136223846793005)), oN 10 (.bin .add (.t 9) (cI 1442695040888963407)), oN 11 (.chk (.t 4)), oN 12 (.fld 2 (.t 11)), oS (.store 1 (.t 12) (.t 10))]) (.seq (.reg true 0 [oN 13 (oV 0), oA 14 0 (.chk (.t 13)) [0], oA 15 0 (.fld 2 (.t 14)) [1], oA 16 0 (.load 1 false (.t 15)) [2], oA 17 0 (.bin .shr (.t 16) (.c (.int .u64 33))) [3], oN 18 (oV 0), oA 19 0 (.chk (.t 18)) [5], oA 20 0 (.fld 2 (.t 19)) [6], oA 21 0 (.load 1 false (.t 20)) [7], oA 22 0 (.bin .shr (.t 21) (.c (.int .u64 45))) [8], oA 23 0 (.bin .xor (.t 17) (.t 22)) [4, 9], oA 24 0 (.bin .and (.t 23) (cI 255)) [10], oA 3 0 (oV 24) [11, 0, 1, 2, 3, 4, 5, 6, 7, 8, 9, 10, 11]]) (.seq (.seq (.reg true 0 [oN 25 (oV 0), oA 26 0 (.chk (.t 25)) [0], oA 27 0 (.fld 1 (.t 26)) [1], oA 28 0 (.load 1 false (.t 27)) [2], oN 29 (oV 0), oA 30 0 (.chk (.t 29)) [4], oA 31 0 (.fld 0 (.t 30)) [5], oA 32 0 (.load 1 false (.t 31)) [6], oA 33 0 (.len (.t 32)) [7], oA 34 0 (.bin .lss (.t 28) (.t 33)) [3, 8]]) (.cond (.t 34) (.seq (.reg true 0 [oN 35 (oV 3), oN 36 (oV 0), oA 37 0 (.chk (.t 36)) [1], oA 38 0 (.fld 0 (.t 37)) [2], oA 39 0 (.load 1 false (.t 38)) [3], oN 40 (oV 0), oA 41 0 (.chk (.t 40)) [5], oA 42 0 (.fld 1 (.t 41)) [6], oA 43 0 (.load 1 false (.t 42)) [7], oA 44 0 (.idx 1 (.t 39) (.t 43)) [4, 8], oA 45 0 (.load 1 false (.t 44)) [9], oA 46 0 (.conv .i64 (.t 45)) [10], oA 47 0 (.bin .add (.t 35) (.t 46)) [0, 11], oA 48 0 (.bin .and (.t 47) (cI 255)) [12], oA 3 0 (oV 48) [13, 0, 1, 2, 3, 4, 5, 6, 7, 8, 9, 10, 11, 12, 13]]) (.reg false 0 [oN 49 (oV 0), oN 50 (oV 0), oN 51 (.chk (.t 50)), oN 52 (.fld 1 (.t 51)), oN 53 (.load 1 false (.t 52)), oN 54 (.bin .add (.t 53) (cI 1)), oN 55 (.chk (.t 49)), oN 56 (.fld 1 (.t 55)), oS (.store 1 (.t 56) (.t 54))])) .skip)) (.seq (.reg false 0 [oN 57 (oV 3), oN 2 (oV 57)]) .ret)))))⟩
structure D_spec_l01Byte (T : Nat → Option Fn) : Prop where
  hT : T 129 = some F_spec_l01Byte
def F_spec_l01New : Fn := ⟨1, 32, [.tmp 2], (.seq (.reg false 0 [oN 2 (.mov (.c (.one)))]) (.seq (.reg false 0 [oN 5 (oV 0), oN 6 (.len (.t 5)), oN 7 (.bin .add (cI 1951) (.t 6)), oN 3 (oV 7)]) (.seq (.seq (.reg false 0 [oN 4 (.mov (cI 0))]) (.block 0 (.loop (.seq (.seq (.reg false 0 [oN 8 (oV 4), oN 9 (oV 0), oN 10 (.len (.t 9)), oN 11 (.bin .lss (.t 8) (.t 10)), oN 12 (oV 11), oG 12 true 13 (oV 4), oG 12 true 14 (.bin .lss (.t 13) (cI 4000)), oN 15 (.pick (.t 12) (.t 14) (.c (.bool false)))]) (.cond (.t 15) .skip (.exit 0))) (.seq (.block 1 (.reg false 0 [oN 18 (oV 3), oN 19 (.bin .mul (.t 18) (cI 59)), oN 20 (oV 0), oN 21 (oV 4), oN 22 (.idx 1 (.t 20) (.t 21)), oN 23 (.load 1 false (.t 22)), oN 24 (.conv .i64 (.t 23)), oN 25 (.bin .add (.t 19) (.t 24)), oN 26 (.bin .add (.t 25) (cI 7)), oN 27 (.bin .and (.t 26) (cI 1073741823)), oN 3 (oV 27)])) (.reg false 0 [oN 16 (oV 4), oN 17 (.bin .add (.t 16) (cI 1)), oN 4 (oV 17)])))))) (.seq (.reg false 1 [oK 28 1 (oV 0), oK 29 1 (oV 3), oK 30 1 (.build [.nils, .int .i64 0, .int .i64 0] [(0, 1, (.t 28)), (2, 1, (.t 29))]), oN 31 (.box (.t 30)), oK 2 1 (oV 31)]) .ret))))⟩
structure D_spec_l01New (T : Nat → Option Fn) : Prop where
  hT : T 105 = some F_spec_l01New
def F_spec_l01Below : Fn := ⟨2, 37, [.tmp 4], (.seq (.reg false 0 [oN 4 (.mov (cI 0))]) (.seq (.seq (.reg false 0 [oN 9 (oV 1), oN 10 (.bin .leq (.t 9) (cI 0))]) (.cond (.t 10) (.seq (.reg false 0 [oN 4 (.mov (cI 0))]) .ret) .skip)) (.seq (.seq (.reg false 0 [oN 11 (oV 1), oN 12 (.bin .leq (.t 11) (cI 256))]) (.cond (.t 12) (.seq (.reg false 0 [oN 13 (oV 0), oN 14 (.call 129 [(.t 13)]), oN 15 (oV 1), oN 16 (.bin .rem (.t 14) (.t 15)), oN 4 (oV 16)]) .ret) .skip)) (.seq (.reg false 0 [oN 17 (oV 0), oN 18 (.call 129 [(.t 17)]), oN 5 (oV 18)]) (.seq (.reg false 0 [oN 19 (oV 0), oN 20 (.call 129 [(.t 19)]), oN 6 (oV 20)]) (.seq (.reg false 0 [oN 21 (oV 0), oN 22 (.call 129 [(.t 21)]), oN 7 (oV 22)]) (.seq (.reg false 0 [oN 23 (oV 0), oN 24 (.call 129 [(.t 23)]), oN 8 (oV 24)]) (.seq (.reg false 0 [oN 25 (oV 5), oN 26 (.bin .mul (.t 25) (cI 16777216)), oN 27 (oV 6), oN 28 (.bin .mul (.t 27) (cI 65536)), oN 29 (.bin .add (.t 26) (.t 28)), oN 30 (oV 7), oN 31 (.bin .mul (.t 30) (cI 256)), oN 32 (.bin .add (.t 29) (.t 31)), oN 33 (oV 8), oN 34 (.bin .add (.t 32) (.t 33)), oN 35 (oV 1), oN 36 (.bin .rem (.t 34) (.t 35)), oN 4 (oV 36)]) .ret))))))))⟩
structure D_spec_l01Below (T : Nat → Option Fn) : Prop where
  hT : T 107 = some F_spec_l01Below
  d_spec_l01Byte : D_spec_l01Byte T
def F_spec_l06Draw : Fn := ⟨2, 39, [.cell 4 11 true], (.seq (.reg false 1 [oN 4 (.alloc [.int .i64 0, .int .i64 0, .bool false, .nils, .nils, .bool false, .nils, .nils, .bool false, .nils, .nils])]) (.seq (.reg false 0 [oN 9 (oV 0), oN 10 (oV 1), oN 11 (.call 107 [(.t 9), (.t 10)]), oN 5 (oV 11)]) (.seq (.reg false 0 [oN 12 (oV 0), oN 13 (oV 1), oN 14 (.call 107 [(.t 12), (.t 13)]), oN 6 (oV 14)]) (.seq (.seq (.reg false 0 [oN 15 (oV 5), oN 16 (oV 6), oN 17 (.bin .eql (.t 15) (.t 16))]) (.cond (.t 17) (.reg false 0 [oN 18 (oV 5), oN 19 (.bin .add (.t 18) (cI 1)), oN 20 (oV 1), oN 21 (.bin .add (.t 20) (cI 1)), oN 22 (.bin .rem (.t 19) (.t 21)), oN 6 (oV 22)]) .skip)) (.seq (.reg false 1 [oK 24 1 (oV 5), oK 25 1 (oV 6), oK 26 1 (oV 0), oK 27 1 (.call 107 [(.t 26), (cI 9)]), oK 28 1 (.bin .add (cI 1) (.t 27)), oK 29 1 (oV 0), oK 30 1 (.call 107 [(.t 29), (cI 41)]), oK 31 1 (.bin .sub (.t 30) (cI 20)), oK 32 1 (oV 0), oK 33 1 (.call 107 [(.t 32), (cI 41)]), oK 34 1 (.bin .sub (.t 33) (cI 20)), oK 35 1 (.call 14 [(.t 24), (.t 25), (.t 28), (.t 31), (.t 34)]), oK 23 1 (oV 35), oK 36 1 (.extr 0 (.t 23)), oK 37 1 (.extr 1 (.t 23)), oN 7 (.alloc [.int .i64 0, .int .i64 0, .bool false, .nils, .nils, .bool false, .nils, .nils, .bool false, .nils, .nils]), ⟨none, none, 1, .store 11 (.t 7) (.t 36), []⟩, oK 8 1 (oV 37)]) (.seq (.reg false 0 [oN 38 (.load 11 true (.t 7)), oS (.store 11 (.t 4) (.t 38))]) .ret))))))⟩
structure D_spec_l06Draw (T : Nat → Option Fn) : Prop where
  hT : T 128 = some F_spec_l06Draw
  d_spec_NewLink : D_spec_NewLink T
  d_spec_l01Below : D_spec_l01Below T
abbrev bytesV (x : List UInt8) : V := .sl 1 (x.map fun b => [.int .u8 b.toNat])
def cur (x : List UInt8) (i h : Int) : Store := [some ⟨3, [[bytesV x, iv i, iv h]]⟩]
theorem and255 (a : Int) : 0 ≤ bitsAnd .i64 a 255 ∧ bitsAnd .i64 a 255 ≤ 255 := by
  have h : (BitVec.ofInt 64 a &&& BitVec.ofInt 64 255).toNat ≤ 255 := by
    rw [BitVec.toNat_and]
    exact Nat.le_trans Nat.and_le_right (by decide)
  unfold bitsAnd
  rw [show IntKind.i64.bits = 64 from rfl, w64 ⟨by omega, by omega⟩]
  omega
theorem r_l01Byte {T : Nat → Option Fn} (h : D_spec_l01Byte T) {x : List UInt8} {i hh : Int} (hi : 0 ≤ i ∧ i ≤ x.length) (hx : x.length ≤ 1048576) :
    ∃ n i' h' : Int, (0 ≤ n ∧ n ≤ 255) ∧ (0 ≤ i' ∧ i' ≤ x.length) ∧ Run T (.fn 129 [.ptr 0 0 0] (cur x i hh)) (.fn (iv n) (cur x i' h')) := by
  have : ∃ r σ', Run T (.fn 129 [.ptr 0 0 0] (cur x i hh)) (.fn r σ') ∧ ∃ n i' h' : Int, (r = iv n ∧ σ' = cur x i' h') ∧ (0 ≤ n ∧ n ≤ 255) ∧ (0 ≤ i' ∧ i' ≤ x.length) := by
    unfold cur
    refine run_end (fun _ _ => false) h.hT rfl rfl ?_
    dsimp only [F_spec_l01Byte, oN, oS, oG, oK, oA, oH, oV, cI, St.enter, List.length_cons, List.length_nil, Nat.zero_add]
    (refine ew ?_; try with_reducible exact True.intro)
    refine brK_dec (fun hc => ?_) fun hc => ?_ <;> (refine ew1 @hc ?_; try with_reducible exact True.intro)
    · have g1 : (x.map fun b => [V.int .u8 b.toNat]).getD i.toNat [] = [.int .u8 (x.getD i.toNat default).toNat] := mg (f := fun b : UInt8 => [V.int .u8 b.toNat]) (by omega)
      have hb : (x.getD i.toNat default).toNat < 256 := (x.getD i.toNat default).toBitVec.isLt
      generalize (x.getD i.toNat default).toNat = b at g1 hb
      (refine ew1 @g1 ?_; try with_reducible exact True.intro)
      trace_state
      exact ⟨_, _, _, ⟨rfl, rfl⟩, and255 _, by omega⟩
    · (refine ew ?_; try with_reducible exact True.intro)
      exact ⟨_, _, _, ⟨rfl, rfl⟩, and255 _, hi⟩
  obtain ⟨r, σ', h1, n, i', h', ⟨rfl, rfl⟩, h2, h3⟩ := this
  exact ⟨n, i', h', h2, h3, h1⟩
end Go.Ml
end
section
set_option linter.unusedSimpArgs false
set_option linter.unusedVariables false
set_option maxRecDepth 100000
set_option maxHeartbeats 8000000
namespace Go.Ml
def cob (x : List UInt8) (i h : Int) : Obj := ⟨3, [[bytesV x, iv i, iv h]]⟩
def CurP (s : Store) (b : Nat) (x : List UInt8) : Prop := ∃ i h : Int, objAt s b = some (cob x i h) ∧ 0 ≤ i ∧ i ≤ x.length
def CurF (T : Nat → Option Fn) (f : Nat) (rest : List V) (x : List UInt8) (Q : V → Prop) : Prop :=
  ∀ i h : Int, 0 ≤ i ∧ i ≤ x.length → ∃ (r : V) (i' h' : Int), (Q r ∧ ∀ g, mapV g r = r) ∧ (0 ≤ i' ∧ i' ≤ x.length) ∧ Run T (.fn f (.ptr 0 0 0 :: rest) (cur x i h)) (.fn r (cur x i' h'))
theorem mapO_cob (g : Nat → Option Nat) (x : List UInt8) (i h : Int) : mapO g (cob x i h) = cob x i h := by
  simp [mapO, cob, mapV]
theorem curF_of {T : Nat → Option Fn} {f : Nat} {rest : List V} {x : List UInt8} {Q : V → Prop}
    (h : ∀ i h : Int, 0 ≤ i ∧ i ≤ x.length → ∃ r σ', Run T (.fn f (.ptr 0 0 0 :: rest) (cur x i h)) (.fn r σ') ∧ (Q r ∧ ∀ g, mapV g r = r) ∧ CurP σ' 0 x) : CurF T f rest x Q := by
  intro i hh hi
  obtain ⟨r, σ', h1, h2, i', h', h3, h4⟩ := h i hh hi
  refine ⟨r, i', h', h2, h4, ?_⟩
  have := Run.gcF [0] (by simp) (fun k hk => by
    have hk : k < 1 := hk
    have e : k = 0 := by omega
    rw [e]; rfl) h1
  rw [h2.2] at this
  have e : gcS [0] σ' = cur x i' h' := by
    simp only [gcS, List.map_cons, List.map_nil, h3, Option.map_some, mapO_cob]; rfl
  rwa [e] at this
theorem RefK_curF {T : Nat → Option Fn} {f : Nat} {as : List Src} {dst : Option Nat} {env : Nat → V} {σ : Store} {kp bs : Nat} {rs ms : List Nat} {k : St → Prop} {b : Nat} {x : List UInt8} {rest : List V} {Q : V → Prop}
    (hb : CurP σ b x) (hf : CurF T f rest x Q) (ha : (as.map fun s => s.ev env) = .ptr b 0 0 :: rest) (hr : ∀ g, rest.map (mapV g) = rest)
    (hk : ∀ (r : V) (i h : Int), Q r → 0 ≤ i ∧ i ≤ x.length → k ⟨updO env dst r, σ.set b (some (cob x i h)), kp, bs, rs, ms⟩) : RefK T f as dst ⟨env, σ, kp, bs, rs, ms⟩ k := by
  obtain ⟨i, h, hob, hi⟩ := hb
  obtain ⟨r, i', h', ⟨hq, hm⟩, hi', hrun⟩ := hf i h hi
  have e : (as.map fun s => mapV (place [b]) (s.ev env)) = .ptr 0 0 0 :: rest := by
    have : (as.map fun s => mapV (place [b]) (s.ev env)) = (as.map fun s => s.ev env).map (mapV (place [b])) := by rw [List.map_map]; rfl
    rw [this, ha, List.map_cons, hr]
    simp [mapV, place]
  have e2 : gcS [b] σ = cur x i h := by
    simp only [gcS, List.map_cons, List.map_nil, hob, Option.map_some, mapO_cob]; rfl
  have hlt := objAt_lt hob
  have e3 : putBack [b] σ (cur x i' h') = σ.set b (some (cob x i' h')) := by
    unfold putBack
    have : (cur x i' h').drop [b].length = [] := rfl
    rw [this, List.map_nil, List.append_nil]
    apply List.ext_getElem?
    intro q
    rw [List.getElem?_mapIdx, List.getElem?_set]
    by_cases hq : b = q
    · subst hq
      rw [if_pos rfl, if_pos hlt, List.getElem?_eq_getElem hlt]
      simp only [Option.map_some, place, if_true]
      show some ((objAt (cur x i' h') 0).map _) = _
      show some (some (mapO _ (cob x i' h'))) = _
      rw [mapO_cob]
    · rw [if_neg hq]
      cases hg : σ[q]? with
      | none => rfl
      | some ob => simp [place, hq]
  refine ⟨_, .ref [b] (by simp) (fun o ho => by rw [List.mem_singleton.1 ho, hob]; rfl) (r := r) (σ' := cur x i' h') (by rw [e, e2]; exact hrun), ?_⟩
  have := hk r i' h' hq hi'
  rw [← e3] at this
  have hm2 := hm (back [b] σ.length)
  show k ⟨updO env dst (mapV (back [b] σ.length) r), _, _, _, _, _⟩
  rw [hm2]
  exact this
theorem f_l01Byte {T : Nat → Option Fn} (h : D_spec_l01Byte T) {x : List UInt8} (hx : x.length ≤ 1048576) : CurF T 129 [] x fun r => ∃ n : Int, r = iv n ∧ 0 ≤ n ∧ n ≤ 255 := by
  intro i hh hi
  obtain ⟨n, i', h', h1, h2, h3⟩ := r_l01Byte h (hh := hh) hi hx
  exact ⟨iv n, i', h', ⟨⟨n, rfl, h1⟩, fun g => rfl⟩, h2, h3⟩
theorem f_l01Below {T : Nat → Option Fn} (h : D_spec_l01Below T) {x : List UInt8} {n : Int} (hn : 0 < n ∧ n ≤ 256) (hx : x.length ≤ 1048576) : CurF T 107 [iv n] x fun r => ∃ m : Int, r = iv m ∧ 0 ≤ m ∧ m < n := by
  refine curF_of fun i hh hi => ?_
  have hP : CurP (cur x i hh) 0 x := ⟨i, hh, rfl, hi⟩
  have h1 : ¬ n ≤ 0 := by omega
  have hl : (cur x i hh).length = 1 := rfl
  generalize cur x i hh = s0 at hP hl ⊢
  refine run_end (fun x d => x == 129) h.hT rfl rfl ?_
  dsimp only [F_spec_l01Below, oN, oS, oG, oK, oA, oH, oV, cI, St.enter, List.length_cons, List.length_nil, Nat.zero_add]
  (refine ew ?_; try with_reducible exact True.intro)
  refine brK_dec (fun hc => absurd hc h1) fun _ => ?_
  (refine ew ?_; try with_reducible exact True.intro)
  refine brK_dec (fun _ => ?_) fun hc => absurd hn.2 hc
  (refine ew ?_; try with_reducible exact True.intro)
  refine RefK_curF hP (f_l01Byte h.d_spec_l01Byte hx) rfl (fun _ => rfl) ?_
  rintro _ i2 h2 ⟨m, rfl, hm⟩ hi2
  (refine ew ?_; try with_reducible exact True.intro)
  exact ⟨⟨⟨_, rfl, Int.tmod_nonneg _ hm.1, Int.tmod_lt_of_pos _ hn.1⟩, fun g => rfl⟩, i2, h2, objAt_seteq (by omega), hi2⟩
end Go.Ml
end
section
set_option linter.unusedSimpArgs false
set_option linter.unusedVariables false
set_option maxRecDepth 100000
set_option maxHeartbeats 8000000
namespace Go.Ml
theorem r_l01New {T : Nat → Option Fn} (h : D_spec_l01New T) {x : List UInt8} (hx : x.length ≤ 1048576) : ∃ hh : Int, Run T (.fn 105 [bytesV x] []) (.fn (.ptr 0 0 0) (cur x 0 hh)) := by
  have : ∃ r σ', Run T (.fn 105 [bytesV x] []) (.fn r σ') ∧ ∃ hh : Int, r = .ptr 0 0 0 ∧ σ' = cur x 0 hh := by
    refine run_end (fun _ _ => false) h.hT rfl rfl ?_
    dsimp only [F_spec_l01New, oN, oS, oG, oK, oA, oH, oV, cI, St.enter, List.length_cons, List.length_nil, Nat.zero_add]
    (refine ew ?_; try with_reducible exact True.intro)
    refine loop_at (fun _ _ => false) (α := Nat × Int) (fun q => ⟨argE [bytesV x, .any, .any, iv q.2, iv (q.1 : Nat)], [], 0, 0, [], []⟩) (fun q => q.1 ≤ x.length) (fun q => x.length - q.1) rfl (0, 1951 + x.length) ?_ ?_ ?_
    · omega
    · (refine Fg_env ?_) <;> (try (refine ew ?_; try with_reducible exact True.intro)) <;> (repeat' (first | refine ⟨?_, ?_⟩ | exact EvV_int (by omega) | exact EvV_of (by simp) | exact EvV_nil _))
    · rintro ⟨k, hh⟩ hk
      dsimp only at hk
      by_cases hc : (k : Int) < (x.length : Nat)
      · have hkl : k < x.length := by omega
        by_cases hc2 : (k : Int) < 4000
        · have g1 : (x.map fun b => [V.int .u8 b.toNat]).getD k [] = [.int .u8 (x.getD k default).toNat] := mg (f := fun b : UInt8 => [V.int .u8 b.toNat]) hkl
          have hb : (x.getD k default).toNat < 256 := (x.getD k default).toBitVec.isLt
          generalize (x.getD k default).toNat = b at g1 hb
          (refine ew3 @hc @hc2 @g1 ?_; try with_reducible exact True.intro)
          exact ⟨(k + 1, bitsAnd IntKind.i64 (IntKind.i64.wrap (IntKind.i64.wrap (IntKind.i64.wrap (hh * 59) + b) + 7)) 1073741823), by dsimp only; omega, by dsimp only; omega, by (refine Fg_env ?_) <;> (try (refine ew ?_; try with_reducible exact True.intro)) <;> (repeat' (first | refine ⟨?_, ?_⟩ | exact EvV_int (by omega) | exact EvV_of (by simp) | exact EvV_nil _))⟩
        · (refine ew2 @hc @hc2 ?_; try with_reducible exact True.intro)
          exact ⟨_, rfl⟩
      · (refine ew1 @hc ?_; try with_reducible exact True.intro)
        exact ⟨_, rfl⟩
  obtain ⟨r, σ', h1, hh, rfl, rfl⟩ := this
  exact ⟨hh, h1⟩
end Go.Ml
end
section
set_option linter.unusedSimpArgs false
set_option linter.unusedVariables false
set_option maxRecDepth 100000
set_option maxHeartbeats 8000000
namespace Go.Ml
structure SmL (l : Lk) : Prop where
  ab : 0 ≤ l.a ∧ l.a < l.b ∧ l.b ≤ 3
  w : ∃ n : Int, (1 ≤ n ∧ n ≤ 9) ∧ l.w = intR n
  dx : ∃ n : Int, (-20 ≤ n ∧ n ≤ 20) ∧ l.dx = intR n
  dy : ∃ n : Int, (-20 ≤ n ∧ n ≤ 20) ∧ l.dy = intR n
theorem mapV_lk (g : Nat → Option Nat) (l : Lk) : mapV g (lkV l) = lkV l := by simp [mapV, mapV.mapL]
end Go.Ml
end
section
set_option linter.unusedSimpArgs false
set_option linter.unusedVariables false
set_option maxRecDepth 100000
set_option maxHeartbeats 8000000
namespace Go.Ml
def F_spec_l06List : Fn := ⟨2, 51, [.tmp 4], (.seq (.reg false 0 [oN 4 (.mov (.c (.nils)))]) (.seq (.reg false 1 [oN 10 (.mkSl 11 [.int .i64 0, .int .i64 0, .bool false, .nils, .nils, .bool false, .nils, .nils, .bool false, .nils, .nils] 0 []), oK 5 1 (oV 10)]) (.seq (.seq (.reg false 0 [oN 6 (.mov (cI 1))]) (.block 0 (.loop (.seq (.seq (.reg false 0 [oN 11 (oV 6), oN 12 (oV 1), oN 13 (.bin .leq (.t 11) (.t 12))]) (.cond (.t 13) .skip (.exit 0))) (.seq (.block 1 (.seq (.reg false 1 [oK 17 1 (oV 0), oK 18 1 (oV 6), oK 19 1 (.call 107 [(.t 17), (.t 18)]), oK 20 1 (oV 6), oK 21 1 (oV 0), oK 22 1 (.call 107 [(.t 21), (cI 9)]), oK 23 1 (.bin .add (cI 1) (.t 22)), oK 24 1 (oV 0), oK 25 1 (.call 107 [(.t 24), (cI 41)]), oK 26 1 (.bin .sub (.t 25) (cI 20)), oK 27 1 (oV 0), oK 28 1 (.call 107 [(.t 27), (cI 41)]), oK 29 1 (.bin .sub (.t 28) (cI 20)), oK 30 1 (.call 14 [(.t 19), (.t 20), (.t 23), (.t 26), (.t 29)]), oK 16 1 (oV 30), oK 31 1 (.extr 0 (.t 16)), oK 32 1 (.extr 1 (.t 16)), oN 7 (.alloc [.int .i64 0, .int .i64 0, .bool false, .nils, .nils, .bool false, .nils, .nils, .bool false, .nils, .nils]), ⟨none, none, 1, .store 11 (.t 7) (.t 31), []⟩, oK 8 1 (oV 32)]) (.reg false 2 [oK 33 2 (oV 5), oK 34 2 (.load 11 true (.t 7)), oN 35 (.mkSl 11 [.int .i64 0, .int .i64 0, .bool false, .nils, .nils, .bool false, .nils, .nils, .bool false, .nils, .nils] 1 [(0, (.t 34))]), oK 36 1 (.app 11 184 (.t 33) (.t 35)), oK 5 2 (oV 36)]))) (.reg false 0 [oN 14 (oV 6), oN 15 (.bin .add (.t 14) (cI 1)), oN 6 (oV 15)])))))) (.seq (.seq (.reg false 0 [oN 37 (oV 0), oN 38 (.call 107 [(.t 37), (cI 4)]), oN 9 (oV 38)]) (.block 2 (.loop (.seq (.seq (.reg false 0 [oN 39 (oV 9), oN 40 (.bin .gtr (.t 39) (cI 0))]) (.cond (.t 40) .skip (.exit 2))) (.seq (.block 3 (.reg false 2 [oK 43 2 (oV 5), oK 44 2 (oV 0), oK 45 2 (oV 1), oK 46 2 (.bin .add (.t 45) (cI 1)), oK 47 2 (.call 128 [(.t 44), (.t 46)]), oN 48 (.mkSl 11 [.int .i64 0, .int .i64 0, .bool false, .nils, .nils, .bool false, .nils, .nils, .bool false, .nils, .nils] 1 [(0, (.t 47))]), oK 49 1 (.app 11 184 (.t 43) (.t 48)), oK 5 2 (oV 49)])) (.reg false 0 [oN 41 (oV 9), oN 42 (.bin .sub (.t 41) (cI 1)), oN 9 (oV 42)])))))) (.seq (.reg false 0 [oN 50 (oV 5), oN 4 (oV 50)]) .ret)))))⟩
structure D_spec_l06List (T : Nat → Option Fn) : Prop where
  hT : T 106 = some F_spec_l06List
  d_spec_NewLink : D_spec_NewLink T
  d_spec_l01Below : D_spec_l01Below T
  d_spec_l06Draw : D_spec_l06Draw T
def F_spec_MakeLinks : Fn := ⟨1, 11, [.tmp 2], (.seq (.reg false 0 [oN 2 (.mov (.c (.nils)))]) (.seq (.reg false 0 [oN 4 (oV 0), oN 5 (.call 105 [(.t 4)]), oN 3 (oV 5)]) (.seq (.reg false 0 [oN 6 (oV 3), oN 7 (oV 3), oN 8 (.call 107 [(.t 7), (cI 4)]), oN 9 (.bin .add (cI 1) (.t 8)), oN 10 (.call 106 [(.t 6), (.t 9)]), oN 2 (oV 10)]) .ret)))⟩
structure D_spec_MakeLinks (T : Nat → Option Fn) : Prop where
  hT : T 87 = some F_spec_MakeLinks
  d_spec_l01New : D_spec_l01New T
  d_spec_l06List : D_spec_l06List T
  d_spec_l01Below : D_spec_l01Below T
structure SmN (n : Int) (l : Lk) : Prop where
  ab : 0 ≤ l.a ∧ l.a < l.b ∧ l.b ≤ n
  w : ∃ n : Int, (1 ≤ n ∧ n ≤ 9) ∧ l.w = intR n
  dx : ∃ n : Int, (-20 ≤ n ∧ n ≤ 20) ∧ l.dx = intR n
  dy : ∃ n : Int, (-20 ≤ n ∧ n ≤ 20) ∧ l.dy = intR n
theorem SmN.mono {n m : Int} {l : Lk} (h : SmN n l) (hm : n ≤ m) : SmN m l := ⟨⟨h.ab.1, h.ab.2.1, by have := h.ab.2.2; omega⟩, h.w, h.dx, h.dy⟩
theorem smN_of {n a b w x y : Int} (hn : n ≤ 9) (ha : 0 ≤ a ∧ a ≤ n) (hb : 0 ≤ b ∧ b ≤ n) (hne : a ≠ b) (hw : 1 ≤ w ∧ w ≤ 9) (hx : -20 ≤ x ∧ x ≤ 20) (hy : -20 ≤ y ∧ y ≤ 20) : SmN n (nlV a b w x y) ∧ (a < b → (nlV a b w x y).b = b) := by
  have hok : nlOk a b w x y = true := by
    unfold nlOk nd inC wtC
    simp
    omega
  unfold nlV
  rw [if_pos hok]
  split
  · exact ⟨⟨⟨by dsimp only; omega, by dsimp only; omega, by dsimp only; omega⟩, ⟨w, hw, rfl⟩, ⟨-x, by omega, rfl⟩, ⟨-y, by omega, rfl⟩⟩, fun h => by omega⟩
  · exact ⟨⟨⟨by dsimp only; omega, by dsimp only; omega, by dsimp only; omega⟩, ⟨w, hw, rfl⟩, ⟨x, hx, rfl⟩, ⟨y, hy, rfl⟩⟩, fun _ => rfl⟩
theorem f_l06DrawN {T : Nat → Option Fn} (h : D_spec_l06Draw T) {x : List UInt8} {n : Int} (hn : 1 ≤ n ∧ n ≤ 5) (hx : x.length ≤ 1048576) : CurF T 128 [iv n] x fun r => ∃ l : Lk, r = lkV l ∧ SmN n l := by
  refine curF_of fun i hh hi => ?_
  unfold cur
  refine run_end (fun x d => x == 107) h.hT rfl rfl ?_
  dsimp only [F_spec_l06Draw, oN, oS, oG, oK, oA, oH, oV, cI, St.enter, List.length_cons, List.length_nil, Nat.zero_add]
  (refine ew ?_; try with_reducible exact True.intro)
  refine RefK_curF (b := 0) (rest := [iv n]) ⟨i, hh, rfl, hi⟩ (f_l01Below h.d_spec_l01Below (n := n) (by omega) hx) rfl (fun _ => rfl) ?_
  rintro _ i2 h2 ⟨a, rfl, ha⟩ hi2
  (refine ew ?_; try with_reducible exact True.intro)
  refine RefK_curF (b := 0) (rest := [iv n]) ⟨i2, h2, rfl, hi2⟩ (f_l01Below h.d_spec_l01Below (n := n) (by omega) hx) rfl (fun _ => rfl) ?_
  rintro _ i3 h3 ⟨b, rfl, hb⟩ hi3
  (refine ew ?_; try with_reducible exact True.intro)
  refine brK_dec (fun hc => ?_) fun hc => ?_
  · have hw1 : IntKind.i64.wrap (n + 1) = n + 1 := w64 (by omega)
    have hr : (a + 1).tmod (n + 1) = a + 1 := Int.tmod_eq_of_lt (by omega) (by omega)
    (refine ew1 @hr ?_; try with_reducible exact True.intro)
    refine RefK_curF (b := 0) (rest := [iv 9]) ⟨i3, h3, rfl, hi3⟩ (f_l01Below h.d_spec_l01Below (n := 9) (by omega) hx) rfl (fun _ => rfl) ?_
    rintro _ i4 h4 ⟨w, rfl, hw⟩ hi4
    (refine ew ?_; try with_reducible exact True.intro)
    refine RefK_curF (b := 0) (rest := [iv 41]) ⟨i4, h4, rfl, hi4⟩ (f_l01Below h.d_spec_l01Below (n := 41) (by omega) hx) rfl (fun _ => rfl) ?_
    rintro _ i5 h5 ⟨dx, rfl, hdx⟩ hi5
    (refine ew ?_; try with_reducible exact True.intro)
    refine RefK_curF (b := 0) (rest := [iv 41]) ⟨i5, h5, rfl, hi5⟩ (f_l01Below h.d_spec_l01Below (n := 41) (by omega) hx) rfl (fun _ => rfl) ?_
    rintro _ i6 h6 ⟨dy, rfl, hdy⟩ hi6
    (refine ew ?_; try with_reducible exact True.intro)
    have hS := smN_of (n := n) (a := a) (b := a + 1) (w := 1 + w) (x := dx - 20) (y := dy - 20) (by omega) (by omega) (by omega) (by omega) (by omega) (by omega) (by omega)
    refine PFK_of (c_sNewLink h.d_spec_NewLink (a := a) (b := a + 1) (w := 1 + w) (x := dx - 20) (y := dy - 20)) ?_
    generalize nlV a (a + 1) (1 + w) (dx - 20) (dy - 20) = l at hS ⊢
    (refine ew ?_; try with_reducible exact True.intro)
    exact ⟨⟨⟨l, rfl, hS.1⟩, fun g => mapV_lk g _⟩, i6, h6, rfl, hi6⟩
  · (refine ew ?_; try with_reducible exact True.intro)
    refine RefK_curF (b := 0) (rest := [iv 9]) ⟨i3, h3, rfl, hi3⟩ (f_l01Below h.d_spec_l01Below (n := 9) (by omega) hx) rfl (fun _ => rfl) ?_
    rintro _ i4 h4 ⟨w, rfl, hw⟩ hi4
    (refine ew ?_; try with_reducible exact True.intro)
    refine RefK_curF (b := 0) (rest := [iv 41]) ⟨i4, h4, rfl, hi4⟩ (f_l01Below h.d_spec_l01Below (n := 41) (by omega) hx) rfl (fun _ => rfl) ?_
    rintro _ i5 h5 ⟨dx, rfl, hdx⟩ hi5
    (refine ew ?_; try with_reducible exact True.intro)
    refine RefK_curF (b := 0) (rest := [iv 41]) ⟨i5, h5, rfl, hi5⟩ (f_l01Below h.d_spec_l01Below (n := 41) (by omega) hx) rfl (fun _ => rfl) ?_
    rintro _ i6 h6 ⟨dy, rfl, hdy⟩ hi6
    (refine ew ?_; try with_reducible exact True.intro)
    have hS := smN_of (n := n) (a := a) (b := b) (w := 1 + w) (x := dx - 20) (y := dy - 20) (by omega) (by omega) (by omega) (by omega) (by omega) (by omega) (by omega)
    refine PFK_of (c_sNewLink h.d_spec_NewLink (a := a) (b := b) (w := 1 + w) (x := dx - 20) (y := dy - 20)) ?_
    generalize nlV a (b) (1 + w) (dx - 20) (dy - 20) = l at hS ⊢
    (refine ew ?_; try with_reducible exact True.intro)
    exact ⟨⟨⟨l, rfl, hS.1⟩, fun g => mapV_lk g _⟩, i6, h6, rfl, hi6⟩
end Go.Ml
end
section
set_option linter.unusedSimpArgs false
set_option linter.unusedVariables false
set_option maxRecDepth 100000
set_option maxHeartbeats 8000000
namespace Go.Ml
structure DrawL (n : Nat) (L : List Lk) : Prop where
  rn : 1 ≤ n ∧ n ≤ 4
  len : n ≤ L.length ∧ L.length ≤ n + 3
  sm : ∀ l ∈ L, SmN ((n : Int) + 1) l
  base : ∀ k, k < n → (L.getD k default).b = (k : Int) + 1
theorem getD_snoc {xs : List Lk} {l : Lk} {k : Nat} : (xs ++ [l]).getD k default = if k < xs.length then xs.getD k default else if k = xs.length then l else default := by
  rw [List.getD_eq_getElem?_getD, List.getD_eq_getElem?_getD]
  split
  · rename_i h
    rw [List.getElem?_append_left h]
  · rename_i h
    split
    · rename_i e; subst e; simp
    · rw [List.getElem?_eq_none (by simp <;> omega)]; rfl
def LsAt (s : Store) (v : V) (xs : List Lk) : Prop := (xs = [] ∧ v = .nils) ∨ ∃ p, v = .msl p 0 xs.length ∧ objAt s p = some ⟨11, xs.map Lk.cells⟩ ∧ p ≠ 0
theorem LsAt.fr {s s2 : Store} {v : V} {xs : List Lk} (h : LsAt s v xs) (hf : ∀ p, p ≠ 0 → p < s.length → objAt s2 p = objAt s p) : LsAt s2 v xs := by
  rcases h with h | ⟨p, h1, h2, h3⟩
  · exact .inl h
  · exact .inr ⟨p, h1, (hf p h3 (objAt_lt h2)).trans h2, h3⟩
theorem CurP.fr {s s2 : Store} {x : List UInt8} (h : CurP s 0 x) (hf : objAt s2 0 = objAt s 0) : CurP s2 0 x := by
  obtain ⟨i, hh, h1, h2⟩ := h
  exact ⟨i, hh, hf.trans h1, h2⟩
theorem CurP.lt {s : Store} {x : List UInt8} (h : CurP s 0 x) : 0 < s.length := by obtain ⟨i, hh, h1, h2⟩ := h; exact objAt_lt h1
theorem r_l06List {T : Nat → Option Fn} (h : D_spec_l06List T) {x : List UInt8} (hx : x.length ≤ 1048576) {n : Nat} (hn : 1 ≤ n ∧ n ≤ 4) {i hh : Int} (hi : 0 ≤ i ∧ i ≤ x.length) :
    ∃ r σ', Run T (.fn 106 [.ptr 0 0 0, iv n] (cur x i hh)) (.fn r σ') ∧ (∃ L, DrawL n L ∧ resolve σ' FD r = some (lksV L)) ∧ 1 ≤ σ'.length := by
  have hP : CurP (cur x i hh) 0 x := ⟨i, hh, rfl, hi⟩
  generalize cur x i hh = s0 at hP ⊢
  have hP0 := hP.lt
  refine run_end (fun x d => x == 107 || x == 128) h.hT rfl rfl ?_
  dsimp only [F_spec_l06List, oN, oS, oG, oK, oA, oH, oV, cI, St.enter, List.length_cons, List.length_nil, Nat.zero_add]
  (refine ew ?_; try with_reducible exact True.intro)
  refine loop_at (fun x d => x == 107 || x == 128) (α := Nat × Store × V × List Lk) (fun q => ⟨argE [.ptr 0 0 0, iv n, .any, .any, .any, q.2.2.1, iv ((q.1 : Nat) + 1)], q.2.1, s0.length, 0, [], []⟩) (fun q => (q.1 ≤ n ∧ CurP q.2.1 0 x) ∧ LsAt q.2.1 q.2.2.1 q.2.2.2 ∧ q.2.2.2.length = q.1 ∧ (∀ l ∈ q.2.2.2, SmN ((n : Int) + 1) l) ∧ ∀ j, j < q.1 → (q.2.2.2.getD j default).b = (j : Int) + 1) (fun q => n - q.1) rfl (0, s0 ++ [none], .nils, []) ?_ ?_ ?_
  · exact ⟨⟨by omega, hP.fr (objAt_snoc_lt hP0)⟩, .inl ⟨rfl, rfl⟩, rfl, by simp, by intro q hq; omega⟩
  · (refine Fg_env ?_) <;> (try (refine ew ?_; try with_reducible exact True.intro)) <;> (repeat' (first | refine ⟨?_, ?_⟩ | exact EvV_int (by omega) | exact EvV_of (by simp) | exact EvV_nil _))
  · generalize s0.length = kp
    clear hP hP0
    rintro ⟨k, s, v, xs⟩ ⟨⟨hk, hP⟩, hLs, hxl, hsm, hb⟩
    dsimp only at hk hP hLs hxl hsm hb
    by_cases hc : (k : Int) + 1 ≤ (n : Int)
    · (refine ew1 @hc ?_; try with_reducible exact True.intro)
      refine RefK_curF (b := 0) (rest := [iv (k + 1)]) (hP.fr (objAt_snoc_lt hP.lt)) (f_l01Below h.d_spec_l01Below (n := (k : Int) + 1) (by omega) hx) rfl (fun _ => rfl) ?_
      rintro _ i1 h1 ⟨a, rfl, ha⟩ hi1
      (refine ew ?_; try with_reducible exact True.intro)
      refine RefK_curF (b := 0) (rest := [iv 9]) ⟨_, _, objAt_seteq (by simp), hi1⟩ (f_l01Below h.d_spec_l01Below (n := 9) (by omega) hx) rfl (fun _ => rfl) ?_
      rintro _ i2 h2 ⟨w, rfl, hw⟩ hi2
      (refine ew ?_; try with_reducible exact True.intro)
      refine RefK_curF (b := 0) (rest := [iv 41]) ⟨_, _, objAt_seteq (by simp), hi2⟩ (f_l01Below h.d_spec_l01Below (n := 41) (by omega) hx) rfl (fun _ => rfl) ?_
      rintro _ i3 h3 ⟨dx, rfl, hdx⟩ hi3
      (refine ew ?_; try with_reducible exact True.intro)
      refine RefK_curF (b := 0) (rest := [iv 41]) ⟨_, _, objAt_seteq (by simp), hi3⟩ (f_l01Below h.d_spec_l01Below (n := 41) (by omega) hx) rfl (fun _ => rfl) ?_
      rintro _ i4 h4 ⟨dy, rfl, hdy⟩ hi4
      have hS := smN_of (n := (n : Int) + 1) (a := a) (b := (k : Int) + 1) (w := 1 + w) (x := dx - 20) (y := dy - 20) (by omega) (by omega) (by omega) (by omega) (by omega) (by omega) (by omega)
      have cn := c_sNewLink h.d_spec_NewLink (a := a) (b := (k : Int) + 1) (w := 1 + w) (x := dx - 20) (y := dy - 20)
      generalize nlV a ((k : Int) + 1) (1 + w) (dx - 20) (dy - 20) = l at hS cn
      generalize nlOk a ((k : Int) + 1) (1 + w) (dx - 20) (dy - 20) = ok at cn
      (refine ew ?_; try with_reducible exact True.intro)
      refine PFK_of cn ?_
      obtain ⟨S, hSe⟩ : ∃ S, ((((s ++ [none]).set 0 (some (cob x i1 h1))).set 0 (some (cob x i2 h2))).set 0 (some (cob x i3 h3))).set 0 (some (cob x i4 h4)) = S := ⟨_, rfl⟩
      rw [hSe]
      have hSl : S.length = s.length + 1 := by rw [← hSe]; simp
      have hS0 : objAt S 0 = some (cob x i4 h4) := by rw [← hSe]; exact objAt_seteq (by simp)
      have hSo : ∀ p, p ≠ 0 → p < s.length → objAt S p = objAt s p := fun p h0 hp => by
        rw [← hSe, objAt_setne h0, objAt_setne h0, objAt_setne h0, objAt_setne h0, objAt_snoc_lt hp]
      have hSm : objAt S s.length = none := by
        rw [← hSe]
        have h0 := hP.lt
        rw [objAt_setne (by omega), objAt_setne (by omega), objAt_setne (by omega), objAt_setne (by omega), objAt_snoc]
      have hm0 := hP.lt
      have hLs := hLs.fr hSo
      clear hSe hSo hP
      have hs0 : s.length < S.length := by omega
      generalize s.length = m at *
      have hxs : xs.length ≤ 1048576 := by omega
      have hsm2 : ∀ l' ∈ xs ++ [l], SmN ((n : Int) + 1) l' := fun l' hl' => by
        rcases List.mem_append.1 hl' with hl' | hl'
        · exact hsm l' hl'
        · rw [List.mem_singleton.1 hl']; exact hS.1
      have hb2 : ∀ j, j < k + 1 → ((xs ++ [l]).getD j default).b = (j : Int) + 1 := fun j hj => by
        rw [getD_snoc]
        split
        · exact hb j (by omega)
        · rw [if_pos (by omega), hS.2 (by omega)]; omega
      rcases hLs with ⟨rfl, rfl⟩ | ⟨p, rfl, hp, hp0⟩
      · (refine ew2 @hS0 @hSl ?_; try with_reducible exact True.intro)
        refine ⟨by omega, ?_⟩
        generalize hB : List.set (_ ++ [none]) (m + 1 + 1) (some (⟨11, [l.cells]⟩ : Obj)) = B
        have hB0 : objAt B 0 = some (cob x i4 h4) := by
          rw [← hB, objAt_setne (by omega), objAt_snoc_lt (by simp [hSl] <;> omega), objAt_setne (by omega), objAt_snoc_lt (by simp [hSl] <;> omega), objAt_setne (by omega), objAt_setne (by omega), hS0]
        have hBp : objAt B (m + 1 + 1) = some ⟨11, [l.cells]⟩ := by rw [← hB]; exact objAt_seteq (by simp [hSl] <;> omega)
        refine ⟨(k + 1, B, .msl (m + 1 + 1) 0 1, [] ++ [l]), by dsimp only; omega, ⟨⟨by dsimp only; omega, i4, h4, hB0, hi4⟩, .inr ⟨m + 1 + 1, rfl, (by dsimp only [List.nil_append, List.map_cons, List.map_nil]; exact hBp), by omega⟩, by dsimp only; simp; simp at hxl; omega, hsm2, hb2⟩, ?_⟩
        dsimp only
        (refine Fg_env ?_) <;> (try (refine ew ?_; try with_reducible exact True.intro)) <;> (repeat' (first | refine ⟨?_, ?_⟩ | exact EvV_int (by omega) | exact EvV_of (by simp) | exact EvV_nil _))
      · have hpl := objAt_lt hp
        have hpm : p ≠ m := fun e => by rw [e, hSm] at hp; cases hp
        (refine ew3 @hS0 @hp @hSl ?_; try with_reducible exact True.intro)
        refine ⟨by omega, ?_⟩
        generalize hB : List.set _ (m + 1 + 1) (some (⟨11, List.map Lk.cells xs ++ [l.cells]⟩ : Obj)) = B
        have hB0 : objAt B 0 = some (cob x i4 h4) := by
          rw [← hB, objAt_setne (by omega), objAt_snoc_lt (by simp <;> omega), objAt_setne (by omega), objAt_setne (by omega), objAt_snoc_lt (by simp [hSl] <;> omega), objAt_setne (by omega), objAt_setne (by omega), hS0]
        have hBp : objAt B (m + 1 + 1) = some ⟨11, List.map Lk.cells xs ++ [l.cells]⟩ := by rw [← hB]; exact objAt_seteq (by simp [hSl] <;> omega)
        refine ⟨(k + 1, B, .msl (m + 1 + 1) 0 (xs.length + 1), xs ++ [l]), by dsimp only; omega, ⟨⟨by dsimp only; omega, i4, h4, hB0, hi4⟩, .inr ⟨m + 1 + 1, by dsimp only; simp, (by dsimp only; rw [List.map_append]; exact hBp), by omega⟩, by dsimp only; simp; omega, hsm2, hb2⟩, ?_⟩
        dsimp only
        (refine Fg_env ?_) <;> (try (refine ew ?_; try with_reducible exact True.intro)) <;> (repeat' (first | refine ⟨?_, ?_⟩ | exact EvV_int (by omega) | exact EvV_of (by simp) | exact EvV_nil _))
    · have hkn : k = n := by omega
      subst hkn
      have hP0 := hP.lt
      (refine ew1 @hc ?_; try with_reducible exact True.intro)
      refine RefK_curF (b := 0) (rest := [iv 4]) hP (f_l01Below h.d_spec_l01Below (n := 4) (by omega) hx) rfl (fun _ => rfl) ?_
      rintro _ i1 h1 ⟨mm, rfl, hmm⟩ hi1
      obtain ⟨S, hSe⟩ : ∃ S, s.set 0 (some (cob x i1 h1)) = S := ⟨_, rfl⟩
      have hPS : CurP S 0 x := ⟨i1, h1, by rw [← hSe]; exact objAt_seteq hP0, hi1⟩
      have hLS : LsAt S v xs := hLs.fr fun p h0 hp => by rw [← hSe]; exact objAt_setne h0
      rw [hSe]
      clear hSe hP hLs hP0
      have hlen : xs.length + mm.toNat ≤ k + 3 := by omega
      (refine ew ?_; try with_reducible exact True.intro)
      refine loop_at (fun x d => x == 107 || x == 128) (α := Nat × Store × V × List Lk) (fun q => ⟨argE [.ptr 0 0 0, iv k, .any, .any, .any, q.2.2.1, .any, .any, .any, iv (q.1 : Nat)], q.2.1, kp, 0, [], []⟩) (fun q => CurP q.2.1 0 x ∧ LsAt q.2.1 q.2.2.1 q.2.2.2 ∧ (k ≤ q.2.2.2.length ∧ q.2.2.2.length + q.1 ≤ k + 3) ∧ (∀ l ∈ q.2.2.2, SmN ((k : Int) + 1) l) ∧ ∀ j, j < k → (q.2.2.2.getD j default).b = (j : Int) + 1) (fun q => q.1) rfl (mm.toNat, S, v, xs) ?_ ?_ ?_
      · exact ⟨hPS, hLS, ⟨by dsimp only; omega, hlen⟩, hsm, hb⟩
      · (refine Fg_env ?_) <;> (try (refine ew ?_; try with_reducible exact True.intro)) <;> (repeat' (first | refine ⟨?_, ?_⟩ | exact EvV_int (by omega) | exact EvV_of (by simp) | exact EvV_nil _))
      · clear hPS hLS hsm hb hlen hxl
        rintro ⟨r, s, v, xs⟩ ⟨hP, hLs, ⟨hxl, hxr⟩, hsm, hb⟩
        dsimp only at hP hLs hxl hxr hsm hb
        by_cases hc2 : (r : Int) > 0
        · (refine ew1 @hc2 ?_; try with_reducible exact True.intro)
          refine RefK_curF (b := 0) (rest := [iv ((k : Int) + 1)]) (hP.fr (by have := hP.lt; rw [List.append_assoc, objAt_app_lt this])) (f_l06DrawN h.d_spec_l06Draw (n := (k : Int) + 1) (by omega) hx) rfl (fun _ => rfl) ?_
          rintro _ i4 h4 ⟨l, rfl, hS⟩ hi4
          obtain ⟨S, hSe⟩ : ∃ S, List.set (s ++ [none] ++ [none]) 0 (some (cob x i4 h4)) = S := ⟨_, rfl⟩
          rw [hSe]
          have hm0 := hP.lt
          have hSl : S.length = s.length + 2 := by rw [← hSe]; simp
          have hS0 : objAt S 0 = some (cob x i4 h4) := by rw [← hSe]; exact objAt_seteq (by simp)
          have hSo : ∀ p, p ≠ 0 → p < s.length → objAt S p = objAt s p := fun p h0 hp => by
            rw [← hSe, objAt_setne h0, List.append_assoc, objAt_app_lt hp]
          have hpl : ∀ p, p ≠ 0 → objAt s p ≠ none → p < s.length := fun p _ h => by
            rcases Nat.lt_or_ge p s.length with k | k
            · exact k
            · exact absurd (by unfold objAt; rw [List.getElem?_eq_none k]; rfl) h
          have hLs : (xs = [] ∧ v = .nils) ∨ ∃ p, v = .msl p 0 xs.length ∧ objAt S p = some ⟨11, xs.map Lk.cells⟩ ∧ p ≠ 0 ∧ p < s.length := by
            rcases hLs with h | ⟨p, h1, h2, h3⟩
            · exact .inl h
            · exact .inr ⟨p, h1, (hSo p h3 (objAt_lt h2)).trans h2, h3, objAt_lt h2⟩
          clear hSe hSo hP hpl
          generalize s.length = m at *
          have hsm2 : ∀ l' ∈ xs ++ [l], SmN ((k : Int) + 1) l' := fun l' hl' => by
            rcases List.mem_append.1 hl' with hl' | hl'
            · exact hsm l' hl'
            · rw [List.mem_singleton.1 hl']; exact hS
          have hb2 : ∀ j, j < k → ((xs ++ [l]).getD j default).b = (j : Int) + 1 := fun j hj => by
            rw [getD_snoc, if_pos (by omega)]
            exact hb j hj
          rcases hLs with ⟨rfl, rfl⟩ | ⟨p, rfl, hp, hp0, hpm⟩
          · simp at hxl; omega
          · (refine ew3 @hS0 @hp @hSl ?_; try with_reducible exact True.intro)
            refine ⟨by omega, ?_⟩
            generalize hB : List.set _ (m + 1) (some (⟨11, List.map Lk.cells xs ++ [l.cells]⟩ : Obj)) = B
            have hB0 : objAt B 0 = some (cob x i4 h4) := by
              rw [← hB, objAt_setne (by omega), objAt_setne (by omega), objAt_setne (by omega), hS0]
            have hBp : objAt B (m + 1) = some ⟨11, List.map Lk.cells xs ++ [l.cells]⟩ := by rw [← hB]; exact objAt_seteq (by simp [hSl])
            refine ⟨(r - 1, B, .msl (m + 1) 0 (xs.length + 1), xs ++ [l]), by dsimp only; omega, ⟨⟨i4, h4, hB0, hi4⟩, .inr ⟨m + 1, by dsimp only; simp, (by dsimp only; rw [List.map_append]; exact hBp), by omega⟩, by dsimp only; simp; omega, hsm2, hb2⟩, ?_⟩
            dsimp only
            (refine Fg_env ?_) <;> (try (refine ew ?_; try with_reducible exact True.intro)) <;> (repeat' (first | refine ⟨?_, ?_⟩ | exact EvV_int (by omega) | exact EvV_of (by simp) | exact EvV_nil _))
        · (refine ew1 @hc2 ?_; try with_reducible exact True.intro)
          rcases hLs with ⟨rfl, rfl⟩ | ⟨p, rfl, hp, hp0⟩
          · simp at hxl; omega
          · exact ⟨⟨xs, ⟨hn, ⟨hxl, by omega⟩, hsm, hb⟩, mp_res (fun x hx => st_Lk xs _ (List.mem_map_of_mem hx)) hp⟩, hP.lt⟩
end Go.Ml
end
section
set_option linter.unusedSimpArgs false
set_option linter.unusedVariables false
set_option maxRecDepth 100000
set_option maxHeartbeats 8000000
namespace Go.Ml
theorem addS_cur (x : List UInt8) (i h : Int) : addS [] (cur x i h) = cur x i h := by
  show [] ++ [some (mapO (shiftN 0) (cob x i h))] = _
  rw [mapO_cob]; rfl
theorem c_MakeLinks {T : Nat → Option Fn} (h : D_spec_MakeLinks T) {x : List UInt8} (hx : x.length ≤ 1048576) : ∃ n L, DrawL n L ∧ PF T 87 [bytesV x] (lksV L) := by
  obtain ⟨h0, rn⟩ := r_l01New h.d_spec_l01New hx
  have : ∃ r σ', Run T (.fn 87 [bytesV x] []) (.fn r σ') ∧ ∃ n L, DrawL n L ∧ resolve σ' FD r = some (lksV L) := by
    refine run_end (fun x d => x == 105 || x == 107 || x == 106) h.hT rfl rfl ?_
    dsimp only [F_spec_MakeLinks, oN, oS, oG, oK, oA, oH, oV, cI, St.enter, List.length_cons, List.length_nil, Nat.zero_add]
    (refine ew ?_; try with_reducible exact True.intro)
    refine RefK_run0 rn (by (refine ew ?_; try with_reducible exact True.intro)) (by (refine ew ?_; try with_reducible exact True.intro)) ?_
    rw [show mapV (shiftN ([] : Store).length) (.ptr 0 0 0) = .ptr 0 0 0 from rfl, addS_cur]
    (refine ew ?_; try with_reducible exact True.intro)
    refine RefK_curF (b := 0) (rest := [iv 4]) ⟨0, h0, rfl, by omega⟩ (f_l01Below h.d_spec_l01Below (n := 4) (by omega) hx) rfl (fun _ => rfl) ?_
    rintro _ i1 h1 ⟨m, rfl, hm⟩ hi1
    rw [show (cur x 0 h0).set 0 (some (cob x i1 h1)) = cur x i1 h1 from rfl]
    obtain ⟨r, σ', h2, ⟨L, h3, h4⟩, h5⟩ := r_l06List h.d_spec_l06List hx (n := (1 + m).toNat) (by omega) (hh := h1) hi1
    rw [show (((1 + m).toNat : Nat) : Int) = 1 + m by omega] at h2
    (refine ew ?_; try with_reducible exact True.intro)
    refine RefK_mk h2 rfl h5 (Nat.le_refl _) ?_
    (refine ew ?_; try with_reducible exact True.intro)
    exact ⟨_, L, h3, h4⟩
  obtain ⟨r, σ', h1, n, L, h2, h3⟩ := this
  exact ⟨n, L, h2, .frz h1 h3⟩
end Go.Ml
end
section
set_option linter.unusedSimpArgs false
set_option linter.unusedVariables false
namespace Go.Ml
def Ht (a : Rat) (N : Nat) : Prop := a.num.natAbs ≤ N ∧ a.den ≤ N
theorem ht_normalize {n : Int} {d N : Nat} (h : d ≠ 0) (h1 : n.natAbs ≤ N) (h2 : d ≤ N) : Ht (Rat.normalize n d h) N := by
  rw [Rat.normalize_eq]
  refine ⟨?_, Nat.le_trans (Nat.div_le_self _ _) h2⟩
  show (n / (n.natAbs.gcd d : Nat)).natAbs ≤ N
  refine Nat.le_trans ?_ h1
  have hd : ((n.natAbs.gcd d : Nat) : Int) ∣ n := Int.ofNat_dvd_left.2 (Nat.gcd_dvd_left _ _)
  rw [Int.natAbs_ediv_of_dvd hd]
  exact Nat.div_le_self _ _
theorem ht_pos {a : Rat} {N : Nat} (h : Ht a N) : 1 ≤ N := by
  have := a.den_pos
  have := h.2
  omega
theorem ht_mul {a b : Rat} {M N : Nat} (ha : Ht a M) (hb : Ht b N) : Ht (a * b) (M * N) := by
  rw [Rat.mul_def]
  refine ht_normalize _ ?_ (Nat.mul_le_mul ha.2 hb.2)
  rw [Int.natAbs_mul]
  exact Nat.mul_le_mul ha.1 hb.1
theorem ht_add {a b : Rat} {M N : Nat} (ha : Ht a M) (hb : Ht b N) : Ht (a + b) (2 * (M * N)) := by
  rw [Rat.add_def]
  have h1 : (a.num * (b.den : Int)).natAbs ≤ M * N := by
    rw [Int.natAbs_mul, Int.natAbs_natCast]; exact Nat.mul_le_mul ha.1 hb.2
  have h2 : (b.num * (a.den : Int)).natAbs ≤ M * N := by
    rw [Int.natAbs_mul, Int.natAbs_natCast, Nat.mul_comm]; exact Nat.mul_le_mul ha.2 hb.1
  have h3 := Nat.mul_le_mul ha.2 hb.2
  refine ht_normalize _ ?_ (by omega)
  have := Int.natAbs_add_le (a.num * (b.den : Int)) (b.num * (a.den : Int))
  omega
theorem ht_neg {a : Rat} {N : Nat} (h : Ht a N) : Ht (-a) N := by
  unfold Ht
  rw [Rat.neg_num, Rat.neg_den, Int.natAbs_neg]
  exact h
theorem ht_sub {a b : Rat} {M N : Nat} (ha : Ht a M) (hb : Ht b N) : Ht (a - b) (2 * (M * N)) := by
  rw [Rat.sub_eq_add_neg]; exact ht_add ha (ht_neg hb)
theorem ht_inv {a : Rat} {N : Nat} (h : Ht a N) : Ht a⁻¹ N := by
  unfold Ht
  rw [Rat.num_inv, Rat.den_inv]
  refine ⟨?_, ?_⟩
  · rw [Int.natAbs_mul, Int.natAbs_natCast]
    have hs : a.num.sign.natAbs ≤ 1 := by
      rcases Int.lt_trichotomy a.num 0 with h | h | h
      · rw [Int.sign_eq_neg_one_of_neg h]; decide
      · rw [h]; decide
      · rw [Int.sign_eq_one_of_pos h]; decide
    have := Nat.mul_le_mul hs (Nat.le_refl a.den)
    have := h.2
    omega
  · split
    · exact ht_pos h
    · exact h.1
theorem ht_div {a b : Rat} {M N : Nat} (ha : Ht a M) (hb : Ht b N) : Ht (a / b) (M * N) := by
  rw [Rat.div_def]; exact ht_mul ha (ht_inv hb)
theorem ht_int {n : Int} {N : Nat} (h : n.natAbs ≤ N) (h1 : 1 ≤ N) : Ht (n : Rat) N := by
  unfold Ht
  rw [Rat.num_intCast, Rat.den_intCast]
  exact ⟨h, h1⟩
theorem ht_fits {a : Rat} {N : Nat} (h : Ht a N) (hN : N < 1000000000 ^ 24) : fits a = true := by
  unfold fits
  rw [decide_eq_true (Nat.lt_of_le_of_lt h.1 hN), decide_eq_true (Nat.lt_of_le_of_lt h.2 hN)]
  rfl
theorem Ht.mono {a : Rat} {M N : Nat} (h : Ht a M) (hl : M ≤ N) : Ht a N := ⟨Nat.le_trans h.1 hl, Nat.le_trans h.2 hl⟩
structure Rv (r : R) (a : Rat) (N : Nat) : Prop where
  q : r.q = some a
  h : Ht a N
theorem Rv.add {r s : R} {a b : Rat} {M N : Nat} (h1 : Rv r a M) (h2 : Rv s b N) (hN : 2 * (M * N) < 1000000000 ^ 24 := by decide) : Rv (addR r s) (a + b) (2 * (M * N)) := by
  have h := ht_add h1.h h2.h
  refine ⟨?_, h⟩
  rw [addR_q, h1.q, h2.q]
  show norm (a + b) = _
  exact norm_fits (ht_fits h hN)
theorem Rv.sub {r s : R} {a b : Rat} {M N : Nat} (h1 : Rv r a M) (h2 : Rv s b N) (hN : 2 * (M * N) < 1000000000 ^ 24 := by decide) : Rv (subR r s) (a - b) (2 * (M * N)) := by
  have h := ht_sub h1.h h2.h
  refine ⟨?_, h⟩
  rw [subR_q, h1.q, h2.q]
  show norm (a + -b) = _
  rw [← Rat.sub_eq_add_neg]
  exact norm_fits (ht_fits h hN)
theorem Rv.mul {r s : R} {a b : Rat} {M N : Nat} (h1 : Rv r a M) (h2 : Rv s b N) (hN : M * N < 1000000000 ^ 24 := by decide) : Rv (mulR r s) (a * b) (M * N) := by
  have h := ht_mul h1.h h2.h
  refine ⟨?_, h⟩
  rw [mulR_q, h1.q, h2.q]
  show norm (a * b) = _
  exact norm_fits (ht_fits h hN)
theorem Rv.div {r s : R} {a b : Rat} {M N : Nat} (h1 : Rv r a M) (h2 : Rv s b N) (hb : b ≠ 0) (hN : M * N < 1000000000 ^ 24 := by decide) : Rv (divR r s) (a / b) (M * N) := by
  have h := ht_div h1.h h2.h
  refine ⟨?_, h⟩
  rw [divR_q, h1.q, h2.q]
  show (if b = 0 then none else norm (a / b)) = _
  rw [if_neg hb]
  exact norm_fits (ht_fits h hN)
theorem rv_int {n : Int} {N : Nat} (h : n.natAbs ≤ N) (h1 : 1 ≤ N) (hN : N < 1000000000 ^ 24 := by decide) : Rv (intR n) (n : Rat) N :=
  ⟨intR_q (Nat.lt_of_le_of_lt h hN), ht_int h h1⟩
theorem Rv.ok {r : R} {a : Rat} {N : Nat} (h : Rv r a N) : r.ok = true := by
  rw [ok_iff, h.q]; simp
theorem Rv.eq {r s : R} {a b : Rat} {M N : Nat} (h1 : Rv r a M) (h2 : Rv s b N) (hr : r.cn) (hs : s.cn) (e : a = b) : r = s := by
  rw [← hr, ← hs, h1.q, h2.q, e]
end Go.Ml
end
section
set_option linter.unusedSimpArgs false
set_option linter.unusedVariables false
set_option maxRecDepth 100000
set_option maxHeartbeats 8000000
namespace Go.Ml
theorem Rv.of_eq {r s : R} {a : Rat} {N : Nat} (h : Rv s a N) (e : r = s) : Rv r a N := e ▸ h
theorem lkOk_of {l : Lk} {w : Rat} {N : Nat} (h : 0 ≤ l.a ∧ l.a < l.b ∧ l.b ≤ 9) (hw : Rv l.w w N) (hp : 0 < w) (hx : l.dx.ok = true) (hy : l.dy.ok = true) : lkOk l = true := by
  have hs : 0 < sgnR l.w := by
    unfold sgnR
    rw [hw.q]
    show 0 < sgn w.num
    have : 0 < w.num := by
      rw [Rat.lt_iff, show (0 : Rat).num = 0 from rfl, show (0 : Rat).den = 1 from rfl, Int.zero_mul, Int.natCast_one, Int.mul_one] at hp
      exact hp
    unfold sgn
    rw [if_neg (by omega), if_neg (by omega)]
    decide
  unfold sgnR at hs
  unfold lkOk nd
  rw [decide_eq_true hs, hx, hy, decide_eq_true h.2.1, decide_eq_true h.1, decide_eq_true h.2.2, decide_eq_true (show 0 ≤ l.b by omega), decide_eq_true (show l.a ≤ 9 by omega)]
  rfl
end Go.Ml
end
section
set_option linter.unusedSimpArgs false
set_option linter.unusedVariables false
set_option maxRecDepth 100000
set_option maxHeartbeats 8000000
namespace Go.Ml
theorem norm_ex {a b : Rat} (h : norm a = some b) : a = b := by
  unfold norm at h; split at h
  · cases h; rfl
  · cases h
theorem ok_some {r : R} (h : r.ok = true) : ∃ a, r.q = some a := by
  cases hq : r.q with
  | none => exact absurd hq (ok_iff.1 h)
  | some a => exact ⟨a, rfl⟩
theorem add_ex {r s : R} {a b : Rat} (hr : r.q = some a) (hs : s.q = some b) (ho : (addR r s).ok = true) : (addR r s).q = some (a + b) := by
  obtain ⟨c, hc⟩ := ok_some ho
  rw [hc]
  rw [addR_q, hr, hs] at hc
  rw [norm_ex hc]
theorem sub_ex {r s : R} {a b : Rat} (hr : r.q = some a) (hs : s.q = some b) (ho : (subR r s).ok = true) : (subR r s).q = some (a - b) := by
  obtain ⟨c, hc⟩ := ok_some ho
  rw [hc]
  rw [subR_q, hr, hs] at hc
  have : norm (a + -b) = some c := hc
  rw [Rat.sub_eq_add_neg, norm_ex this]
theorem mul_ex {r s : R} {a b : Rat} (hr : r.q = some a) (hs : s.q = some b) (ho : (mulR r s).ok = true) : (mulR r s).q = some (a * b) := by
  obtain ⟨c, hc⟩ := ok_some ho
  rw [hc]
  rw [mulR_q, hr, hs] at hc
  rw [norm_ex hc]
theorem div_ex {r s : R} {a b : Rat} (hr : r.q = some a) (hs : s.q = some b) (ho : (divR r s).ok = true) : (divR r s).q = some (a / b) ∧ b ≠ 0 := by
  obtain ⟨c, hc⟩ := ok_some ho
  rw [hc]
  rw [divR_q, hr, hs] at hc
  have : (if b = 0 then none else norm (a / b)) = some c := hc
  split at this
  · cases this
  · rename_i h0
    rw [norm_ex this]; exact ⟨rfl, h0⟩
theorem addR_okL {r s : R} (h : (addR r s).ok = true) : r.ok = true ∧ s.ok = true := by
  constructor
  · cases hr : r.ok
    · rw [addR_bad hr] at h; cases h
    · rfl
  · cases hr : s.ok
    · rw [addR_comm, addR_bad hr] at h; cases h
    · rfl
theorem mulR_okL {r s : R} (h : (mulR r s).ok = true) : r.ok = true ∧ s.ok = true := by
  rw [ok_iff, mulR_q] at h
  constructor
  · rw [ok_iff]; intro e; rw [e] at h; exact h rfl
  · rw [ok_iff]; intro e; rw [e, mulQ_none_r] at h; exact h rfl
theorem divR_okL {r s : R} (h : (divR r s).ok = true) : r.ok = true ∧ s.ok = true := by
  rw [ok_iff, divR_q] at h
  constructor
  · rw [ok_iff]; intro e; rw [e] at h; exact h rfl
  · rw [ok_iff]; intro e; rw [e, divQ_none_r] at h; exact h rfl
def R.v (r : R) : Rat := r.q.getD 0
theorem R.v_of {r : R} {a : Rat} (h : r.q = some a) : r.v = a := by unfold R.v; rw [h]; rfl
theorem R.q_of {r : R} (h : r.ok = true) : r.q = some r.v := by obtain ⟨a, ha⟩ := ok_some h; rw [ha, R.v_of ha]
def mW (l : Lk) : Rat := l.w.v
def mX (l : Lk) : Rat := l.w.v * l.dx.v
def mY (l : Lk) : Rat := l.w.v * l.dy.v
def mZ (l : Lk) : Rat := l.w.v * (l.dx.v * l.dx.v + l.dy.v * l.dy.v)
theorem sgn_pos {n : Int} (h : 0 < sgn n) : 0 < n := by
  unfold sgn at h
  split at h
  · omega
  · split at h <;> omega
theorem lkOk_pos {l : Lk} (h : lkOk l = true) : 0 < l.w.v := by
  have hk := lkOk_ok h
  have hs := hk.2.2.2
  unfold sgnR at hs
  rw [R.q_of hk.1] at hs
  have : 0 < sgn l.w.v.num := hs
  rw [Rat.lt_iff, show (0 : Rat).num = 0 from rfl, show (0 : Rat).den = 1 from rfl, Int.zero_mul, Int.natCast_one, Int.mul_one]
  exact sgn_pos this
theorem mg_id2 (v w a b c d : Rat) (h : v + w ≠ 0) : (v + w) * ((v * a + w * b) / (v + w) * ((v * a + w * b) / (v + w)) + (v * c + w * d) / (v + w) * ((v * c + w * d) / (v + w))) + v * w / (v + w) * ((a - b) * (a - b) + (c - d) * (c - d)) = v * (a * a + c * c) + w * (b * b + d * d) := by
  grind
theorem mg_id3 (s t : Rat) (h : t ≠ 0) : t * (s / t) = s := by grind
theorem mg_mom {k l : Lk} (h1 : lkOk k = true) (h2 : lkOk l = true) (hg : mgG k l = true) :
    mW (mgL k l) = mW k + mW l ∧ mX (mgL k l) = mX k + mX l ∧ mY (mgL k l) = mY k + mY l ∧ mZ (mgL k l) + (mgE k l).v = mZ k + mZ l := by
  have k1 := lkOk_ok h1
  have k2 := lkOk_ok h2
  have kw := R.q_of k1.1
  have kx := R.q_of k1.2.1
  have ky := R.q_of k1.2.2.1
  have lw := R.q_of k2.1
  have lx := R.q_of k2.2.1
  have ly := R.q_of k2.2.2.1
  unfold mgG at hg
  simp only [Bool.and_eq_true] at hg
  obtain ⟨⟨⟨gW, gX⟩, gY⟩, gE⟩ := hg
  have eW := add_ex kw lw gW
  obtain ⟨gX1, _⟩ := divR_okL gX
  obtain ⟨gX2, gX3⟩ := addR_okL gX1
  obtain ⟨eX, hne⟩ := div_ex (add_ex (mul_ex kw kx gX2) (mul_ex lw lx gX3) gX1) eW gX
  obtain ⟨gY1, _⟩ := divR_okL gY
  obtain ⟨gY2, gY3⟩ := addR_okL gY1
  obtain ⟨eY, _⟩ := div_ex (add_ex (mul_ex kw ky gY2) (mul_ex lw ly gY3) gY1) eW gY
  obtain ⟨gE1, gE2⟩ := mulR_okL gE
  obtain ⟨gE3, _⟩ := divR_okL gE1
  obtain ⟨gE4, gE5⟩ := addR_okL gE2
  obtain ⟨gE6, _⟩ := mulR_okL gE4
  obtain ⟨gE7, _⟩ := mulR_okL gE5
  have sx := sub_ex kx lx gE6
  have sy := sub_ex ky ly gE7
  have eE := mul_ex (div_ex (mul_ex kw lw gE3) eW gE1).1 (add_ex (mul_ex sx sx gE4) (mul_ex sy sy gE5) gE2) gE
  have vW : (mgL k l).w.v = k.w.v + l.w.v := R.v_of eW
  have vX : (mgL k l).dx.v = (k.w.v * k.dx.v + l.w.v * l.dx.v) / (k.w.v + l.w.v) := R.v_of eX
  have vY : (mgL k l).dy.v = (k.w.v * k.dy.v + l.w.v * l.dy.v) / (k.w.v + l.w.v) := R.v_of eY
  have vE : (mgE k l).v = k.w.v * l.w.v / (k.w.v + l.w.v) * ((k.dx.v - l.dx.v) * (k.dx.v - l.dx.v) + (k.dy.v - l.dy.v) * (k.dy.v - l.dy.v)) := R.v_of eE
  unfold mW mX mY mZ
  rw [vW, vX, vY, vE]
  exact ⟨rfl, mg_id3 _ _ hne, mg_id3 _ _ hne, mg_id2 _ _ _ _ _ _ hne⟩
def mom (f : Lk → Rat) (i j : Int) : List Lk → Rat
  | [] => 0
  | x :: L => (if x.a = i ∧ x.b = j then f x else 0) + mom f i j L
def tot (f : Lk → Rat) : List Lk → Rat
  | [] => 0
  | x :: L => f x + tot f L
theorem mom_app (f : Lk → Rat) (i j : Int) : ∀ A B : List Lk, mom f i j (A ++ B) = mom f i j A + mom f i j B
  | [], B => by simp [mom, Rat.zero_add]
  | x :: A, B => by simp only [List.cons_append, mom, mom_app f i j A B, Rat.add_assoc]
theorem tot_app (f : Lk → Rat) : ∀ A B : List Lk, tot f (A ++ B) = tot f A + tot f B
  | [], B => by simp [tot, Rat.zero_add]
  | x :: A, B => by simp only [List.cons_append, tot, tot_app f A B, Rat.add_assoc]
theorem mom_rev (f : Lk → Rat) (i j : Int) : ∀ A : List Lk, mom f i j A.reverse = mom f i j A
  | [] => rfl
  | x :: A => by rw [List.reverse_cons, mom_app, mom_rev f i j A]; simp only [mom, Rat.add_zero]; rw [Rat.add_comm]
theorem tot_rev (f : Lk → Rat) : ∀ A : List Lk, tot f A.reverse = tot f A
  | [] => rfl
  | x :: A => by rw [List.reverse_cons, tot_app, tot_rev f A]; simp only [tot, Rat.add_zero]; rw [Rat.add_comm]
theorem adR_mom {s : List Lk} {l : Lk} {t : List Lk} {e : R} (h : adR s l = some (t, e)) (h1 : lksOk s = true) (h2 : lkOk l = true) :
    (∀ f, (f = mW ∨ f = mX ∨ f = mY) → ∀ i j, mom f i j t = mom f i j s + mom f i j [l]) ∧ tot mZ t + e.v = tot mZ s + mZ l := by
  obtain ⟨hv, hp⟩ := lksOk_iff.1 h1
  have hpost := posL_post (l := l) hp
  have hpl := posL_le l s
  unfold adR at h
  dsimp only at h
  generalize posL l s = i at *
  have hsp : s.take i ++ s.drop i = s := List.take_append_drop i s
  split at h
  · cases h
    have e0 : (intR 0).v = 0 := R.v_of (a := ((0 : Int) : Rat)) (intR_q (by decide))
    refine ⟨fun f _ a b => ?_, ?_⟩
    · conv => rhs; rw [← hsp]
      simp only [mom_app, mom, Rat.add_zero]
      grind
    · rw [e0]
      conv => rhs; rw [← hsp]
      simp only [tot_app, tot]
      grind
  · rename_i hc
    split at h
    · rename_i hg
      cases h
      have hi : i < s.length := by
        rcases Nat.lt_or_ge i s.length with k | k
        · exact k
        · exact absurd (.inl (by omega)) hc
      have hd : s.drop i = s.getD i default :: s.drop (i + 1) := by
        rw [List.drop_eq_getElem_cons hi, List.getD_eq_getElem?_getD, List.getElem?_eq_getElem hi]; rfl
      have hx0 := hpost (s.getD i default) (by rw [hd]; simp)
      have hxl : lkLess l (s.getD i default) = false := by
        cases hq : lkLess l (s.getD i default)
        · rfl
        · exact absurd (.inr hq) hc
      have hsm := getD_mem (l := s) hi
      generalize s.getD i default = x at *
      obtain ⟨ea, eb⟩ := lkLess_tri hx0 hxl
      obtain ⟨m1, m2, m3, m4⟩ := mg_mom (hv x hsm) h2 hg
      have hpa : (mgL x l).a = x.a := rfl
      have hpb : (mgL x l).b = x.b := rfl
      refine ⟨fun f hf a b => ?_, ?_⟩
      · have hm : f (mgL x l) = f x + f l := by rcases hf with rfl | rfl | rfl <;> assumption
        conv => rhs; rw [← hsp, hd]
        simp only [mom_app, mom, Rat.add_zero, hpa, hpb, ← ea, ← eb]
        split
        · rw [hm]; grind
        · grind
      · conv => rhs; rw [← hsp, hd]
        simp only [tot_app, tot]
        grind
    · cases h
theorem mom_none {f : Lk → Rat} {i j : Int} : ∀ {S : List Lk}, (∀ y ∈ S, ¬ (y.a = i ∧ y.b = j)) → mom f i j S = 0
  | [], _ => rfl
  | y :: S, h => by
    simp only [mom]
    rw [if_neg (h y (by simp)), mom_none fun z hz => h z (by simp [hz]), Rat.zero_add]
theorem mom_at {f : Lk → Rat} {x : Lk} : ∀ {S : List Lk}, (S.Pairwise fun k l => lkLess k l = true) → x ∈ S → mom f x.a x.b S = f x
  | [], _, h => by cases h
  | y :: S, hp, h => by
    rw [List.pairwise_cons] at hp
    simp only [mom]
    rcases List.mem_cons.1 h with rfl | h
    · rw [if_pos ⟨rfl, rfl⟩, mom_none fun z hz hh => ?_, Rat.add_zero]
      have := hp.1 z hz
      rw [lkLess_iff] at this
      omega
    · have := hp.1 x h
      rw [lkLess_iff] at this
      rw [if_neg (by omega), mom_at hp.2 h, Rat.zero_add]
theorem pw_ext : ∀ {l m : List Lk}, (l.Pairwise fun k l => lkLess k l = true) → (m.Pairwise fun k l => lkLess k l = true) → (∀ a, a ∈ l ↔ a ∈ m) → l = m
  | [], [], _, _, _ => rfl
  | [], y :: m, _, _, h => absurd ((h y).2 (by simp)) (by simp)
  | x :: l, [], _, _, h => absurd ((h x).1 (by simp)) (by simp)
  | x :: l, y :: m, hl, hm, h => by
    rw [List.pairwise_cons] at hl hm
    have e : x = y := by
      rcases List.mem_cons.1 ((h x).1 (by simp)) with h1 | h1
      · exact h1
      · rcases List.mem_cons.1 ((h y).2 (by simp)) with h2 | h2
        · exact h2.symm
        · have a1 := hl.1 y h2
          have a2 := hm.1 x h1
          have := lkLess_trans a1 a2
          rw [lkLess_irr] at this; cases this
    subst e
    congr 1
    refine pw_ext hl.2 hm.2 fun a => ?_
    constructor
    · intro ha
      rcases List.mem_cons.1 ((h a).1 (by simp [ha])) with h1 | h1
      · have := hl.1 a ha; rw [h1, lkLess_irr] at this; cases this
      · exact h1
    · intro ha
      rcases List.mem_cons.1 ((h a).2 (by simp [ha])) with h1 | h1
      · have := hm.1 a ha; rw [h1, lkLess_irr] at this; cases this
      · exact h1
theorem R.eq_v {r s : R} (hr : r.ok = true) (hs : s.ok = true) (h : r.v = s.v) : r = s := cn_ext (cn_ok hr) (cn_ok hs) (by rw [R.q_of hr, R.q_of hs, h])
theorem mom_sub {S S' : List Lk} (h : lksOk S = true) (h' : lksOk S' = true) (hm : ∀ f, (f = mW ∨ f = mX ∨ f = mY) → ∀ i j, mom f i j S = mom f i j S') : ∀ x ∈ S, x ∈ S' := by
  obtain ⟨hv, hp⟩ := lksOk_iff.1 h
  obtain ⟨hv', hp'⟩ := lksOk_iff.1 h'
  intro x hx
  have hpos := lkOk_pos (hv x hx)
  have w1 := hm mW (.inl rfl) x.a x.b
  rw [mom_at hp hx] at w1
  have : ∃ y ∈ S', y.a = x.a ∧ y.b = x.b := by
    refine Classical.byContradiction fun hne => ?_
    rw [mom_none fun y hy hh => hne ⟨y, hy, hh⟩] at w1
    unfold mW at w1
    rw [w1] at hpos
    exact absurd hpos (Rat.lt_irrefl)
  obtain ⟨y, hy, ha, hb⟩ := this
  have hyok := hv' y hy
  have at' := fun f => mom_at (f := f) hp' hy
  rw [ha, hb] at at'
  rw [at'] at w1
  have w2 := hm mX (.inr (.inl rfl)) x.a x.b
  have w3 := hm mY (.inr (.inr rfl)) x.a x.b
  rw [mom_at hp hx, at'] at w2 w3
  unfold mW at w1
  unfold mX at w2
  unfold mY at w3
  have k1 := lkOk_ok (hv x hx)
  have k2 := lkOk_ok hyok
  rw [← w1] at w2 w3
  have hne : x.w.v ≠ 0 := fun e => by rw [e] at hpos; exact absurd hpos Rat.lt_irrefl
  have c2 : x.dx.v = y.dx.v := by grind
  have c3 : x.dy.v = y.dy.v := by grind
  have e : x = y := Lk.ext' ha.symm hb.symm (R.eq_v k1.1 k2.1 w1) (R.eq_v k1.2.1 k2.2.1 c2) (R.eq_v k1.2.2.1 k2.2.2.1 c3)
  rw [e]; exact hy
theorem mom_ext {S S' : List Lk} (h : lksOk S = true) (h' : lksOk S' = true) (hm : ∀ f, (f = mW ∨ f = mX ∨ f = mY) → ∀ i j, mom f i j S = mom f i j S') : S = S' :=
  pw_ext (lksOk_iff.1 h).2 (lksOk_iff.1 h').2 fun a => ⟨mom_sub h h' hm a, mom_sub h' h (fun f hf i j => (hm f hf i j).symm) a⟩
theorem joF_mom {l : List Lk} : ∀ {k : Nat} {S : List Lk} {e : R}, k ≤ l.length → joF l k = some (S, e) → e.ok = true →
    (∀ f, (f = mW ∨ f = mX ∨ f = mY) → ∀ i j, mom f i j S = mom f i j (l.take k)) ∧ tot mZ S + e.v = tot mZ (l.take k)
  | 0, S, e, _, h, _ => by
    cases h
    have e0 : (intR 0).v = 0 := R.v_of (a := ((0 : Int) : Rat)) (intR_q (by decide))
    rw [e0]
    exact ⟨fun f _ i j => by simp, by simp [tot, Rat.zero_add]⟩
  | k + 1, S, e, hk, h, he => by
    simp only [joF] at h
    cases hf : joF l k with
    | none => rw [hf] at h; cases h
    | some p =>
      rw [hf] at h
      dsimp only at h
      split at h
      · rename_i ho
        cases h
        obtain ⟨o1, o2⟩ := addR_okL he
        obtain ⟨m1, m2⟩ := joF_mom (k := k) (S := p.1) (e := p.2) (by omega) hf o1
        obtain ⟨a1, a2, a3⟩ := adV_ok ho
        obtain ⟨g1, g2, g3⟩ := ad_good a2 a3
        have es := take_snoc (l := l) (i := k) (by omega)
        generalize l.getD k default = x at *
        cases hr : adR p.1 x with
        | none => rw [hr] at g3; rw [g3] at ho; cases ho
        | some t =>
          rw [hr] at g1 g2
          have g1 : adV p.1 x = t.1 := g1
          have g2 : adE p.1 x = t.2 := g2
          obtain ⟨n1, n2⟩ := adR_mom (t := t.1) (e := t.2) hr a2 a3
          rw [g2] at o2 he ⊢
          rw [g1, es]
          have ev := R.v_of (add_ex (R.q_of o1) (R.q_of o2) he)
          refine ⟨fun f hf i j => ?_, ?_⟩
          · rw [n1 f hf, mom_app, m1 f hf]
          · rw [ev, tot_app, ← m2]
            simp only [tot, Rat.add_zero]
            grind
      · cases h
theorem joG_mom {l : List Lk} (h : joOk l = true) : (∀ f, (f = mW ∨ f = mX ∨ f = mY) → ∀ i j, mom f i j (joV l) = mom f i j l) ∧ tot mZ (joV l) + (joE l).v = tot mZ l ∧ (joE l).ok = true := by
  unfold joOk at h
  cases hg : joG l with
  | none => rw [hg] at h; cases h
  | some p =>
    have e1 : joV l = p.1 := by unfold joV; rw [hg]; rfl
    have e2 : joE l = p.2 := by unfold joE; rw [hg]; rfl
    rw [e1, e2]
    unfold joG at hg
    cases hf : joF l l.length with
    | none => rw [hf] at hg; cases hg
    | some q =>
      rw [hf] at hg
      dsimp only at hg
      split at hg
      · rename_i ho
        cases hg
        have := joF_mom (S := p.1) (e := p.2) (Nat.le_refl _) hf ho
        rw [List.take_length] at this
        exact ⟨this.1, this.2, ho⟩
      · cases hg
theorem jo_rev {l : List Lk} (h : joOk l = true) (h' : joOk l.reverse = true) : joV l = joV l.reverse ∧ joE l = joE l.reverse := by
  obtain ⟨a1, a2, a3⟩ := joG_mom h
  obtain ⟨b1, b2, b3⟩ := joG_mom h'
  have e := mom_ext (joG_cn (l := l)).2.2.2 (joG_cn (l := l.reverse)).2.2.2 fun f hf i j => by rw [a1 f hf, b1 f hf, mom_rev]
  refine ⟨e, R.eq_v a3 b3 ?_⟩
  rw [tot_rev, ← a2, ← e] at b2
  grind
end Go.Ml
end
section
set_option linter.unusedSimpArgs false
set_option linter.unusedVariables false
set_option maxRecDepth 100000
set_option maxHeartbeats 8000000
namespace Go.Ml
theorem adR_tot {s : List Lk} {l : Lk} (h1 : lksOk s = true) (h2 : lkOk l = true) (hm : ∀ x ∈ s, x.a = l.a → x.b = l.b → mgG x l = true) :
    ∃ t e, adR s l = some (t, e) ∧ (((∀ y ∈ t, y ∈ s ∨ y = l) ∧ e = intR 0) ∨ ∃ x ∈ s, x.a = l.a ∧ x.b = l.b ∧ (∀ y ∈ t, y ∈ s ∨ y = mgL x l) ∧ e = mgE x l) := by
  obtain ⟨hv, hp⟩ := lksOk_iff.1 h1
  have hpost := posL_post (l := l) hp
  have hpl := posL_le l s
  unfold adR
  dsimp only
  generalize posL l s = i at *
  by_cases hc : i = s.length ∨ lkLess l (s.getD i default) = true
  · rw [if_pos hc]
    refine ⟨_, _, rfl, .inl ⟨fun y hy => ?_, rfl⟩⟩
    simp only [List.mem_append, List.mem_cons] at hy
    rcases hy with hy | rfl | hy
    · exact .inl (List.mem_of_mem_take hy)
    · exact .inr rfl
    · exact .inl (List.mem_of_mem_drop hy)
  · rw [if_neg hc]
    have hi : i < s.length := by
      rcases Nat.lt_or_ge i s.length with k | k
      · exact k
      · exact absurd (.inl (by omega)) hc
    have hd : s.drop i = s.getD i default :: s.drop (i + 1) := by
      rw [List.drop_eq_getElem_cons hi, List.getD_eq_getElem?_getD, List.getElem?_eq_getElem hi]; rfl
    have hx0 := hpost (s.getD i default) (by rw [hd]; simp)
    have hxl : lkLess l (s.getD i default) = false := by
      cases hq : lkLess l (s.getD i default)
      · rfl
      · exact absurd (.inr hq) hc
    have hsm := getD_mem (l := s) hi
    generalize s.getD i default = x at *
    obtain ⟨ea, eb⟩ := lkLess_tri hx0 hxl
    rw [if_pos (hm x hsm ea eb)]
    refine ⟨_, _, rfl, .inr ⟨x, hsm, ea, eb, fun y hy => ?_, rfl⟩⟩
    simp only [List.mem_append, List.mem_cons] at hy
    rcases hy with hy | rfl | hy
    · exact .inl (List.mem_of_mem_take hy)
    · exact .inr rfl
    · exact .inl (List.mem_of_mem_drop hy)
structure Jn (B : Int) (x : Lk) : Prop where
  ex : ∃ n p q : Int, (1 ≤ n ∧ n ≤ 9 * B) ∧ (-(180 * B) ≤ p ∧ p ≤ 180 * B) ∧ (-(180 * B) ≤ q ∧ q ≤ 180 * B) ∧ x.w.q = some (n : Rat) ∧ x.dx.q = some ((p : Rat) / (n : Rat)) ∧ x.dy.q = some ((q : Rat) / (n : Rat))
theorem Jn.mono {B C : Int} {x : Lk} (h : Jn B x) (hl : B ≤ C) : Jn C x := by
  obtain ⟨n, p, q, h1, h2, h3, h4⟩ := h.ex
  exact ⟨n, p, q, by omega, by omega, by omega, h4⟩
theorem ht_frac {p n : Int} {N : Nat} (hp : p.natAbs ≤ N) (hn : 1 ≤ n) (h : n ≤ N) : Ht ((p : Rat) / (n : Rat)) N := by
  obtain ⟨e, rfl⟩ : ∃ e : Nat, n = (e : Int) := ⟨n.toNat, by omega⟩
  rw [← Rat.divInt_eq_div]
  show Ht (mkRat p e) N
  unfold mkRat
  rw [dif_neg (by omega)]
  exact ht_normalize _ hp (by omega)
theorem intR_of {r : R} {n : Int} (e : r = intR n) (h : n.natAbs < 1000000000 ^ 24) : r.q = some (n : Rat) := by rw [e]; exact intR_q h
theorem Jn.of {n : Int} {l : Lk} (h : SmN n l) : Jn 1 l := by
  obtain ⟨w, hw, ew⟩ := h.w
  obtain ⟨x, hx, ex⟩ := h.dx
  obtain ⟨y, hy, ey⟩ := h.dy
  have hne : (w : Rat) ≠ 0 := fun e => by have := Rat.intCast_eq_zero_iff.1 e; omega
  have b1 : -180 ≤ w * x ∧ w * x ≤ 180 := by
    constructor
    · have : w * (-20) ≤ w * x := Int.mul_le_mul_of_nonneg_left hx.1 (by omega)
      omega
    · have : w * x ≤ w * 20 := Int.mul_le_mul_of_nonneg_left hx.2 (by omega)
      omega
  have b2 : -180 ≤ w * y ∧ w * y ≤ 180 := by
    constructor
    · have : w * (-20) ≤ w * y := Int.mul_le_mul_of_nonneg_left hy.1 (by omega)
      omega
    · have : w * y ≤ w * 20 := Int.mul_le_mul_of_nonneg_left hy.2 (by omega)
      omega
  refine ⟨w, w * x, w * y, by omega, by omega, by omega, intR_of ew (by omega), ?_, ?_⟩
  · rw [intR_of ex (by omega), Rat.intCast_mul]; congr 1; grind
  · rw [intR_of ey (by omega), Rat.intCast_mul]; congr 1; grind
theorem lkOk_sm {n : Int} {l : Lk} (hn : n ≤ 9) (h : SmN n l) : lkOk l = true := by
  obtain ⟨w, hw, ew⟩ := h.w
  obtain ⟨x, hx, ex⟩ := h.dx
  obtain ⟨y, hy, ey⟩ := h.dy
  have kw : Rv l.w (w : Rat) 9 := (rv_int (by omega) (by omega)).of_eq ew
  have kx : Rv l.dx (x : Rat) 20 := (rv_int (by omega) (by omega)).of_eq ex
  have ky : Rv l.dy (y : Rat) 20 := (rv_int (by omega) (by omega)).of_eq ey
  exact lkOk_of ⟨h.ab.1, h.ab.2.1, by have := h.ab.2.2; omega⟩ kw (Rat.intCast_pos.2 (by omega)) kx.ok ky.ok
theorem jn_alg (n p m d : Rat) (h0 : n ≠ 0) (h : n + m ≠ 0) : (n * (p / n) + m * d) / (n + m) = (p + m * d) / (n + m) := by grind
theorem jn_merge {B N : Int} {x l : Lk} (hB : B ≤ 6) (hx : Jn B x) (hl : SmN N l) : mgG x l = true ∧ Jn (B + 1) (mgL x l) ∧ ∃ a, Rv (mgE x l) a (10 ^ 26) := by
  obtain ⟨n, p, q, hn, hp, hq, en, ep, eq⟩ := hx.ex
  obtain ⟨m, hm, em⟩ := hl.w
  obtain ⟨d, hd, ed⟩ := hl.dx
  obtain ⟨c, hc, ec⟩ := hl.dy
  have kw : Rv x.w (n : Rat) 63 := ⟨en, ht_int (by omega) (by omega)⟩
  have kx : Rv x.dx ((p : Rat) / (n : Rat)) 1260 := ⟨ep, ht_frac (by omega) hn.1 (by omega)⟩
  have ky : Rv x.dy ((q : Rat) / (n : Rat)) 1260 := ⟨eq, ht_frac (by omega) hn.1 (by omega)⟩
  have lw : Rv l.w (m : Rat) 9 := (rv_int (by omega) (by omega)).of_eq em
  have lx : Rv l.dx (d : Rat) 20 := (rv_int (by omega) (by omega)).of_eq ed
  have ly : Rv l.dy (c : Rat) 20 := (rv_int (by omega) (by omega)).of_eq ec
  have hn0 : (n : Rat) ≠ 0 := fun e => by have := Rat.intCast_eq_zero_iff.1 e; omega
  have h0 : (n : Rat) + (m : Rat) ≠ 0 := by
    rw [← Rat.intCast_add]
    intro e
    have := Rat.intCast_eq_zero_iff.1 e
    omega
  have rW : Rv (mgW x l) _ _ := kw.add lw
  have rX : Rv (mgX x l) _ _ := ((kw.mul kx).add (lw.mul lx)).div rW h0
  have rY : Rv (mgY x l) _ _ := ((kw.mul ky).add (lw.mul ly)).div rW h0
  have sx := kx.sub lx
  have sy := ky.sub ly
  have rE : Rv (mgE x l) _ _ := ((kw.mul lw).div rW h0).mul ((sx.mul sx).add (sy.mul sy))
  have b1 : -180 ≤ m * d ∧ m * d ≤ 180 := by
    constructor
    · have : m * (-20) ≤ m * d := Int.mul_le_mul_of_nonneg_left hd.1 (by omega)
      omega
    · have : m * d ≤ m * 20 := Int.mul_le_mul_of_nonneg_left hd.2 (by omega)
      omega
  have b2 : -180 ≤ m * c ∧ m * c ≤ 180 := by
    constructor
    · have : m * (-20) ≤ m * c := Int.mul_le_mul_of_nonneg_left hc.1 (by omega)
      omega
    · have : m * c ≤ m * 20 := Int.mul_le_mul_of_nonneg_left hc.2 (by omega)
      omega
  refine ⟨by unfold mgG; rw [rW.ok, rX.ok, rY.ok, rE.ok]; rfl, ⟨n + m, p + m * d, q + m * c, by omega, by omega, by omega, ?_, ?_, ?_⟩, _, rE.q, rE.h.mono (by decide)⟩
  · show (mgW x l).q = _
    rw [rW.q, Rat.intCast_add]
  · show (mgX x l).q = _
    rw [rX.q, Rat.intCast_add, Rat.intCast_add, Rat.intCast_mul, jn_alg _ _ _ _ hn0 h0]
  · show (mgY x l).q = _
    rw [rY.q, Rat.intCast_add, Rat.intCast_add, Rat.intCast_mul, jn_alg _ _ _ _ hn0 h0]
def Eb : Nat → Nat
  | 0 => 1
  | k + 1 => 2 * (Eb k * 10 ^ 26)
theorem Eb_lt : ∀ k, k ≤ 7 → Eb k < 1000000000 ^ 24 := by decide +kernel
theorem joF_draw {N : Int} {L : List Lk} (hN : N ≤ 9) (hl : L.length ≤ 7) (hs : ∀ l ∈ L, SmN N l) : ∀ k, k ≤ L.length → ∃ S e a, joF L k = some (S, e) ∧ (∀ x ∈ S, Jn k x) ∧ Rv e a (Eb k)
  | 0, _ => ⟨[], intR 0, ((0 : Int) : Rat), rfl, by simp, rv_int (by decide) (by decide)⟩
  | k + 1, hk => by
    obtain ⟨S, e, a, hf, hj, he⟩ := joF_draw hN hl hs k (by omega)
    have hx := hs _ (getD_mem (l := L) (i := k) (by omega))
    have i1 := (joF_inv hf).1
    dsimp only at i1
    generalize hxe : L.getD k default = x at hx
    have hxo := lkOk_sm hN hx
    have hmg := fun y (hy : y ∈ S) => jn_merge (by omega : (k : Int) ≤ 6) (hj y hy) hx
    obtain ⟨t, e', hr, hc⟩ := adR_tot i1 hxo fun y hy _ _ => (hmg y hy).1
    obtain ⟨g1, g2, g3⟩ := ad_good i1 hxo
    rw [hr] at g1 g2 g3
    have g1 : adV S x = t := g1
    have g2 : adE S x = e' := g2
    have g3 : adOk S x = true := g3
    have hE := Eb_lt (k + 1) (by omega)
    refine ⟨t, addR e e', ?_⟩
    have hb : ∃ b, Rv e' b (10 ^ 26) := by
      rcases hc with ⟨_, rfl⟩ | ⟨y, hy, _, _, _, rfl⟩
      · exact ⟨((0 : Int) : Rat), rv_int (by decide) (by decide)⟩
      · exact (hmg y hy).2.2
    obtain ⟨b, hb⟩ := hb
    refine ⟨a + b, by simp only [joF, hf, hxe, g3, if_true, g1, g2], fun y hy => ?_, he.add hb hE⟩
    have ec : ((k + 1 : Nat) : Int) = (k : Int) + 1 := by omega
    rw [ec]
    rcases hc with ⟨h, _⟩ | ⟨z, hz, _, _, h, _⟩
    · rcases h y hy with h | rfl
      · exact (hj y h).mono (by omega)
      · exact (Jn.of hx).mono (by omega)
    · rcases h y hy with h | rfl
      · exact (hj y h).mono (by omega)
      · exact (hmg z hz).2.1
theorem joOk_draw {N : Int} {L : List Lk} (hN : N ≤ 9) (hl : L.length ≤ 7) (hs : ∀ l ∈ L, SmN N l) : joOk L = true := by
  obtain ⟨S, e, a, hf, _, he⟩ := joF_draw hN hl hs L.length (Nat.le_refl _)
  unfold joOk joG
  rw [hf]
  dsimp only
  rw [if_pos he.ok]; rfl
theorem join_plain {n : Nat} {L : List Lk} (h : DrawL n L) : joOk L = true ∧ joOk L.reverse = true ∧ joV L = joV L.reverse ∧ joE L = joE L.reverse := by
  have h1 := h.rn
  have h2 := h.len
  have o1 := joOk_draw (N := (n : Int) + 1) (by omega) (by omega) h.sm
  have o2 := joOk_draw (N := (n : Int) + 1) (L := L.reverse) (by omega) (by simp; omega) fun l hl => h.sm l (List.mem_reverse.1 hl)
  exact ⟨o1, o2, jo_rev o1 o2⟩
end Go.Ml
end
section
set_option linter.unusedSimpArgs false
set_option linter.unusedVariables false
set_option maxRecDepth 100000
set_option maxHeartbeats 4000000
namespace Go.Ml
abbrev nbA (s : List Lk) (x : Int) : List Int := nbI s x s.length
inductive Rch (s : List Lk) (v : Int) : Int → Prop
  | base : Rch s v v
  | step {a b : Int} : Rch s v a → b ∈ nbA s a → Rch s v b
theorem nbA_mem {s : List Lk} {x b : Int} : b ∈ nbA s x ↔ ∃ l ∈ s, nbOf x l = some b := by
  unfold nbA nbI
  rw [List.take_length, List.mem_filterMap]
theorem nbA_bd {s : List Lk} (h : lksOk s = true) {x b : Int} (hb : b ∈ nbA s x) : 0 ≤ b ∧ b < 10 ∧ 0 ≤ x ∧ x < 10 := by
  obtain ⟨l, hl, e⟩ := nbA_mem.1 hb
  have := lkOk_nd (lksOk_mem h hl)
  unfold nbOf at e
  split at e
  · cases e; omega
  · split at e
    · cases e; omega
    · cases e
theorem rch_bd {s : List Lk} (h : lksOk s = true) {v b : Int} (hr : Rch s v b) : b = v ∨ (0 ≤ b ∧ b < 10 ∧ 0 ≤ v ∧ v < 10) := by
  induction hr with
  | base => exact .inl rfl
  | step ha hb ih =>
    have := nbA_bd h hb
    rcases ih with rfl | ih
    · exact .inr ⟨this.1, this.2.1, this.2.2⟩
    · exact .inr ⟨this.1, this.2.1, ih.2.2⟩
theorem rch_len {s : List Lk} (h : lksOk s = true) {v : Int} {l : List Int} (hn : l.Nodup) (hl : ∀ a ∈ l, Rch s v a) : l.length ≤ 10 := by
  by_cases hv : 0 ≤ v ∧ v < 10
  · have := nodup_le (a := l) (b := [0, 1, 2, 3, 4, 5, 6, 7, 8, 9]) hn fun a ha => by
      have hb : 0 ≤ a ∧ a < 10 := by
        rcases rch_bd h (hl a ha) with rfl | k
        · exact hv
        · exact ⟨k.1, k.2.1⟩
      simp only [List.mem_cons, List.not_mem_nil, or_false]
      omega
    simpa using this
  · have := nodup_le (a := l) (b := [v]) hn fun a ha => by
      rcases rch_bd h (hl a ha) with rfl | k
      · simp
      · exact absurd k.2.2 hv
    simp at this
    omega
def cpRow (s : List Lk) (out : List Int) (x : Int) : List Int := (nbA s x).foldl putI out
def cpRound (s : List Lk) (out : List Int) : List Int := out.foldl (cpRow s) out
def cpS (s : List Lk) (v : Int) : Nat → List Int
  | 0 => [v]
  | n + 1 => cpRound s (cpS s v n)
theorem putF_mem : ∀ (l out : List Int) (a : Int), a ∈ l.foldl putI out ↔ a ∈ out ∨ a ∈ l
  | [], out, a => by simp
  | x :: l, out, a => by
    rw [List.foldl_cons, putF_mem l, putI_mem, List.mem_cons]
    constructor
    · rintro ((h | h) | h)
      · exact .inr (.inl h)
      · exact .inl h
      · exact .inr (.inr h)
    · rintro (h | h | h)
      · exact .inl (.inr h)
      · exact .inl (.inl h)
      · exact .inr h
theorem putF_asc : ∀ (l out : List Int), Asc out → Asc (l.foldl putI out)
  | [], out, h => h
  | x :: l, out, h => putF_asc l _ (putI_asc h)
theorem cpF_mem {s : List Lk} : ∀ (l out : List Int) (a : Int), a ∈ l.foldl (cpRow s) out ↔ a ∈ out ∨ ∃ x ∈ l, a ∈ nbA s x
  | [], out, a => by simp
  | x :: l, out, a => by
    rw [List.foldl_cons, cpF_mem l]
    unfold cpRow
    rw [putF_mem, or_assoc]
    simp only [List.mem_cons, exists_eq_or_imp]
theorem cpF_asc {s : List Lk} : ∀ (l out : List Int), Asc out → Asc (l.foldl (cpRow s) out)
  | [], out, h => h
  | x :: l, out, h => cpF_asc l _ (putF_asc _ _ h)
theorem cpS_asc (s : List Lk) (v : Int) : ∀ n, Asc (cpS s v n)
  | 0 => by unfold Asc cpS; simp
  | n + 1 => cpF_asc _ _ (cpS_asc s v n)
theorem cpS_rch (s : List Lk) (v : Int) : ∀ n, ∀ a ∈ cpS s v n, Rch s v a
  | 0, a, h => by simp [cpS] at h; subst h; exact .base
  | n + 1, a, h => by
    rcases (cpF_mem _ _ _).1 h with h | ⟨x, hx, h⟩
    · exact cpS_rch s v n a h
    · exact .step (cpS_rch s v n x hx) h
theorem cpS_base (s : List Lk) (v : Int) : ∀ n, v ∈ cpS s v n
  | 0 => by simp [cpS]
  | n + 1 => (cpF_mem _ _ _).2 (.inl (cpS_base s v n))
theorem cpS_len {s : List Lk} (h : lksOk s = true) (v : Int) (n : Nat) : (cpS s v n).length ≤ 10 := rch_len h (asc_nodup (cpS_asc s v n)) (cpS_rch s v n)
def Closed (s : List Lk) (l : List Int) : Prop := ∀ a ∈ l, ∀ b ∈ nbA s a, b ∈ l
theorem cpS_grow {s : List Lk} (v : Int) : ∀ n, Closed s (cpS s v n) ∨ n + 1 ≤ (cpS s v n).length
  | 0 => .inr (by simp [cpS])
  | n + 1 => by
    have hsub : ∀ a ∈ cpS s v n, a ∈ cpS s v (n + 1) := fun a ha => (cpF_mem _ _ _).2 (.inl ha)
    rcases Classical.em (Closed s (cpS s v n)) with hc | hc
    · left
      intro a ha b hb
      have ha' : a ∈ cpS s v n := by
        rcases (cpF_mem _ _ _).1 ha with h | ⟨x, hx, h⟩
        · exact h
        · exact hc x hx a h
      exact hsub b (hc a ha' b hb)
    · right
      have hl := (cpS_grow v n).resolve_left hc
      have : ∃ a ∈ cpS s v n, ∃ b ∈ nbA s a, b ∉ cpS s v n := by
        refine Classical.byContradiction fun hne => hc fun a ha b hb => Classical.byContradiction fun hnb => hne ⟨a, ha, b, hb, hnb⟩
      obtain ⟨a, ha, b, hb, hnb⟩ := this
      have := nodup_le (a := b :: cpS s v n) (b := cpS s v (n + 1)) (List.nodup_cons.2 ⟨hnb, asc_nodup (cpS_asc s v n)⟩) fun x hx => by
        rcases List.mem_cons.1 hx with rfl | hx
        · exact (cpF_mem _ _ _).2 (.inr ⟨a, ha, hb⟩)
        · exact hsub x hx
      simp only [List.length_cons] at this
      omega
theorem cpS_closed {s : List Lk} (h : lksOk s = true) (v : Int) : Closed s (cpS s v 10) := by
  rcases cpS_grow (s := s) v 10 with hc | hc
  · exact hc
  · have := cpS_len h v 10; omega
def cpV (s : List Lk) (v : Int) : List Int := cpS s v 10
theorem cpV_mem {s : List Lk} (h : lksOk s = true) {v a : Int} : a ∈ cpV s v ↔ Rch s v a := by
  constructor
  · exact cpS_rch s v 10 a
  · intro hr
    induction hr with
    | base => exact cpS_base s v 10
    | step _ hb ih => exact cpS_closed h v _ ih _ hb
def cpM (s : List Lk) (v : Int) : List Int := if lksOk s = true then cpV s v else []
theorem cpM_t {s : List Lk} {v : Int} (h : lksOk s = true) : cpM s v = cpV s v := if_pos h
theorem cpM_f {s : List Lk} {v : Int} (h : lksOk s = false) : cpM s v = [] := if_neg (by rw [h]; simp)
theorem cpM_len (s : List Lk) (v : Int) : (cpM s v).length ≤ 10 := by
  unfold cpM
  split
  · rename_i h; exact cpS_len h v 10
  · simp
theorem sortI_asc {l : List Int} (hn : l.Nodup) : Asc (sortI l) := by
  have h1 : (sortI l).Pairwise fun a b => (decide (a ≤ b)) = true := by
    unfold sortI
    exact List.pairwise_mergeSort (fun a b c h1 h2 => by simp at *; omega) (fun a b => by simp; omega) l
  have h2 : (sortI l).Nodup := (List.mergeSort_perm l _).nodup_iff.2 hn
  unfold Asc
  refine (h1.and h2).imp fun ⟨h, hne⟩ => ?_
  have : _ ≤ _ := of_decide_eq_true h
  omega
theorem sortI_mem {l : List Int} {a : Int} : a ∈ sortI l ↔ a ∈ l := (List.mergeSort_perm l _).mem_iff
theorem sortI_len (l : List Int) : (sortI l).length = l.length := List.length_mergeSort _
theorem sort_cp {s : List Lk} (h : lksOk s = true) {v : Int} {l : List Int} (hn : l.Nodup) (hv : v ∈ l) (hr : ∀ a ∈ l, Rch s v a) (hc : Closed s l) : sortI l = cpV s v := by
  refine asc_ext (sortI_asc hn) (cpS_asc s v 10) fun a => ?_
  rw [sortI_mem, cpV_mem h]
  constructor
  · exact hr a
  · intro hra
    induction hra with
    | base => exact hv
    | step _ hb ih => exact hc _ ih _ hb
def addN (l : List Int) (u : Int) : List Int := if u ∈ l then l else l ++ [u]
def addF (l : List Int) (us : List Int) (j : Nat) : List Int := (us.take j).foldl addN l
theorem addF_0 (l us : List Int) : addF l us 0 = l := by simp [addF]
theorem addF_s (l us : List Int) {j : Nat} (h : j < us.length) : addF l us (j + 1) = addN (addF l us j) (us.getD j 0) := by
  unfold addF
  rw [List.take_add_one, List.getElem?_eq_getElem h, List.getD_eq_getElem?_getD, List.getElem?_eq_getElem h]
  simp only [Option.toList, Option.getD, List.foldl_append, List.foldl_cons, List.foldl_nil]
theorem addN_mem {l : List Int} {u a : Int} : a ∈ addN l u ↔ a ∈ l ∨ a = u := by
  unfold addN
  split
  · rename_i h
    constructor
    · exact .inl
    · rintro (k | rfl)
      · exact k
      · exact h
  · simp
theorem addN_nd {l : List Int} {u : Int} (h : l.Nodup) : (addN l u).Nodup := by
  unfold addN
  split
  · exact h
  · rename_i hu
    rw [List.nodup_append]
    exact ⟨h, by simp, fun a ha b hb e => by simp at hb; subst hb; exact hu (e ▸ ha)⟩
theorem addG_mem : ∀ (us l : List Int) (a : Int), a ∈ us.foldl addN l ↔ a ∈ l ∨ a ∈ us
  | [], l, a => by simp
  | u :: us, l, a => by
    rw [List.foldl_cons, addG_mem us, addN_mem, List.mem_cons, or_assoc]
theorem addG_nd : ∀ (us l : List Int), l.Nodup → (us.foldl addN l).Nodup
  | [], l, h => h
  | u :: us, l, h => addG_nd us _ (addN_nd h)
theorem addG_pre : ∀ (us l : List Int), ∃ r, us.foldl addN l = l ++ r
  | [], l => ⟨[], by simp⟩
  | u :: us, l => by
    obtain ⟨r, e⟩ := addG_pre us (addN l u)
    rw [List.foldl_cons, e]
    unfold addN
    split
    · exact ⟨r, rfl⟩
    · exact ⟨u :: r, by simp⟩
structure Bfs (s : List Lk) (v : Int) (i : Nat) (l : List Int) : Prop where
  nd : l.Nodup
  mem : v ∈ l
  rch : ∀ a ∈ l, Rch s v a
  le : i ≤ l.length
  cl : ∀ j, j < i → ∀ b ∈ nbA s (l.getD j 0), b ∈ l
theorem Bfs.start (s : List Lk) (v : Int) : Bfs s v 0 [v] := ⟨by simp, by simp, fun a h => by simp at h; subst h; exact .base, by simp, fun j h => absurd h (Nat.not_lt_zero _)⟩
theorem Bfs.next {s : List Lk} {v : Int} {i : Nat} {l : List Int} (h : Bfs s v i l) (hi : i < l.length) : Bfs s v (i + 1) ((nbA s (l.getD i 0)).foldl addN l) := by
  obtain ⟨r, e⟩ := addG_pre (nbA s (l.getD i 0)) l
  have hm := addG_mem (nbA s (l.getD i 0)) l
  have hli : l.getD i 0 ∈ l := by rw [List.getD_eq_getElem?_getD, List.getElem?_eq_getElem hi]; exact List.getElem_mem hi
  refine ⟨addG_nd _ _ h.nd, (hm v).2 (.inl h.mem), fun a ha => ?_, by rw [e, List.length_append]; omega, fun j hj b hb => ?_⟩
  · rcases (hm a).1 ha with ha | ha
    · exact h.rch a ha
    · exact .step (h.rch _ hli) ha
  · have hjl : j < l.length := by omega
    have ej : ((nbA s (l.getD i 0)).foldl addN l).getD j 0 = l.getD j 0 := by
      rw [e, List.getD_eq_getElem?_getD, List.getD_eq_getElem?_getD, List.getElem?_append_left hjl]
    rw [ej] at hb
    by_cases hji : j = i
    · subst hji; exact (hm b).2 (.inr hb)
    · exact (hm b).2 (.inl (h.cl j (by omega) b hb))
theorem Bfs.len {s : List Lk} (hk : lksOk s = true) {v : Int} {i : Nat} {l : List Int} (h : Bfs s v i l) : l.length ≤ 10 := rch_len hk h.nd h.rch
theorem Bfs.fin {s : List Lk} (hk : lksOk s = true) {v : Int} {l : List Int} (h : Bfs s v l.length l) : sortI l = cpV s v :=
  sort_cp hk h.nd h.mem h.rch fun a ha b hb => by
    obtain ⟨j, hj⟩ := List.mem_iff_getElem?.1 ha
    have hjl := (List.getElem?_eq_some_iff.1 hj).1
    exact h.cl j hjl b (by rw [List.getD_eq_getElem?_getD, hj]; exact hb)
end Go.Ml
end
section
set_option linter.unusedSimpArgs false
set_option linter.unusedVariables false
set_option maxRecDepth 100000
set_option maxHeartbeats 4000000
namespace Go.Ml
def F_sort_Ints : Fn := ⟨1, 1, [], .lib .sortInts⟩
structure D_sort_Ints (T : Nat → Option Fn) : Prop where
  hT : T 403 = some F_sort_Ints
def F_impl_componentOf : Fn := ⟨2, 40, [.tmp 4], (.seq (.reg false 0 [oN 4 (.mov (.c (.nils)))]) (.seq (.reg false 1 [oK 9 1 (oV 1), oN 10 (.mkSl 1 [.int .i64 0] 1 [(0, (.t 9))]), oK 5 1 (oV 10)]) (.seq (.seq (.reg false 0 [oN 6 (.mov (cI 0))]) (.block 0 (.loop (.seq (.seq (.reg false 0 [oN 11 (oV 6), oN 12 (oV 5), oN 13 (.len (.t 12)), oN 14 (.bin .lss (.t 11) (.t 13))]) (.cond (.t 14) .skip (.exit 0))) (.seq (.block 1 (.seq (.reg false 0 [oN 17 (oV 0), oN 18 (oV 5), oN 19 (oV 6), oN 20 (.idx 1 (.t 18) (.t 19)), oN 21 (.load 1 false (.t 20)), oN 22 (.call 239 [(.t 17), (.t 21)]), oN 23 (.len (.t 22)), oN 24 (.mov (cI 0))]) (.block 2 (.loop (.seq (.reg false 0 [oN 25 (.bin .lss (.t 24) (.t 23))]) (.seq (.cond (.t 25) .skip (.exit 2)) (.seq (.block 3 (.seq (.reg false 0 [oN 26 (.idx 1 (.t 22) (.t 24)), oN 27 (.load 1 false (.t 26)), oN 8 (oV 27)]) (.seq (.reg false 0 [oN 28 (oV 5), oN 29 (oV 8), oN 30 (.call 236 [(.t 28), (.t 29)]), oN 31 (.un .not (.t 30))]) (.cond (.t 31) (.reg false 2 [oK 32 2 (oV 5), oK 33 2 (oV 8), oN 34 (.mkSl 1 [.int .i64 0] 1 [(0, (.t 33))]), oK 35 1 (.app 1 8 (.t 32) (.t 34)), oK 5 2 (oV 35)]) .skip)))) (.reg false 0 [oN 36 (.bin .add (.t 24) (cI 1)), oN 24 (oV 36)])))))))) (.reg false 0 [oN 15 (oV 6), oN 16 (.bin .add (.t 15) (cI 1)), oN 6 (oV 16)])))))) (.seq (.reg false 0 [oN 37 (oV 5), oN 38 (.call 403 [(.t 37)])]) (.seq (.reg false 0 [oN 39 (oV 5), oN 4 (oV 39)]) .ret)))))⟩
structure D_impl_componentOf (T : Nat → Option Fn) : Prop where
  hT : T 343 = some F_impl_componentOf
  d_impl_hasInt : D_impl_hasInt T
  d_impl_neighborsOf : D_impl_neighborsOf T
  d_sort_Ints : D_sort_Ints T
def F_impl_ComponentOf : Fn := ⟨2, 11, [.tmp 4], (.seq (.reg false 0 [oN 4 (.mov (.c (.nils)))]) (.seq (.seq (.reg false 0 [oN 5 (oV 0), oN 6 (.call 89 [(.t 5)]), oN 7 (.un .not (.t 6))]) (.cond (.t 7) (.seq (.reg false 0 [oN 4 (.mov (.c (.nils)))]) .ret) .skip)) (.seq (.reg false 0 [oN 8 (oV 0), oN 9 (oV 1), oN 10 (.call 343 [(.t 8), (.t 9)]), oN 4 (oV 10)]) .ret)))⟩
structure D_impl_ComponentOf (T : Nat → Option Fn) : Prop where
  hT : T 341 = some F_impl_ComponentOf
  d_impl_IsLinkSet : D_impl_IsLinkSet T
  d_impl_componentOf : D_impl_componentOf T
def F_impl_IsGrounded : Fn := ⟨1, 30, [.tmp 2], (.seq (.reg false 0 [oN 2 (.mov (.c (.bool false)))]) (.seq (.seq (.reg false 0 [oN 6 (oV 0), oN 7 (.call 89 [(.t 6)]), oN 8 (.un .not (.t 7))]) (.cond (.t 8) (.seq (.reg false 0 [oN 2 (.mov (.c (.bool false)))]) .ret) .skip)) (.seq (.reg false 0 [oN 9 (oV 0), oN 10 (.call 343 [(.t 9), (cI 0)]), oN 3 (oV 10)]) (.seq (.seq (.reg false 0 [oN 11 (oV 0), oN 12 (.len (.t 11)), oN 13 (.mov (cI 0))]) (.block 0 (.loop (.seq (.reg false 0 [oN 14 (.bin .lss (.t 13) (.t 12))]) (.seq (.cond (.t 14) .skip (.exit 0)) (.seq (.block 1 (.seq (.reg false 1 [oK 15 1 (.idx 11 (.t 11) (.t 13)), oK 16 1 (.load 11 true (.t 15)), oN 5 (.alloc [.int .i64 0, .int .i64 0, .bool false, .nils, .nils, .bool false, .nils, .nils, .bool false, .nils, .nils]), ⟨none, none, 1, .store 11 (.t 5) (.t 16), []⟩]) (.seq (.reg false 0 [oN 17 (oV 3), oN 18 (.fld 0 (.t 5)), oN 19 (.load 1 false (.t 18)), oN 20 (.call 236 [(.t 17), (.t 19)]), oN 21 (.un .not (.t 20)), oN 22 (oV 21), oG 22 false 23 (oV 3), oG 22 false 24 (.fld 1 (.t 5)), oG 22 false 25 (.load 1 false (.t 24)), oG 22 false 26 (.call 236 [(.t 23), (.t 25)]), oG 22 false 27 (.un .not (.t 26)), oN 28 (.pick (.t 22) (.c (.bool true)) (.t 27))]) (.cond (.t 28) (.seq (.reg false 0 [oN 2 (.mov (.c (.bool false)))]) .ret) .skip)))) (.reg false 0 [oN 29 (.bin .add (.t 13) (cI 1)), oN 13 (oV 29)]))))))) (.seq (.reg false 0 [oN 2 (.mov (.c (.bool true)))]) .ret)))))⟩
structure D_impl_IsGrounded (T : Nat → Option Fn) : Prop where
  hT : T 339 = some F_impl_IsGrounded
  d_impl_IsLinkSet : D_impl_IsLinkSet T
  d_impl_hasInt : D_impl_hasInt T
  d_impl_componentOf : D_impl_componentOf T
theorem RefK_sort {T : Nat → Option Fn} {f : Nat} {F : Fn} {as : List Src} {dst : Option Nat} {env : Nat → V} {xs : List Int} {kp bs : Nat} {rs ms : List Nat} {k : St → Prop} (hT : T f = some F) (hb : F.body = .lib .sortInts)
    (ha : as.map (fun s => s.ev env) = [.msl 0 0 xs.length]) (h0 : 0 < xs.length) (hl : xs.length ≤ 1099511627776) (hk : k ⟨updO env dst (.tup []), [some ⟨1, irows (sortI xs)⟩], kp, bs, rs, ms⟩) :
    RefK T f as dst ⟨env, [some ⟨1, irows xs⟩], kp, bs, rs, ms⟩ k := by
  have hg : gcS [0] [some ⟨1, irows xs⟩] = [some ⟨1, irows xs⟩] := by
    show [(objAt [some ⟨1, irows xs⟩] 0).map (mapO (place [0]))] = _
    show [some (mapO (place [0]) ⟨1, irows xs⟩)] = _
    rw [mapO_ints]
  have hr : Run T (.fn f [.msl 0 0 xs.length] (gcS [0] [some ⟨1, irows xs⟩])) (.fn (.tup []) [some ⟨1, irows (sortI xs)⟩]) := by
    rw [hg]
    exact .lib hT hb ⟨0, xs, rfl, h0, hl, rfl, rfl, rfl⟩
  have hm : (as.map fun s => mapV (place [0]) (s.ev env)) = [.msl 0 0 xs.length] := by
    have : (as.map fun s => mapV (place [0]) (s.ev env)) = (as.map fun s => s.ev env).map (mapV (place [0])) := by rw [List.map_map]; rfl
    rw [this, ha]; rfl
  have e1 : putBack [0] [some ⟨1, irows xs⟩] [some ⟨1, irows (sortI xs)⟩] = [some ⟨1, irows (sortI xs)⟩] := by
    show [some (mapO (back [0] 1) ⟨1, irows (sortI xs)⟩)] ++ [] = _
    rw [mapO_ints]; rfl
  refine ⟨_, .ref [0] (by simp) (fun o ho => by simp at ho; subst ho; rfl) (by rw [hm]; exact hr), ?_⟩
  have e2 : mapV (back [0] ([some ⟨1, irows xs⟩] : Store).length) (.tup []) = .tup [] := rfl
  simp only [e1, e2]
  exact hk
theorem po_componentOf {T : Nat → Option Fn} (h : D_impl_componentOf T) {s : List Lk} {v : Int} (hw : wfL Lk.wf s := by first | omega | assumption | (simp; omega)) (hl : s.length ≤ 1048576 := by first | omega | assumption | (simp; omega)) (hb : lksOk s = true := by assumption) : PO T 343 [lksV s, iv v] (ints (cpV s v)) := by
  refine po_end2 (fun x d => x == 403) h.hT rfl rfl ?_
  dsimp only [F_impl_componentOf, oN, oS, oG, oK, oA, oH, oV, cI, St.enter, List.length_cons, List.length_nil, Nat.zero_add]
  (refine ew ?_; try with_reducible exact True.intro)
  refine loop_at (fun x d => x == 403) (α := Nat × List Int) (fun q => ⟨argE [lksV s, .any, .any, .any, .any, .msl 0 0 q.2.length, iv (q.1 : Nat)], [some ⟨1, irows q.2⟩], 0, 0, [], []⟩) (fun q => Bfs s v q.1 q.2) (fun q => 11 - q.1) rfl (0, [v]) ?_ ?_ ?_
  · exact Bfs.start s v
  · (refine Fg_re [(0, _)] (by simp) (by intro p hp; simp only [List.mem_cons, List.not_mem_nil, or_false] at hp; rcases hp with rfl <;> refine ⟨rfl, ?_⟩ <;> first | exact ir_still _ | simp [stillR, V.still]) rfl ?_) <;> (try (refine ew ?_; try with_reducible exact True.intro)) <;> (repeat' (first | exact True.intro | omega | exact CanE_ptr rfl (by simp) | refine ⟨?_, ?_⟩ | exact of_eq_true (CanE_nil _ _ _) | exact CanE_of rfl (by simp; done) | exact CanE_of rfl rfl | (refine CanE_msl rfl ?_ rfl; simp [irows]; done) | (refine CanE_msl rfl ?_ rfl; simp [irows]; omega) | (refine CanE_frz ?_ ?_; (focus ((refine ew ?_; try with_reducible exact True.intro); done)); (intro q hq k s0 l0; simp; done))))
  · rintro ⟨i, xs⟩ hB
    dsimp only at hB
    have hx10 := hB.len hb
    have hile := hB.le
    have hx0 := List.length_pos_of_mem hB.mem
    by_cases hc : (i : Int) < (xs.length : Nat)
    · have hil : i < xs.length := by omega
      have hnx := hB.next hil
      have hrx : (irows xs)[i]? = some [iv (xs.getD i 0)] := by
        unfold irows
        rw [List.getElem?_map, List.getElem?_eq_getElem hil, List.getD_eq_getElem?_getD, List.getElem?_eq_getElem hil]; rfl
      generalize hxe : xs.getD i 0 = x at hnx hrx
      have cn := (po_neighborsOf h.d_impl_neighborsOf (l := s) (v := x) hw hl).frz (dep_ints _ _)
      have hnb := nbI_len s x s.length
      rw [show (nbA s x).foldl addN xs = addF xs (nbI s x s.length) (nbI s x s.length).length by unfold addF nbA; rw [List.take_length]] at hnx
      generalize nbI s x s.length = nb at *
      (refine ew2 @hc @hrx ?_; try with_reducible exact True.intro)
      refine PFK_of cn ?_
      (refine ew ?_; try with_reducible exact True.intro)
      refine loop_at (fun x d => x == 403) (α := Nat × List Int) (fun q => ⟨argE [lksV s, .any, .any, .any, .any, .msl 0 0 q.2.length, iv (i : Nat), .any, .any, .any, .any, .any, .any, .any, .any, .any, .any, .any, .any, .any, .any, .any, ints nb, iv (nb.length : Nat), iv (q.1 : Nat)], [some ⟨1, irows q.2⟩], 0, 0, [], []⟩) (fun q => q.1 ≤ nb.length ∧ q.2 = addF xs nb q.1 ∧ q.2.length ≤ xs.length + q.1 ∧ 0 < q.2.length) (fun q => nb.length - q.1) rfl (0, xs) ?_ ?_ ?_
      · exact ⟨by omega, (addF_0 _ _).symm, by dsimp only; omega, hx0⟩
      · (refine Fg_re [(0, _)] (by simp) (by intro p hp; simp only [List.mem_cons, List.not_mem_nil, or_false] at hp; rcases hp with rfl <;> refine ⟨rfl, ?_⟩ <;> first | exact ir_still _ | simp [stillR, V.still]) rfl ?_) <;> (try (refine ew ?_; try with_reducible exact True.intro)) <;> (repeat' (first | exact True.intro | omega | exact CanE_ptr rfl (by simp) | refine ⟨?_, ?_⟩ | exact of_eq_true (CanE_nil _ _ _) | exact CanE_of rfl (by simp; done) | exact CanE_of rfl rfl | (refine CanE_msl rfl ?_ rfl; simp [irows]; done) | (refine CanE_msl rfl ?_ rfl; simp [irows]; omega) | (refine CanE_frz ?_ ?_; (focus ((refine ew ?_; try with_reducible exact True.intro); done)); (intro q hq k s0 l0; simp; done))))
      · rintro ⟨q, ys⟩ ⟨hq, hy, hyl, hy0⟩
        dsimp only at hq hy hyl hy0
        by_cases hcq : (q : Int) < (nb.length : Nat)
        · have hql : q < nb.length := by omega
          have es := addF_s xs nb hql
          rw [← hy] at es
          unfold addN at es
          generalize hue : nb.getD q 0 = u at es
          have ch := c_hasInt h.d_impl_hasInt (l := ys) (n := u) (by omega)
          by_cases hu : u ∈ ys
          · rw [if_pos hu] at es
            rw [decide_eq_true hu] at ch
            (refine ew2 @hcq @hue ?_; try with_reducible exact True.intro)
            refine PFK_of ch ?_
            (refine ew ?_; try with_reducible exact True.intro)
            exact ⟨(q + 1, ys), by dsimp only; omega, ⟨by dsimp only; omega, es.symm, by dsimp only; omega, hy0⟩, by (refine Fg_re [(0, _)] (by simp) (by intro p hp; simp only [List.mem_cons, List.not_mem_nil, or_false] at hp; rcases hp with rfl <;> refine ⟨rfl, ?_⟩ <;> first | exact ir_still _ | simp [stillR, V.still]) rfl ?_) <;> (try (refine ew ?_; try with_reducible exact True.intro)) <;> (repeat' (first | exact True.intro | omega | exact CanE_ptr rfl (by simp) | refine ⟨?_, ?_⟩ | exact of_eq_true (CanE_nil _ _ _) | exact CanE_of rfl (by simp; done) | exact CanE_of rfl rfl | (refine CanE_msl rfl ?_ rfl; simp [irows]; done) | (refine CanE_msl rfl ?_ rfl; simp [irows]; omega) | (refine CanE_frz ?_ ?_; (focus ((refine ew ?_; try with_reducible exact True.intro); done)); (intro q hq k s0 l0; simp; done))))⟩
          · rw [if_neg hu] at es
            rw [decide_eq_false hu] at ch
            (refine ew2 @hcq @hue ?_; try with_reducible exact True.intro)
            refine PFK_of ch ?_
            rcases ys with _ | ⟨y, ys⟩
            · simp at hy0
            simp only [List.length_cons] at hyl hy0 ⊢
            (refine ew ?_; try with_reducible exact True.intro)
            refine ⟨by omega, (q + 1, (y :: ys) ++ [u]), by dsimp only; omega, ⟨by dsimp only; omega, es.symm, by dsimp only; simp; omega, by simp⟩, ?_⟩
            simp only [irows_snoc]
            rw [show ys.length + 1 + 1 = (y :: ys ++ [u]).length by simp]
            (refine Fg_re [(2, _)] (by simp) (by intro p hp; simp only [List.mem_cons, List.not_mem_nil, or_false] at hp; rcases hp with rfl <;> refine ⟨rfl, ?_⟩ <;> first | exact ir_still _ | simp [stillR, V.still]) rfl ?_) <;> (try (refine ew ?_; try with_reducible exact True.intro)) <;> (repeat' (first | exact True.intro | omega | exact CanE_ptr rfl (by simp) | refine ⟨?_, ?_⟩ | exact of_eq_true (CanE_nil _ _ _) | exact CanE_of rfl (by simp; done) | exact CanE_of rfl rfl | (refine CanE_msl rfl ?_ rfl; simp [irows]; done) | (refine CanE_msl rfl ?_ rfl; simp [irows]; omega) | (refine CanE_frz ?_ ?_; (focus ((refine ew ?_; try with_reducible exact True.intro); done)); (intro q hq k s0 l0; simp; done))))
        · have hqe : q = nb.length := by omega
          subst hqe
          rw [← hy] at hnx
          (refine ew1 @hcq ?_; try with_reducible exact True.intro)
          exact ⟨(i + 1, ys), by dsimp only; omega, hnx, by (refine Fg_re [(0, _)] (by simp) (by intro p hp; simp only [List.mem_cons, List.not_mem_nil, or_false] at hp; rcases hp with rfl <;> refine ⟨rfl, ?_⟩ <;> first | exact ir_still _ | simp [stillR, V.still]) rfl ?_) <;> (try (refine ew ?_; try with_reducible exact True.intro)) <;> (repeat' (first | exact True.intro | omega | exact CanE_ptr rfl (by simp) | refine ⟨?_, ?_⟩ | exact of_eq_true (CanE_nil _ _ _) | exact CanE_of rfl (by simp; done) | exact CanE_of rfl rfl | (refine CanE_msl rfl ?_ rfl; simp [irows]; done) | (refine CanE_msl rfl ?_ rfl; simp [irows]; omega) | (refine CanE_frz ?_ ?_; (focus ((refine ew ?_; try with_reducible exact True.intro); done)); (intro q hq k s0 l0; simp; done))))⟩
    · have hie : i = xs.length := by omega
      rw [hie] at hB
      have hfin := hB.fin hb
      (refine ew1 @hc ?_; try with_reducible exact True.intro)
      refine RefK_sort h.d_sort_Ints.hT rfl rfl hx0 (by omega) ?_
      (refine ew ?_; try with_reducible exact True.intro)
      rw [← hfin, ← sortI_len xs]
      exact fin_ints (o := 0) (l := sortI xs) rfl
end Go.Ml
end
section
set_option linter.unusedSimpArgs false
set_option linter.unusedVariables false
set_option maxRecDepth 100000
set_option maxHeartbeats 4000000
namespace Go.Ml
theorem po_iComponentOf {T : Nat → Option Fn} (h : D_impl_ComponentOf T) {s : List Lk} {v : Int} (hw : wfL Lk.wf s := by first | omega | assumption | (simp; omega)) (hl : s.length ≤ 1048576 := by first | omega | assumption | (simp; omega)) : PO T 341 [lksV s, iv v] (ints (cpM s v)) := by
  have ci := c_iIsLinkSet h.d_impl_IsLinkSet hw
  cases hb : lksOk s
  · rw [hb] at ci
    rw [cpM_f hb]
    refine po_end2 (fun x d => x == 343) h.hT rfl rfl ?_
    dsimp only [F_impl_ComponentOf, oN, oS, oG, oK, oA, oH, oV, cI, St.enter, List.length_cons, List.length_nil, Nat.zero_add]
    (refine ew ?_; try with_reducible exact True.intro)
    refine PFK_of ci ?_
    (refine ew ?_; try with_reducible exact True.intro)
    exact fin_nil
  · rw [hb] at ci
    rw [cpM_t hb]
    have cn := po_componentOf h.d_impl_componentOf (v := v) hw hl hb
    refine po_end2 (fun x d => x == 343) h.hT rfl rfl ?_
    dsimp only [F_impl_ComponentOf, oN, oS, oG, oK, oA, oH, oV, cI, St.enter, List.length_cons, List.length_nil, Nat.zero_add]
    (refine ew ?_; try with_reducible exact True.intro)
    refine PFK_of ci ?_
    (refine ew ?_; try with_reducible exact True.intro)
    refine RefK_got cn (by (refine ew ?_; try with_reducible exact True.intro)) ?_
    intro r σ2 os g
    (refine ew ?_; try with_reducible exact True.intro)
    exact fin_got g
def grL (c : List Int) (x : Lk) : Bool := decide (x.a ∈ c) && decide (x.b ∈ c)
def grOk (s : List Lk) : Bool := lksOk s && s.all (grL (cpV s 0))
theorem c_iIsGrounded {T : Nat → Option Fn} (h : D_impl_IsGrounded T) {s : List Lk} (hw : wfL Lk.wf s := by first | omega | assumption | (simp; omega)) (hl : s.length ≤ 1048576 := by first | omega | assumption | (simp; omega)) : PF T 339 [lksV s] (.bool (grOk s)) := by
  have ci := c_iIsLinkSet h.d_impl_IsLinkSet hw
  unfold grOk
  cases hb : lksOk s
  · rw [hb] at ci
    refine pf_end (fun _ _ => false) h.hT rfl rfl ?_
    dsimp only [F_impl_IsGrounded, oN, oS, oG, oK, oA, oH, oV, cI]
    (refine ev ?_; try with_reducible exact True.intro)
    refine PFK_of ci ?_
    (refine ev ?_; try with_reducible exact True.intro)
  · rw [hb] at ci
    rw [Bool.true_and]
    have cn := (po_componentOf h.d_impl_componentOf (v := 0) hw hl hb).frz (dep_ints _ _)
    have hcl : (cpV s 0).length ≤ 10 := cpS_len hb 0 10
    generalize cpV s 0 = c at *
    refine pf_end (fun _ _ => false) h.hT rfl rfl ?_
    dsimp only [F_impl_IsGrounded, oN, oS, oG, oK, oA, oH, oV, cI]
    (refine ev ?_; try with_reducible exact True.intro)
    refine PFK_of ci ?_
    (refine ev ?_; try with_reducible exact True.intro)
    refine PFK_of cn ?_
    (refine ev ?_; try with_reducible exact True.intro)
    refine loop_at (fun _ _ => false) (α := Nat) (fun i => ⟨argE [lksV s, .any, .any, ints c, .any, .any, .any, .any, .any, .any, .any, lksV s, iv (s.length : Nat), iv (i : Nat)], [], 0, 0, [], []⟩) (fun i => i ≤ s.length ∧ ∀ k, k < i → grL c (s.getD k default) = true) (fun i => s.length - i) rfl 0 ?_ ?_ ?_
    · exact ⟨by omega, by intro k hk; omega⟩
    · (refine Fg_env ?_) <;> (try (refine ev ?_; try with_reducible exact True.intro)) <;> (repeat' (first | refine ⟨?_, ?_⟩ | exact EvV_int (by omega) | exact EvV_of (by simp) | exact EvV_nil _))
    · rintro i ⟨hi, hg⟩
      by_cases hc : (i : Int) < (s.length : Nat)
      · have hil : i < s.length := by omega
        have hmx : (s.map Lk.cells).getD i [] = (s.getD i default).cells := mg hil
        have hmem := getD_mem (l := s) hil
        have hgs : grL c (s.getD i default) = true → ∀ k, k < i + 1 → grL c (s.getD k default) = true := fun h k hk => by
          by_cases e : k = i
          · subst e; exact h
          · exact hg k (by omega)
        generalize s.getD i default = x at hmx hmem hgs
        have bad : grL c x = false → s.all (grL c) = false := fun h => List.all_eq_false.2 ⟨x, hmem, by rw [h]; simp⟩
        have c1 := c_hasInt h.d_impl_hasInt (l := c) (n := x.a) (by omega)
        have c2 := c_hasInt h.d_impl_hasInt (l := c) (n := x.b) (by omega)
        by_cases ha : x.a ∈ c
        · rw [decide_eq_true ha] at c1
          by_cases hb2 : x.b ∈ c
          · rw [decide_eq_true hb2] at c2
            have hgs := hgs (by unfold grL; rw [decide_eq_true ha, decide_eq_true hb2]; rfl)
            (refine ev2 @hc @hmx ?_; try with_reducible exact True.intro)
            refine PFK_of c1 ?_
            (refine ev ?_; try with_reducible exact True.intro)
            refine PFK_of c2 ?_
            (refine ev ?_; try with_reducible exact True.intro)
            exact ⟨i + 1, by omega, ⟨by omega, hgs⟩, by (refine Fg_re [] (by simp) (by intro p hp; cases hp) rfl ?_) <;> (try (refine ev ?_; try with_reducible exact True.intro)) <;> (repeat' (first | exact True.intro | omega | exact CanE_ptr rfl (by simp) | refine ⟨?_, ?_⟩ | exact of_eq_true (CanE_nil _ _ _) | exact CanE_of rfl (by simp; done) | exact CanE_of rfl rfl | (refine CanE_msl rfl ?_ rfl; simp [irows]; done) | (refine CanE_msl rfl ?_ rfl; simp [irows]; omega) | (refine CanE_frz ?_ ?_; (focus ((refine ev ?_; try with_reducible exact True.intro); done)); (intro q hq k s0 l0; simp; done))))⟩
          · rw [decide_eq_false hb2] at c2
            rw [bad (by unfold grL; rw [decide_eq_false hb2, Bool.and_false])]
            (refine ev2 @hc @hmx ?_; try with_reducible exact True.intro)
            refine PFK_of c1 ?_
            (refine ev ?_; try with_reducible exact True.intro)
            refine PFK_of c2 ?_
            (refine ev ?_; try with_reducible exact True.intro)
        · rw [decide_eq_false ha] at c1
          rw [bad (by unfold grL; rw [decide_eq_false ha, Bool.false_and])]
          (refine ev2 @hc @hmx ?_; try with_reducible exact True.intro)
          refine PFK_of c1 ?_
          (refine ev ?_; try with_reducible exact True.intro)
      · have hie : i = s.length := by omega
        have hA : s.all (grL c) = true := List.all_eq_true.2 fun x hx => by
          obtain ⟨k, hk⟩ := List.mem_iff_getElem?.1 hx
          have := hg k (by have := (List.getElem?_eq_some_iff.1 hk).1; omega)
          rw [List.getD_eq_getElem?_getD, hk] at this
          exact this
        rw [hA]
        (refine ev1 @hc ?_; try with_reducible exact True.intro)
end Go.Ml
end
section
set_option linter.unusedSimpArgs false
set_option linter.unusedVariables false
set_option maxRecDepth 100000
set_option maxHeartbeats 8000000
namespace Go.Ml
def F_spec_MakeSet : Fn := ⟨1, 14, [.tmp 2], (.seq (.reg false 0 [oN 2 (.mov (.c (.nils)))]) (.seq (.reg false 1 [oK 7 1 (oV 0), oK 8 1 (.call 87 [(.t 7)]), oK 9 1 (.call 179 [(.t 8)]), oK 6 1 (oV 9), oK 10 1 (.extr 0 (.t 6)), oK 11 1 (.extr 1 (.t 6)), oK 12 1 (.extr 2 (.t 6)), oN 4 (.alloc [.bool false, .nils, .nils]), oK 3 1 (oV 10), ⟨none, none, 1, .store 3 (.t 4) (.t 11), []⟩, oK 5 1 (oV 12)]) (.seq (.reg false 0 [oN 13 (oV 3), oN 2 (oV 13)]) .ret)))⟩
structure D_spec_MakeSet (T : Nat → Option Fn) : Prop where
  hT : T 171 = some F_spec_MakeSet
  d_spec_MakeLinks : D_spec_MakeLinks T
  d_spec_JoinLinks : D_spec_JoinLinks T
theorem mom_nn {i j : Int} : ∀ {L : List Lk}, (∀ x ∈ L, lkOk x = true) → 0 ≤ mom mW i j L ∧ ((∃ x ∈ L, x.a = i ∧ x.b = j) → 0 < mom mW i j L)
  | [], _ => ⟨by simp [mom], fun ⟨x, hx, _⟩ => by cases hx⟩
  | y :: L, h => by
    have ih := mom_nn (i := i) (j := j) (L := L) fun x hx => h x (by simp [hx])
    have hy : 0 < mW y := lkOk_pos (h y (by simp))
    simp only [mom]
    by_cases e : y.a = i ∧ y.b = j
    · rw [if_pos e]
      have h1 := ih.1
      have : 0 < mW y + mom mW i j L := by grind
      exact ⟨by grind, fun _ => this⟩
    · rw [if_neg e, Rat.zero_add]
      refine ⟨ih.1, fun ⟨x, hx, hh⟩ => ih.2 ⟨x, ?_, hh⟩⟩
      rcases List.mem_cons.1 hx with rfl | hx
      · exact absurd hh e
      · exact hx
theorem jo_pair {L : List Lk} (hok : joOk L = true) (hL : ∀ x ∈ L, lkOk x = true) (i j : Int) : (∃ x ∈ joV L, x.a = i ∧ x.b = j) ↔ ∃ x ∈ L, x.a = i ∧ x.b = j := by
  have hm := (joG_mom hok).1 mW (.inl rfl) i j
  have hS := lksOk_iff.1 (joG_cn (l := L)).2.2.2
  have p1 := mom_nn (i := i) (j := j) hS.1
  have p2 := mom_nn (i := i) (j := j) hL
  constructor
  · intro h
    refine Classical.byContradiction fun hne => ?_
    have e := mom_none (f := mW) (i := i) (j := j) (S := L) fun y hy hh => hne ⟨y, hy, hh⟩
    have := p1.2 h
    rw [hm, e] at this
    exact absurd this Rat.lt_irrefl
  · intro h
    refine Classical.byContradiction fun hne => ?_
    have e := mom_none (f := mW) (i := i) (j := j) (S := joV L) fun y hy hh => hne ⟨y, hy, hh⟩
    have := p2.2 h
    rw [← hm, e] at this
    exact absurd this Rat.lt_irrefl
theorem sm_wf2 {n : Int} {l : Lk} (h : SmN n l) : (l.w.cn ∧ l.dx.cn ∧ l.dy.cn) ∧ l.wf := by
  obtain ⟨_, ⟨a, ha, e1⟩, ⟨b, hb, e2⟩, ⟨c, hc, e3⟩⟩ := h
  unfold Lk.wf
  rw [e1, e2, e3]
  have h1 := intR_cn (n := a) (by omega)
  have h2 := intR_cn (n := b) (by omega)
  have h3 := intR_cn (n := c) (by omega)
  exact ⟨⟨h1, h2, h3⟩, cn_wf h1, cn_wf h2, cn_wf h3⟩
structure DrawS (n : Nat) (S : List Lk) : Prop where
  L : ∃ L, DrawL n L ∧ S = joV L
  ok : lksOk S = true
  cn : ∀ x ∈ S, x.w.cn ∧ x.dx.cn ∧ x.dy.cn
  len : S.length ≤ 101
  ab : ∀ x ∈ S, 0 ≤ x.a ∧ x.a < x.b ∧ x.b ≤ (n : Int) + 1
  base : ∀ k, k < n → ∃ x ∈ S, x.a ≤ (k : Int) ∧ x.b = (k : Int) + 1
  rn : 1 ≤ n ∧ n ≤ 4
theorem DrawS.wf {n : Nat} {S : List Lk} (h : DrawS n S) : wfL Lk.wf S := lks_wf h.cn h.len
theorem DrawS.sz {n : Nat} {S : List Lk} (h : DrawS n S) : szL Lk.sz S ≤ 20000 := lks_sz h.cn h.len
theorem drawS {n : Nat} {L : List Lk} (h : DrawL n L) : DrawS n (joV L) := by
  obtain ⟨hok, _⟩ := join_plain h
  have hc := joG_cn (l := L)
  have hrn := h.rn
  have hLok : ∀ x ∈ L, lkOk x = true := fun x hx => lkOk_sm (n := (n : Int) + 1) (by omega) (h.sm x hx)
  refine ⟨⟨L, h, rfl⟩, hc.2.2.2, hc.1, hc.2.2.1, fun x hx => ?_, fun k hk => ?_, h.rn⟩
  · obtain ⟨y, hy, h1, h2⟩ := (jo_pair hok hLok x.a x.b).1 ⟨x, hx, rfl, rfl⟩
    have := (h.sm y hy).ab
    omega
  · have hl := h.len
    have hm := getD_mem (l := L) (i := k) (by omega)
    have hb := h.base k hk
    generalize L.getD k default = y at hm hb
    obtain ⟨x, hx, h1, h2⟩ := (jo_pair hok hLok y.a y.b).2 ⟨y, hm, rfl, rfl⟩
    have := (h.sm y hm).ab
    exact ⟨x, hx, by omega, by omega⟩
theorem c_MakeSet {T : Nat → Option Fn} (h : D_spec_MakeSet T) {x : List UInt8} (hx : x.length ≤ 1048576) : ∃ n S, DrawS n S ∧ PF T 171 [bytesV x] (lksV S) := by
  obtain ⟨n, L, hL, cm⟩ := c_MakeLinks h.d_spec_MakeLinks hx
  have hrn := hL.rn
  have hl := hL.len
  have cL : ∀ x ∈ L, x.w.cn ∧ x.dx.cn ∧ x.dy.cn := fun x hx => (sm_wf2 (hL.sm x hx)).1
  have cj := c_sJoinLinks h.d_spec_JoinLinks (l := L) (lks_wf cL (by omega)) (by have := lks_sz cL (by omega); omega)
  refine ⟨n, joV L, drawS hL, ?_⟩
  clear hL hrn hl cL
  generalize joV L = S at cj
  generalize joE L = e at cj
  generalize joOk L = b at cj
  refine pf_end (fun _ _ => false) h.hT rfl rfl ?_
  dsimp only [F_spec_MakeSet, oN, oS, oG, oK, oA, oH, oV, cI]
  (refine ev ?_; try with_reducible exact True.intro)
  refine PFK_of cm ?_
  (refine ev ?_; try with_reducible exact True.intro)
  refine PFK_of cj ?_
  (refine ev ?_; try with_reducible exact True.intro)
end Go.Ml
end
section
set_option linter.unusedSimpArgs false
set_option linter.unusedVariables false
set_option maxRecDepth 100000
set_option maxHeartbeats 8000000
namespace Go.Ml
section
variable {s s1 σ2 : Store} {a b ta tb rs trs : List V} {os os2 : List Nat} {L : List (Nat × Obj)}
end
theorem Ep.sub {s : Store} {cs ts : List V} {os : List Nat} {L L' : List (Nat × Obj)} (E : Ep s cs ts os L) (h : ∀ q ∈ L', q ∈ L) : Ep s cs ts os L' := ⟨E.c, fun q hq => E.l q (h q hq)⟩
end Go.Ml
end
section
set_option linter.unusedSimpArgs false
set_option linter.unusedVariables false
namespace Go.Ml
section
variable {s s1 S σ2 : Store} {a b c ta tb tc rs trs cs ts : List V} {os os2 : List Nat} {L L' : List (Nat × Obj)}
theorem Ep.to (E : Ep s cs ts os L) (ho : ∀ o ∈ os, objAt S o = objAt s o) (hL : ∀ q ∈ L', (q ∈ L ∧ objAt S q.1 = objAt s q.1) ∨ (objAt S q.1 = some q.2 ∧ q.1 ∉ os)) : Ep S cs ts os L' := by
  refine ⟨E.c.frame ho, fun q hq => ?_⟩
  rcases hL q hq with ⟨h1, h2⟩ | h
  · exact ⟨h2.trans (E.l q h1).1, (E.l q h1).2⟩
  · exact h
theorem Ep.renewM (E : Ep s (a ++ (b ++ c)) (ta ++ (tb ++ tc)) os L) (hla : a.length = ta.length) (hlb : b.length = tb.length) (h1 : ∀ o, o < s.length → objAt s1 o = objAt s o) (hl : s.length ≤ s1.length) (ho : OwL σ2 rs trs os2) (hn : os2.Nodup) (hf : ∀ o ∈ os2, s1.length ≤ o)
    (old : ∀ o, o < s1.length → objAt σ2 o = objAt s1 o) : ∃ os', Ep σ2 (a ++ (rs ++ c)) (ta ++ (trs ++ tc)) os' L ∧ ∀ o ∈ os', o ∈ os ∨ s1.length ≤ o := by
  obtain ⟨a1, a2, oa, obc, e, rfl, k1, k2⟩ := owL_split E.c.ow
  obtain ⟨rfl, rfl⟩ := List.append_inj e (by rw [hla]; exact k1.len.symm)
  obtain ⟨b1, b2, ob, oc, e, rfl, k3, k4⟩ := owL_split k2
  obtain ⟨rfl, rfl⟩ := List.append_inj e (by rw [hlb]; exact k3.len.symm)
  have hlt := fun o (h : o ∈ oa ++ (ob ++ oc)) => E.c.lt o h
  have nd := List.nodup_append.1 E.c.nd
  have nd2 := List.nodup_append.1 nd.2.1
  have fr : ∀ o ∈ oa ++ (ob ++ oc), objAt σ2 o = objAt s o := fun o h => by
    have := hlt o h
    rw [old o (by omega), h1 o this]
  refine ⟨oa ++ (os2 ++ oc), ⟨⟨owL_append (k1.frame fun o h => fr o (by simp [h])) (owL_append ho (k4.frame fun o h => fr o (by simp [h]))), ?_⟩, fun q hq => ⟨(old _ (Nat.lt_of_lt_of_le (E.lt q hq) hl)).trans ((h1 _ (E.lt q hq)).trans (E.l q hq).1), fun hm => ?_⟩⟩, fun o h => ?_⟩
  · rw [List.nodup_append, List.nodup_append]
    refine ⟨nd.1, ⟨hn, nd2.2.1, fun x hx y hy e => ?_⟩, fun x hx y hy e => ?_⟩
    · have := hf x hx
      have := hlt y (by simp [hy])
      omega
    · rcases List.mem_append.1 hy with hy | hy
      · have := hf y hy
        have := hlt x (by simp [hx])
        omega
      · exact nd.2.2 x hx y (List.mem_append_right _ hy) e
  · simp only [List.mem_append] at hm
    rcases hm with hm | hm | hm
    · exact (E.l q hq).2 (by simp [hm])
    · have := hf _ hm; have := E.lt q hq; omega
    · exact (E.l q hq).2 (by simp [hm])
  · simp only [List.mem_append] at h
    rcases h with h | h | h
    · exact .inl (by simp [h])
    · exact .inr (hf o h)
    · exact .inl (by simp [h])
theorem Ep.upd {p : Nat} {ob ob0 : Obj} (E : Ep s (a ++ (b ++ c)) (ta ++ (tb ++ tc)) os L) (hp : (p, ob0) ∈ L) (hla : a.length = ta.length) (hlb : b.length = tb.length) (h1 : ∀ o, o < s.length → objAt s1 o = objAt s o) (hl : s.length ≤ s1.length) (ho : OwL σ2 rs trs os2) (hn : os2.Nodup) (hf : ∀ o ∈ os2, s1.length ≤ o)
    (old : ∀ o, o < s1.length → objAt σ2 o = objAt s1 o) (hL : ∀ q ∈ L', (q.1 ≠ p ∧ q ∈ L) ∨ q = (p, ob)) (hs : s1.length ≤ σ2.length) : ∃ os', Ep (σ2.set p (some ob)) (a ++ (rs ++ c)) (ta ++ (trs ++ tc)) os' L' := by
  obtain ⟨os', E2, _⟩ := E.renewM hla hlb h1 hl ho hn hf old
  have hpl := E.lt _ hp
  exact ⟨os', E2.reloc (E2.l _ hp).2 (by dsimp only at hpl; omega) hL⟩
theorem Ep.cut (E : Ep s (a ++ (b ++ c)) (ta ++ (tb ++ tc)) os L) (hla : a.length = ta.length) (hlb : b.length = tb.length) : ∃ os', Ep s (a ++ c) (ta ++ tc) os' L ∧ ∀ o ∈ os', o ∈ os := by
  obtain ⟨a1, a2, oa, obc, e, rfl, k1, k2⟩ := owL_split E.c.ow
  obtain ⟨rfl, rfl⟩ := List.append_inj e (by rw [hla]; exact k1.len.symm)
  obtain ⟨b1, b2, ob, oc, e, rfl, k3, k4⟩ := owL_split k2
  obtain ⟨rfl, rfl⟩ := List.append_inj e (by rw [hlb]; exact k3.len.symm)
  have nd := List.nodup_append.1 E.c.nd
  have nd2 := List.nodup_append.1 nd.2.1
  refine ⟨oa ++ oc, ⟨⟨owL_append k1 k4, ?_⟩, fun q hq => ⟨(E.l q hq).1, fun hm => (E.l q hq).2 ?_⟩⟩, fun o h => ?_⟩
  · rw [List.nodup_append]
    exact ⟨nd.1, nd2.2.1, fun x hx y hy e => nd.2.2 x hx y (List.mem_append_right _ hy) e⟩
  · rcases List.mem_append.1 hm with h | h <;> simp [h]
  · rcases List.mem_append.1 h with h | h <;> simp [h]
end
section
variable {s : Store} {A T : List (List V)} {a c ta tc : List V} {os : List Nat} {L : List (Nat × Obj)} {n p k : Nat}
end
end Go.Ml
end
section
set_option linter.unusedSimpArgs false
set_option linter.unusedVariables false
set_option maxRecDepth 100000
set_option maxHeartbeats 8000000
namespace Go.Ml
def Rd2 (s : Store) (v w : V) (X Y : List R) : Prop :=
  (X = [] ∧ Y = [] ∧ v = .nils ∧ w = .nils) ∨ ∃ p q, p ≠ q ∧ v = .msl p 0 X.length ∧ w = .msl q 0 Y.length ∧ objAt s p = some ⟨3, X.map R.cells⟩ ∧ objAt s q = some ⟨3, Y.map R.cells⟩
theorem Rd2.fr {s s2 : Store} {v w : V} {X Y : List R} (h : Rd2 s v w X Y) (hf : ∀ p, p < s.length → objAt s2 p = objAt s p) : Rd2 s2 v w X Y := by
  rcases h with h | ⟨p, q, h1, h2, h3, h4, h5⟩
  · exact .inl h
  · exact .inr ⟨p, q, h1, h2, h3, (hf p (objAt_lt h4)).trans h4, (hf q (objAt_lt h5)).trans h5⟩
end Go.Ml
end
section
set_option linter.unusedSimpArgs false
set_option linter.unusedVariables false
set_option maxRecDepth 100000
set_option maxHeartbeats 8000000
namespace Go.Ml
def zrow (x : Nat × List R) : List V := [.msl x.1 0 x.2.length]
def MatA (s : Store) (v : V) (Z : List (Nat × List R)) : Prop := ((Z = [] ∧ v = .nils) ∨ ∃ q, v = .msl q 0 Z.length ∧ objAt s q = some ⟨1, Z.map zrow⟩) ∧ ∀ x ∈ Z, objAt s x.1 = some ⟨3, x.2.map R.cells⟩
theorem MatA.fr {s s2 : Store} {v : V} {Z : List (Nat × List R)} (h : MatA s v Z) (hf : ∀ p, p < s.length → objAt s2 p = objAt s p) : MatA s2 v Z :=
  ⟨h.1.imp id fun ⟨q, e, hq⟩ => ⟨q, e, (hf q (objAt_lt hq)).trans hq⟩, fun x hx => (hf _ (objAt_lt (h.2 x hx))).trans (h.2 x hx)⟩
theorem MatA.map {s : Store} {m : Nat} : ∀ {Z : List (Nat × List R)}, (∀ x ∈ Z, objAt s x.1 = some ⟨3, x.2.map R.cells⟩) → ((Z.map zrow).mapM fun r => r.mapM (resolve s (m + 2))) = some ((Z.map (·.2)).map fun r => [ratsV r])
  | [], _ => rfl
  | x :: Z, h => by
    have hx := h x (by simp)
    have e : resolve s (m + 2) (.msl x.1 0 x.2.length) = some (ratsV x.2) := by
      have h2 := st_R x.2
      unfold resolve
      simp only [hx]
      rw [if_pos (by simp), List.drop_zero, List.take_of_length_le (by simp), mapM_stillR (n := m) h2]
      rfl
    have ih := MatA.map (m := m) (Z := Z) fun y hy => h y (by simp [hy])
    rw [List.map_cons, List.mapM_cons, ih]
    have : (zrow x).mapM (resolve s (m + 2)) = some [ratsV x.2] := by
      unfold zrow
      rw [List.mapM_cons, e]
      rfl
    rw [this]
    rfl
theorem MatA.res {s : Store} {q : Nat} {Z : List (Nat × List R)} (h : ∀ x ∈ Z, objAt s x.1 = some ⟨3, x.2.map R.cells⟩) (hq : objAt s q = some ⟨1, Z.map zrow⟩) : resolve s FD (.msl q 0 Z.length) = some (ratssV (Z.map (·.2))) := by
  show resolve s (9 + 2 + 1) _ = _
  unfold resolve
  simp only [hq]
  rw [if_pos (by simp), List.drop_zero, List.take_of_length_le (by simp), MatA.map h]
  rfl
def RowN (s : Store) (n0 : Nat) (v : V) (L : List R) : Prop := (L = [] ∧ v = .nils) ∨ ∃ p, v = .msl p 0 L.length ∧ n0 ≤ p ∧ objAt s p = some ⟨3, L.map R.cells⟩
theorem RowN.fr {s s2 : Store} {v : V} {n0 : Nat} {L : List R} (h : RowN s n0 v L) (hf : ∀ p, p < s.length → objAt s2 p = objAt s p) : RowN s2 n0 v L :=
  h.imp id fun ⟨q, e, hn, hq⟩ => ⟨q, e, hn, (hf q (objAt_lt hq)).trans hq⟩
end Go.Ml
end
section
set_option linter.unusedSimpArgs false
set_option linter.unusedVariables false
set_option maxRecDepth 100000
set_option maxHeartbeats 8000000
namespace Go.Ml
def F_impl_Bridges : Fn := ⟨1, 44, [.tmp 2], (.seq (.reg false 0 [oN 2 (.mov (.c (.nils)))]) (.seq (.seq (.reg false 0 [oN 7 (oV 0), oN 8 (.call 89 [(.t 7)]), oN 9 (.un .not (.t 8))]) (.cond (.t 9) (.seq (.reg false 0 [oN 2 (.mov (.c (.nils)))]) .ret) .skip)) (.seq (.reg false 1 [oN 10 (.mkSl 11 [.int .i64 0, .int .i64 0, .bool false, .nils, .nils, .bool false, .nils, .nils, .bool false, .nils, .nils] 0 []), oK 3 1 (oV 10)]) (.seq (.seq (.reg false 0 [oN 11 (oV 0), oN 12 (.len (.t 11)), oN 13 (.mov (cI 0))]) (.block 0 (.loop (.seq (.reg false 0 [oN 14 (.bin .lss (.t 13) (.t 12))]) (.seq (.cond (.t 14) .skip (.exit 0)) (.seq (.block 1 (.seq (.reg false 1 [oK 15 1 (oV 13), oK 16 1 (.idx 11 (.t 11) (.t 13)), oK 17 1 (.load 11 true (.t 16)), oN 5 (.alloc [.int .i64 0, .int .i64 0, .bool false, .nils, .nils, .bool false, .nils, .nils, .bool false, .nils, .nils]), oK 4 1 (oV 15), ⟨none, none, 1, .store 11 (.t 5) (.t 17), []⟩]) (.seq (.reg false 2 [oN 18 (.mkSl 11 [.int .i64 0, .int .i64 0, .bool false, .nils, .nils, .bool false, .nils, .nils, .bool false, .nils, .nils] 0 []), oK 19 2 (oV 0), oK 20 2 (oV 4), oK 21 2 (.slice 11 (.t 19) none (some (.t 20))), oK 22 1 (.app 11 184 (.t 18) (.t 21)), oK 6 2 (oV 22)]) (.seq (.reg false 1 [oK 23 1 (oV 6), oK 24 1 (oV 0), oK 25 1 (oV 4), oK 26 1 (.bin .add (.t 25) (cI 1)), oK 27 1 (.slice 11 (.t 24) (some (.t 26)) none), oN 28 (.app 11 184 (.t 23) (.t 27)), oK 6 1 (oV 28)]) (.seq (.reg true 0 [oN 29 (oV 6), oN 30 (.fld 0 (.t 5)), oA 31 0 (.load 1 false (.t 30)) [1], oA 32 0 (.call 343 [(.t 29), (.t 31)]) [0, 2], oN 33 (.fld 1 (.t 5)), oA 34 0 (.load 1 false (.t 33)) [4], oA 35 0 (.call 236 [(.t 32), (.t 34)]) [3, 5, 3], oA 36 0 (.un .not (.t 35)) [6]]) (.cond (.t 36) (.reg false 2 [oK 37 2 (oV 3), oK 38 2 (.load 11 true (.t 5)), oK 39 2 (.call 133 [(.t 38)]), oN 40 (.mkSl 11 [.int .i64 0, .int .i64 0, .bool false, .nils, .nils, .bool false, .nils, .nils, .bool false, .nils, .nils] 1 [(0, (.t 39))]), oK 41 1 (.app 11 184 (.t 37) (.t 40)), oK 3 2 (oV 41)]) .skip)))))) (.reg false 0 [oN 42 (.bin .add (.t 13) (cI 1)), oN 13 (oV 42)]))))))) (.seq (.reg false 0 [oN 43 (oV 3), oN 2 (oV 43)]) .ret)))))⟩
structure D_impl_Bridges (T : Nat → Option Fn) : Prop where
  hT : T 375 = some F_impl_Bridges
  d_impl_IsLinkSet : D_impl_IsLinkSet T
  d_impl_copyLink : D_impl_copyLink T
  d_impl_hasInt : D_impl_hasInt T
  d_impl_componentOf : D_impl_componentOf T
def bgR (l : List Lk) (i : Nat) : List Lk := l.take i ++ l.drop (i + 1)
def bgK (l : List Lk) (i : Nat) : Bool := !decide ((l.getD i default).b ∈ cpM (bgR l i) (l.getD i default).a)
def bgI (l : List Lk) : Nat → List Lk
  | 0 => []
  | k + 1 => if bgK l k = true then bgI l k ++ [l.getD k default] else bgI l k
def bgV (l : List Lk) : List Lk := if lksOk l = true then bgI l l.length else []
theorem bgR_sub (l : List Lk) (i : Nat) : (bgR l i).Sublist l := by
  unfold bgR
  have : l.drop (i + 1) = (l.drop i).drop 1 := by rw [List.drop_drop, Nat.add_comm]
  conv => rhs; rw [← List.take_append_drop i l]
  rw [this]
  exact (List.Sublist.refl _).append (List.drop_sublist _ _)
theorem bgR_ok {l : List Lk} (h : lksOk l = true) (i : Nat) : lksOk (bgR l i) = true := by
  obtain ⟨h1, h2⟩ := lksOk_iff.1 h
  exact lksOk_iff.2 ⟨fun x hx => h1 x ((bgR_sub l i).subset hx), h2.sublist (bgR_sub l i)⟩
theorem bgR_len (l : List Lk) (i : Nat) : (bgR l i).length ≤ l.length := (bgR_sub l i).length_le
theorem bgI_sub (l : List Lk) : ∀ k, k ≤ l.length → (bgI l k).Sublist (l.take k)
  | 0, _ => by unfold bgI; simp
  | k + 1, hk => by
    have ih := bgI_sub l k (by omega)
    rw [take_snoc (by omega)]
    unfold bgI
    split
    · exact ih.append (List.Sublist.refl _)
    · exact ih.trans (List.sublist_append_left _ _)
theorem bgV_sub (l : List Lk) : (bgV l).Sublist l := by
  unfold bgV
  split
  · have := bgI_sub l l.length (Nat.le_refl _)
    rwa [List.take_length] at this
  · exact List.nil_sublist _
theorem bgV_f {l : List Lk} (h : lksOk l = false) : bgV l = [] := by unfold bgV; rw [h]; rfl
theorem bgV_t {l : List Lk} (h : lksOk l = true) : bgV l = bgI l l.length := if_pos h
theorem wfL_sub {α : Type} {f : α → Prop} {l m : List α} (h : wfL f l) (hs : m.Sublist l) : wfL f m := ⟨by have := hs.length_le; have := h.1; omega, fun x hx => h.2 x (hs.subset hx)⟩
def LnA (s : Store) (v : V) (L : List Lk) : Prop := (L = [] ∧ v = .nils) ∨ ∃ p, v = .msl p 0 L.length ∧ objAt s p = some ⟨11, L.map Lk.cells⟩
theorem LnA.fr {s s2 : Store} {v : V} {L : List Lk} (h : LnA s v L) (hf : ∀ p, p < s.length → objAt s2 p = objAt s p) : LnA s2 v L :=
  h.imp id fun ⟨q, e, hq⟩ => ⟨q, e, (hf q (objAt_lt hq)).trans hq⟩
theorem killAll_nil (σ : Store) : killAll σ [] = σ := rfl
end Go.Ml
end
section
set_option linter.unusedSimpArgs false
set_option linter.unusedVariables false
set_option maxRecDepth 100000
set_option maxHeartbeats 8000000
namespace Go.Ml
theorem nbA_ab {S : List Lk} {x : Lk} (hx : x ∈ S) : x.b ∈ nbA S x.a :=
  nbA_mem.2 ⟨x, hx, by unfold nbOf; rw [if_pos rfl]⟩
theorem draw_rch {n : Nat} {S : List Lk} (h : DrawS n S) : ∀ v : Nat, v ≤ n → Rch S 0 v
  | v, hv => by
    induction v using Nat.strongRecOn with
    | ind v ih =>
      cases v with
      | zero => exact .base
      | succ k =>
        obtain ⟨x, hx, h1, h2⟩ := h.base k (by omega)
        have hab := h.ab x hx
        have hr := ih x.a.toNat (by omega) (by omega)
        rw [Int.toNat_of_nonneg hab.1] at hr
        have := Rch.step hr (nbA_ab hx)
        rw [h2] at this
        have e : ((k + 1 : Nat) : Int) = (k : Int) + 1 := by omega
        rw [e]; exact this
theorem draw_gr {n : Nat} {S : List Lk} (h : DrawS n S) : grOk S = true := by
  unfold grOk
  rw [h.ok, Bool.true_and]
  refine List.all_eq_true.2 fun x hx => ?_
  have hab := h.ab x hx
  have hr := draw_rch h x.a.toNat (by omega)
  rw [Int.toNat_of_nonneg hab.1] at hr
  unfold grL
  rw [decide_eq_true ((cpV_mem h.ok).2 hr), decide_eq_true ((cpV_mem h.ok).2 (.step hr (nbA_ab hx)))]; rfl
def sameAB (l b : Lk) : Bool := decide (b.a = l.a) && decide (b.b = l.b)
theorem bgI_mem {S : List Lk} {b : Lk} : ∀ k, k ≤ S.length → (b ∈ bgI S k ↔ ∃ i, i < k ∧ bgK S i = true ∧ S.getD i default = b)
  | 0, _ => ⟨fun h => (by cases h), fun ⟨i, hi, _⟩ => absurd hi (Nat.not_lt_zero _)⟩
  | k + 1, hk => by
    have ih := bgI_mem (S := S) (b := b) k (by omega)
    unfold bgI
    split
    · rename_i hb
      rw [List.mem_append, ih, List.mem_singleton]
      constructor
      · rintro (⟨i, hi, h1, h2⟩ | h)
        · exact ⟨i, by omega, h1, h2⟩
        · exact ⟨k, by omega, hb, h.symm⟩
      · rintro ⟨i, hi, h1, h2⟩
        by_cases e : i = k
        · subst e; exact .inr h2.symm
        · exact .inl ⟨i, by omega, h1, h2⟩
    · rename_i hb
      rw [ih]
      constructor
      · rintro ⟨i, hi, h1, h2⟩
        exact ⟨i, by omega, h1, h2⟩
      · rintro ⟨i, hi, h1, h2⟩
        by_cases e : i = k
        · subst e; exact absurd h1 hb
        · exact ⟨i, by omega, h1, h2⟩
theorem lks_uni {S : List Lk} (h : lksOk S = true) {i j : Nat} (hi : i < S.length) (hj : j < S.length) (ha : (S.getD i default).a = (S.getD j default).a) (hb : (S.getD i default).b = (S.getD j default).b) : i = j := by
  have hp := (lksOk_iff.1 h).2
  rw [List.pairwise_iff_getElem] at hp
  have gi : S.getD i default = S[i] := by rw [List.getD_eq_getElem?_getD, List.getElem?_eq_getElem hi]; rfl
  have gj : S.getD j default = S[j] := by rw [List.getD_eq_getElem?_getD, List.getElem?_eq_getElem hj]; rfl
  rw [gi, gj] at ha hb
  rcases Nat.lt_trichotomy i j with k | k | k
  · have := hp i j hi hj k
    rw [lkLess_iff] at this; omega
  · exact k
  · have := hp j i hj hi k
    rw [lkLess_iff] at this; omega
theorem bg_any {S : List Lk} (h : lksOk S = true) {i : Nat} (hi : i < S.length) : (bgV S).any (sameAB (S.getD i default)) = bgK S i := by
  rw [bgV_t h]
  cases hb : bgK S i
  · refine List.any_eq_false.2 fun b hm => ?_
    obtain ⟨j, hj, h1, rfl⟩ := (bgI_mem _ (Nat.le_refl _)).1 hm
    unfold sameAB
    simp only [Bool.and_eq_true, decide_eq_true_eq]
    rintro ⟨e1, e2⟩
    have := lks_uni h hj hi e1 e2
    subst this
    rw [hb] at h1; cases h1
  · refine List.any_eq_true.2 ⟨S.getD i default, (bgI_mem _ (Nat.le_refl _)).2 ⟨i, hi, hb, rfl⟩, ?_⟩
    unfold sameAB
    simp
end Go.Ml
end
