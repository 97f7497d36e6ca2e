/- A small language for the functions of this claim, its soundness, contracts. -/
import Derived.Test.YtbccjdlcbhknoaaGreatPart3
set_option linter.unusedSimpArgs false
set_option linter.unusedVariables false
set_option maxRecDepth 100000
set_option maxHeartbeats 16000000
section
namespace Go.Ml
section
variable {s s1 σ2 : Store} {a b ta tb rs XT : List V} {os os2 : List Nat} {L : List (Nat × Obj)}
theorem Ep.akT (E : Ep s (a ++ b) (ta ++ tb) os L) (hla : a.length = ta.length) (h1 : ∀ o,o < s.length → aj s1 o = aj s o) (hl : s.length ≤ s1.length) (ho : bT σ2 rs XT os2) (hn : os2.Nodup) (hf : ∀ o ∈ os2,s1.length ≤ o)
  (old : ∀ o,o < s1.length → aj σ2 o = aj s1 o) : ∃ os',Ep σ2 (rs ++ b) (XT ++ tb) os' L ∧ ∀ o ∈ os',o ∈ os ∨ s1.length ≤ o:=by
 obtain ⟨a1,a2,oa,ob,e,rfl,k1,k2⟩:=jc E.c.ow
 obtain ⟨rfl,rfl⟩:=List.append_inj e (by rw [hla];exact k1.len.symm)
 have hlt:=fun o (h : o ∈ oa ++ ob)=>E.c.lt o h
 have nd:=List.nodup_append.1 E.c.nd
 refine ⟨os2 ++ ob,⟨⟨dU ho (k2.frame fun o h=>?_),?_⟩,fun q hq=>⟨(old _ (Nat.lt_of_lt_of_le (E.lt q hq) hl)).trans ((h1 _ (E.lt q hq)).trans (E.l q hq).1),fun hm=>?_⟩⟩,fun o h=>?_⟩
 ·have:=hlt o (List.mem_append_right _ h)
  rw [old o (by omega),h1 o this]
 ·rw [List.nodup_append]
  refine ⟨hn,nd.2.1,fun x hx y hy e=>?_⟩
  have:=hf x hx
  have:=hlt y (List.mem_append_right _ hy)
  omega
 ·rcases List.mem_append.1 hm with hm | hm
  ·have:=hf _ hm;have:=E.lt q hq;omega
  ·exact (E.l q hq).2 (List.mem_append_right _ hm)
 ·rcases List.mem_append.1 h with h | h
  ·exact .inr (hf o h)
  ·exact .inl (List.mem_append_right _ h)
theorem Ep.akU (E : Ep s (a ++ b) (ta ++ tb) os L) (hla : a.length = ta.length) (h1 : ∀ o,o < s.length → aj s1 o = aj s o) (hl : s.length ≤ s1.length) (ho : bT σ2 rs XT os2) (hn : os2.Nodup) (hf : ∀ o ∈ os2,s1.length ≤ o)
  (old : ∀ o,o < s1.length → aj σ2 o = aj s1 o) : ∃ os',Ep σ2 (a ++ rs) (ta ++ XT) os' L ∧ ∀ o ∈ os',o ∈ os ∨ s1.length ≤ o:=by
 obtain ⟨a1,a2,oa,ob,e,rfl,k1,k2⟩:=jc E.c.ow
 obtain ⟨rfl,rfl⟩:=List.append_inj e (by rw [hla];exact k1.len.symm)
 have hlt:=fun o (h : o ∈ oa ++ ob)=>E.c.lt o h
 have nd:=List.nodup_append.1 E.c.nd
 refine ⟨oa ++ os2,⟨⟨dU (k1.frame fun o h=>?_) ho,?_⟩,fun q hq=>⟨(old _ (Nat.lt_of_lt_of_le (E.lt q hq) hl)).trans ((h1 _ (E.lt q hq)).trans (E.l q hq).1),fun hm=>?_⟩⟩,fun o h=>?_⟩
 ·have:=hlt o (List.mem_append_left _ h)
  rw [old o (by omega),h1 o this]
 ·rw [List.nodup_append]
  refine ⟨nd.1,hn,fun x hx y hy e=>?_⟩
  have:=hf y hy
  have:=hlt x (List.mem_append_left _ hx)
  omega
 ·rcases List.mem_append.1 hm with hm | hm
  ·exact (E.l q hq).2 (List.mem_append_left _ hm)
  ·have:=hf _ hm;have:=E.lt q hq;omega
 ·rcases List.mem_append.1 h with h | h
  ·exact .inl (List.mem_append_left _ h)
  ·exact .inr (hf o h)
end
theorem Ep.sub {s : Store} {cs ts : List V} {os : List Nat} {L L' : List (Nat × Obj)} (E : Ep s cs ts os L) (h : ∀ q ∈ L',q ∈ L) : Ep s cs ts os L':=⟨E.c,fun q hq=>E.l q (h q hq)⟩
theorem ZG {σ : Store} : Fin σ (.agg [.bool false,.ak,.ak,.bool false,.ak,.ak]) (ptV ⟨R0,R0⟩) :=
 ⟨ptV ⟨R0,R0⟩,[],by simp only [bM,nN];exact ⟨_,rfl,_,_,rfl,rfl,_,_,rfl,of_eq_true (fP 1),_,_,rfl,of_eq_true (fP 1),_,_,rfl,rfl,_,_,rfl,of_eq_true (fP 1),_,_,rfl,of_eq_true (fP 1),rfl⟩,
  uJ (qO (tY (o1:=[]) jC (tY (o1:=[]) jC (qO (tY (o1:=[]) jC (tY (o1:=[]) jC kG)))))),.nil⟩
theorem TQ {T : Tb} (h : wR T) : PO T 186 [] (ptV ⟨bQ 0,bQ 0⟩):=by
 refine dw (fun x d=>x == 39) h.hT ?_
 simp only [ql,Lz,St.enter,List.length_cons,List.length_nil,Nat.zero_add]
 refine ew ?_
 refine iU (Cb h.bU (n:=0)) (by (refine ew ?_;try with_reducible exact True.intro)) ?_
 intro r q1 o1 G
 have gl : 1 ≤ q1.length:=by simpa using G.len
 obtain ⟨_,rfl,hQ1⟩:=G.ow.fG
 obtain ⟨x1,x2,rfl⟩:=hQ1.rat
 have E : Ep [some ⟨6,[[.bool false,.ak,.ak,.bool false,.ak,.ak]]⟩] [] [] [] [(0,⟨6,[[.bool false,.ak,.ak,.bool false,.ak,.ak]]⟩)]:=⟨Ox,by simp [aj]⟩
 have E1:=E.got (fun q hq=>rfl) (Nat.le_refl _) hQ1 G.nd G.fresh G.old
 clear G E
 refine ew ?_
 refine iU (Cb h.bU (n:=0)) (by (refine ew ?_;try with_reducible exact True.intro)) ?_
 intro r q2 o2 G
 have gl2 : q1.length ≤ q2.length:=G.len
 obtain ⟨_,rfl,hQ2⟩:=G.ow.fG
 obtain ⟨x3,x4,rfl⟩:=hQ2.rat
 have E2:=E1.got (fun q hq=>rfl) (Nat.le_refl _) hQ2 G.nd G.fresh G.old
 clear G E1
 have E : Ep q2 [.bool (bQ 0).neg,x1,x2,.bool (bQ 0).neg,x3,x4] [.bool (bQ 0).neg,ints (bQ 0).mag,ints (bQ 0).den,.bool (bQ 0).neg,ints (bQ 0).mag,ints (bQ 0).den] _ [(0,⟨6,[[.bool false,.ak,.ak,.bool false,.ak,.ak]]⟩)]:=E2
 clear E2
 have L0:=E.at0 (p:=0) (ob:=⟨6,[[.bool false,.ak,.ak,.bool false,.ak,.ak]]⟩) (by simp)
 have LF:=And.intro (And.intro (E.leaf 1 rfl rfl) (E.leaf 2 rfl rfl)) (And.intro (E.leaf 4 rfl rfl) (E.leaf 5 rfl rfl))
 refine yS @L0 @LF ?_
 have n0:=(E.l (0,⟨6,[[.bool false,.ak,.ak,.bool false,.ak,.ak]]⟩) (by simp)).2
 have C:=E.c.set (o:=0) (x:=some ⟨6,[[.bool (bQ 0).neg,x1,x2,.bool (bQ 0).neg,x3,x4]]⟩) n0
 exact oU (uJ C.ow) C.nd
theorem FX {T : Tb} (h : lM T) {c : Cd} {at' : List Pt} (hw : c.wf:=by exact gU) (hp : MR Pt.wf at':=by exact gU) (hl : c.ps.length ≤ 1048576:=by exact gU) (hl2 : at'.length ≤ 1048576:=by exact gU) : PO T 176 [SA c,Xy at'] (.gq [ptV (PK c at'),.bool (GX c at')]):=by
 have ci:=nX h.ig hw
 cases hb : nV c
 ·rw [hb] at ci
  have e1 : GX c at' = false:=by unfold GX;rw [hb];rfl
  rw [aer e1,e1]
  refine dw (fun x d=>(x == 186 && d == 13) || (x == 131 && d == 41) || (x == 131 && d == 57)) h.hT ?_
  simp only [fV,Lz,St.enter,List.length_cons,List.length_nil,Nat.zero_add]
  refine ew ?_
  refine ah ci ?_
  refine ew ?_
  exact ZG.S9
 rw [hb] at ci
 have bad : ∀ k,k < c.ps.length → ¬ (c.ps.getD k default).node < at'.length → ∀ σ,Fin σ (.gq [.agg [.bool false,.ak,.ak,.bool false,.ak,.ak],.bool false]) (.gq [ptV (PK c at'),.bool (GX c at')]):=fun k hk h σ=>by
  have e1 : GX c at' = false:=by unfold GX;rw [ahF hk h,hb];rfl
  rw [aer e1,e1]
  exact ZG.S9
 have hpa:=fun k hk=>ahG hb (k:=k) hk
 refine dw (fun x d=>(x == 186 && d == 13) || (x == 131 && d == 41) || (x == 131 && d == 57)) h.hT ?_
 simp only [fV,Lz,St.enter,List.length_cons,List.length_nil,Nat.zero_add]
 refine ew ?_
 refine ah ci ?_
 refine ew ?_
 refine iU (TQ h.Le) (by (refine ew ?_;try with_reducible exact True.intro)) ?_
 intro r q1 o1 G
 have gl : 3 ≤ q1.length:=by simpa using G.len
 obtain ⟨_,rfl,hQ1⟩:=G.ow.fG
 obtain ⟨x1,x2,x3,x4,rfl⟩:=hQ1.pt
 have E : Ep [some ⟨5,[c.cells]⟩,some ⟨6,[[.bool false,.ak,.ak,.bool false,.ak,.ak]]⟩] [] [] [] [(0,⟨5,[c.cells]⟩),(1,⟨6,[[.bool false,.ak,.ak,.bool false,.ak,.ak]]⟩)]:=⟨Ox,by simp [aj]⟩
 have E2:=E.got (s1:=[some ⟨5,[c.cells]⟩,some ⟨6,[[.bool false,.ak,.ak,.bool false,.ak,.ak]]⟩] ++ [none]) (fun q hq=>iL hq) (by simp) hQ1 G.nd G.fresh G.old
 have F0:=E.free (s1:=[some ⟨5,[c.cells]⟩,some ⟨6,[[.bool false,.ak,.ak,.bool false,.ak,.ak]]⟩] ++ [none]) (p:=2) G.fresh (by simp) (by simp)
 clear E G
 have E : Ep q1 [.bool (bQ 0).neg,x1,x2,.bool (bQ 0).neg,x3,x4] [.bool (bQ 0).neg,ints (bQ 0).mag,ints (bQ 0).den,.bool (bQ 0).neg,ints (bQ 0).mag,ints (bQ 0).den] _ [(0,⟨5,[c.cells]⟩),(1,⟨6,[[.bool false,.ak,.ak,.bool false,.ak,.ak]]⟩)]:=E2
 clear E2
 replace E:=E.LU (p:=2) (ob:=⟨6,[[.bool (bQ 0).neg,x1,x2,.bool (bQ 0).neg,x3,x4]]⟩) (L':=[(0,⟨5,[c.cells]⟩),(1,⟨6,[[.bool false,.ak,.ak,.bool false,.ak,.ak]]⟩),(2,⟨6,[[.bool (bQ 0).neg,x1,x2,.bool (bQ 0).neg,x3,x4]]⟩)]) F0 (by omega) (by simp)
 have LF:=And.intro (And.intro (E.leaf 1 rfl rfl) (E.leaf 2 rfl rfl)) (And.intro (E.leaf 4 rfl rfl) (E.leaf 5 rfl rfl))
 have L0:=E.at0 (p:=0) (ob:=⟨5,[c.cells]⟩) (by simp)
 have hqe : aj q1 0 = some ⟨5,[c.cells]⟩:=by have:=L0.1;rwa [aB (by omega)] at this
 refine IG @LF @List.set_set.{0} @hqe ?_
 clear LF L0 hqe
 refine aS (fun x d=>(x == 186 && d == 13) || (x == 131 && d == 41) || (x == 131 && d == 57)) (α:=Nat × Store × V × V × V × V × List Nat) (fun q=>⟨dX [.any,Xy at',.any,.any,.ptr 1 0 0,.any,.ptr 2 0 0,.any,.any,.any,.any,.any,.any,.any,.any,Ip c.ps,iv (c.ps.length : Nat),iv (q.1 : Nat)],q.2.1,0,0,[],[]⟩) (fun q=>(q.1 ≤ c.ps.length ∧ ∀ k,k < q.1 → (c.ps.getD k default).node < at'.length) ∧ Ep q.2.1 [.bool (zN c at' q.1).neg,q.2.2.1,q.2.2.2.1,.bool (Ho c at' q.1).neg,q.2.2.2.2.1,q.2.2.2.2.2.1] [.bool (zN c at' q.1).neg,ints (zN c at' q.1).mag,ints (zN c at' q.1).den,.bool (Ho c at' q.1).neg,ints (Ho c at' q.1).mag,ints (Ho c at' q.1).den] q.2.2.2.2.2.2 [(0,⟨5,[c.cells]⟩),(1,⟨6,[[.bool false,.ak,.ak,.bool false,.ak,.ak]]⟩),(2,⟨6,[[.bool (zN c at' q.1).neg,q.2.2.1,q.2.2.2.1,.bool (Ho c at' q.1).neg,q.2.2.2.2.1,q.2.2.2.2.2.1]]⟩)]) (fun q=>c.ps.length - q.1) rfl (0,(q1.set 2 (some ⟨6,[[.bool (bQ 0).neg,x1,x2,.bool (bQ 0).neg,x3,x4]]⟩)),x1,x2,x3,x4,[] ++ o1) ?_ ?_ ?_
 ·exact ⟨⟨by omega,by intro k hk;omega⟩,E⟩
 ·(refine aJ ?_;exact zy)
 ·clear E
  rintro ⟨i,s,x1,x2,x3,x4,os⟩ ⟨⟨hi,hg⟩,E⟩
  dsimp only at hi hg E
  have ex : zN c at' (i + 1) = dZ (zN c at' i) (Yl (c.ps.getD i default) (at'.getD (c.ps.getD i default).node.toNat default).x (c.ps.getD i default).dx):=rfl
  have ey : Ho c at' (i + 1) = dZ (Ho c at' i) (Yl (c.ps.getD i default) (at'.getD (c.ps.getD i default).node.toNat default).y (c.ps.getD i default).dy):=rfl
  have hxc:=aen c at' i
  have hyc:=aeo c at' i
  have hbad:=bad i
  have hpa:=hpa i
  have hfx : i = c.ps.length → zN c at' c.ps.length = zN c at' i:=fun e=>by rw [e]
  have hfy : i = c.ps.length → Ho c at' c.ps.length = Ho c at' i:=fun e=>by rw [e]
  generalize hX : zN c at' i = X at ex hxc hfx E
  generalize hY : Ho c at' i = Y at ey hyc hfy E
  have L1:=E.at0 (p:=1) (ob:=⟨6,[[.bool false,.ak,.ak,.bool false,.ak,.ak]]⟩) (by simp)
  have L2:=E.at0 (p:=2) (ob:=⟨6,[[.bool X.neg,x1,x2,.bool Y.neg,x3,x4]]⟩) (by simp)
  by_cases hc : (i : Int) < (c.ps.length : Nat)
  ·have hil : i < c.ps.length:=by omega
   have hxw:=KY hw.2 hil
   have hbad:=hbad hil
   obtain ⟨hp0,hp1⟩:=hpa hil
   have hgs : (c.ps.getD i default).node < at'.length → ∀ k,k < i + 1 → (c.ps.getD k default).node < at'.length:=fun h k hk=>by
    by_cases e : k = i
    ·subst e;exact h
    ·exact hg k (by omega)
   have hmx : (c.ps.map Pa.cells).getD i [] = (c.ps.getD i default).cells:=mg hil
   generalize c.ps.getD i default = p at ex ey hbad hxw hgs hp0 hp1 hmx
   by_cases hn : p.node < at'.length
   ·have hn1 : ¬ p.node ≥ (at'.length : Nat):=by omega
    have hgs:=hgs hn
    have wp:=KY hp (k:=p.node.toNat) (by omega)
    have g1 : (at'.map Pt.cells).getD p.node.toNat [] = (at'.getD p.node.toNat default).cells:=mg (by omega)
    generalize at'.getD p.node.toNat default = q at ex ey wp g1
    have hsc:=kD hp1
    refine Ue @hc @hmx @L1 @L2 @hn1 @g1 ?_
    refine ah (QT h.qR wp.1 hxw.2.1) ?_
    obtain ⟨pi,hpi⟩ : ∃ pi,s.length = pi:=⟨_,rfl⟩
    obtain ⟨s1,hs1⟩ : ∃ s1,s ++ [some ⟨10,[p.cells]⟩] = s1:=⟨_,rfl⟩
    have E1:=E.push (ob:=⟨10,[p.cells]⟩)
    rw [hs1,hpi] at E1
    have hl1 : s1.length = pi + 1:=by rw [← hs1,← hpi];simp
    have hpi2 : 3 ≤ pi:=by have:=L2.2;omega
    clear E
    simp only [hs1]
    simp only [hpi]
    have MP:=E1.at0 (p:=pi) (ob:=⟨10,[p.cells]⟩) (by simp)
    have M1:=E1.at0 (p:=1) (ob:=⟨6,[[.bool false,.ak,.ak,.bool false,.ak,.ak]]⟩) (by simp)
    have M2:=E1.at0 (p:=2) (ob:=⟨6,[[.bool X.neg,x1,x2,.bool Y.neg,x3,x4]]⟩) (by simp)
    have R:=And.intro (E1.res1 1 rfl rfl (aT _ _)) (E1.res1 2 rfl rfl (aT _ _))
    refine WL @MP @M1 @M2 @g1 @R @aO @dQ ?_
    refine ah (Dp h.iO hsc (nZ _ _)) ?_
    refine WL @MP @M1 @M2 @g1 @R @aO @dQ ?_
    refine KP (fun o=>o ∈ os) (show PO T 131 [aQ X,aQ (Yl p q.x p.dx)] (aQ (dZ X (Yl p q.x p.dx))) from D5 h.bG hxc (aep _ _ _)) (by (refine IG @R @aO @dQ ?_;try with_reducible exact True.intro);rfl) ?_ ?_
    ·intro o ho
     have ho : o ∈ reach s1 (11 + 1) (.agg [.bool X.neg,x1,x2]) ++ (reach s1 FD (aQ (Yl p q.x p.dx)) ++ []):=ho
     rw [show reach s1 FD (aQ (Yl p q.x p.dx)) = [] from by (refine ew ?_;try with_reducible exact True.intro),List.append_nil,List.append_nil] at ho
     obtain ⟨c,hc,ho⟩:=Gs.1 ho
     rcases List.mem_cons.1 hc with e | hc
     ·rw [e] at ho;simp [reach] at ho
     rcases List.mem_cons.1 hc with e | hc
     ·rw [e] at ho;exact E1.reach 1 rfl rfl _ o ho
     ·rw [List.mem_singleton.1 hc] at ho;exact E1.reach 2 rfl rfl _ o ho
    intro Rr r q2 oq2 hRr G
    obtain ⟨_,rfl,hQ⟩:=G.ow.fG
    obtain ⟨y1,y2,rfl⟩:=hQ.rat
    obtain ⟨os2,E0,hos⟩:=Ep.akT (a:=[.bool X.neg,x1,x2]) (b:=[.bool Y.neg,x3,x4]) (ta:=[.bool X.neg,ints X.mag,ints X.den]) (tb:=[.bool Y.neg,ints Y.mag,ints Y.den]) E1 rfl (s1:=s1) (fun q hq=>rfl) (Nat.le_refl _) hQ G.nd G.fresh G.old
    have gl:=G.len
    have n2 : 2 ∉ os2:=fun hm=>by
     rcases hos 2 hm with h | h
     ·exact (E1.l (2,⟨6,[[.bool X.neg,x1,x2,.bool Y.neg,x3,x4]]⟩) (by simp)).2 h
     ·omega
    clear hos hRr G hQ E1 R MP M1 M2
    rw [← ex] at E0
    have E2 : Ep q2 [.bool (zN c at' (i + 1)).neg,y1,y2,.bool Y.neg,x3,x4] [.bool (zN c at' (i + 1)).neg,ints (zN c at' (i + 1)).mag,ints (zN c at' (i + 1)).den,.bool Y.neg,ints Y.mag,ints Y.den] os2 [(0,⟨5,[c.cells]⟩),(1,⟨6,[[.bool false,.ak,.ak,.bool false,.ak,.ak]]⟩),(2,⟨6,[[.bool X.neg,x1,x2,.bool Y.neg,x3,x4]]⟩),(pi,⟨10,[p.cells]⟩)]:=E0
    clear E0
    have MP:=E2.at0 (p:=pi) (ob:=⟨10,[p.cells]⟩) (by simp)
    have M1:=E2.at0 (p:=1) (ob:=⟨6,[[.bool false,.ak,.ak,.bool false,.ak,.ak]]⟩) (by simp)
    have M2:=E2.at0 (p:=2) (ob:=⟨6,[[.bool X.neg,x1,x2,.bool Y.neg,x3,x4]]⟩) (by simp)
    have LF:=And.intro (And.intro (E2.leaf 1 rfl rfl) (E2.leaf 2 rfl rfl)) (And.intro (E2.leaf 4 rfl rfl) (E2.leaf 5 rfl rfl))
    refine ew8 @MP @M1 @M2 @g1 @LF @aO @dQ @List.set_set.{0} ?_
    refine ⟨by unfold lU;rfl,?_⟩
    try rw [← ex]
    obtain ⟨s3,hs⟩ : ∃ s,q2.set 2 (some ⟨6,[[.bool (zN c at' (i + 1)).neg,y1,y2,.bool Y.neg,x3,x4]]⟩) = s:=⟨_,rfl⟩
    have E5:=E2.LU (p:=2) (ob:=⟨6,[[.bool (zN c at' (i + 1)).neg,y1,y2,.bool Y.neg,x3,x4]]⟩) (L':=[(0,⟨5,[c.cells]⟩),(1,⟨6,[[.bool false,.ak,.ak,.bool false,.ak,.ak]]⟩),(2,⟨6,[[.bool (zN c at' (i + 1)).neg,y1,y2,.bool Y.neg,x3,x4]]⟩),(pi,⟨10,[p.cells]⟩)]) n2 M2.2 (by simp;try omega)
    have hl2 : q2.length = s3.length:=by rw [← hs];simp
    rw [hs] at E5
    simp only [hs]
    try simp only [hl2]
    rw [hl2] at gl
    clear E2 MP M1 M2 LF hs hl2 n2
    have MP:=E5.at0 (p:=pi) (ob:=⟨10,[p.cells]⟩) (by simp)
    have M1:=E5.at0 (p:=1) (ob:=⟨6,[[.bool false,.ak,.ak,.bool false,.ak,.ak]]⟩) (by simp)
    have M2:=E5.at0 (p:=2) (ob:=⟨6,[[.bool (zN c at' (i + 1)).neg,y1,y2,.bool Y.neg,x3,x4]]⟩) (by simp)
    have R:=And.intro (E5.res1 4 rfl rfl (aT _ _)) (E5.res1 5 rfl rfl (aT _ _))
    refine ah (QT h.qR wp.2 hxw.2.2) ?_
    refine WL @MP @M1 @M2 @g1 @R @aO @dQ ?_
    refine ah (Dp h.iO hsc (nZ _ _)) ?_
    refine WL @MP @M1 @M2 @g1 @R @aO @dQ ?_
    refine KP (fun o=>o ∈ os2) (show PO T 131 [aQ Y,aQ (Yl p q.y p.dy)] (aQ (dZ Y (Yl p q.y p.dy))) from D5 h.bG hyc (aep _ _ _)) (by (refine IG @R @aO @dQ ?_;try with_reducible exact True.intro);rfl) ?_ ?_
    ·intro o ho
     have ho : o ∈ reach s3 (11 + 1) (.agg [.bool Y.neg,x3,x4]) ++ (reach s3 FD (aQ (Yl p q.y p.dy)) ++ []):=ho
     rw [show reach s3 FD (aQ (Yl p q.y p.dy)) = [] from by (refine ew ?_;try with_reducible exact True.intro),List.append_nil,List.append_nil] at ho
     obtain ⟨c,hc,ho⟩:=Gs.1 ho
     rcases List.mem_cons.1 hc with e | hc
     ·rw [e] at ho;simp [reach] at ho
     rcases List.mem_cons.1 hc with e | hc
     ·rw [e] at ho;exact E5.reach 4 rfl rfl _ o ho
     ·rw [List.mem_singleton.1 hc] at ho;exact E5.reach 5 rfl rfl _ o ho
    intro Rr r q4 oq4 hRr G
    obtain ⟨_,rfl,hQ⟩:=G.ow.fG
    obtain ⟨y3,y4,rfl⟩:=hQ.rat
    obtain ⟨os4,E0,hos⟩:=Ep.akU (a:=[.bool (zN c at' (i + 1)).neg,y1,y2]) (b:=[.bool Y.neg,x3,x4]) (ta:=[.bool (zN c at' (i + 1)).neg,ints (zN c at' (i + 1)).mag,ints (zN c at' (i + 1)).den]) (tb:=[.bool Y.neg,ints Y.mag,ints Y.den]) E5 rfl (s1:=s3) (fun q hq=>rfl) (Nat.le_refl _) hQ G.nd G.fresh G.old
    have gl:=G.len
    have n2 : 2 ∉ os4:=fun hm=>by
     rcases hos 2 hm with h | h
     ·exact (E5.l (2,⟨6,[[.bool (zN c at' (i + 1)).neg,y1,y2,.bool Y.neg,x3,x4]]⟩) (by simp)).2 h
     ·omega
    clear hos hRr G hQ E5 R MP M1 M2
    rw [← ey] at E0
    have E4 : Ep q4 [.bool (zN c at' (i + 1)).neg,y1,y2,.bool (Ho c at' (i + 1)).neg,y3,y4] [.bool (zN c at' (i + 1)).neg,ints (zN c at' (i + 1)).mag,ints (zN c at' (i + 1)).den,.bool (Ho c at' (i + 1)).neg,ints (Ho c at' (i + 1)).mag,ints (Ho c at' (i + 1)).den] os4 [(0,⟨5,[c.cells]⟩),(1,⟨6,[[.bool false,.ak,.ak,.bool false,.ak,.ak]]⟩),(2,⟨6,[[.bool (zN c at' (i + 1)).neg,y1,y2,.bool Y.neg,x3,x4]]⟩),(pi,⟨10,[p.cells]⟩)]:=E0
    clear E0
    have MP:=E4.at0 (p:=pi) (ob:=⟨10,[p.cells]⟩) (by simp)
    have M1:=E4.at0 (p:=1) (ob:=⟨6,[[.bool false,.ak,.ak,.bool false,.ak,.ak]]⟩) (by simp)
    have M2:=E4.at0 (p:=2) (ob:=⟨6,[[.bool (zN c at' (i + 1)).neg,y1,y2,.bool Y.neg,x3,x4]]⟩) (by simp)
    have LF:=And.intro (And.intro (E4.leaf 1 rfl rfl) (E4.leaf 2 rfl rfl)) (And.intro (E4.leaf 4 rfl rfl) (E4.leaf 5 rfl rfl))
    refine ew8 @MP @M1 @M2 @g1 @LF @aO @dQ @List.set_set.{0} ?_
    refine ⟨by unfold lU;rfl,?_⟩
    try rw [← ey]
    obtain ⟨s5,hs⟩ : ∃ s,q4.set 2 (some ⟨6,[[.bool (zN c at' (i + 1)).neg,y1,y2,.bool (Ho c at' (i + 1)).neg,y3,y4]]⟩) = s:=⟨_,rfl⟩
    have E5:=E4.LU (p:=2) (ob:=⟨6,[[.bool (zN c at' (i + 1)).neg,y1,y2,.bool (Ho c at' (i + 1)).neg,y3,y4]]⟩) (L':=[(0,⟨5,[c.cells]⟩),(1,⟨6,[[.bool false,.ak,.ak,.bool false,.ak,.ak]]⟩),(2,⟨6,[[.bool (zN c at' (i + 1)).neg,y1,y2,.bool (Ho c at' (i + 1)).neg,y3,y4]]⟩),(pi,⟨10,[p.cells]⟩)]) n2 M2.2 (by simp;try omega)
    have hl2 : q4.length = s5.length:=by rw [← hs];simp
    rw [hs] at E5
    simp only [hs]
    try simp only [hl2]
    rw [hl2] at gl
    clear E4 MP M1 M2 LF hs hl2 n2
    refine ⟨(i + 1,s5,y1,y2,y3,y4,os4),by dsimp only;omega,⟨⟨by dsimp only;omega,hgs⟩,E5.sub (by intro q hq;simp only [List.mem_cons,List.not_mem_nil,or_false] at hq ⊢;rcases hq with h | h | h <;> simp [h])⟩,?_⟩
    dsimp only
    (refine aJ ?_;exact zy)
   ·have hn1 : p.node ≥ (at'.length : Nat):=by omega
    refine JZ @hc @hmx @L1 @L2 @hn1 ?_
    exact hbad hn _
  ·have hie : i = c.ps.length:=by omega
   have hG:=V4 (c:=c) (n:=at'.length) fun k hk=>hg k (by omega)
   have e1 : GX c at' = ((zN c at' c.ps.length).ok && (Ho c at' c.ps.length).ok):=by unfold GX;rw [hb,hG,Bool.true_and,Bool.true_and]
   unfold PK
   rw [e1,hfx hie,hfy hie]
   have c1:=SN h.aK hxc
   have c2:=SN h.aK hyc
   have LF:=And.intro (And.intro (E.leaf 1 rfl rfl) (E.leaf 2 rfl rfl)) (And.intro (E.leaf 4 rfl rfl) (E.leaf 5 rfl rfl))
   have R:=And.intro (And.intro (E.res1 1 rfl rfl (aT _ _)) (E.res1 2 rfl rfl (aT _ _))) (And.intro (E.res1 4 rfl rfl (aT _ _)) (E.res1 5 rfl rfl (aT _ _)))
   refine Ue @hc @L1 @L2 @R @aO @dQ ?_
   refine ah c1 ?_
   cases h1 : X.ok
   ·refine IG @L1 @L2 @LF ?_
    exact ZG.S9
   ·refine JZ @L1 @L2 @R @aO @dQ ?_
    refine ah c2 ?_
    cases h2 : Y.ok
    ·refine IG @L1 @L2 @LF ?_
     exact ZG.S9
    ·refine IG @L1 @L2 @LF ?_
     have n1:=(E.l (1,⟨6,[[.bool false,.ak,.ak,.bool false,.ak,.ak]]⟩) (by simp)).2
     have C:=E.c.set (o:=1) (x:=some ⟨6,[[.bool X.neg,x1,x2,.bool Y.neg,x3,x4]]⟩) n1
     have hf : Fin (s.set 1 (some ⟨6,[[.bool X.neg,x1,x2,.bool Y.neg,x3,x4]]⟩)) (.agg [.bool X.neg,x1,x2,.bool Y.neg,x3,x4]) (ptV ⟨X,Y⟩):=oU (uJ C.ow) C.nd
     exact hf.S9
end Go.Ml
end
section
namespace Go.Ml
section
variable {s s1 S σ2 : Store} {a b c ta tb tc rs XT cs ts : List V} {os os2 : List Nat} {L L' : List (Nat × Obj)}
theorem Ep.to (E : Ep s cs ts os L) (ho : ∀ o ∈ os,aj S o = aj s o) (hL : ∀ q ∈ L',(q ∈ L ∧ aj S q.1 = aj s q.1) ∨ (aj S q.1 = some q.2 ∧ q.1 ∉ os)) : Ep S cs ts os L':=by
 refine ⟨E.c.frame ho,fun q hq=>?_⟩
 rcases hL q hq with ⟨h1,h2⟩ | h
 ·exact ⟨h2.trans (E.l q h1).1,(E.l q h1).2⟩
 ·exact h
theorem Ep.aez (E : Ep s cs ts os L) : ∀ o ∈ os,o < s.length:=fun o h=>E.c.lt o h
theorem Ep.akV (E : Ep s (a ++ (b ++ c)) (ta ++ (tb ++ tc)) os L) (hla : a.length = ta.length) (hlb : b.length = tb.length) (h1 : ∀ o,o < s.length → aj s1 o = aj s o) (hl : s.length ≤ s1.length) (ho : bT σ2 rs XT os2) (hn : os2.Nodup) (hf : ∀ o ∈ os2,s1.length ≤ o)
  (old : ∀ o,o < s1.length → aj σ2 o = aj s1 o) : ∃ os',Ep σ2 (a ++ (rs ++ c)) (ta ++ (XT ++ tc)) os' L ∧ ∀ o ∈ os',o ∈ os ∨ s1.length ≤ o:=by
 obtain ⟨a1,a2,oa,obc,e,rfl,k1,k2⟩:=jc E.c.ow
 obtain ⟨rfl,rfl⟩:=List.append_inj e (by rw [hla];exact k1.len.symm)
 obtain ⟨b1,b2,ob,oc,e,rfl,k3,k4⟩:=jc k2
 obtain ⟨rfl,rfl⟩:=List.append_inj e (by rw [hlb];exact k3.len.symm)
 have hlt:=fun o (h : o ∈ oa ++ (ob ++ oc))=>E.c.lt o h
 have nd:=List.nodup_append.1 E.c.nd
 have nd2:=List.nodup_append.1 nd.2.1
 have fr : ∀ o ∈ oa ++ (ob ++ oc),aj σ2 o = aj s o:=fun o h=>by
  have:=hlt o h
  rw [old o (by omega),h1 o this]
 refine ⟨oa ++ (os2 ++ oc),⟨⟨dU (k1.frame fun o h=>fr o (by simp [h])) (dU ho (k4.frame fun o h=>fr o (by simp [h]))),?_⟩,fun q hq=>⟨(old _ (Nat.lt_of_lt_of_le (E.lt q hq) hl)).trans ((h1 _ (E.lt q hq)).trans (E.l q hq).1),fun hm=>?_⟩⟩,fun o h=>?_⟩
 ·rw [List.nodup_append,List.nodup_append]
  refine ⟨nd.1,⟨hn,nd2.2.1,fun x hx y hy e=>?_⟩,fun x hx y hy e=>?_⟩
  ·have:=hf x hx
   have:=hlt y (by simp [hy])
   omega
  ·rcases List.mem_append.1 hy with hy | hy
   ·have:=hf y hy
    have:=hlt x (by simp [hx])
    omega
   ·exact nd.2.2 x hx y (List.mem_append_right _ hy) e
 ·simp only [List.mem_append] at hm
  rcases hm with hm | hm | hm
  ·exact (E.l q hq).2 (by simp [hm])
  ·have:=hf _ hm;have:=E.lt q hq;omega
  ·exact (E.l q hq).2 (by simp [hm])
 ·simp only [List.mem_append] at h
  rcases h with h | h | h
  ·exact .inl (by simp [h])
  ·exact .inr (hf o h)
  ·exact .inl (by simp [h])
theorem Ep.upd {p : Nat} {ob ob0 : Obj} (E : Ep s (a ++ (b ++ c)) (ta ++ (tb ++ tc)) os L) (hp : (p,ob0) ∈ L) (hla : a.length = ta.length) (hlb : b.length = tb.length) (h1 : ∀ o,o < s.length → aj s1 o = aj s o) (hl : s.length ≤ s1.length) (ho : bT σ2 rs XT os2) (hn : os2.Nodup) (hf : ∀ o ∈ os2,s1.length ≤ o)
  (old : ∀ o,o < s1.length → aj σ2 o = aj s1 o) (hL : ∀ q ∈ L',(q.1 ≠ p ∧ q ∈ L) ∨ q = (p,ob)) (hs : s1.length ≤ σ2.length) : ∃ os',Ep (σ2.set p (some ob)) (a ++ (rs ++ c)) (ta ++ (XT ++ tc)) os' L':=by
 obtain ⟨os',E2,_⟩:=E.akV hla hlb h1 hl ho hn hf old
 have hpl:=E.lt _ hp
 exact ⟨os',E2.LU (E2.l _ hp).2 (by dsimp only at hpl;omega) hL⟩
theorem Ep.cut (E : Ep s (a ++ (b ++ c)) (ta ++ (tb ++ tc)) os L) (hla : a.length = ta.length) (hlb : b.length = tb.length) : ∃ os',Ep s (a ++ c) (ta ++ tc) os' L ∧ ∀ o ∈ os',o ∈ os:=by
 obtain ⟨a1,a2,oa,obc,e,rfl,k1,k2⟩:=jc E.c.ow
 obtain ⟨rfl,rfl⟩:=List.append_inj e (by rw [hla];exact k1.len.symm)
 obtain ⟨b1,b2,ob,oc,e,rfl,k3,k4⟩:=jc k2
 obtain ⟨rfl,rfl⟩:=List.append_inj e (by rw [hlb];exact k3.len.symm)
 have nd:=List.nodup_append.1 E.c.nd
 have nd2:=List.nodup_append.1 nd.2.1
 refine ⟨oa ++ oc,⟨⟨dU k1 k4,?_⟩,fun q hq=>⟨(E.l q hq).1,fun hm=>(E.l q hq).2 ?_⟩⟩,fun o h=>?_⟩
 ·rw [List.nodup_append]
  exact ⟨nd.1,nd2.2.1,fun x hx y hy e=>nd.2.2 x hx y (List.mem_append_right _ hy) e⟩
 ·rcases List.mem_append.1 hm with h | h <;> simp [h]
 ·rcases List.mem_append.1 h with h | h <;> simp [h]
theorem Ep.swap (E : Ep s (a ++ (b ++ c)) (ta ++ (tb ++ tc)) os L) (hla : a.length = ta.length) (hlb : b.length = tb.length) : ∃ os',Ep s (b ++ (a ++ c)) (tb ++ (ta ++ tc)) os' L ∧ ∀ o,o ∈ os' ↔ o ∈ os:=by
 obtain ⟨a1,a2,oa,obc,e,rfl,k1,k2⟩:=jc E.c.ow
 obtain ⟨rfl,rfl⟩:=List.append_inj e (by rw [hla];exact k1.len.symm)
 obtain ⟨b1,b2,ob,oc,e,rfl,k3,k4⟩:=jc k2
 obtain ⟨rfl,rfl⟩:=List.append_inj e (by rw [hlb];exact k3.len.symm)
 have nd:=List.nodup_append.1 E.c.nd
 have nd2:=List.nodup_append.1 nd.2.1
 have hm : ∀ o,o ∈ ob ++ (oa ++ oc) ↔ o ∈ oa ++ (ob ++ oc):=fun o=>by simp only [List.mem_append];constructor <;> rintro (h | h | h) <;> simp [h]
 refine ⟨ob ++ (oa ++ oc),⟨⟨dU k3 (dU k1 k4),?_⟩,fun q hq=>⟨(E.l q hq).1,fun h=>(E.l q hq).2 ((hm _).1 h)⟩⟩,hm⟩
 rw [List.nodup_append,List.nodup_append]
 refine ⟨nd2.1,⟨nd.1,nd2.2.1,fun x hx y hy e=>nd.2.2 x hx y (List.mem_append_right _ hy) e⟩,fun x hx y hy e=>?_⟩
 rcases List.mem_append.1 hy with hy | hy
 ·exact nd.2.2 y hy x (List.mem_append_left _ hx) e.symm
 ·exact nd2.2.2 x hx y hy e
end
theorem V8 {σ : Store} {k : Nat} : ∀ {A T : List (List V)} {os : List Nat},(∀ r ∈ A,r.length = k) → (∀ r ∈ T,r.length = k) → A.length = T.length → bT σ A.flatten T.flatten os → jV σ A T os
 |
  [],[],os,_,_,_,h=>by
  simp only [List.flatten_nil,bT] at h
  simp only [jV];exact h
 | [],t :: T,_,_,_,h,_=>by simp at h
 | a :: A,[],_,_,_,h,_=>by simp at h
 |
  a :: A,t :: T,os,ha,ht,hl,h=>by
  simp only [List.flatten_cons] at h
  obtain ⟨v1,v2,o1,o2,e,rfl,h1,h2⟩:=jc h
  have hlen:=h1.len
  have e1:=ha a (by simp)
  have e2:=ht t (by simp)
  obtain ⟨rfl,rfl⟩:=List.append_inj e (by omega)
  simp only [jV]
  exact ⟨a,A,o1,o2,rfl,rfl,h1,V8 (fun r hr=>ha r (by simp [hr])) (fun r hr=>ht r (by simp [hr])) (by simpa using hl) h2⟩
section
variable {s : Store} {A T : List (List V)} {a c ta tc : List V} {os : List Nat} {L : List (Nat × Obj)} {n p k : Nat}
theorem Ep.close (E : Ep s (A.flatten ++ c) (T.flatten ++ tc) os L) (hp : (p,⟨n,A⟩) ∈ L) (ha : ∀ r ∈ A,r.length = k) (ht : ∀ r ∈ T,r.length = k) (hl : A.length = T.length) :
  ∃ os',Ep s (.bF p 0 A.length :: c) (.sl n T :: tc) os' (L.filter fun q=>q.1 != p):=by
 have hfl : A.flatten.length = T.flatten.length:=by
  have e1 : ∀ (X : List (List V)),(∀ r ∈ X,r.length = k) → X.flatten.length = X.length * k:=fun X=>by
   induction X with
   | nil=>intro _;simp
   |
    cons x X ih =>
    intro h
    rw [List.flatten_cons,List.length_append,ih fun r hr=>h r (by simp [hr]),h x (by simp),List.length_cons,Nat.succ_mul]
    omega
  rw [e1 A ha,e1 T ht,hl]
 obtain ⟨v1,v2,o1,o2,e,rfl,h1,h2⟩:=jc E.c.ow
 obtain ⟨rfl,rfl⟩:=List.append_inj e (by rw [hfl];exact h1.len.symm)
 have hR:=V8 ha ht hl h1
 have hpo:=E.l _ hp
 have nd:=List.nodup_append.1 E.c.nd
 have hv : bI s (.bF p 0 A.length) (.sl n T) (p :: o1):=by
  simp only [bI]
  exact .inr ⟨p,A,o1,by rw [hl],hpo.1,rfl,hR⟩
 refine ⟨(p :: o1) ++ o2,⟨⟨tY hv h2,?_⟩,fun q hq=>?_⟩⟩
 ·simp only [List.cons_append,List.nodup_cons]
  exact ⟨hpo.2,E.c.nd⟩
 ·obtain ⟨hq1,hq2⟩:=List.mem_filter.1 hq
  have hne : q.1 ≠ p:=by simpa using hq2
  refine ⟨(E.l q hq1).1,fun hm=>?_⟩
  simp only [List.cons_append,List.mem_cons] at hm
  rcases hm with hm | hm
  ·exact hne hm
  ·exact (E.l q hq1).2 hm
end
end Go.Ml
end
section
namespace Go.Ml
def Rd2 (s : Store) (v w : V) (X Y : List R) : Prop :=
 (X = [] ∧ Y = [] ∧ v = .ak ∧ w = .ak) ∨ ∃ p q,p ≠ q ∧ v = .bF p 0 X.length ∧ w = .bF q 0 Y.length ∧ aj s p = some ⟨3,X.map R.cells⟩ ∧ aj s q = some ⟨3,Y.map R.cells⟩
theorem Rd2.fr {s s2 : Store} {v w : V} {X Y : List R} (h : Rd2 s v w X Y) (hf : ∀ p,p < s.length → aj s2 p = aj s p) : Rd2 s2 v w X Y:=by
 rcases h with h | ⟨p,q,h1,h2,h3,h4,h5⟩
 ·exact .inl h
 ·exact .inr ⟨p,q,h1,h2,h3,(hf p (aG h4)).trans h4,(hf q (aG h5)).trans h5⟩
def LAt (n : Nat) (v : V) (A : List (List V)) (M : List (Nat × Obj)) : Prop:=(A = [] ∧ v = .ak ∧ M = []) ∨ ∃ p,v = .bF p 0 A.length ∧ M = [(p,⟨n,A⟩)]
def aeA (x : Nat × List R) : List V:=[.bF x.1 0 x.2.length]
def Yp (s : Store) (v : V) (Z : List (Nat × List R)) : Prop:=((Z = [] ∧ v = .ak) ∨ ∃ q,v = .bF q 0 Z.length ∧ aj s q = some ⟨1,Z.map aeA⟩) ∧ ∀ x ∈ Z,aj s x.1 = some ⟨3,x.2.map R.cells⟩
theorem Yp.fr {s s2 : Store} {v : V} {Z : List (Nat × List R)} (h : Yp s v Z) (hf : ∀ p,p < s.length → aj s2 p = aj s p) : Yp s2 v Z :=
 ⟨h.1.imp id fun ⟨q,e,hq⟩=>⟨q,e,(hf q (aG hq)).trans hq⟩,fun x hx=>(hf _ (aG (h.2 x hx))).trans (h.2 x hx)⟩
theorem Yp.map {s : Store} {m : Nat} : ∀ {Z : List (Nat × List R)},(∀ x ∈ Z,aj s x.1 = some ⟨3,x.2.map R.cells⟩) → ((Z.map aeA).mapM fun r=>r.mapM (resolve s (m + 2))) = some ((Z.map (·.2)).map fun r=>[Ap r])
 | [],_=>rfl
 |
  x :: Z,h=>by
  have hx:=h x (by simp)
  have e : resolve s (m + 2) (.bF x.1 0 x.2.length) = some (Ap x.2):=by
   have h2:=aaB x.2
   unfold resolve
   simp only [hx]
   rw [if_pos (by simp),List.drop_zero,List.take_of_length_le (by simp),tK (n:=m) h2]
   rfl
  have ih:=Yp.map (m:=m) (Z:=Z) fun y hy=>h y (by simp [hy])
  rw [List.map_cons,List.mapM_cons,ih]
  have : (aeA x).mapM (resolve s (m + 2)) = some [Ap x.2]:=by
   unfold aeA
   rw [List.mapM_cons,e]
   rfl
  rw [this]
  rfl
theorem Yp.res {s : Store} {q : Nat} {Z : List (Nat × List R)} (h : ∀ x ∈ Z,aj s x.1 = some ⟨3,x.2.map R.cells⟩) (hq : aj s q = some ⟨1,Z.map aeA⟩) : resolve s FD (.bF q 0 Z.length) = some (Ir (Z.map (·.2))):=by
 show resolve s (9 + 2 + 1) _ = _
 unfold resolve
 simp only [hq]
 rw [if_pos (by simp),List.drop_zero,List.take_of_length_le (by simp),Yp.map h]
 rfl
def akW (s : Store) (n0 : Nat) (v : V) (L : List R) : Prop:=(L = [] ∧ v = .ak) ∨ ∃ p,v = .bF p 0 L.length ∧ n0 ≤ p ∧ aj s p = some ⟨3,L.map R.cells⟩
theorem akW.fr {s s2 : Store} {v : V} {n0 : Nat} {L : List R} (h : akW s n0 v L) (hf : ∀ p,p < s.length → aj s2 p = aj s p) : akW s2 n0 v L :=
 h.imp id fun ⟨q,e,hn,hq⟩=>⟨q,e,hn,(hf q (aG hq)).trans hq⟩
def LnA (s : Store) (v : V) (L : List Lk) : Prop:=(L = [] ∧ v = .ak) ∨ ∃ p,v = .bF p 0 L.length ∧ aj s p = some ⟨11,L.map Lk.cells⟩
theorem LnA.fr {s s2 : Store} {v : V} {L : List Lk} (h : LnA s v L) (hf : ∀ p,p < s.length → aj s2 p = aj s p) : LnA s2 v L :=
 h.imp id fun ⟨q,e,hq⟩=>⟨q,e,(hf q (aG hq)).trans hq⟩
abbrev MF:=Nat → List R
def elF (M : MF) (i j : Nat) : R:=(M i).getD j default
def rrP (M : MF) (k : Nat) : Nat → Nat → Nat
 | 0,p=>p
 | f + 1,p=>if tZ (elF M p k) = 0 then rrP M k f (p + 1) else p
def ahL (n : Nat) (M : MF) (k : Nat) : Nat:=rrP M k (n - k) k
def FY (M : MF) (k p : Nat) : MF:=fun i=>if i = p then M k else if i = k then M p else M i
def ZH (r : List R) (k : Nat) : List R:=r.map fun x=>wI x (r.getD k default)
def ZI (r b : List R) (f : R) : List R:=(List.range r.length).map fun j=>iC (r.getD j default) (mulR (b.getD j default) f)
def aeB (n : Nat) (M : MF) (k : Nat) : MF:=FY M k (ahL n M k)
def ZJ (n : Nat) (M : MF) (k : Nat) : MF:=fun i=>if i = k then ZH (aeB n M k k) k else aeB n M k i
def ZK (M : MF) (k : Nat) : MF:=fun i=>if i = k then M k else ZI (M i) (M k) (elF M i k)
def aoA (n : Nat) (M : MF) : Bool:=allB n fun i=>(M i).all R.ok
def aeC (n : Nat) (M : MF) (k : Nat) : Option MF :=
 if (decide (ahL n M k < n) && aoA n (ZK (ZJ n M k) k)) = true then some (ZK (ZJ n M k) k) else none
def V9 (n c : Nat) (M : MF) : Prop:=∀ i,i < n → (M i).length = c ∧ ∀ x ∈ M i,x.cn
theorem V9.el {n c : Nat} {M : MF} (h : V9 n c M) {i j : Nat} (hi : i < n) (hj : j < c) : (elF M i j).cn:=(h i hi).2 _ (getD_mem (by rw [(h i hi).1];exact hj))
theorem abg (r : List R) (k : Nat) : (ZH r k).length = r.length:=by unfold ZH;simp
theorem abh (r b : List R) (f : R) : (ZI r b f).length = r.length:=by unfold ZI;simp
theorem aeD (r : List R) (k : Nat) : ∀ x ∈ ZH r k,x.cn:=fun x hx=>by
 obtain ⟨y,_,rfl⟩:=List.mem_map.1 hx;exact DX _ _
theorem aeE (r b : List R) (f : R) : ∀ x ∈ ZI r b f,x.cn:=fun x hx=>by
 obtain ⟨y,_,rfl⟩:=List.mem_map.1 hx;exact MS _ _
theorem V9.swap {n c : Nat} {M : MF} (h : V9 n c M) {k p : Nat} (hk : k < n) (hp : p < n) : V9 n c (FY M k p):=fun i hi=>by
 unfold FY
 split
 ·exact h k hk
 ·split
  ·exact h p hp
  ·exact h i hi
theorem V9.one {n c : Nat} {M : MF} (h : V9 n c M) {k : Nat} (hk : k < n) (hp : ahL n M k < n) : V9 n c (aeB n M k):=h.swap hk hp
theorem V9.two {n c : Nat} {M : MF} (h : V9 n c M) {k : Nat} (hk : k < n) (hp : ahL n M k < n) : V9 n c (ZJ n M k):=fun i hi=>by
 unfold ZJ
 split
 ·exact ⟨by rw [abg];exact (h.one hk hp k hk).1,aeD _ _⟩
 ·exact h.one hk hp i hi
theorem V9.tri {n c : Nat} {M : MF} (h : V9 n c M) {k : Nat} (hk : k < n) : V9 n c (ZK M k):=fun i hi=>by
 unfold ZK
 split
 ·exact h k hk
 ·exact ⟨by rw [abh];exact (h i hi).1,aeE _ _ _⟩
theorem V9.step {n c : Nat} {M M' : MF} (h : V9 n c M) {k : Nat} (hk : k < n) (e : aeC n M k = some M') : V9 n c M':=by
 unfold aeC at e
 split at e
 ·rename_i hc
  simp only [Bool.and_eq_true,decide_eq_true_eq] at hc
  cases e
  exact (h.two hk hc.1).tri hk
 ·cases e
def IZ {α : Type} (a b : List α) (j : Nat) : List α:=a.take j ++ b.drop j
theorem akY {α : Type} (a b : List α) : IZ a b 0 = b:=by simp [IZ]
theorem aeF {α : Type} (a b : List α) (h : b.length ≤ a.length) (h2 : a.length ≤ b.length) : IZ a b b.length = a:=by
 unfold IZ;rw [List.drop_length,List.append_nil,List.take_of_length_le h2]
theorem aeG {α : Type} {a b : List α} {j : Nat} (h : a.length = b.length) : (IZ a b j).length = b.length:=by simp [IZ];omega
theorem aeH {α : Type} {a b : List α} {j : Nat} {x d : α} (h : a.length = b.length) (hj : j < b.length) (hx : a.getD j d = x) : (IZ a b j).set j x = IZ a b (j + 1):=by
 have e : (a.take j).length = j:=by simp;omega
 have hja : j < a.length:=by omega
 unfold IZ
 rw [List.set_append_right _ _ (by omega),e,Nat.sub_self,List.drop_eq_getElem_cons hj,List.set_cons_zero]
 have e2 : a.take (j + 1) = a.take j ++ [a[j]]:=by rw [List.take_add_one,List.getElem?_eq_getElem hja];rfl
 have e3 : x = a[j]:=by rw [← hx,List.getD_eq_getElem?_getD,List.getElem?_eq_getElem hja];rfl
 rw [e2,List.append_assoc,e3];rfl
def sZ (s : Store) (v : V) (l : List Int) : Prop:=v = ints l ∨ ∃ o,v = .bF o 0 l.length ∧ aj s o = some ⟨1,aH l⟩
def zx (s : Store) (c : List V) (x : R) : Prop:=∃ v1 v2,c = [.bool x.neg,v1,v2] ∧ sZ s v1 x.mag ∧ sZ s v2 x.den
def Dt (s : Store) (A : List (List V)) (r : List R) : Prop:=A.length = r.length ∧ ∀ j,j < r.length → zx s (A.getD j []) (r.getD j default)
def Kp (s s2 : Store) : Prop:=∀ o l,aj s o = some ⟨1,aH l⟩ → aj s2 o = aj s o
theorem Kp.refl (s : Store) : Kp s s:=fun _ _ _=>rfl
theorem Kp.trans {a b c : Store} (h : Kp a b) (k : Kp b c) : Kp a c:=fun o l e=>(k o l ((h o l e).trans e)).trans (h o l e)
theorem Kp.old {s s2 : Store} (h : ∀ o,o < s.length → aj s2 o = aj s o) : Kp s s2:=fun o l e=>h o (aG e)
theorem sZ.fr {s s2 : Store} {v : V} {l : List Int} (h : sZ s v l) (k : Kp s s2) : sZ s2 v l:=h.imp id fun ⟨o,e,ho⟩=>⟨o,e,(k o l ho).trans ho⟩
theorem zx.fr {s s2 : Store} {c : List V} {x : R} (h : zx s c x) (k : Kp s s2) : zx s2 c x:=by
 obtain ⟨v1,v2,e,h1,h2⟩:=h;exact ⟨v1,v2,e,h1.fr k,h2.fr k⟩
theorem Dt.fr {s s2 : Store} {A : List (List V)} {r : List R} (h : Dt s A r) (k : Kp s s2) : Dt s2 A r:=⟨h.1,fun j hj=>(h.2 j hj).fr k⟩
theorem sZ.leaf {s : Store} {v : V} {l : List Int} (h : sZ s v l) : v.leaf = true:=by
 rcases h with rfl | ⟨o,rfl,_⟩ <;> rfl
theorem sZ.res {s : Store} {v : V} {l : List Int} (h : sZ s v l) (n : Nat) : resolve s (n + 3) v = some (ints l):=by
 rcases h with rfl | ⟨o,rfl,ho⟩
 ·rfl
 ·have:=JH (n:=n + 1) ho (l9 l)
  rwa [yV] at this
theorem Wh {s : Store} (l : List Int) : sZ s (ints l) l:=.inl rfl
theorem aeI {s : Store} (x : R) : zx s x.cells x:=⟨_,_,rfl,Wh _,Wh _⟩
theorem ahM {s : Store} (r : List R) : Dt s (r.map R.cells) r:=⟨by simp,fun j hj=>by rw [mg hj];exact aeI _⟩
theorem zx.mm {s : Store} {c : List V} {x : R} (h : zx s c x) (n : Nat) : c.mapM (resolve s (n + 3)) = some x.cells:=by
 obtain ⟨v1,v2,rfl,h1,h2⟩:=h
 simp only [List.mapM_cons,List.mapM_nil,h1.res,h2.res]
 rfl
theorem zx.res {s : Store} {c : List V} {x : R} (h : zx s c x) : resolve s FD (.agg c) = some (aQ x):=by
 show resolve s (8 + 3 + 1) _ = _
 rw [resolve,h.mm 8];rfl
theorem Dt.mm {s : Store} {A : List (List V)} {r : List R} (h : Dt s A r) (n : Nat) : (A.mapM fun (c : List V)=>c.mapM (resolve s (n + 3))) = some (r.map R.cells):=by
 obtain ⟨hl,h⟩:=h
 induction r generalizing A with
 |
  nil =>
  have : A = []:=List.eq_nil_of_length_eq_zero hl
  subst this;rfl
 |
  cons x r ih =>
  rcases A with _ | ⟨a,A⟩
  ·simp at hl
  have h0:=h 0 (by simp)
  simp only [List.getD_cons_zero] at h0
  rw [List.mapM_cons,h0.mm n,ih (by simpa using hl) fun j hj=>by simpa using h (j + 1) (by simpa using hj)]
  rfl
theorem Dt.ahN {s : Store} {A : List (List V)} {r : List R} {p : Nat} (h : Dt s A r) (hp : aj s p = some ⟨3,A⟩) (n : Nat) : resolve s (n + 4) (.bF p 0 r.length) = some (Ap r):=by
 rw [resolve]
 simp only [hp]
 rw [if_pos (by rw [h.1];omega),List.drop_zero,List.take_of_length_le (by rw [h.1];omega),h.mm n];rfl
theorem Dt.res {s : Store} {A : List (List V)} {r : List R} {p : Nat} (h : Dt s A r) (hp : aj s p = some ⟨3,A⟩) : resolve s FD (.bF p 0 r.length) = some (Ap r):=h.ahN hp 8
theorem ZL {s : Store} {v : V} {l : List Int} {os : List Nat} (h : bI s v (ints l) os) : sZ s v l ∧ ∀ o ∈ os,∃ l,aj s o = some ⟨1,aH l⟩:=by
 rcases h.yN with ⟨rfl,rfl,rfl⟩ | ⟨o,rfl,ho,rfl⟩
 ·exact ⟨.inl rfl,by simp⟩
 ·exact ⟨.inr ⟨o,rfl,ho⟩,fun q hq=>by rw [List.mem_singleton.1 hq];exact ⟨_,ho⟩⟩
theorem ahO {s : Store} {c : List V} {x : R} {os : List Nat} (h : bT s c x.cells os) : zx s c x ∧ ∀ o ∈ os,∃ l,aj s o = some ⟨1,aH l⟩:=by
 obtain ⟨cs,rfl,b⟩:=h.lG
 obtain ⟨v1,cs,o1,o2,rfl,rfl,c,d⟩:=b.inv
 obtain ⟨v2,cs,o3,o4,rfl,rfl,e,f⟩:=d.inv
 obtain ⟨rfl,rfl⟩:=f.zJ
 have k1:=ZL c
 have k2:=ZL e
 refine ⟨⟨v1,v2,rfl,k1.1,k2.1⟩,fun o ho=>?_⟩
 rcases List.mem_append.1 ho with ho | ho
 ·exact k1.2 o ho
 ·exact k2.2 o (by simpa using ho)
theorem TR {s : Store} : ∀ {r : List R} {A : List (List V)} {os : List Nat},jV s A (r.map R.cells) os → Dt s A r ∧ ∀ o ∈ os,∃ l,aj s o = some ⟨1,aH l⟩
 |
  [],A,os,h=>by
  simp only [List.map_nil,jV] at h
  obtain ⟨rfl,rfl⟩:=h
  exact ⟨⟨rfl,by simp⟩,by simp⟩
 |
  x :: r,A,os,h=>by
  simp only [List.map_cons,jV] at h
  obtain ⟨v,vs',o1,o2,rfl,rfl,h1,h2⟩:=h
  have k1:=ahO h1
  have k2:=TR h2
  refine ⟨⟨by simp [k2.1.1],fun j hj=>?_⟩,fun o ho=>?_⟩
  ·cases j with
   | zero=>exact k1.1
   | succ j=>simpa using k2.1.2 j (by simpa using hj)
  ·rcases List.mem_append.1 ho with ho | ho
   ·exact k1.2 o ho
   ·exact k2.2 o ho
def I4 (n c : Nat) (rp : Nat → Nat) : List (List V):=(List.range n).map fun i=>[.bF (rp i) 0 c]
theorem JR (n c : Nat) (rp : Nat → Nat) : (I4 n c rp).length = n:=by simp [I4]
theorem ahP {n c : Nat} {rp : Nat → Nat} {i : Nat} (h : i < n) : (I4 n c rp)[i]? = some [.bF (rp i) 0 c]:=by
 unfold I4;rw [List.getElem?_map,List.getElem?_range h];rfl
theorem Wi {n c : Nat} {rp : Nat → Nat} {i p : Nat} : (I4 n c rp).set i [.bF p 0 c] = I4 n c fun x=>if x = i then p else rp x:=by
 apply List.ext_getElem?
 intro x
 unfold I4
 rw [List.getElem?_set]
 simp only [List.length_map,List.length_range,List.getElem?_map]
 by_cases h : i = x
 ·subst h
  by_cases hn : i < n
  ·simp [hn]
  ·rw [if_pos rfl,if_neg hn,List.getElem?_eq_none (by simpa using hn)];rfl
 ·rw [if_neg h]
  by_cases hn : x < n
  ·rw [List.getElem?_range hn];simp only [Option.map_some];rw [if_neg fun e : x = i=>h e.symm]
  ·rw [List.getElem?_eq_none (by simpa using hn)];rfl
structure L6 (s : Store) (q n c : Nat) (rp : Nat → Nat) (A : Nat → List (List V)) (M : MF) : Prop where
 inj : ∀ i j,i < n → j < n → rp i = rp j → i = j
 out : aj s q = some ⟨1,I4 n c rp⟩
 row : ∀ i,i < n → aj s (rp i) = some ⟨3,A i⟩
 cel : ∀ i,i < n → Dt s (A i) (M i)
theorem L6.lt {s : Store} {q n c : Nat} {rp : Nat → Nat} {A : Nat → List (List V)} {M : MF} (h : L6 s q n c rp A M) : q < s.length ∧ ∀ i,i < n → rp i < s.length:=⟨aG h.out,fun i hi=>aG (h.row i hi)⟩
theorem L6.ne {s : Store} {q n c : Nat} {rp : Nat → Nat} {A : Nat → List (List V)} {M : MF} (h : L6 s q n c rp A M) {i : Nat} (hi : i < n) : rp i ≠ q:=fun e=>by
 have:=h.row i hi
 rw [e,h.out] at this;cases this
theorem L6.fr {s s2 : Store} {q n c : Nat} {rp : Nat → Nat} {A : Nat → List (List V)} {M : MF} (h : L6 s q n c rp A M) (hf : ∀ p,p < s.length → aj s2 p = aj s p) : L6 s2 q n c rp A M :=
 ⟨h.inj,(hf _ h.lt.1).trans h.out,fun i hi=>(hf _ (h.lt.2 i hi)).trans (h.row i hi),fun i hi=>(h.cel i hi).fr (.old hf)⟩
theorem L6.res {s : Store} {q n c : Nat} {rp : Nat → Nat} {A : Nat → List (List V)} {M : MF} (h : L6 s q n c rp A M) (hl : ∀ i,i < n → (M i).length = c) : resolve s FD (.bF q 0 n) = some (Ir ((List.range n).map M)):=by
 show resolve s (11 + 1) _ = _
 rw [resolve]
 simp only [h.out]
 rw [if_pos (by rw [JR];omega),List.drop_zero,List.take_of_length_le (by rw [JR];omega)]
 have : ((I4 n c rp).mapM fun (r : List V)=>r.mapM (resolve s 11)) = some ((List.range n).map fun i=>[Ap (M i)]):=by
  unfold I4
  rw [List.mapM_map]
  refine mapM_some fun i hi=>?_
  have hi:=List.mem_range.1 hi
  have h1:=(h.cel i hi).ahN (h.row i hi) 7
  rw [hl i hi] at h1
  simp only [Function.comp,List.mapM_cons,List.mapM_nil]
  rw [h1];rfl
 rw [this,Option.map_some]
 unfold Ir
 rw [List.map_map]
 rfl
theorem L6.put {s s2 : Store} {q n c k : Nat} {rp : Nat → Nat} {A : Nat → List (List V)} {M : MF} {A2 : List (List V)} {r : List R} (h : L6 s q n c rp A M) (hk : k < n) (hr : aj s2 (rp k) = some ⟨3,A2⟩) (ho : ∀ o,o < s.length → o ≠ rp k → aj s2 o = aj s o) (hok : Dt s2 A2 r) :
  L6 s2 q n c rp (fun i=>if i = k then A2 else A i) (fun i=>if i = k then r else M i):=by
 have kp : Kp s s2:=fun o l e=>ho o (aG e) fun e2=>by rw [e2,h.row k hk] at e;cases e
 refine ⟨h.inj,(ho _ h.lt.1 fun e=>h.ne hk e.symm).trans h.out,fun i hi=>?_,fun i hi=>?_⟩
 ·by_cases e : i = k
  ·subst e;rw [if_pos rfl];exact hr
  ·rw [if_neg e];exact (ho _ (h.lt.2 i hi) fun e2=>e (h.inj i k hi hk e2)).trans (h.row i hi)
 ·by_cases e : i = k
  ·subst e;rw [if_pos rfl,if_pos rfl];exact hok
  ·rw [if_neg e,if_neg e];exact (h.cel i hi).fr kp
theorem L6.ext {s : Store} {q n c : Nat} {rp : Nat → Nat} {A : Nat → List (List V)} {M M2 : MF} (h : L6 s q n c rp A M) (e : ∀ i,i < n → M i = M2 i) : L6 s q n c rp A M2 :=
 ⟨h.inj,h.out,h.row,fun i hi=>e i hi ▸ h.cel i hi⟩
theorem Ph {n c : Nat} {rp : Nat → Nat} (hn : 0 < n) (l : List Int) : I4 n c rp ≠ aH l:=fun e=>by
 have h1:=ahP (c:=c) (rp:=rp) hn
 rw [e] at h1
 cases l with
 | nil=>simp [aH] at h1
 | cons x l=>simp [aH] at h1
theorem L6.swap {s : Store} {q n c k p : Nat} {rp : Nat → Nat} {A : Nat → List (List V)} {M : MF} (h : L6 s q n c rp A M) (hk : k < n) (hp : p < n) {rows : List (List V)} (hrows : rows = ((I4 n c rp).set k [.bF (rp p) 0 c]).set p [.bF (rp k) 0 c]) {s2 : Store} (hq : aj s2 q = some ⟨1,rows⟩) (ho : ∀ o,o ≠ q → o < s.length → aj s2 o = aj s o) :
  L6 s2 q n c (fun x=>if x = p then rp k else if x = k then rp p else rp x) (fun x=>if x = p then A k else if x = k then A p else A x) (FY M k p):=by
 have kp : Kp s s2:=fun o l e=>ho o (fun e2=>by
  rw [e2,h.out] at e
  injection e with e
  injection e with _ e
  exact Ph (by omega) l e) (aG e)
 have hr:=fun i hi=>(ho _ (h.ne hi) (h.lt.2 i hi)).trans (h.row i hi)
 have hc:=fun i hi=>(h.cel i hi).fr kp
 refine ⟨fun i j hi hj e=>?_,?_,fun i hi=>?_,fun i hi=>?_⟩
 ·have inj:=h.inj
  by_cases a1 : i = p <;> by_cases b1 : j = p
  ·omega
  ·rw [if_pos a1,if_neg b1] at e
   by_cases b2 : j = k
   ·rw [if_pos b2] at e
    have:=inj k p hk hp e;omega
   ·rw [if_neg b2] at e
    have:=inj k j hk hj e;omega
  ·rw [if_neg a1,if_pos b1] at e
   by_cases b2 : i = k
   ·rw [if_pos b2] at e
    have:=inj p k hp hk e;omega
   ·rw [if_neg b2] at e
    have:=inj i k hi hk e;omega
  ·rw [if_neg a1,if_neg b1] at e
   by_cases a2 : i = k <;> by_cases b2 : j = k
   ·omega
   ·rw [if_pos a2,if_neg b2] at e
    have:=inj p j hp hj e;omega
   ·rw [if_neg a2,if_pos b2] at e
    have:=inj i p hi hp e;omega
   ·rw [if_neg a2,if_neg b2] at e
    exact inj i j hi hj e
 ·rw [hq,hrows,Wi,Wi]
 ·split
  ·exact hr k hk
  ·split
   ·exact hr p hp
   ·exact hr i hi
 ·unfold FY
  split
  ·exact hc k hk
  ·split
   ·exact hc p hp
   ·exact hc i hi
structure ZM (s : Store) (A : Nat → List (List V)) (M : MF) (f : Nat → List Nat) (S : Nat → Prop) : Prop where
 ow : ∀ i,S i → jV s (A i) ((M i).map R.cells) (f i)
 nd : ∀ i,S i → (f i).Nodup
 ap : ∀ i j,S i → S j → i ≠ j → ∀ o ∈ f i,o ∉ f j
theorem ZM.kp {s s2 : Store} {A : Nat → List (List V)} {M : MF} {f : Nat → List Nat} {S : Nat → Prop} (h : ZM s A M f S) (k : Kp s s2) : ZM s2 A M f S :=
 ⟨fun i hi=>(h.ow i hi).frame fun o ho=>by obtain ⟨l,hl⟩:=(TR (h.ow i hi)).2 o ho;exact k o l hl,h.nd,h.ap⟩
theorem ZM.put {s s2 : Store} {A : Nat → List (List V)} {M : MF} {f : Nat → List Nat} {S : Nat → Prop} {k : Nat} {A2 : List (List V)} {r : List R} {os : List Nat} (h : ZM s A M f S) (kp : Kp s s2) (ho : jV s2 A2 (r.map R.cells) os) (hn : os.Nodup) (hf : ∀ o ∈ os,s.length ≤ o) :
  ZM s2 (fun i=>if i = k then A2 else A i) (fun i=>if i = k then r else M i) (fun i=>if i = k then os else f i) (fun i=>S i ∨ i = k):=by
 have h2:=h.kp kp
 have lt : ∀ i,S i → ∀ o ∈ f i,o < s.length:=fun i hi=>(h.ow i hi).lt
 refine ⟨fun i hi=>?_,fun i hi=>?_,fun i j hi hj hne o h1 h3=>?_⟩
 ·by_cases e : i = k
  ·subst e;rw [if_pos rfl,if_pos rfl,if_pos rfl];exact ho
  ·rw [if_neg e,if_neg e,if_neg e];exact h2.ow i (hi.resolve_right e)
 ·by_cases e : i = k
  ·subst e;rw [if_pos rfl];exact hn
  ·rw [if_neg e];exact h.nd i (hi.resolve_right e)
 ·by_cases e : i = k
  ·by_cases e2 : j = k
   ·omega
   ·rw [if_pos e] at h1;rw [if_neg e2] at h3
    have:=hf o h1
    have:=lt j (hj.resolve_right e2) o h3
    omega
  ·rw [if_neg e] at h1
   by_cases e2 : j = k
   ·rw [if_pos e2] at h3
    have:=hf o h3
    have:=lt i (hi.resolve_right e) o h1
    omega
   ·rw [if_neg e2] at h3
    exact h.ap i j (hi.resolve_right e) (hj.resolve_right e2) hne o h1 h3
theorem ZM.ext {s : Store} {A : Nat → List (List V)} {M M2 : MF} {f : Nat → List Nat} {S S2 : Nat → Prop} (h : ZM s A M f S) (e : ∀ i,S2 i → S i ∧ M i = M2 i) : ZM s A M2 f S2 :=
 ⟨fun i hi=>(e i hi).2 ▸ h.ow i (e i hi).1,fun i hi=>h.nd i (e i hi).1,fun i j hi hj=>h.ap i j (e i hi).1 (e j hj).1⟩
theorem ZM.fin {s : Store} {q n c : Nat} {rp : Nat → Nat} {A : Nat → List (List V)} {M : MF} {f : Nat → List Nat} (h : L6 s q n c rp A M) (ho : ZM s A M f fun i=>i < n) (hc : 0 < c) (hl : ∀ i,i < n → (M i).length = c) : Fin s (.bF q 0 n) (Ir ((List.range n).map M)):=by
 have key : ∀ m,m ≤ n → ∃ os,jV s ((List.range m).map fun i=>[.bF (rp i) 0 c]) (((List.range m).map M).map fun r=>[Ap r]) os ∧ os.Nodup ∧ ∀ o ∈ os,∃ i,i < m ∧ (o = rp i ∨ o ∈ f i):=by
  intro m
  induction m with
  | zero=>intro _;exact ⟨[],by simp [jV],.nil,by simp⟩
  |
   succ m ih =>
   intro hm
   obtain ⟨os,k1,k2,k3⟩:=ih (by omega)
   have hm' : m < n:=by omega
   have kinds : ∀ i,i < n → ∀ o ∈ f i,∃ l,aj s o = some ⟨1,aH l⟩:=fun i hi=>(TR (ho.ow i hi)).2
   have hnf : ∀ i j,i < n → j < n → rp i ∉ f j:=fun i j hi hj hm=>by
    obtain ⟨l,hl⟩:=kinds j hj _ hm
    rw [h.row i hi] at hl;cases hl
   have hv : bI s (.bF (rp m) 0 c) (Ap (M m)) (rp m :: f m):=by
    unfold Ap
    simp only [bI]
    exact .inr ⟨rp m,A m,f m,by rw [List.length_map,hl m hm'],h.row m hm',rfl,ho.ow m hm'⟩
   refine ⟨os ++ (rp m :: f m),?_,?_,fun o ho'=>?_⟩
   ·rw [List.range_succ,List.map_append,List.map_append,List.map_append]
    exact Az k1 (Y8 (adt hv))
   ·rw [List.nodup_append,List.nodup_cons]
    refine ⟨k2,⟨hnf m m hm' hm',ho.nd m hm'⟩,fun x hx y hy e=>?_⟩
    subst e
    obtain ⟨i,hi,hi2⟩:=k3 x hx
    rcases List.mem_cons.1 hy with hy | hy
    ·rcases hi2 with hi2 | hi2
     ·have:=h.inj i m (by omega) hm' (hi2.symm.trans hy);omega
     ·rw [hy] at hi2;exact hnf m i hm' (by omega) hi2
    ·rcases hi2 with hi2 | hi2
     ·rw [hi2] at hy;exact hnf i m (by omega) hm' hy
     ·exact ho.ap i m (by omega) hm' (by omega) x hi2 hy
   ·rcases List.mem_append.1 ho' with ho' | ho'
    ·obtain ⟨i,hi,k⟩:=k3 o ho';exact ⟨i,by omega,k⟩
    ·rcases List.mem_cons.1 ho' with rfl | ho'
     ·exact ⟨m,by omega,.inl rfl⟩
     ·exact ⟨m,by omega,.inr ho'⟩
 obtain ⟨os,k1,k2,k3⟩:=key n (Nat.le_refl _)
 refine oU (os:=q :: os) ?_ (List.nodup_cons.2 ⟨fun hm=>?_,k2⟩)
 ·unfold Ir
  simp only [bI]
  exact .inr ⟨q,_,os,by simp,h.out,rfl,k1⟩
 ·obtain ⟨i,hi,e | e⟩:=k3 q hm
  ·exact h.ne hi e.symm
  ·obtain ⟨l,hl⟩:=(TR (ho.ow i hi)).2 _ e
   rw [h.out] at hl
   injection hl with hl
   injection hl with _ hl
   exact Ph (by omega) l hl
def Pj (g : Nat → Nat) (a : Acc) : Acc:=⟨a.i,a.R.map g,a.W.map g,a.n⟩
section
variable {g : Nat → Nat} {L L0 : Nat} (hinj : ∀ x y,g x = g y ↔ x = y) (hlt : ∀ x,g x < L ↔ x < L0)
include hinj in
theorem TS (l : List Nat) (p : Nat) : (l.map g).contains (g p) = l.contains p:=by
 rw [Bool.eq_iff_iff,List.contains_iff_mem,List.contains_iff_mem,List.mem_map]
 constructor
 ·rintro ⟨q,h1,h2⟩
  rw [(hinj _ _).1 h2] at h1;exact h1
 ·exact fun h=>⟨p,h,rfl⟩
include hlt in
theorem Rq (a b : Acc) : wC L (Pj g a) (Pj g b) = wC L0 a b:=by
 unfold wC Pj
 simp only [List.all_map,Function.comp_def]
 simp only [hlt]
include hinj hlt in
theorem abj (d e : fM) (a b : Acc) : nS L d e (Pj g a) (Pj g b) = nS L0 d e a b:=by
 unfold nS
 rw [Rq hlt,Rq hlt]
 simp only [Pj,List.all_map,Function.comp_def]
 simp only [TS hinj]
 congr 6
 ·congr 1
  funext p
  congr 2
  funext q
  rw [bne,bne]
  congr 1
  rw [Bool.eq_iff_iff,beq_iff_eq,beq_iff_eq];exact hinj _ _
include hinj hlt in
theorem ZN {B : Nat → List Nat} {ops : List fM} : ∀ l : List Acc,okA L B ops (l.map (Pj g)) = okA L0 B ops l
 | []=>rfl
 |
  a :: l=>by
  simp only [List.map_cons,okA,List.all_map,Function.comp_def]
  rw [ZN l]
  congr 2
  funext b
  have h1 : (Pj g a).i = a.i:=rfl
  have h2 : (Pj g b).i = b.i:=rfl
  rw [abj hinj hlt,h1,h2]
include hinj hlt in
theorem ahQ {ops : List fM} {l l0 : List Acc} (he : l = l0.map (Pj g)) (hk : lU L0 ops l0) : lU L ops l:=by
 unfold lU at hk ⊢
 rw [he,← List.map_reverse,ZN hinj hlt]
 exact hk
end
def gN (l : List Nat) (L x : Nat) : Nat:=match l[x]? with
 | some y=>y
 | none=>L + x
theorem aeJ {l : List Nat} {L : Nat} (hl : ∀ o ∈ l,o < L) (x : Nat) : gN l L x < L ↔ x < l.length:=by
 unfold gN
 cases h : l[x]? with
 |
  none =>
  have:=List.getElem?_eq_none_iff.1 h
  simp only []
  omega
 |
  some y =>
  have h1:=(List.getElem?_eq_some_iff.1 h).1
  have h2:=hl y (List.mem_of_getElem? h)
  simp only []
  omega
theorem akZ {l : List Nat} {L : Nat} (hl : ∀ o ∈ l,o < L) (hn : l.Nodup) (x y : Nat) : gN l L x = gN l L y ↔ x = y:=by
 constructor
 ·intro e
  have hx:=aeJ hl x
  have hy:=aeJ hl y
  by_cases h : x < l.length
  ·have h2 : y < l.length:=hy.1 (e ▸ hx.2 h)
   unfold gN at e
   rw [List.getElem?_eq_getElem h,List.getElem?_eq_getElem h2] at e
   exact (List.getElem_inj hn).1 e
  ·have h2 : ¬ y < l.length:=fun k=>h (hx.1 (e ▸ hy.2 k))
   unfold gN at e
   rw [List.getElem?_eq_none (by omega),List.getElem?_eq_none (by omega)] at e
   simp only [] at e
   omega
 ·rintro rfl;rfl
theorem nd2 {a b : Nat} (h : a ≠ b) : [a,b].Nodup:=by simp [h]
theorem nd3 {a b c : Nat} (h : a ≠ b) (h2 : a ≠ c) (h3 : b ≠ c) : [a,b,c].Nodup:=by simp [h,h2,h3]
theorem nd4 {a b c d : Nat} (h : a ≠ b) (h2 : a ≠ c) (h3 : a ≠ d) (h4 : b ≠ c) (h5 : b ≠ d) (h6 : c ≠ d) : [a,b,c,d].Nodup:=by simp [h,h2,h3,h4,h5,h6]
theorem lt2 {a b L : Nat} (h : a < L) (h2 : b < L) : ∀ o ∈ [a,b],o < L:=by simp [h,h2]
theorem lt3 {a b c L : Nat} (h : a < L) (h2 : b < L) (h3 : c < L) : ∀ o ∈ [a,b,c],o < L:=by simp [h,h2,h3]
end Go.Ml
end
section
namespace Go.Ml
structure TT (s0 s : Store) (ri : Nat) (box : Obj) (A : List (List V)) (Z : List R) (j : Nat) (N : List (List V)) (os : List Nat) : Prop where
 row : aj s ri = some ⟨3,N ++ A.drop j⟩
 nl : N.length = j
 ow : jV s N ((Z.take j).map R.cells) os
 nd : os.Nodup
 fr : ∀ o ∈ os,s0.length ≤ o
 old : ∀ o,o < s0.length → o ≠ ri → aj s o = aj s0 o
 bx : aj s s0.length = some box
 len : s0.length < s.length
section
variable {s0 s : Store} {ri : Nat} {box : Obj} {A : List (List V)} {Z : List R} {j : Nat} {N : List (List V)} {os : List Nat}
theorem TT.kp (I : TT s0 s ri box A Z j N os) (hi : aj s0 ri = some ⟨3,A⟩) : Kp s0 s:=fun o l e=>I.old o (aG e) fun e2=>by rw [e2,hi] at e;cases e
theorem TT.at (I : TT s0 s ri box A Z j N os) (hj : j < A.length) : (N ++ A.drop j)[j]? = some (A.getD j []):=by
 rw [List.getElem?_append_right (by rw [I.nl];exact Nat.le_refl _),I.nl,Nat.sub_self,List.getElem?_drop,Nat.add_zero,List.getD_eq_getElem?_getD,List.getElem?_eq_getElem hj];rfl
theorem TT.step (I : TT s0 s ri box A Z j N os) (hri : ri < s0.length) (hj : j < A.length) (hjZ : j < Z.length) {z : R} (hz : Z.getD j default = z) {q3 : Store} {c : List V} {o3 : List Nat} (old : ∀ o,o < s.length → aj q3 o = aj s o) (len : s.length ≤ q3.length)
  (ho : bT q3 c z.cells o3) (nd3 : o3.Nodup) (fr3 : ∀ o ∈ o3,s.length ≤ o) : TT s0 (q3.set ri (some ⟨3,(N ++ A.drop j).set j c⟩)) ri box A Z (j + 1) (N ++ [c]) (os ++ o3):=by
 have hl:=I.len
 have ne : ∀ o,ri ≠ o → aj (q3.set ri (some ⟨3,(N ++ A.drop j).set j c⟩)) o = aj q3 o:=fun o h=>aB fun e=>h e.symm
 have e1 : (N ++ A.drop j).set j c = (N ++ [c]) ++ A.drop (j + 1):=by
  rw [List.set_append_right _ _ (by rw [I.nl];exact Nat.le_refl _),I.nl,Nat.sub_self,List.drop_eq_getElem_cons hj,List.set_cons_zero,List.append_assoc];rfl
 refine ⟨?_,by simp [I.nl],?_,?_,fun o h=>?_,fun o h1 h2=>?_,?_,by simp;omega⟩
 ·rw [aY (by omega),e1]
 ·rw [take_snoc hjZ,List.map_append,hz]
  refine Az (I.ow.frame fun o h=>?_) (Y8 (ho.frame fun o h=>?_))
  ·have h1:=I.fr o h
   rw [ne o (by omega),old o (I.ow.lt o h)]
  ·have:=fr3 o h
   rw [ne o (by omega)]
 ·rw [List.nodup_append]
  refine ⟨I.nd,nd3,fun x hx y hy e=>?_⟩
  have:=I.ow.lt x hx
  have:=fr3 y hy
  omega
 ·rcases List.mem_append.1 h with h | h
  ·exact I.fr o h
  ·have:=fr3 o h;omega
 ·rw [ne o (fun e=>h2 e.symm),old o (by omega),I.old o h1 h2]
 ·rw [ne _ (by omega),old _ (by omega),I.bx]
theorem TT.fin (I : TT s0 s ri box A Z j N os) (h1 : j = A.length) (h2 : j = Z.length) : aj s ri = some ⟨3,N⟩ ∧ jV s N (Z.map R.cells) os:=by
 have a:=I.row
 have b:=I.ow
 rw [h1,List.drop_length,List.append_nil] at a
 rw [h2,List.take_length] at b
 exact ⟨a,b⟩
end
theorem sZ.rch {s : Store} {v : V} {l : List Int} (h : sZ s v l) : ∀ n,∀ o ∈ reach s n v,∃ l,aj s o = some ⟨1,aH l⟩:=by
 intro n o ho
 rcases h with rfl | ⟨q,rfl,hq⟩
 ·cases n <;> simp [reach] at ho
 ·cases n with
  | zero=>simp [reach] at ho
  |
   succ n =>
   simp only [reach,hq,List.mem_cons,List.mem_flatMap] at ho
   rcases ho with rfl | ⟨r,hr,c,hc,ho⟩
   ·exact ⟨_,hq⟩
   ·have hs:=l9 l r hr c hc
    cases n with
    | zero=>simp [reach] at ho
    | succ n=>rw [Bo hs] at ho;cases ho
theorem zx.rch {s : Store} {c : List V} {x : R} (h : zx s c x) : ∀ n,∀ o ∈ reach s n (.agg c),∃ l,aj s o = some ⟨1,aH l⟩:=by
 intro n o ho
 obtain ⟨v1,v2,rfl,h1,h2⟩:=h
 cases n with
 | zero=>simp [reach] at ho
 |
  succ n =>
  rw [Gs] at ho
  obtain ⟨c,hc,ho⟩:=ho
  simp only [List.mem_cons,List.not_mem_nil,or_false] at hc
  rcases hc with rfl | rfl | rfl
  ·cases n <;> simp [reach] at ho
  ·exact h1.rch n o ho
  ·exact h2.rch n o ho
end Go.Ml
end
section
namespace Go.Ml
theorem asz {α : Type} {l : List (List α)} {j : Nat} (h : j < l.length) : l[j]? = some (l.getD j []):=by
 rw [List.getD_eq_getElem?_getD,List.getElem?_eq_getElem h];rfl
theorem L6.cell {s : Store} {q n c : Nat} {rp : Nat → Nat} {A : Nat → List (List V)} {M : MF} (h : L6 s q n c rp A M) (hl : ∀ i,i < n → (M i).length = c) {i j : Nat} (hi : i < n) (hj : j < c) : ∃ a1 a2,(A i)[j]? = some [.bool (elF M i j).neg,a1,a2] ∧ sZ s a1 (elF M i j).mag ∧ sZ s a2 (elF M i j).den:=by
 have hr:=h.cel i hi
 have hjl : j < (M i).length:=by rw [hl i hi];exact hj
 obtain ⟨a1,a2,e,k1,k2⟩:=hr.2 j hjl
 exact ⟨a1,a2,by rw [asz (by rw [hr.1];exact hjl),e];rfl,k1,k2⟩
def Pm (s : Store) (q n c : Nat) (rp : Nat → Nat) (M : MF) : Prop:=L6 s q n c rp (fun x=>(M x).map R.cells) M
def ak0 (M : MF) (i : Nat) (r : List R) : MF:=fun x=>if x = i then r else M x
theorem Pm.put {s s2 : Store} {q n c k : Nat} {rp : Nat → Nat} {M : MF} {r : List R} (h : Pm s q n c rp M) (hk : k < n) (hr : aj s2 (rp k) = some ⟨3,r.map R.cells⟩) (ho : ∀ o,o < s.length → o ≠ rp k → aj s2 o = aj s o) : Pm s2 q n c rp (ak0 M k r):=by
 have:=L6.put h hk hr ho (ahM r)
 have e : (fun i=>if i = k then r.map R.cells else (M i).map R.cells) = fun x=>(ak0 M k r x).map R.cells:=by
  funext i;unfold ak0;split <;> rfl
 rw [e] at this
 exact this
theorem Pm.swap {s : Store} {q n c k p : Nat} {rp : Nat → Nat} {M : MF} (h : Pm s q n c rp M) (hk : k < n) (hp : p < n) {rows : List (List V)} (hrows : rows = ((I4 n c rp).set k [.bF (rp p) 0 c]).set p [.bF (rp k) 0 c]) {s2 : Store} (hq : aj s2 q = some ⟨1,rows⟩) (ho : ∀ o,o ≠ q → o < s.length → aj s2 o = aj s o) :
  Pm s2 q n c (fun x=>if x = p then rp k else if x = k then rp p else rp x) (FY M k p):=by
 have:=L6.swap h hk hp hrows hq ho
 have e : (fun x=>if x = p then (M k).map R.cells else if x = k then (M p).map R.cells else (M x).map R.cells) = fun x=>(FY M k p x).map R.cells:=by
  funext i;unfold FY;split
  ·rfl
  ·split <;> rfl
 rw [e] at this
 exact this
theorem Pm.ext {s : Store} {q n c : Nat} {rp : Nat → Nat} {M M2 : MF} (h : Pm s q n c rp M) (e : ∀ i,i < n → M i = M2 i) : Pm s q n c rp M2 :=
 ⟨h.inj,h.out,fun i hi=>by rw [← e i hi];exact h.row i hi,fun i hi=>by rw [← e i hi];exact h.cel i hi⟩
theorem Pm.cell {s : Store} {q n c : Nat} {rp : Nat → Nat} {M : MF} (h : Pm s q n c rp M) (hl : ∀ i,i < n → (M i).length = c) {i j : Nat} (hi : i < n) (hj : j < c) : ((M i).map R.cells)[j]? = some (elF M i j).cells:=by
 have hjl : j < (M i).length:=by rw [hl i hi];exact hj
 rw [mg? hjl];rfl
theorem L6.ahN {s : Store} {q n c : Nat} {rp : Nat → Nat} {A : Nat → List (List V)} {M : MF} (h : L6 s q n c rp A M) (hl : ∀ i,i < n → (M i).length = c) (k : Nat) : resolve s (k + 5) (.bF q 0 n) = some (Ir ((List.range n).map M)):=by
 rw [resolve]
 simp only [h.out]
 rw [if_pos (by rw [JR];omega),List.drop_zero,List.take_of_length_le (by rw [JR];omega)]
 have : ((I4 n c rp).mapM fun (r : List V)=>r.mapM (resolve s (k + 4))) = some ((List.range n).map fun i=>[Ap (M i)]):=by
  unfold I4
  rw [List.mapM_map]
  refine mapM_some fun i hi=>?_
  have hi:=List.mem_range.1 hi
  have h1:=(h.cel i hi).ahN (h.row i hi) k
  rw [hl i hi] at h1
  simp only [Function.comp,List.mapM_cons,List.mapM_nil]
  rw [h1];rfl
 rw [this,Option.map_some]
 unfold Ir
 rw [List.map_map]
 rfl
theorem Wj {σ : Store} : ∀ (n : Nat) {A T : List (List V)} {os : List Nat},jV σ A T os → ∃ os',jV σ (A.drop n) (T.drop n) os' ∧ os'.Sublist os
 | 0,A,T,os,h=>⟨os,h,List.Sublist.refl _⟩
 |
  n + 1,A,[],os,h=>by
  simp only [jV] at h
  obtain ⟨rfl,rfl⟩:=h
  exact ⟨[],by simp [jV],List.Sublist.refl _⟩
 |
  n + 1,A,t :: T,os,h=>by
  simp only [jV] at h
  obtain ⟨v,vs',o1,o2,rfl,rfl,h1,h2⟩:=h
  obtain ⟨os',k1,k2⟩:=Wj n h2
  exact ⟨os',k1,k2.trans (List.sublist_append_right _ _)⟩
theorem ZM.drop {s : Store} {A : Nat → List (List V)} {M : MF} {f : Nat → List Nat} {n : Nat} (ho : ZM s A M f fun i=>i < n) (d : Nat) : ∃ f',ZM s (fun i=>(A i).drop d) (fun i=>(M i).drop d) f' (fun i=>i < n) ∧ ∀ i,i < n → ∀ o ∈ f' i,o ∈ f i:=by
 have h : ∀ i,∃ os',i < n → jV s ((A i).drop d) (((M i).drop d).map R.cells) os' ∧ os'.Sublist (f i):=fun i=>by
  by_cases hi : i < n
  ·obtain ⟨os',k1,k2⟩:=Wj d (ho.ow i hi)
   rw [← List.map_drop] at k1
   exact ⟨os',fun _=>⟨k1,k2⟩⟩
  ·exact ⟨[],fun h=>absurd h hi⟩
 refine ⟨fun i=>Classical.choose (h i),⟨fun i hi=>?_,fun i hi=>?_,fun i j hi hj hne o h1 h2=>?_⟩,fun i hi o h1=>?_⟩
 ·exact (Classical.choose_spec (h i) hi).1
 ·exact (ho.nd i hi).sublist (Classical.choose_spec (h i) hi).2
 ·exact ho.ap i j hi hj hne o ((Classical.choose_spec (h i) hi).2.subset h1) ((Classical.choose_spec (h j) hj).2.subset h2)
 ·exact (Classical.choose_spec (h i) hi).2.subset h1
theorem TU {ops : List fM} {L : Nat} {acc : List Acc} (l : List Nat) (l0 : List Acc) (hn : l.Nodup) (hl : ∀ o ∈ l,o < L) (he : acc = l0.map (Pj (gN l L))) (h : lU l.length ops l0) : lU L ops acc:=ahQ (akZ hl hn) (aeJ hl) he h
def L8 (σ : Store) (p : Nat) (ob : Obj) (os : List Nat) : Store:=(List.range σ.length).map fun k=>if k = p then some ob else if k ∈ os then aj σ k else none
def keepW (σ : Store) (p n : Nat) (os : List Nat) : Hz:=(List.range σ.length).map fun k=>if k = p then some (p,0,n) else if k ∈ os then (aj σ k).map (fun ob=>(k,0,ob.rows.length)) else none
theorem Du {σ : Store} {p : Nat} {ob : Obj} {os : List Nat} {k : Nat} (hk : k < σ.length) : aj (L8 σ p ob os) k = if k = p then some ob else if k ∈ os then aj σ k else none:=by
 simp only [aj,L8,List.getElem?_map,List.getElem?_range hk]
 rfl
theorem FZ {σ : Store} {p n : Nat} {os : List Nat} {k : Nat} (hk : k < σ.length) : (keepW σ p n os)[k]? = some (if k = p then some (p,0,n) else if k ∈ os then (aj σ k).map (fun ob=>(k,0,ob.rows.length)) else none):=by
 unfold keepW
 rw [List.getElem?_map,List.getElem?_range hk];rfl
theorem GH {σ : Store} {p n : Nat} {os : List Nat} {k o s l : Nat} (h : (keepW σ p n os)[k]? = some (some (o,s,l))) : k < σ.length ∧ o = k ∧ s = 0 ∧ ((k = p ∧ l = n) ∨ (k ≠ p ∧ k ∈ os ∧ ∃ ob,aj σ k = some ob ∧ l = ob.rows.length)):=by
 have hk : k < σ.length:=by
  have:=(List.getElem?_eq_some_iff.1 h).1
  unfold keepW at this;simpa using this
 rw [FZ hk] at h
 refine ⟨hk,?_⟩
 by_cases e : k = p
 ·rw [if_pos e] at h
  simp only [Option.some.injEq,Prod.mk.injEq] at h
  exact ⟨by omega,h.2.1.symm,.inl ⟨e,h.2.2.symm⟩⟩
 ·rw [if_neg e] at h
  by_cases m : k ∈ os
  ·rw [if_pos m] at h
   simp only [Option.some.injEq,Option.map_eq_some_iff] at h
   obtain ⟨ob,h1,h2⟩:=h
   simp only [Prod.mk.injEq] at h2
   exact ⟨h2.1.symm,h2.2.1.symm,.inr ⟨e,m,ob,h1,h2.2.2.symm⟩⟩
  ·rw [if_neg m] at h
   cases h
theorem ak1 {p n : Nat} {vs : List V} {env : Nat → V} {σ : Store} {b1 b2 : Nat} {r1 r2 m1 m2 : List Nat} {A A' : List (List V)} {os : List Nat} (h : aj σ p = some ⟨n,A⟩) (hl : A'.length = A.length)
  (hs : ∀ o ∈ os,∀ ob,aj σ o = some ob → dJ ob.rows)
  (hr : ∀ (i : Nat) (r r2 : List V),A[i]? = some r → A'[i]? = some r2 → CS (keepW σ p A.length os) σ r r2) (he : BH (keepW σ p A.length os) σ vs 0 env) :
  Fg ⟨dX vs,L8 σ p ⟨n,A'⟩ os,0,b1,r1,m1⟩ ⟨env,σ,0,b2,r2,m2⟩:=by
 refine .re (keepW σ p A.length os) ⟨⟨by unfold L8 keepW;simp,?_,?_,?_⟩,rfl,fun i hi=>absurd hi (Nat.not_lt_zero _),fun t=>by have:=he.at_ t;rwa [Nat.zero_add] at this⟩
 ·intro i j o s l s' l' hi hj
  rw [← (GH hi).2.1,← (GH hj).2.1]
 ·intro k o s l hk
  obtain ⟨hlt,rfl,rfl,hk2⟩:=GH hk
  rcases hk2 with ⟨rfl,rfl⟩ | ⟨e,m,ob,h1,rfl⟩
  ·refine ⟨_,⟨n,A'⟩,h,by simp,by show aj (L8 _ _ _ _) _ = _;rw [Du hlt,if_pos rfl],rfl,hl,fun i r r2 h1 h2=>hr i r r2 (by simpa using h1) h2⟩
  ·refine ⟨ob,ob,h1,by simp,by show aj (L8 _ _ _ _) _ = _;rw [Du hlt,if_neg e,if_pos m,h1],rfl,rfl,fun i r r2 h2 h3=>?_⟩
   rw [Nat.zero_add,h3] at h2
   simp only [Option.some.injEq] at h2
   subst h2
   exact DF fun v hv=>hs o m ob h1 r2 (List.mem_of_getElem? h3) v hv
 ·intro k hk
  have hlt : k < σ.length:=by
   have:=(List.getElem?_eq_some_iff.1 hk).1
   unfold keepW at this;simpa using this
  rw [FZ hlt] at hk
  show aj (L8 _ _ _ _) _ = _
  rw [Du hlt]
  by_cases e : k = p
  ·rw [if_pos e] at hk;cases hk
  ·rw [if_neg e] at hk ⊢
   by_cases m : k ∈ os
   ·rw [if_pos m] at hk ⊢
    cases ho : aj σ k
    ·rfl
    ·rw [ho] at hk;cases hk
   ·rw [if_neg m]
def GnA (n : Nat) (s : Store) (v : V) (A : List (List V)) : Prop:=(A = [] ∧ v = .ak) ∨ ∃ p,v = .bF p 0 A.length ∧ aj s p = some ⟨n,A⟩ ∧ 3 ≤ p ∧ 0 < A.length
theorem GnA.fr {n : Nat} {s s2 : Store} {v : V} {A : List (List V)} (h : GnA n s v A) (hf : ∀ p,3 ≤ p → p < s.length → aj s2 p = aj s p) : GnA n s2 v A:=by
 rcases h with h | ⟨p,h1,h2,h3⟩
 ·exact .inl h
 ·exact .inr ⟨p,h1,(hf p h3.1 (aG h2)).trans h2,h3⟩
def paZ (a : Pa) : List V:=[iv a.node,.bool false,.ak,.ak] ++ a.dx.cells ++ a.dy.cells
def Pa.wc (a : Pa) : List V:=a.share.cells
structure ElI (s : Store) (v : Int) (X : R) (pv wv : V) (P : List (List V)) (W : List (List V)) : Prop where
 a0 : aj s 0 = some ⟨5,[[iv 0,.bool false,.ak,.ak,.ak]]⟩
 a1 : aj s 1 = some ⟨5,[[iv v,.bool X.neg,ints X.mag,ints X.den,pv]]⟩
 p : GnA 10 s pv P
 w : GnA 3 s wv W
theorem ElI.lt {s : Store} {v : Int} {X : R} {pv wv : V} {P W : List (List V)} (h : ElI s v X pv wv P W) : 2 ≤ s.length:=aG h.a1
theorem GI {σ : Store} : dI (Option.map V.gq (match resolve σ 11 (V.agg [V.int .i64 0,V.bool false,V.ak,V.ak,V.ak]) with | some d=>some [d,V.ak,V.bool false] | none=>none)) (bM (V.gq [SA ⟨0,R0,[]⟩,iq [],V.bool false])):=by
 have e : resolve σ 11 (V.agg [V.int .i64 0,V.bool false,V.ak,V.ak,V.ak]) = some (V.agg [V.int .i64 0,V.bool false,V.ak,V.ak,V.ak]):=by simp [resolve]
 rw [e]
 show bM _ _
 simp only [bM,nN]
 exact ⟨_,rfl,_,_,rfl,⟨_,rfl,_,_,rfl,rfl,_,_,rfl,rfl,_,_,rfl,.inl ⟨rfl,.inl rfl⟩,_,_,rfl,.inl ⟨rfl,.inl rfl⟩,_,_,rfl,.inl ⟨rfl,.inl rfl⟩,rfl⟩,_,_,rfl,.inl ⟨rfl,.inl rfl⟩,_,_,rfl,rfl,rfl⟩
theorem Yq {σ : Store} {q n l : Nat} {rows : List (List V)} (h : aj σ q = some ⟨n,rows⟩) (hs : dJ rows) : ∀ p ∈ reach σ FD (.bF q 0 l),p = q:=fun p hp=>by
 have hp : p ∈ reach σ (11 + 1) (.bF q 0 l):=hp
 unfold reach at hp
 rcases List.mem_cons.1 hp with e | hp
 ·exact e
 ·exfalso
  dsimp only at hp
  rw [h] at hp
  obtain ⟨r,hr,hp⟩:=List.mem_flatMap.1 hp
  obtain ⟨v,hv,hp⟩:=List.mem_flatMap.1 hp
  rw [show reach σ 11 v = [] from Bo (hs r hr v hv)] at hp
  cases hp
theorem Pn {A : List Pa} {i : Nat} : ∀ {m : Nat},i ≤ m → ∀ x ∈ jW A i,x ∈ jW A m
 | 0,h,x,hx=>by
           have : i = 0:=by omega
           subst this;exact hx
 |
  m + 1,h,x,hx=>by
  by_cases e : i = m + 1
  ·subst e;exact hx
  ·exact List.mem_append.2 (.inl (Pn (m:=m) (by omega) x hx))
theorem aeK {A : List Pa} {i k : Nat} (hi : i < k) (hk : k < A.length) : Bd (fH A) (A.getD i default) (A.getD k default) ∈ FW A:=by
 refine Pn (i:=i + 1) (by omega) _ (List.mem_append.2 (.inr ?_))
 unfold o9
 rw [List.take_of_length_le (by simp)]
 refine List.mem_map.2 ⟨A.getD k default,List.mem_iff_getElem?.2 ⟨k - (i + 1),?_⟩,rfl⟩
 rw [List.getElem?_drop,show i + 1 + (k - (i + 1)) = k by omega,List.getElem?_eq_getElem hk,List.getD_eq_getElem?_getD,List.getElem?_eq_getElem hk];rfl
theorem aeL {A : List Pa} {i k : Nat} (hi : i < k) (hk : k < A.length) (h : fJ (Bd (fH A) (A.getD i default) (A.getD k default)) = false) : (FW A).all fJ = false :=
 List.all_eq_false.2 ⟨_,aeK hi hk,by rw [h];simp⟩
theorem ak2 {s σ : Store} {c : Cd} {cs : List V} {mv : V} {M : List Lk} {o1 : Obj} (he : c.cells = cs) (hst : ∀ v ∈ c.cells,v.still = true) (hL : LnA s mv M) (h1 : aj σ 1 = aj s 1) (hx : aj s 1 = some o1) (hf : ∀ p,p ≠ 0 → aj σ p = aj s p) (h0 : ∃ z,aj s 0 = some ⟨5,z⟩) :
  dI (Option.map V.gq (match resolve σ 11 (V.agg cs) with | some d=>(match (match resolve σ 11 mv with | some d=>some [d,V.bool true] | none=>none) with | some ds=>some (d :: ds) | none=>none) | none=>none)) (bM (V.gq [SA c,iq M,V.bool true])):=by
 subst he
 have e1 : resolve σ 11 (V.agg c.cells) = some (SA c):=by
  show (c.cells.mapM (resolve σ (9 + 1))).map _ = _
  rw [sN hst];rfl
 have e2 : ∃ u,resolve σ 11 mv = some u ∧ bM (iq M) u:=by
  rcases hL with ⟨rfl,rfl⟩ | ⟨p,rfl,hp⟩
  ·exact ⟨.ak,rfl,of_eq_true (fP 11)⟩
  ·have hp0 : p ≠ 0:=fun e=>by
    obtain ⟨z,hz⟩:=h0
    rw [e,hz] at hp;cases hp
   have:=JH (n:=9) ((hf p hp0).trans hp) (Fh M)
   rw [List.length_map] at this
   exact ⟨_,this,au _⟩
 obtain ⟨u,e2,e3⟩:=e2
 rw [e1,e2]
 have k : ∀ x y z : V,bM y z → bM (V.gq [x,y,V.bool true]) (V.gq [x,z,V.bool true]):=fun x y z h=>by
  simp only [bM,nN]
  exact ⟨_,rfl,_,_,rfl,au _,_,_,rfl,h,_,_,rfl,rfl,rfl⟩
 exact k _ _ _ e3
theorem Ed (A : List Pa) (a : Pa) : fH (A ++ [a]) = dZ (fH A) a.share:=by
 unfold fH GR
 rw [List.take_length,List.take_length,List.foldl_append];rfl
def iW : Fn:=⟨2,167,[.cell 4 5 true,.tmp 5,.tmp 6],(.seq (rf 1 [oN 4 (.alloc XF),oK 5 1 mN,oK 6 1 mF]) (.seq (sr [oW 18 1,oN 19 (bc .lss 18 1),oW 20 19,oG 20 false 21 (oV 1),oG 20 false 22 (bc .geq 21 10),oN 23 (.pick (.t 20) (.c (.bool true)) (.t 22))] (cd 23 (sr [oN 24 (.build XF []),oS (.store 5 (.t 4) (.t 24)),oN 5 mN,oN 6 mF] .ret) .skip)) (.seq (rf 1 [oK 25 1 (oV 1),oK 26 1 (.call 39 [(cI 0)]),oK 27 1 (.build XF [(0,1,(.t 25)),(1,3,(.t 26))]),oN 7 (.alloc XF),⟨none,none,1,.store 5 (.t 7) (.t 27),[]⟩]) (.seq (rf 1 [oN 28 (.fE 3 mV 0 []),oK 8 1 (oV 28)]) (.seq (sr [oW 29 0,oN 30 (ln 29),oN 31 (.iw (cI 0))] (.block 0 (.loop (sr [oN 32 (bt .lss 31 30)] (.seq (cd 32 .skip (.exit 0)) (.seq (.block 1 (.seq (rf 1 [oK 33 1 (ix 11 29 31),oK 34 1 (lT 11 33),oN 10 (.alloc CP),⟨none,none,1,.store 11 (.t 10) (.t 34),[]⟩]) (.seq (sr [oN 35 (fd 0 10),oN 36 (lF 1 35),oW 37 1,oN 38 (bt .eql 36 37)] (cd 38 (rt 2 [oK 39 2 (fd 4 7),oA 40 2 (lF 1 39) [0],oK 41 2 (fd 1 10),oA 42 2 (lF 1 41) [2],oK 43 2 (fd 5 10),oA 44 2 (lT 3 43) [4],oA 45 2 (cl 161 [44]) [5],oK 46 2 (fd 8 10),oA 47 2 (lT 3 46) [7],oA 48 2 (cl 161 [47]) [8,6],oA 49 2 (.build zz5 [(0,1,(.t 42)),(4,3,(.t 45)),(7,3,(.t 48))]) [3,6,9],oA 50 0 (.fE 10 zz5 1 [(0,(.t 49))]) [10],oA 51 1 (.app 10 176 (.t 40) (.t 50)) [1,11,9],oA 52 2 (fd 4 7) [0,1,2,3,4,5,6,7,8,9,10,11,12],⟨none,none,2,.store 1 (.t 52) (.t 51),[13,12,12,0,1,2,3,4,5,6,7,8,9,10,11,12]⟩]) (sr [oN 53 (fd 1 10),oN 54 (lF 1 53),oW 55 1,oN 56 (bt .eql 54 55)] (cd 56 (rf 2 [oK 57 2 (fd 4 7),oK 58 2 (lF 1 57),oK 59 2 (fd 0 10),oK 60 2 (lF 1 59),oK 61 2 (fd 5 10),oK 62 2 (lT 3 61),oK 63 2 (fd 8 10),oK 64 2 (lT 3 63),oK 65 2 (.build zz5 [(0,1,(.t 60)),(4,3,(.t 62)),(7,3,(.t 64))]),oN 66 (.fE 10 zz5 1 [(0,(.t 65))]),oK 67 1 (.app 10 176 (.t 58) (.t 66)),oK 68 2 (fd 4 7),⟨none,none,2,.store 1 (.t 68) (.t 67),[]⟩]) (.exit 1))))) (.seq (rf 2 [oK 69 2 (oV 8),oK 70 2 (fd 2 10),oK 71 2 (lT 3 70),oN 72 (.fE 3 mV 1 [(0,(.t 71))]),oK 73 1 (.app 3 56 (.t 69) (.t 72)),oK 8 2 (oV 73)]) (rg [oN 74 (fd 1 7),oN 75 (lT 3 74),oN 76 (fd 2 10),oN 77 (lT 3 76),oN 78 (cl 131 [75,77]),oN 79 (fd 1 7),oS (.store 3 (.t 79) (.t 78))]))))) (rg [oN 80 (bc .add 31 1),oW 31 80]))))))) (.seq (sr [oN 81 (fd 4 7),oN 82 (lF 1 81),oN 83 (ln 82),oN 84 (.iw (cI 0))] (.block 2 (.loop (sr [oN 85 (bt .lss 84 83)] (.seq (cd 85 .skip (.exit 2)) (.seq (.block 3 (sr [oW 86 84,oW 11 86] (rt 0 [oN 87 (fd 4 7),oA 88 0 (lF 1 87) [0],oW 89 11,oW 90 8,oW 91 11,oA 92 0 (ix 3 90 91) [3,4],oA 93 0 (lT 3 92) [5],oN 94 (fd 1 7),oA 95 0 (lT 3 94) [7],oA 96 0 (cl 156 [93,95]) [6,8],oA 97 0 (ix 10 88 89) [1,2,0,1,2,3,4,5,6,7,8,9],oA 98 0 (fd 1 97) [10,0,1,2,3,4,5,6,7,8,9],⟨none,none,0,.store 3 (.t 98) (.t 96),[11,9,9,0,1,2,3,4,5,6,7,8,9]⟩]))) (rg [oN 99 (bc .add 84 1),oW 84 99]))))))) (.seq (sr [oN 100 (lT 5 7),oN 101 (cl 185 [100]),oN 102 (nt 101)] (cd 102 (sr [oN 103 (.build XF []),oS (.store 5 (.t 4) (.t 103)),oN 5 mN,oN 6 mF] .ret) .skip)) (.seq (rf 1 [oN 104 (.fE 11 CP 0 []),oK 12 1 (oV 104)]) (.seq (sr [oN 105 (fd 4 7),oN 106 (lF 1 105),oN 107 (ln 106),oN 108 (.iw (cI 0))] (.block 4 (.loop (sr [oN 109 (bt .lss 108 107)] (.seq (cd 109 .skip (.exit 4)) (.seq (.block 5 (.seq (rf 1 [oK 110 1 (oV 108),oK 111 1 (ix 10 106 108),oK 112 1 (lT 10 111),oN 14 (.alloc zz5),oK 13 1 (oV 110),⟨none,none,1,.store 10 (.t 14) (.t 112),[]⟩]) (sr [oW 113 13,oN 114 (bc .add 113 1),oW 15 114] (.block 6 (.loop (.seq (sr [oW 115 15,oN 116 (fd 4 7),oN 117 (lF 1 116),oN 118 (ln 117),oN 119 (bt .lss 115 118)] (cd 119 .skip (.exit 6))) (.seq (.block 7 (.seq (rf 1 [oK 122 1 (fd 4 7),oK 123 1 (lF 1 122),oK 124 1 (oV 15),oK 125 1 (ix 10 123 124),oK 126 1 (lT 10 125),oN 16 (.alloc zz5),⟨none,none,1,.store 10 (.t 16) (.t 126),[]⟩]) (.seq (rt 1 [oK 127 1 (fd 0 14),oA 128 1 (lF 1 127) [0],oK 129 1 (fd 0 16),oA 130 1 (lF 1 129) [2],oK 131 1 (oV 8),oK 132 1 (oV 13),oA 133 1 (ix 3 131 132) [4,5],oA 134 1 (lT 3 133) [6],oK 135 1 (oV 8),oK 136 1 (oV 15),oA 137 1 (ix 3 135 136) [8,9],oA 138 1 (lT 3 137) [10],oA 139 1 (cl 157 [134,138]) [7,11],oK 140 1 (fd 1 7),oA 141 1 (lT 3 140) [13],oA 142 1 (cl 156 [139,141]) [12,14,12],oA 143 1 (.build CP [(0,1,(.t 128)),(1,1,(.t 130)),(2,3,(.t 142))]) [1,3,15],oN 17 (.alloc CP),⟨none,none,1,.store 11 (.t 17) (.t 143),[17,16,15,0,1,2,3,4,5,6,7,8,9,10,11,12,13,14,15,16,17]⟩]) (sr [oN 144 (fd 4 14),oN 145 (lT 3 144),oN 146 (fd 4 16),oN 147 (lT 3 146),oN 148 (cl 159 [145,147]),oN 149 (fd 5 17),oS (.store 3 (.t 149) (.t 148))] (sr [oN 150 (fd 7 14),oN 151 (lT 3 150),oN 152 (fd 7 16),oN 153 (lT 3 152),oN 154 (cl 159 [151,153]),oN 155 (fd 8 17),oS (.store 3 (.t 155) (.t 154))] (.seq (sr [oN 156 (lT 11 17),oN 157 (cl 84 [156]),oN 158 (nt 157)] (cd 158 (sr [oN 159 (.build XF []),oS (.store 5 (.t 4) (.t 159)),oN 5 mN,oN 6 mF] .ret) .skip)) (rf 2 [oK 160 2 (oV 12),oK 161 2 (lT 11 17),oN 162 (.fE 11 CP 1 [(0,(.t 161))]),oK 163 1 (.app 11 184 (.t 160) (.t 162)),oK 12 2 (oV 163)]))))))) (rg [oW 120 15,oN 121 (bc .add 120 1),oW 15 121])))))))) (rg [oN 164 (bc .add 108 1),oW 108 164]))))))) (sr [oN 165 (lT 5 7),oW 166 12,oS (.store 5 (.t 4) (.t 165)),oW 5 166,oN 6 mT] .ret))))))))))⟩
structure pq (T : Tb) : Prop where
 hT : T 182 = some iW
 bU : fB T
 jO : jK T
 bG : eH T
 Hr : yc T
 iO : iJ T
 kS : qL T
 x9 : qK T
 ig : gZ T
def fZ : Fn:=⟨2,28,[.cell 4 5 true,.tmp 5,.tmp 6],(.seq (rf 1 [oN 4 (.alloc XF),oK 5 1 mN,oK 6 1 mF]) (.seq (sr [oW 10 0,oN 11 (cl 89 [10]),oN 12 (nt 11)] (cd 12 (sr [oN 13 (.build XF []),oS (.store 5 (.t 4) (.t 13)),oN 5 mN,oN 6 mF] .ret) .skip)) (.seq (rf 1 [oK 15 1 (oV 0),oK 16 1 (oV 1),oK 17 1 (cl 182 [15,16]),oK 14 1 (oV 17),oK 18 1 (ex 0 14),oK 19 1 (ex 1 14),oK 20 1 (ex 2 14),oN 7 (.alloc XF),⟨none,none,1,.store 5 (.t 7) (.t 18),[]⟩,oK 8 1 (oV 19),oK 9 1 (oV 20)]) (.seq (sr [oW 21 9,oN 22 (nt 21)] (cd 22 (sr [oN 23 (.build XF []),oS (.store 5 (.t 4) (.t 23)),oN 5 mN,oN 6 mF] .ret) .skip)) (sr [oN 24 (lT 5 7),oN 25 (cl 183 [24]),oW 26 8,oN 27 (cl 110 [26]),oS (.store 5 (.t 4) (.t 25)),oW 5 27,oN 6 mT] .ret)))))⟩
structure pz (T : Tb) : Prop where
 hT : T 174 = some fZ
 wL : pV T
 Lh : wJ T
 F5 : pq T
 Ee : lZ T
theorem MI {T : Tb} (h : pq T) {S : List Lk} {v : Int} (hb : bJ S = true) (hw : MR Lk.wf S) : PF T 182 [iq S,iv v] (.gq [SA (Nl S v),iq (elM S v),.bool (O9 S v)]):=by
 have hl : S.length ≤ 100:=Rf hb
 have c0:=yB h.bU (n:=0)
 by_cases hv : 1 ≤ v ∧ v ≤ 9
 ·have hv1 : ¬ v < 1:=by omega
  have hv2 : ¬ v ≥ 10:=by omega
  refine aC (fun x d=>(x == 39 && d == 999)) h.hT ?_
  simp only [iW,Lz]
  refine ew ?_
  refine yS @hv1 @hv2 ?_
  refine ah c0 ?_
  refine ew ?_
  refine aS (fun x d=>(x == 39 && d == 999)) (α:=Nat × Store × V × V) (fun q=>⟨dX [iq S,iv v,.any,.any,.ptr 0 0 0,.ak,.bool false,.ptr 1 0 0,q.2.2.2,.any,.any,.any,.any,.any,.any,.any,.any,.any,.any,.any,.any,.any,.any,.any,.any,.any,.any,.any,.any,iq S,iv (S.length : Nat),iv (q.1 : Nat)],q.2.1,0,0,[],[]⟩) (fun q=>q.1 ≤ S.length ∧ ElI q.2.1 v (fH (CJ S v q.1)) q.2.2.1 q.2.2.2 ((CJ S v q.1).map paZ) ((CJ S v q.1).map Pa.wc)) (fun q=>S.length - q.1) rfl (0,[some ⟨5,[[iv 0,.bool false,.ak,.ak,.ak]]⟩,some ⟨5,[[iv v,.bool (bQ 0).neg,ints (bQ 0).mag,ints (bQ 0).den,.ak]]⟩,none],.ak,.ak) ?_ ?_ ?_
  ·exact ⟨Nat.zero_le _,by dsimp only;rw [akP];exact ⟨rfl,rfl,.inl ⟨rfl,rfl⟩,.inl ⟨rfl,rfl⟩⟩⟩
  ·(refine aJ ?_;exact zy)
  ·rintro ⟨i,s,pv,wv⟩ ⟨hi,I⟩
   dsimp only at hi I
   have hX:=V6 (CJ S v i)
   have hAl:=aex S v i
   have I0:=I.a0
   have I1:=I.a1
   have hsl:=I.lt
   by_cases hc : (i : Int) < (S.length : Nat)
   ·have hil : i < S.length:=by omega
    have hx : (S.map Lk.cells).getD i [] = (S.getD i default).cells:=mg hil
    have es:=akQ S v hil
    have hlk:=qg hb (getD_mem hil)
    obtain ⟨kw,kx,ky,kp⟩:=yC hlk
    generalize S.getD i default = l at *
    unfold Hq at es
    by_cases ha : l.a = v
    ·have f0 : (l.a = v) = True:=eq_true ha
     rw [if_pos ha] at es
     have n1:=QS h.x9 (kD kx)
     have n2:=QS h.x9 (kD ky)
     have ca:=zY h.bG hX (kD kw)
     generalize hXe : fH (CJ S v i) = X at *
     generalize CJ S v i = A at *
     rcases I.p with ⟨hp,rfl⟩ | ⟨p,rfl,hp,hp3,hpl⟩
     ·have hA : A = []:=List.map_eq_nil_iff.1 hp
      subst hA
      rcases I.w with ⟨_,rfl⟩ | ⟨w,_,hw,_,hwl⟩
      case inr=>exact absurd hwl (by simp)
      refine Ue @hc @hx @f0 (And.intro I0 I1) @aO @dQ ?_
      refine ah n1 ?_
      refine Ue @hc @hx @f0 (And.intro I0 I1) @aO @dQ ?_
      refine ah n2 ?_
      refine Ue @hc @hx @f0 (And.intro I0 I1) @aO @dQ ?_
      refine ⟨by omega,by
       have hn0 : 2 ≤ List.length s:=hsl
       generalize List.length s = m at hn0 ⊢
       revert m
       refine Vw _ _ 2 (fun n hn=>?_) (fun n hn=>?_) ?_
       ·simp only [sh];split <;> omega
       ·simp [shA,sh];try omega
       ·unfold lU;decide +kernel,?_⟩
      refine ⟨by omega,?_⟩
      refine ah ca ?_
      refine Ue @hc @hx @f0 (And.intro I0 I1) @aO @dQ ?_
      refine ⟨(i + 1,?s1,.bF (s.length + 1 + 1) 0 1,.bF (s.length + 4) 0 1),?m1,⟨?a1,?b1⟩,?e1⟩
      case e1=>dsimp only;(refine aJ ?_;exact zy)
      case m1=>dsimp only;omega
      case a1=>dsimp only;omega
      case b1 =>
       dsimp only
       rw [es,Ed,hXe]
       refine ⟨(show aj _ 0 = aj s 0 by exact GL).trans I0,?u1,.inr ⟨s.length + 1 + 1,?p1,?q1,by omega,by simp⟩,.inr ⟨s.length + 4,?r1,?t1,by omega,by simp⟩⟩
       case u1=>simp (disch:=first | omega | (simp only [List.length_append,List.length_set,List.length_cons,List.length_nil];omega)) only [Hg]
       case p1=>simp
       case r1=>simp
       case q1=>simp (disch:=first | omega | (simp only [List.length_append,List.length_set,List.length_cons,List.length_nil];omega)) only [Hg];simp [paZ]
       case t1=>simp (disch:=first | omega | (simp only [List.length_append,List.length_set,List.length_cons,List.length_nil];omega)) only [Hg];simp [Pa.wc]

     ·rcases I.w with ⟨hwn,_⟩ | ⟨w,rfl,hw,hw3,hwl⟩
      case inl=>have:=List.map_eq_nil_iff.1 hwn;subst this;exact absurd hpl (by simp)
      have hpq:=aG hp
      have hwq:=aG hw
      have hpw : p ≠ w:=fun e=>by rw [e,hw] at hp;cases hp
      simp only [List.length_map] at hpl hwl ⊢
      refine WL @hc @hx @f0 (And.intro I0 I1) @aO @dQ (And.intro hp hw) ?_
      refine ah n1 ?_
      refine WL @hc @hx @f0 (And.intro I0 I1) @aO @dQ (And.intro hp hw) ?_
      refine ah n2 ?_
      refine WL @hc @hx @f0 (And.intro I0 I1) @aO @dQ (And.intro hp hw) ?_
      refine ⟨by omega,TU [1,p,s.length,s.length + 1,s.length + 1 + 1] [⟨14,[0],[0],false⟩,⟨13,[0],[],false⟩,⟨12,[1,3],[1,4],false⟩,⟨11,[],[3],false⟩,⟨10,[],[],false⟩,⟨9,[],[],false⟩,⟨8,[2],[],false⟩,⟨7,[2],[],false⟩,⟨6,[],[],false⟩,⟨5,[2],[],false⟩,⟨4,[2],[],false⟩,⟨3,[2],[],false⟩,⟨2,[2],[],false⟩,⟨1,[0],[],false⟩,⟨0,[0],[],false⟩] ?_ ?_ rfl ?_,?_⟩
      ·generalize List.length s = m at hsl hpq ⊢
       simp;omega
      ·intro o ho;simp at ho;omega
      ·show lU 5 _ _
       unfold lU;rfl
      refine ⟨by omega,?_⟩
      refine ah ca ?_
      refine WL @hc @hx @f0 (And.intro I0 I1) @aO @dQ (And.intro hp hw) ?_
      refine ⟨(i + 1,?s2,.bF (s.length + 1 + 1) 0 (A.length + 1),.bF (s.length + 4) 0 (A.length + 1)),?m2,⟨?a2,?b2⟩,?e2⟩
      case e2=>dsimp only;(refine aJ ?_;exact zy)
      case m2=>dsimp only;omega
      case a2=>dsimp only;omega
      case b2 =>
       dsimp only
       rw [es,Ed,hXe]
       refine ⟨(show aj _ 0 = aj s 0 by exact GL).trans I0,?u2,.inr ⟨s.length + 1 + 1,?p2,?q2,by omega,by simp⟩,.inr ⟨s.length + 4,?r2,?t2,by omega,by simp⟩⟩
       case u2=>simp (disch:=first | omega | (simp only [List.length_append,List.length_set,List.length_cons,List.length_nil];omega)) only [Hg]
       case p2=>simp
       case r2=>simp
       case q2=>simp (disch:=first | omega | (simp only [List.length_append,List.length_set,List.length_cons,List.length_nil];omega)) only [Hg];simp [paZ]
       case t2=>simp (disch:=first | omega | (simp only [List.length_append,List.length_set,List.length_cons,List.length_nil];omega)) only [Hg];simp [Pa.wc]

    ·rw [if_neg ha] at es
     by_cases hb2 : l.b = v
     ·have f0 : (l.a = v) = False:=eq_false ha
      have f1 : (l.b = v) = True:=eq_true hb2
      rw [if_pos hb2] at es
      have ca:=zY h.bG hX (kD kw)
      generalize hXe : fH (CJ S v i) = X at *
      generalize CJ S v i = A at *
      rcases I.p with ⟨hp,rfl⟩ | ⟨p,rfl,hp,hp3,hpl⟩
      ·have hA : A = []:=List.map_eq_nil_iff.1 hp
       subst hA
       rcases I.w with ⟨_,rfl⟩ | ⟨w,_,hw,_,hwl⟩
       case inr=>exact absurd hwl (by simp)
       refine WL @hc @hx @f0 @f1 (And.intro I0 I1) @aO @dQ ?_
       refine ⟨by omega,?_⟩
       refine ⟨by omega,?_⟩
       refine ah ca ?_
       refine WL @hc @hx @f0 @f1 (And.intro I0 I1) @aO @dQ ?_
       refine ⟨(i + 1,?s3,.bF (s.length + 1 + 1) 0 1,.bF (s.length + 4) 0 1),?m3,⟨?a3,?b3⟩,?e3⟩
       case e3=>dsimp only;(refine aJ ?_;exact zy)
       case m3=>dsimp only;omega
       case a3=>dsimp only;omega
       case b3 =>
        dsimp only
        rw [es,Ed,hXe]
        refine ⟨(show aj _ 0 = aj s 0 by exact GL).trans I0,?u3,.inr ⟨s.length + 1 + 1,?p3,?q3,by omega,by simp⟩,.inr ⟨s.length + 4,?r3,?t3,by omega,by simp⟩⟩
        case u3=>simp (disch:=first | omega | (simp only [List.length_append,List.length_set,List.length_cons,List.length_nil];omega)) only [Hg]
        case p3=>simp
        case r3=>simp
        case q3=>simp (disch:=first | omega | (simp only [List.length_append,List.length_set,List.length_cons,List.length_nil];omega)) only [Hg];simp [paZ]
        case t3=>simp (disch:=first | omega | (simp only [List.length_append,List.length_set,List.length_cons,List.length_nil];omega)) only [Hg];simp [Pa.wc]

      ·rcases I.w with ⟨hwn,_⟩ | ⟨w,rfl,hw,hw3,hwl⟩
       case inl=>have:=List.map_eq_nil_iff.1 hwn;subst this;exact absurd hpl (by simp)
       have hpq:=aG hp
       have hwq:=aG hw
       have hpw : p ≠ w:=fun e=>by rw [e,hw] at hp;cases hp
       simp only [List.length_map] at hpl hwl ⊢
       refine ew8 @hc @hx @f0 @f1 (And.intro I0 I1) @aO @dQ (And.intro hp hw) ?_
       refine ⟨by omega,?_⟩
       refine ⟨by omega,?_⟩
       refine ah ca ?_
       refine ew8 @hc @hx @f0 @f1 (And.intro I0 I1) @aO @dQ (And.intro hp hw) ?_
       refine ⟨(i + 1,?s4,.bF (s.length + 1 + 1) 0 (A.length + 1),.bF (s.length + 4) 0 (A.length + 1)),?m4,⟨?a4,?b4⟩,?e4⟩
       case e4=>dsimp only;(refine aJ ?_;exact zy)
       case m4=>dsimp only;omega
       case a4=>dsimp only;omega
       case b4 =>
        dsimp only
        rw [es,Ed,hXe]
        refine ⟨(show aj _ 0 = aj s 0 by exact GL).trans I0,?u4,.inr ⟨s.length + 1 + 1,?p4,?q4,by omega,by simp⟩,.inr ⟨s.length + 4,?r4,?t4,by omega,by simp⟩⟩
        case u4=>simp (disch:=first | omega | (simp only [List.length_append,List.length_set,List.length_cons,List.length_nil];omega)) only [Hg]
        case p4=>simp
        case r4=>simp
        case q4=>simp (disch:=first | omega | (simp only [List.length_append,List.length_set,List.length_cons,List.length_nil];omega)) only [Hg];simp [paZ]
        case t4=>simp (disch:=first | omega | (simp only [List.length_append,List.length_set,List.length_cons,List.length_nil];omega)) only [Hg];simp [Pa.wc]

     ·have f0 : (l.a = v) = False:=eq_false ha
      have f1 : (l.b = v) = False:=eq_false hb2
      rw [if_neg hb2] at es
      rw [List.append_nil] at es
      refine MC @hc @hx @f0 @f1 ?_
      refine ⟨(i + 1,?s5,pv,wv),?m5,⟨?a5,?b5⟩,?e5⟩
      case e5=>dsimp only;(refine aJ ?_;exact zy)
      case m5=>dsimp only;omega
      case a5=>dsimp only;omega
      case b5 =>
       dsimp only
       rw [es]
       exact ⟨(show aj _ 0 = aj s 0 by exact GL).trans I0,(show aj _ 1 = aj s 1 by exact GL).trans I1,I.p.fr fun q h1 h2=>by simp (disch:=first | omega | (simp only [List.length_append,List.length_set,List.length_cons,List.length_nil];omega)) only [Hg],I.w.fr fun q h1 h2=>by simp (disch:=first | omega | (simp only [List.length_append,List.length_set,List.length_cons,List.length_nil];omega)) only [Hg]⟩
   ·have hin : i = S.length:=by omega
    subst hin
    have hAe : CJ S v S.length = dM S v:=rfl
    rw [hAe] at hX hAl I
    have hok : ∀ a ∈ dM S v,a.share.ok = true ∧ a.dx.cn ∧ a.dy.cn ∧ 0 ≤ a.node ∧ a.node ≤ 9:=fun a ha=>aey hb ha
    have hB : O9 S v = (nV (bW v (dM S v)) && (FW (dM S v)).all fJ):=by
     unfold O9 inB
     rw [hb,decide_eq_true hv.1,decide_eq_true hv.2];rfl
    have hC : (bW v (dM S v)) = ⟨v,fH (dM S v),(dM S v).map (zO (fH (dM S v)))⟩:=rfl
    have hT:=@ahI S v
    have hF:=@Pg S v
    clear hw
    generalize dM S v = A at *
    generalize hXe : fH A = X at hX I hC
    have I1:=I.a1
    rcases I.p with ⟨hp,rfl⟩ | ⟨p,rfl,hp,hp3,hpl⟩
    ·have hA0 : A = []:=List.map_eq_nil_iff.1 hp
     subst hA0
     have hnc : nV (bW v []) = false:=by
      unfold nV
      rw [hC];simp
     rw [hnc] at hB
     have hB : O9 S v = false:=hB
     rw [(hF hB).1,(hF hB).2,hB]
     have wcd : (bW v []).wf:=by
      rw [hC]
      exact ⟨gI hX,by simp,fun x hx=>by cases hx⟩
     have cv:=nX h.ig (c:=bW v []) wcd
     rw [hnc,hC] at cv
     have I0:=I.a0
     refine yS @hc @I1 ?_
     refine aS (fun x d=>(x == 39 && d == 999)) (α:=Store) (fun s=>⟨dX [.any,iv v,.any,.any,.ptr 0 0 0,.ak,.bool false,.ptr 1 0 0,.any,.any,.any,.any,.any,.any,.any,.any,.any,.any,.any,.any,.any,.any,.any,.any,.any,.any,.any,.any,.any,.any,.any,.any,.any,.any,.any,.any,.any,.any,.any,.any,.any,.any,.any,.any,.any,.any,.any,.any,.any,.any,.any,.any,.any,.any,.any,.any,.any,.any,.any,.any,.any,.any,.any,.any,.any,.any,.any,.any,.any,.any,.any,.any,.any,.any,.any,.any,.any,.any,.any,.any,.any,.any,.any,iv 0,iv 0],s,0,0,[],[]⟩) (fun s=>aj s 0 = some ⟨5,[[iv 0,.bool false,.ak,.ak,.ak]]⟩ ∧ aj s 1 = some ⟨5,[[iv v,.bool X.neg,ints X.mag,ints X.den,.ak]]⟩) (fun s=>0) rfl s ?_ ?_ ?_
     ·exact ⟨I0,I1⟩
     ·(refine aJ ?_;exact zy)
     ·clear I I0 I1
      rintro s ⟨I0,I1⟩
      have hz : ¬ (0 : Int) < 0:=by decide
      have h0q:=aG I0
      have cv2 : PF T 185 [.agg [iv v,.bool X.neg,ints X.mag,ints X.den,.ak]] (.bool false):=by
       refine .Z9 (args:=[SA ⟨v,X,[]⟩]) (r:=.bool false) ?_ cv (au _)
       have k1:=au (ints X.mag)
       have k2:=au (ints X.den)
       simp only [nN,bM] at k1 k2 ⊢
       exact ⟨_,_,rfl,⟨_,rfl,_,_,rfl,rfl,_,_,rfl,rfl,_,_,rfl,k1,_,_,rfl,k2,_,_,rfl,.inl ⟨rfl,.inl rfl⟩,rfl⟩,rfl⟩
      refine yS @hz @I1 ?_
      refine ah cv2 ?_
      refine yS @I0 @I1 ?_
      exact GI (σ:=[])
    ·rcases I.w with ⟨hwn,_⟩ | ⟨w,rfl,hw,hw3,hwl⟩
     case inl=>have:=List.map_eq_nil_iff.1 hwn;subst this;exact absurd hpl (by simp)
     simp only [List.length_map] at hpl hwl I1 ⊢
     have hpq:=aG hp
     have hwq:=aG hw
     refine IG @hc @I1 @hp ?_
     refine aS (fun x d=>(x == 39 && d == 999)) (α:=Nat × Store) (fun q=>⟨dX [.any,iv v,.any,.any,.ptr 0 0 0,.ak,.bool false,.ptr 1 0 0,.bF w 0 A.length,.any,.any,.any,.any,.any,.any,.any,.any,.any,.any,.any,.any,.any,.any,.any,.any,.any,.any,.any,.any,.any,.any,.any,.any,.any,.any,.any,.any,.any,.any,.any,.any,.any,.any,.any,.any,.any,.any,.any,.any,.any,.any,.any,.any,.any,.any,.any,.any,.any,.any,.any,.any,.any,.any,.any,.any,.any,.any,.any,.any,.any,.any,.any,.any,.any,.any,.any,.any,.any,.any,.any,.any,.any,.any,iv (A.length : Nat),iv (q.1 : Nat)],q.2,0,0,[],[]⟩) (fun q=>(q.1 ≤ A.length ∧ aj q.2 0 = some ⟨5,[[iv 0,.bool false,.ak,.ak,.ak]]⟩ ∧ aj q.2 w = some ⟨3,A.map Pa.wc⟩) ∧ (q.1 < A.length → aj q.2 1 = some ⟨5,[[iv v,.bool X.neg,ints X.mag,ints X.den,.bF p 0 A.length]]⟩ ∧ aj q.2 p = some ⟨10,IZ (A.map fun a=>(zO X a).cells) (A.map paZ) q.1⟩) ∧ (q.1 = A.length → aj q.2 1 = some ⟨5,[(bW v A).cells]⟩)) (fun q=>A.length - q.1) rfl (0,s) ?_ ?_ ?_
     ·exact ⟨⟨Nat.zero_le _,I.a0,hw⟩,fun _=>⟨I1,by dsimp only;rw [akY];exact hp⟩,fun e=>by dsimp only at e;omega⟩
     ·(refine aJ ?_;exact zy)
     ·clear I I1 I0 hp hw hpq hwq
      rintro ⟨j,s⟩ ⟨⟨hj,I0,hw⟩,hM,hE⟩
      dsimp only at hj I0 hw hM hE
      have hwq:=aG hw
      by_cases hc2 : (j : Int) < (A.length : Nat)
      ·have hjl : j < A.length:=by omega
       obtain ⟨I1,hp⟩:=hM hjl
       have hpq:=aG hp
       have hpw : p ≠ w:=fun e=>by rw [e,hw] at hp;cases hp
       have hpA:=hok _ (getD_mem hjl)
       have hg : (A.map fun a=>(zO X a).cells).getD j [] = (zO X (A.getD j default)).cells:=mg hjl
       have hrow : (IZ (A.map fun a=>(zO X a).cells) (A.map paZ) j)[j]? = some (paZ (A.getD j default)):=by
        unfold IZ
        rw [List.getElem?_append_right (by simp;omega)]
        simp only [List.length_take,List.length_map,List.getElem?_drop]
        rw [show j + (j - min j A.length) = j by omega,mg? hjl]
       have hml : (IZ (A.map fun a=>(zO X a).cells) (A.map paZ) j).length = A.length:=by rw [aeG (by simp)];simp
       have hst:=aeH (a:=A.map fun a=>(zO X a).cells) (b:=A.map paZ) (j:=j) (d:=[]) (x:=(zO X (A.getD j default)).cells) (by simp) (by simpa using hjl) hg
       have hgw : (A.map Pa.wc)[j]? = some (A.getD j default).wc:=mg? hjl
       have cd:=QO h.Hr (r:=(A.getD j default).share) (s:=X) (kD hpA.1) hX
       generalize A.getD j default = a at *
       generalize IZ (A.map fun a=>(zO X a).cells) (A.map paZ) j = M at *
       have hgw : (A.map Pa.wc)[j]? = some [.bool a.share.neg,ints a.share.mag,ints a.share.den]:=hgw
       have hrow : M[j]? = some [iv a.node,.bool false,.ak,.ak,.bool a.dx.neg,ints a.dx.mag,ints a.dx.den,.bool a.dy.neg,ints a.dy.mag,ints a.dy.den]:=hrow
       refine WL @hc2 @I1 @hp @hw (And.intro hrow hml) @hgw (And.intro aO dQ) ?_
       refine ah cd ?_
       refine WL @hc2 @I1 @hp @hw (And.intro hrow hml) @hgw (And.intro aO dQ) ?_
       refine ⟨TU [1,w,p] [⟨12,[2],[2],false⟩,⟨11,[2],[],false⟩,⟨10,[2],[],false⟩,⟨9,[],[],false⟩,⟨8,[0],[],false⟩,⟨7,[0],[],false⟩,⟨6,[1],[],false⟩,⟨5,[1],[],false⟩,⟨4,[],[],false⟩,⟨3,[],[],false⟩,⟨2,[],[],false⟩,⟨1,[0],[],false⟩,⟨0,[0],[],false⟩] ?_ ?_ rfl ?_,?_⟩
       ·have : 1 ≠ w ∧ 1 ≠ p ∧ w ≠ p:=by omega
        simp [this]
       ·intro o ho;simp at ho;omega
       ·show lU 3 _ _
        unfold lU;rfl
       by_cases hj1 : j + 1 < A.length
       ·refine ⟨(j + 1,?s6),?m6,⟨⟨?a6,?b6,?c6⟩,fun _=>⟨?d6,?f6⟩,fun e=>absurd e (by dsimp only;omega)⟩,?e6⟩
        case e6=>dsimp only;(refine aJ ?_;exact zy)
        case m6=>dsimp only;omega
        case a6=>dsimp only;omega
        case b6=>exact (show aj _ 0 = aj s 0 by exact GL).trans I0
        case c6=>exact (show aj _ w = aj s w by exact GL).trans hw
        case d6=>exact (show aj _ 1 = aj s 1 by exact GL).trans I1
        case f6=>dsimp only;rw [← hst];exact aY hpq
       ·have hjn : j + 1 = A.length:=by omega
        have hrows : IZ (A.map fun a=>(zO X a).cells) (A.map paZ) A.length = (bW v A).ps.map Pa.cells:=by
         have:=aeF (A.map fun a=>(zO X a).cells) (A.map paZ) (by simp) (by simp)
         rw [List.length_map] at this
         rw [this,hC,List.map_map];rfl
        rw [hjn,hrows] at hst
        obtain ⟨s2,hs2⟩ : ∃ s2,s.set p (some ⟨10,M.set j (zO X a).cells⟩) = s2:=⟨_,rfl⟩
        have k0 : aj s2 0 = some ⟨5,[[iv 0,.bool false,.ak,.ak,.ak]]⟩:=by rw [← hs2,aB (by omega)];exact I0
        have k1 : aj s2 1 = some ⟨5,[[iv v,.bool X.neg,ints X.mag,ints X.den,.bF p 0 A.length]]⟩:=by rw [← hs2,aB (by omega)];exact I1
        have kw : aj s2 w = some ⟨3,A.map Pa.wc⟩:=by rw [← hs2,aB (by omega)];exact hw
        have kp : aj s2 p = some ⟨10,(bW v A).ps.map Pa.cells⟩:=by rw [← hs2,aY hpq,hst]
        have hl2 : s2.length = s.length:=by rw [← hs2];simp
        have hres : resolve s2 FD (.bF p 0 A.length) = some (Ip (bW v A).ps):=by
         have:=JH (n:=10) kp (U0 _)
         rw [List.length_map,hC,List.length_map] at this
         rw [hC];exact this
        refine ⟨(j + 1,L8 s2 1 ⟨5,[(bW v A).cells]⟩ [0,w]),?m7,⟨⟨?a7,?b7,?c7⟩,fun e=>absurd e (by dsimp only;omega),fun _=>?d7⟩,?e7⟩
        case e7 =>
         dsimp only
         show Fg _ ⟨_,s.set p (some ⟨10,M.set j (zO X a).cells⟩),_,_,_,_⟩
         rw [hs2]
         refine ak1 (p:=1) (n:=5) (A:=[[iv v,.bool X.neg,ints X.mag,ints X.den,.bF p 0 A.length]]) k1 rfl ?_ ?_ ?_
         ·intro o ho ob hob
          rcases List.mem_cons.1 ho with rfl | ho
          ·rw [k0] at hob;cases hob;simp [dJ,V.still]
          ·rw [List.mem_singleton.1 ho,kw] at hob;cases hob
           have:=aaB (A.map (·.share))
           rw [List.map_map] at this
           exact this
         ·intro i r r2 h1 h2
          cases i with
          | succ i=>cases h1
          |
           zero =>
           cases h1;cases h2
           rw [hC] at hres ⊢
           simp only [CS,qo]
           refine ⟨_,_,rfl,rfl,_,_,rfl,rfl,_,_,rfl,au _,_,_,rfl,au _,_,_,rfl,.inr (.inr ⟨hres,fun q hq k s0 l0 hk=>?_⟩),rfl⟩
           have:=Yq kp (U0 _) q hq
           have:=GH hk
           simp at this
           omega
         ·refine ew ?_
          refine ⟨yL (n:=1) ?_ (by omega),yL (n:=1) ?_ (by omega),jZ (n:=A.length) ?_ (Nat.le_refl _) rfl,by omega⟩
          ·rw [FZ (by omega),if_neg (by omega),if_pos (by simp),k0];rfl
          ·rw [FZ (by omega),if_pos rfl]
          ·rw [FZ (by omega),if_neg (by omega),if_pos (by simp),kw];simp
        case m7=>dsimp only;omega
        case a7=>dsimp only;omega
        case b7=>dsimp only;rw [Du (by omega),if_neg (by omega),if_pos (by simp)];exact k0
        case c7=>dsimp only;rw [Du (by omega),if_neg (by omega),if_pos (by simp)];exact kw
        case d7=>dsimp only;rw [Du (by omega),if_pos rfl]
      ·have hjn : j = A.length:=by omega
       have I1:=hE hjn
       subst hjn
       have wcd : (bW v A).wf:=by
        rw [hC]
        exact ⟨gI hX,by simp;omega,fun x hx=>by
         obtain ⟨a,ha,rfl⟩:=List.mem_map.1 hx
         have:=hok a ha
         exact ⟨gI (DX _ _),gI this.2.1,gI this.2.2.1⟩⟩
       have cv:=nX h.ig (c:=bW v A) wcd
       have hres : ∀ σ : Store,resolve σ FD (SA (bW v A)) = some (SA (bW v A)):=fun σ=>qQ (QK [bW v A] _ (by simp))
       clear hM hE
       refine yS @hc2 @I1 ?_
       refine ah cv ?_
       cases hcd : nV (bW v A)
       ·rw [hcd] at hB
        have hB : O9 S v = false:=hB
        rw [(hF hB).1,(hF hB).2,hB]
        refine yS @I1 @I0 ?_
        first | exact GI | exact GI (σ:=[])
       ·rw [hcd,Bool.true_and] at hB
        have hcc : (bW v A).cells = [iv v,.bool X.neg,ints X.mag,ints X.den,Ip (bW v A).ps]:=by rw [hC]
        rw [hcc] at I1
        have hpl2 : (bW v A).ps.length = A.length:=by rw [hC];simp
        refine yS @I1 @hpl2 ?_
        refine aS (fun x d=>(x == 39 && d == 999)) (α:=Nat × Store × V) (fun q=>⟨dX [.any,iv v,.any,.any,.ptr 0 0 0,.ak,.bool false,.ptr 1 0 0,.bF w 0 A.length,.any,.any,.any,q.2.2,.any,.any,.any,.any,.any,.any,.any,.any,.any,.any,.any,.any,.any,.any,.any,.any,.any,.any,.any,.any,.any,.any,.any,.any,.any,.any,.any,.any,.any,.any,.any,.any,.any,.any,.any,.any,.any,.any,.any,.any,.any,.any,.any,.any,.any,.any,.any,.any,.any,.any,.any,.any,.any,.any,.any,.any,.any,.any,.any,.any,.any,.any,.any,.any,.any,.any,.any,.any,.any,.any,.any,.any,.any,.any,.any,.any,.any,.any,.any,.any,.any,.any,.any,.any,.any,.any,.any,.any,.any,.any,.any,.any,.any,Ip (bW v A).ps,iv (A.length : Nat),iv (q.1 : Nat)],q.2.1,0,0,[],[]⟩) (fun q=>(q.1 ≤ A.length ∧ aj q.2.1 0 = some ⟨5,[[iv 0,.bool false,.ak,.ak,.ak]]⟩ ∧ aj q.2.1 w = some ⟨3,A.map Pa.wc⟩ ∧ aj q.2.1 1 = some ⟨5,[[iv v,.bool X.neg,ints X.mag,ints X.den,Ip (bW v A).ps]]⟩) ∧ LnA q.2.1 q.2.2 (jW A q.1) ∧ ∀ x ∈ jW A q.1,fJ x = true) (fun q=>A.length - q.1) rfl (0,s ++ [none],.ak) ?_ ?_ ?_
        ·exact ⟨⟨Nat.zero_le _,(aI (by omega)).trans I0,(aI hwq).trans hw,(aI (by omega)).trans I1⟩,.inl ⟨rfl,rfl⟩,fun x hx=>by cases hx⟩
        ·(refine aJ ?_;exact zy)
        ·clear I0 I1 hw hwq
         rintro ⟨i,s,mv⟩ ⟨⟨hi,I0,hw,I1⟩,hL,hall⟩
         dsimp only at hi I0 hw I1 hL hall
         have hwq:=aG hw
         have h1q:=aG I1
         have hLl:=IX A i
         by_cases hc3 : (i : Int) < (A.length : Nat)
         ·have hil : i < A.length:=by omega
          have hg : ((bW v A).ps.map Pa.cells).getD i [] = (zO X (A.getD i default)).cells:=by
           have:=mg (l:=(bW v A).ps) (f:=Pa.cells) (j:=i) (by rw [hpl2];exact hil)
           rw [zS hil,hXe] at this;exact this
          have hiA:=hok _ (getD_mem hil)
          refine IG @hc3 @hg @hpl2 ?_
          obtain ⟨qc,hqc⟩ : ∃ qc,List.length s = qc:=⟨_,rfl⟩
          have hq3 : 3 ≤ qc:=by omega
          refine aS (fun x d=>(x == 39 && d == 999)) (α:=Nat × Store × V) (fun q=>⟨dX [.any,iv v,.any,.any,.ptr 0 0 0,.ak,.bool false,.ptr 1 0 0,.bF w 0 A.length,.any,.any,.any,q.2.2,iv (i : Nat),.ptr qc 0 0,iv ((i : Nat) + 1 + (q.1 : Nat)),.any,.any,.any,.any,.any,.any,.any,.any,.any,.any,.any,.any,.any,.any,.any,.any,.any,.any,.any,.any,.any,.any,.any,.any,.any,.any,.any,.any,.any,.any,.any,.any,.any,.any,.any,.any,.any,.any,.any,.any,.any,.any,.any,.any,.any,.any,.any,.any,.any,.any,.any,.any,.any,.any,.any,.any,.any,.any,.any,.any,.any,.any,.any,.any,.any,.any,.any,.any,.any,.any,.any,.any,.any,.any,.any,.any,.any,.any,.any,.any,.any,.any,.any,.any,.any,.any,.any,.any,.any,.any,Ip (bW v A).ps,iv (A.length : Nat),iv (i : Nat)],q.2.1,0,0,[],[]⟩) (fun q=>(i + 1 + q.1 ≤ A.length ∧ aj q.2.1 0 = some ⟨5,[[iv 0,.bool false,.ak,.ak,.ak]]⟩ ∧ aj q.2.1 w = some ⟨3,A.map Pa.wc⟩ ∧ aj q.2.1 1 = some ⟨5,[[iv v,.bool X.neg,ints X.mag,ints X.den,Ip (bW v A).ps]]⟩ ∧ aj q.2.1 qc = some ⟨10,[(zO X (A.getD i default)).cells]⟩) ∧ LnA q.2.1 q.2.2 (jW A i ++ o9 A i q.1) ∧ ∀ x ∈ jW A i ++ o9 A i q.1,fJ x = true) (fun q=>A.length - q.1) rfl (0,s ++ [some ⟨10,[(zO X (A.getD i default)).cells]⟩],mv) ?_ ?_ ?_
          ·refine ⟨⟨by dsimp only;omega,(aI (by omega)).trans I0,(aI hwq).trans hw,(aI h1q).trans I1,by dsimp only;rw [← hqc];exact Aw _ _⟩,?_,?_⟩
           ·dsimp only
            rw [TP,List.append_nil]
            exact hL.fr fun p hp=>aI hp
           ·dsimp only
            rw [TP,List.append_nil];exact hall
          ·subst hqc
           (refine aJ ?_;exact zy)
          ·clear I0 I1 hw hwq h1q hL hall hqc
           rintro ⟨j,s,mv⟩ ⟨⟨hj,I0,hw,I1,Iq⟩,hL,hall⟩
           dsimp only at hj I0 hw I1 Iq hL hall
           have hwq:=aG hw
           have h1q:=aG I1
           have hqq:=aG Iq
           have hRl:=Rn A i j
           by_cases hc4 : (i : Int) + 1 + j < (A.length : Nat)
           ·have hkl : i + 1 + j < A.length:=by omega
            have hg2 : ((bW v A).ps.map Pa.cells).getD (i + 1 + j) [] = (zO X (A.getD (i + 1 + j) default)).cells:=by
             have:=mg (l:=(bW v A).ps) (f:=Pa.cells) (j:=i + 1 + j) (by rw [hpl2];exact hkl)
             rw [zS hkl,hXe] at this;exact this
            have hkA:=hok _ (getD_mem hkl)
            have ht : ((i : Int) + 1 + (j : Nat)).toNat = i + 1 + j:=by omega
            have hwi : (A.map Pa.wc)[i]? = some (A.getD i default).wc:=mg? hil
            have hwk : (A.map Pa.wc)[i + 1 + j]? = some (A.getD (i + 1 + j) default).wc:=mg? hkl
            have es:=ZC A hkl
            have hbad:=@aeL A i (i + 1 + j) (by omega) hkl
            rw [hXe] at es hbad
            obtain ⟨a,ha⟩ : ∃ a,A.getD i default = a:=⟨_,rfl⟩
            obtain ⟨b,hb'⟩ : ∃ b,A.getD (i + 1 + j) default = b:=⟨_,rfl⟩
            rw [ha] at hiA es hbad Iq hwi
            rw [hb'] at hkA es hbad hg2 hwk
            have hwi : (A.map Pa.wc)[i]? = some [.bool a.share.neg,ints a.share.mag,ints a.share.den]:=hwi
            have hwk : (A.map Pa.wc)[i + 1 + j]? = some [.bool b.share.neg,ints b.share.mag,ints b.share.den]:=hwk
            have cm:=Dp h.iO (r:=a.share) (s:=b.share) (kD hiA.1) (kD hkA.1)
            have cd:=QO h.Hr (r:=mulR a.share b.share) (s:=X) (Js _ _) hX
            have cx:=Aa h.kS hiA.2.1 hkA.2.1
            have cy:=Aa h.kS hiA.2.2.1 hkA.2.2.1
            have hcn:=ZB X a b
            have civ:=Au h.jO (l:=Bd X a b) ⟨gI hcn.1,gI hcn.2.1,gI hcn.2.2⟩
            refine WL @hc4 (And.intro hg2 ht) @hpl2 (And.intro I1 Iq) @hw (And.intro hwi hwk) (And.intro aO dQ) ?_
            refine ah cm ?_
            refine IG (And.intro I1 Iq) @hw (And.intro aO dQ) ?_
            refine ah cd ?_
            refine IG (And.intro I1 Iq) @hw (And.intro aO dQ) ?_
            have avT : w ≠ qc:=fun e=>by rw [e,Iq] at hw;cases hw
            refine ⟨TU [1,w,qc,s.length,s.length + 1] [⟨18,[4],[4],false⟩,⟨17,[],[4],false⟩,⟨16,[],[],false⟩,⟨15,[],[],false⟩,⟨14,[0],[],false⟩,⟨13,[0],[],false⟩,⟨12,[],[],false⟩,⟨11,[1],[],false⟩,⟨10,[1],[],false⟩,⟨9,[],[],false⟩,⟨8,[],[],false⟩,⟨7,[1],[],false⟩,⟨6,[1],[],false⟩,⟨5,[],[],false⟩,⟨4,[],[],false⟩,⟨3,[3],[],false⟩,⟨2,[3],[],false⟩,⟨1,[2],[],false⟩,⟨0,[2],[],false⟩] ?_ ?_ rfl ?_,?_⟩
            ·clear I0 hw I1 Iq hL hall
             generalize List.length s = m at hwq h1q hqq ⊢
             have : 1 ≠ w ∧ 1 ≠ qc ∧ w ≠ qc ∧ 1 ≠ m ∧ 1 ≠ m + 1 ∧ w ≠ m ∧ w ≠ m + 1 ∧ qc ≠ m ∧ qc ≠ m + 1:=by omega
             simp [this];omega
            ·intro o ho;simp at ho;omega
            ·show lU 5 _ _
             unfold lU;rfl
            refine IG (And.intro I1 Iq) @hw (And.intro aO dQ) ?_
            refine ah cx ?_
            refine IG (And.intro I1 Iq) @hw (And.intro aO dQ) ?_
            refine ah cy ?_
            refine IG (And.intro I1 Iq) @hw (And.intro aO dQ) ?_
            refine ah civ ?_
            cases hlk : fJ (Bd X a b)
            ·have hB2 : O9 S v = false:=by rw [hB];exact hbad hlk
             rw [(hF hB2).1,(hF hB2).2,hB2]
             refine yS @I0 (And.intro aO dQ) ?_
             exact GI (σ:=[])
            ·have en : jW A i ++ o9 A i (j + 1) = (jW A i ++ o9 A i j) ++ [Bd X a b]:=by rw [es,List.append_assoc]
             have aiw : ∀ x ∈ jW A i ++ o9 A i (j + 1),fJ x = true:=fun x hx=>by
              rw [en] at hx
              rcases List.mem_append.1 hx with hx | hx
              ·exact hall x hx
              ·rw [List.mem_singleton.1 hx];exact hlk
             have hMl : (jW A i ++ o9 A i j).length ≤ 20000:=by
              rw [List.length_append]
              have : i * A.length ≤ 100 * 100:=Nat.mul_le_mul (by omega) (by omega)
              omega
             generalize jW A i ++ o9 A i j = Ms at *
             rcases hL with ⟨rfl,rfl⟩ | ⟨m2,rfl,hm2⟩
             ·refine CQ (And.intro aO dQ) ?_
              refine ⟨by omega,(j + 1,?s8,.bF (s.length + 1 + 1 + 1) 0 1),?m8,⟨⟨?a8,?b8,?c8,?d8,?f8⟩,.inr ⟨s.length + 1 + 1 + 1,?g8,?h8⟩,aiw⟩,?e8⟩
              case e8=>dsimp only;(refine aJ ?_;exact zy)
              case m8=>dsimp only;omega
              case a8=>dsimp only;omega
              case b8=>exact (show aj _ 0 = aj s 0 by exact GL).trans I0
              case c8=>exact (show aj _ w = aj s w by exact GL).trans hw
              case d8=>exact (show aj _ 1 = aj s 1 by exact GL).trans I1
              case f8=>dsimp only;rw [ha];exact (show aj _ qc = aj s qc by exact GL).trans Iq
              case g8=>dsimp only;rw [en];simp
              case h8 =>
               dsimp only
               rw [en]
               simp (disch:=first | omega | (simp only [List.length_append,List.length_set,List.length_cons,List.length_nil];omega)) only [Hg]
               simp [Bd,zO]
             ·have avU:=aG hm2
              have n1 : m2 ≠ 1:=fun e=>by rw [e,I1] at hm2;cases hm2
              have n2 : m2 ≠ w:=fun e=>by rw [e,hw] at hm2;cases hm2
              have n3 : m2 ≠ qc:=fun e=>by rw [e,Iq] at hm2;cases hm2
              have n0 : m2 ≠ 0:=fun e=>by rw [e,I0] at hm2;cases hm2
              refine yS (And.intro aO dQ) @hm2 ?_
              refine ⟨by omega,(j + 1,?s9,.bF (s.length + 1 + 1 + 1) 0 (Ms.length + 1)),?m9,⟨⟨?a9,?b9,?c9,?d9,?f9⟩,.inr ⟨s.length + 1 + 1 + 1,?g9,?h9⟩,aiw⟩,?e9⟩
              case e9=>dsimp only;(refine aJ ?_;exact zy)
              case m9=>dsimp only;omega
              case a9=>dsimp only;omega
              case b9=>exact (show aj _ 0 = aj s 0 by exact GL).trans I0
              case c9=>exact (show aj _ w = aj s w by exact GL).trans hw
              case d9=>exact (show aj _ 1 = aj s 1 by exact GL).trans I1
              case f9=>dsimp only;rw [ha];exact (show aj _ qc = aj s qc by exact GL).trans Iq
              case g9=>dsimp only;rw [en];simp
              case h9 =>
               dsimp only
               rw [en]
               simp (disch:=first | omega | (simp only [List.length_append,List.length_set,List.length_cons,List.length_nil];omega)) only [Hg]
               simp [Bd,zO]
           ·have hjn : j = A.length - (i + 1):=by omega
            refine JZ @hc4 @hpl2 (And.intro I1 Iq) @hw (And.intro aO dQ) ?_
            refine ⟨(i + 1,s,mv),?mA,⟨⟨?aA,I0,hw,I1⟩,?bA,?cA⟩,?eA⟩
            case eA=>dsimp only;(refine aJ ?_;exact zy)
            case mA=>dsimp only;omega
            case aA=>dsimp only;omega
            case bA=>dsimp only;rw [hjn] at hL;exact hL
            case cA=>dsimp only;rw [hjn] at hall;exact hall
         ·have hin : i = A.length:=by omega
          subst hin
          have hB2 : O9 S v = true:=by rw [hB];exact List.all_eq_true.2 hall
          rw [(hT hB2).1,(hT hB2).2,hB2]
          refine yS @hc3 (And.intro I1 I0) ?_
          refine ak2 (s:=s) (c:=bW v A) hcc (QK [bW v A] _ (by simp)) hL ?_ I1 ?_ ⟨_,I0⟩
          ·exact GL
          ·intro q hq0
           exact GL
 ·have hB : O9 S v = false:=by
   unfold O9 inB
   rcases Int.lt_or_le v 1 with k | k
   ·rw [decide_eq_false (show ¬ 1 ≤ v by omega)];simp
   ·rw [decide_eq_false (show ¬ v ≤ 9 by omega)];simp
  rw [(Pg hB).1,(Pg hB).2,hB]
  refine aC (fun x d=>(x == 39 && d == 999)) h.hT ?_
  simp only [iW,Lz]
  refine ew ?_
  by_cases hv1 : v < 1
  ·refine CQ @hv1 ?_
   exact GI (σ:=[])
  ·have hv2 : v ≥ 10:=by omega
   refine yS @hv1 @hv2 ?_
   exact GI (σ:=[])
theorem Ep.ahS {s : Store} {cs cs' ts ts' : List V} {os : List Nat} {L : List (Nat × Obj)} (E : Ep s cs ts os L) (h1 : cs' = cs) (h2 : ts' = ts) : Ep s cs' ts' os L:=by
 subst h1;subst h2;exact E
theorem I5 {T : Tb} (h : lZ T) {c : Cd} (hn : 0 < c.ps.length) (hz : c.total.sz ≤ 1048576 ∧ ∀ a ∈ c.ps,a.sz ≤ 1048576) (hl : c.ps.length ≤ 1048576) : PO T 183 [SA c] (SA c):=by
 refine dw (fun x d=>x == 145) h.hT ?_
 simp only [jw,Lz,St.enter,List.length_cons,List.length_nil,Nat.zero_add]
 refine ew ?_
 refine jD (sQ h.iV (r:=c.total) hz.1) (by (refine ew ?_;try with_reducible exact True.intro)) (by (refine ew ?_;try with_reducible exact True.intro)) ?_
 intro r q1 o1 G
 obtain ⟨_,rfl,hQ⟩:=G.ow.fG
 obtain ⟨x1,x2,rfl⟩:=hQ.rat
 have lx:=bT.leaf hQ rfl
 simp only [List.all_cons,List.all_nil,Bool.and_true,Bool.and_eq_true] at lx
 have gl:=G.len
 simp only [List.length_cons,List.length_nil,List.length_append] at gl
 have P0 : aj q1 0 = some ⟨5,[c.cells]⟩:=G.old 0 (by simp)
 have P1 : aj q1 1 = some ⟨5,[[iv 0,.bool false,.ak,.ak,.ak]]⟩:=G.old 1 (by simp)
 have hf : ∀ o ∈ o1,3 ≤ o:=fun o ho=>by have:=G.fresh o ho;simpa using this
 refine MC (And.intro P0 P1) @lx @gl @List.set_set.{0} ?_
 refine ⟨by unfold lU;decide +kernel,?_⟩
 refine MC (And.intro P0 P1) @lx @gl @List.set_set.{0} ?_
 have E : Ep q1 [iv c.node,.bool c.total.neg,x1,x2] [iv c.node,.bool c.total.neg,ints c.total.mag,ints c.total.den] o1 [(1,⟨5,[[iv 0,.bool false,.ak,.ak,.ak]]⟩)]:=by
  have E0 : Ep [some ⟨5,[c.cells]⟩,some ⟨5,[[iv 0,.bool false,.ak,.ak,.ak]]⟩,none] [] [] [] [(1,⟨5,[[iv 0,.bool false,.ak,.ak,.ak]]⟩)]:=⟨Ox,by simp [aj]⟩
  have:=E0.got (s1:=[some ⟨5,[c.cells]⟩,some ⟨5,[[iv 0,.bool false,.ak,.ak,.ak]]⟩,none]) (fun _ _=>rfl) (Nat.le_refl _) (Ju (q:=.i64) (n:=c.node) hQ) G.nd (by simpa using G.fresh) (by simpa using G.old)
  simpa using this
 have E1:=E.LU (p:=2) (ob:=⟨5,[[iv c.node,.bool c.total.neg,x1,x2,.ak]]⟩) (L':=[(1,⟨5,[[iv 0,.bool false,.ak,.ak,.ak]]⟩),(2,⟨5,[[iv c.node,.bool c.total.neg,x1,x2,.ak]]⟩)]) (fun hm=>by have:=hf 2 hm;omega) (by omega) (by simp)
 clear E G P0 P1 hQ hf gl
 refine aS (fun x d=>x == 145) (α:=Nat × Store × V × List (List V) × List Nat) (fun q=>⟨dX [.any,.any,.ptr 1 0 0,.ptr 2 0 0,.any,.any,.any,.any,.any,.any,.any,.any,.any,.any,Ip c.ps,iv (c.ps.length : Nat),iv (q.1 : Nat)],q.2.1,0,0,[],[]⟩) (fun q=>(q.1 ≤ c.ps.length ∧ q.2.2.2.1.length = q.1 ∧ ∀ r ∈ q.2.2.2.1,r.length = 10) ∧ ∃ M,LAt 10 q.2.2.1 q.2.2.2.1 M ∧ Ep q.2.1 ([iv c.node,.bool c.total.neg,x1,x2] ++ q.2.2.2.1.flatten) ([iv c.node,.bool c.total.neg,ints c.total.mag,ints c.total.den] ++ ((c.ps.take q.1).map Pa.cells).flatten) q.2.2.2.2 ([(1,⟨5,[[iv 0,.bool false,.ak,.ak,.ak]]⟩),(2,⟨5,[[iv c.node,.bool c.total.neg,x1,x2,q.2.2.1]]⟩)] ++ M)) (fun q=>c.ps.length - q.1) rfl (0,q1.set 2 (some ⟨5,[[iv c.node,.bool c.total.neg,x1,x2,.ak]]⟩),.ak,[],o1) ?_ ?_ ?_
 ·exact ⟨⟨Nat.zero_le _,rfl,fun r hr=>by cases hr⟩,[],.inl ⟨rfl,rfl,rfl⟩,by simpa using E1⟩
 ·(refine aJ ?_;exact zy)
 ·clear E1
  rintro ⟨i,s,pv,A,os⟩ ⟨⟨hi,hAl,hA10⟩,M,hLA,E⟩
  dsimp only at hi hAl hA10 hLA E
  have L1:=E.at0 (p:=1) (ob:=⟨5,[[iv 0,.bool false,.ak,.ak,.ak]]⟩) (by simp)
  have L2:=E.at0 (p:=2) (ob:=⟨5,[[iv c.node,.bool c.total.neg,x1,x2,pv]]⟩) (by simp)
  by_cases hc : (i : Int) < (c.ps.length : Nat)
  ·have hil : i < c.ps.length:=by omega
   have hx : (c.ps.map Pa.cells).getD i [] = (c.ps.getD i default).cells:=mg hil
   have hza:=hz.2 _ (getD_mem hil)
   have ets : (c.ps.take (i + 1)).map Pa.cells = (c.ps.take i).map Pa.cells ++ [(c.ps.getD i default).cells]:=by rw [take_snoc hil,List.map_append];rfl
   generalize c.ps.getD i default = a at *
   unfold Pa.sz at hza
   refine yS @hc @hx ?_
   have hq0 : ∀ o,o < s.length → aj (s ++ [some ⟨10,[a.cells]⟩] ++ [none]) o = aj s o:=fun o ho=>by simp only [List.append_assoc];exact iL ho
   have hqe : aj (s ++ [some ⟨10,[a.cells]⟩] ++ [none]) s.length = some ⟨10,[a.cells]⟩:=(aI (by simp)).trans (Aw _ _)
   have hs1 : (s ++ [some (⟨10,[a.cells]⟩ : Obj)] ++ [none]).length = s.length + 1 + 1:=by simp
   refine jD (sQ h.iV (r:=a.share) (by omega)) (by (refine ew ?_;try with_reducible exact True.intro)) (by (refine ew ?_;try with_reducible exact True.intro)) ?_
   intro r q2 o2 G
   obtain ⟨_,rfl,hQ⟩:=G.ow.fG
   obtain ⟨y1,y2,rfl⟩:=hQ.rat
   have lq:=bT.leaf hQ rfl
   simp only [List.all_cons,List.all_nil,Bool.and_true,Bool.and_eq_true] at lq
   have E2:=E.got (s1:=s ++ [some ⟨10,[a.cells]⟩] ++ [none]) hq0 (by omega) (Ju (q:=.i64) (n:=a.node) hQ) G.nd G.fresh G.old
   have he2 : aj q2 s.length = some ⟨10,[a.cells]⟩:=(G.old s.length (by omega)).trans hqe
   have ll2 : s.length + 1 + 1 ≤ q2.length:=by have:=G.len;omega
   have fr2 : ∀ o ∈ o2,s.length + 2 ≤ o:=fun o ho=>by have:=G.fresh o ho;simp at this;omega
   have lf2:=lq
   clear G hQ lq
   refine yS (And.intro he2 ll2) @lf2 ?_
   refine jD (sQ h.iV (r:=a.dx) (by omega)) (by (refine yS (And.intro he2 ll2) @lf2 ?_;try with_reducible exact True.intro)) (by (refine yS (And.intro he2 ll2) @lf2 ?_;try with_reducible exact True.intro)) ?_
   intro r q3 o3 G
   obtain ⟨_,rfl,hQ⟩:=G.ow.fG
   obtain ⟨y3,y4,rfl⟩:=hQ.rat
   have lq:=bT.leaf hQ rfl
   simp only [List.all_cons,List.all_nil,Bool.and_true,Bool.and_eq_true] at lq
   have E3:=E2.got (s1:=q2) (fun _ _=>rfl) (Nat.le_refl _) (hQ) G.nd G.fresh G.old
   have he3 : aj q3 s.length = some ⟨10,[a.cells]⟩:=(G.old s.length (by omega)).trans he2
   have ll3 : s.length + 1 + 1 ≤ q3.length:=by have:=G.len;omega
   have fr3 : ∀ o ∈ o3,s.length + 2 ≤ o:=fun o ho=>by have:=G.fresh o ho;omega
   have lf3:=And.intro lf2 lq
   clear G hQ lq
   refine yS (And.intro he3 ll3) @lf3 ?_
   refine jD (sQ h.iV (r:=a.dy) (by omega)) (by (refine yS (And.intro he3 ll3) @lf3 ?_;try with_reducible exact True.intro)) (by (refine yS (And.intro he3 ll3) @lf3 ?_;try with_reducible exact True.intro)) ?_
   intro r q4 o4 G
   obtain ⟨_,rfl,hQ⟩:=G.ow.fG
   obtain ⟨y5,y6,rfl⟩:=hQ.rat
   have lq:=bT.leaf hQ rfl
   simp only [List.all_cons,List.all_nil,Bool.and_true,Bool.and_eq_true] at lq
   have E4:=E3.got (s1:=q3) (fun _ _=>rfl) (Nat.le_refl _) (hQ) G.nd G.fresh G.old
   have he4 : aj q4 s.length = some ⟨10,[a.cells]⟩:=(G.old s.length (by omega)).trans he3
   have ll4 : s.length + 1 + 1 ≤ q4.length:=by have:=G.len;omega
   have fr4 : ∀ o ∈ o4,s.length + 2 ≤ o:=fun o ho=>by have:=G.fresh o ho;omega
   have lf4:=And.intro lf3 lq
   clear G hQ lq
   refine yS (And.intro he4 ll4) @lf4 ?_
   refine ⟨by
    have hn0 : 0 ≤ List.length s:=Nat.zero_le _
    generalize List.length s = m at hn0 ⊢
    revert m
    refine Vw _ _ 0 (fun n hn=>?_) (fun n hn=>?_) ?_
    ·simp only [sh];split <;> omega
    ·simp [shA,sh];try omega
    ·unfold lU;decide +kernel,?_⟩
   have L22:=E4.at0 (p:=2) (ob:=⟨5,[[iv c.node,.bool c.total.neg,x1,x2,pv]]⟩) (by simp)
   have L11:=E4.at0 (p:=1) (ob:=⟨5,[[iv 0,.bool false,.ak,.ak,.ak]]⟩) (by simp)
   have hf5 : s.length + 1 ∉ ((os ++ o2) ++ o3) ++ o4:=by
    intro hm
    simp only [List.mem_append] at hm
    rcases hm with ((hm | hm) | hm) | hm
    ·have:=E.aez _ hm;omega
    ·have:=fr2 _ hm;omega
    ·have:=fr3 _ hm;omega
    ·have:=fr4 _ hm;omega
   have hf2:=(E4.l (2,⟨5,[[iv c.node,.bool c.total.neg,x1,x2,pv]]⟩) (by simp)).2
   have hf1:=(E4.l (1,⟨5,[[iv 0,.bool false,.ak,.ak,.ak]]⟩) (by simp)).2
   have hs3 : 2 < s.length:=L2.2
   rcases hLA with ⟨rfl,rfl,rfl⟩ | ⟨p,rfl,rfl⟩
   ·refine MC @L22 (And.intro he4 ll4) @lf4 @List.set_set.{0} ?_
    refine ⟨by omega,(i + 1,?s1,.bF (q4.length + 1) 0 1,[] ++ [[iv a.node,.bool a.share.neg,y1,y2,.bool a.dx.neg,y3,y4,.bool a.dy.neg,y5,y6]],((os ++ o2) ++ o3) ++ o4),?m1,⟨⟨?a1,?b1,?c1⟩,[(q4.length + 1,⟨10,[] ++ [[iv a.node,.bool a.share.neg,y1,y2,.bool a.dx.neg,y3,y4,.bool a.dy.neg,y5,y6]]⟩)],.inr ⟨q4.length + 1,?d1,rfl⟩,?f1⟩,?e1⟩
    case e1=>dsimp only;(refine aJ ?_;exact zy)
    case m1=>dsimp only;omega
    case a1=>dsimp only;omega
    case b1=>dsimp only;simp at hAl ⊢;omega
    case c1 =>
     intro r hr
     rcases List.mem_append.1 hr with hr | hr
     ·exact hA10 r hr
     ·rw [List.mem_singleton.1 hr];rfl
    case d1=>dsimp only;simp
    case f1 =>
     dsimp only
     rw [ets]
     refine Ep.ahS (E4.to ?_ ?_) ?_ ?_
     ·intro o ho
      have a1:=E4.aez o ho
      have a2 : o ≠ s.length + 1:=fun e=>hf5 (e ▸ ho)
      have a3 : o ≠ 2:=fun e=>hf2 (e ▸ ho)
      exact GL
     ·intro q hq
      simp only [List.cons_append,List.nil_append,List.mem_cons,List.not_mem_nil,or_false] at hq
      rcases hq with rfl | rfl | rfl
      ·refine .inl ⟨by simp,?_⟩
       show aj _ 1 = aj q4 1
       exact GL
      ·refine .inr ⟨?_,hf2⟩
       show aj _ 2 = _
       exact GL
      ·refine .inr ⟨?_,fun hm=>by have:=E4.aez _ hm;omega⟩
       show aj _ (q4.length + 1) = _
       exact GL
     ·simp
     ·simp
   ·have L33:=E4.at0 (p:=p) (ob:=⟨10,A⟩) (by simp)
    have hps : p < s.length:=(E.at0 (p:=p) (ob:=⟨10,A⟩) (by simp)).2
    have hp2 : p ≠ 2:=fun e=>by have:=L33.1;rw [e,L22.1] at this;cases this
    refine JZ @L22 @L33 (And.intro he4 ll4) @lf4 @List.set_set.{0} ?_
    have hfp:=(E4.l (p,⟨10,A⟩) (by simp)).2
    have hp1 : p ≠ 1:=fun e=>by have:=L33.1;rw [e,L11.1] at this;cases this
    refine ⟨by omega,(i + 1,?s2,.bF (q4.length + 1) 0 (A.length + 1),A ++ [[iv a.node,.bool a.share.neg,y1,y2,.bool a.dx.neg,y3,y4,.bool a.dy.neg,y5,y6]],((os ++ o2) ++ o3) ++ o4),?m2,⟨⟨?a2,?b2,?c2⟩,[(q4.length + 1,⟨10,A ++ [[iv a.node,.bool a.share.neg,y1,y2,.bool a.dx.neg,y3,y4,.bool a.dy.neg,y5,y6]]⟩)],.inr ⟨q4.length + 1,?d2,rfl⟩,?f2⟩,?e2⟩
    case e2=>dsimp only;(refine aJ ?_;exact zy)
    case m2=>dsimp only;omega
    case a2=>dsimp only;omega
    case b2=>dsimp only;simp;omega
    case c2 =>
     intro r hr
     rcases List.mem_append.1 hr with hr | hr
     ·exact hA10 r hr
     ·rw [List.mem_singleton.1 hr];rfl
    case d2=>dsimp only;simp
    case f2 =>
     dsimp only
     rw [ets]
     refine Ep.ahS (E4.to ?_ ?_) ?_ ?_
     ·intro o ho
      have a1:=E4.aez o ho
      have a2 : o ≠ s.length + 1:=fun e=>hf5 (e ▸ ho)
      have a3 : o ≠ 2:=fun e=>hf2 (e ▸ ho)
      have a4 : o ≠ p:=fun e=>hfp (e ▸ ho)
      exact GL
     ·intro q hq
      simp only [List.cons_append,List.nil_append,List.mem_cons,List.not_mem_nil,or_false] at hq
      rcases hq with rfl | rfl | rfl
      ·refine .inl ⟨by simp,?_⟩
       show aj _ 1 = aj q4 1
       exact GL
      ·refine .inr ⟨?_,hf2⟩
       show aj _ 2 = _
       exact GL
      ·refine .inr ⟨?_,fun hm=>by have:=E4.aez _ hm;omega⟩
       show aj _ (q4.length + 1) = _
       exact GL
     ·simp
     ·simp
  ·have hin : i = c.ps.length:=by omega
   subst hin
   rcases hLA with ⟨rfl,rfl,rfl⟩ | ⟨p,rfl,rfl⟩
   ·simp at hAl;omega
   ·have L33:=E.at0 (p:=p) (ob:=⟨10,A⟩) (by simp)
    rw [List.take_length] at E
    refine yS @hc (And.intro L1 L2) ?_
    rw [if_pos (by rw [lx.2.1,lx.2.2];rfl)]
    have hf1:=(E.l (1,⟨5,[[iv 0,.bool false,.ak,.ak,.ak]]⟩) (by simp)).2
    have hp1 : p ≠ 1:=fun e=>by have:=L33.1;rw [e,L1.1] at this;cases this
    have Es:=E.LU (p:=1) (ob:=⟨5,[[iv c.node,.bool c.total.neg,x1,x2,.bF p 0 A.length]]⟩) (L':=[(p,⟨10,A⟩)]) hf1 L1.2 (fun q hq=>.inl (by rw [List.mem_singleton.1 hq];exact ⟨hp1,by simp⟩))
    have hA' : A.length = (c.ps.map Pa.cells).length:=by rw [List.length_map];exact hAl
    have aoD : ∀ r ∈ c.ps.map Pa.cells,r.length = 10:=fun r hr=>by obtain ⟨x,_,rfl⟩:=List.mem_map.1 hr;rfl
    have hfl : A.flatten.length = (c.ps.map Pa.cells).flatten.length:=by
     have e1 : ∀ (X : List (List V)),(∀ r ∈ X,r.length = 10) → X.flatten.length = X.length * 10:=fun X=>by
      induction X with
      | nil=>intro _;rfl
      | cons r X ih=>intro h;rw [List.flatten_cons,List.length_append,ih fun r hr=>h r (by simp [hr]),h r (by simp),List.length_cons];omega
     rw [e1 A hA10,e1 _ aoD,hA']
    obtain ⟨os1,E2,_⟩:=(Ep.ahS (cs':=[iv c.node,.bool c.total.neg,x1,x2] ++ (A.flatten ++ [])) (ts':=[iv c.node,.bool c.total.neg,ints c.total.mag,ints c.total.den] ++ ((c.ps.map Pa.cells).flatten ++ [])) Es (by simp) (by simp)).swap rfl hfl
    obtain ⟨os2,E3⟩:=E2.close (p:=p) (n:=10) (k:=10) (by simp) hA10 aoD hA'
    obtain ⟨os3,E4,_⟩:=(Ep.ahS (cs':=[V.bF p 0 A.length] ++ ([iv c.node,.bool c.total.neg,x1,x2] ++ [])) (ts':=[Ip c.ps] ++ ([iv c.node,.bool c.total.neg,ints c.total.mag,ints c.total.den] ++ [])) E3 (by simp) (by simp)).swap rfl rfl
    refine oU (os:=os3) ?_ E4.c.nd
    show bI _ (.agg ([iv c.node,.bool c.total.neg,x1,x2] ++ ([V.bF p 0 A.length] ++ []))) (.agg ([iv c.node,.bool c.total.neg,ints c.total.mag,ints c.total.den] ++ ([Ip c.ps] ++ []))) os3
    simp only [bI]
    exact ⟨_,rfl,E4.c.ow⟩
theorem ahT {A : List Pa} (h : akR A) (hb : ∀ a ∈ A,0 ≤ a.node ∧ a.node ≤ 9) : A.length ≤ 10:=by
 have key : ∀ i,i < A.length → (i : Int) ≤ (A.getD i default).node:=fun i=>by
  induction i with
  | zero=>intro hi;exact (hb _ (getD_mem hi)).1
  |
   succ i ih =>
   intro hi
   have h1:=ih (by omega)
   have h2:=h i (i + 1) (by omega) hi
   omega
 rcases Nat.lt_or_ge 10 A.length with h1 | h1
 ·have h2:=key 10 h1
  have h3:=(hb _ (getD_mem (l:=A) (i:=10) h1)).2
  omega
 ·exact h1
structure asH (c : Cd) (M : List Lk) : Prop where
 ne : 0 < c.ps.length
 len : c.ps.length ≤ 10
 cn : c.total.cn ∧ ∀ a ∈ c.ps,a.share.cn ∧ a.dx.cn ∧ a.dy.cn
 ms : ∀ x ∈ M,x.w.cn ∧ x.dx.cn ∧ x.dy.cn
 ml : M.length ≤ 101
theorem aeM {S : List Lk} {v : Int} (h : O9 S v = true) : asH (Nl S v) (elM S v):=by
 rw [(ahI h).1,(ahI h).2]
 unfold O9 at h
 simp only [Bool.and_eq_true] at h
 obtain ⟨⟨⟨hb,_⟩,hc⟩,_⟩:=h
 have hok : ∀ a ∈ dM S v,a.share.ok = true ∧ a.dx.cn ∧ a.dy.cn ∧ 0 ≤ a.node ∧ a.node ≤ 9:=fun a ha=>aey hb ha
 have hl:=ahT (akS hc) fun a ha=>⟨(hok a ha).2.2.2.1,(hok a ha).2.2.2.2⟩
 have hpl : (bW v (dM S v)).ps.length = (dM S v).length:=List.length_map ..
 refine ⟨?_,by omega,⟨V6 _,fun x hx=>?_⟩,ahH,?_⟩
 ·rcases Nat.eq_zero_or_pos (bW v (dM S v)).ps.length with e | e
  ·exfalso
   have : (bW v (dM S v)).ps = []:=List.eq_nil_of_length_eq_zero e
   unfold nV at hc
   rw [this] at hc
   simp at hc
  ·exact e
 ·obtain ⟨a,ha,rfl⟩:=List.mem_map.1 hx
  exact ⟨DX _ _,(hok a ha).2.1,(hok a ha).2.2.1⟩
 ·have h1:=IX (dM S v) (dM S v).length
  have h2 : (dM S v).length * (dM S v).length ≤ 10 * 10:=Nat.mul_le_mul hl hl
  show (jW _ _).length ≤ _
  omega
theorem F6 {r : R} (h : r.cn) : r.sz ≤ 1000:=by
 have:=Ol h
 unfold R.sz;omega
theorem ak3 (S : List Lk) (v : Int) : ((Nl S v).sz ≤ 40000 ∧ (Nl S v).ps.length ≤ 10 ∧ UZ Lk.sz (elM S v) ≤ 20000) ∧ (Nl S v).wf ∧ MR Lk.wf (elM S v):=by
 cases hB : O9 S v
 ·rw [(Pg hB).1,(Pg hB).2]
  exact ⟨⟨by decide,by decide,by decide⟩,⟨⟨by decide,by decide⟩,by decide,by simp⟩,by decide,by simp⟩
 ·have O:=aeM hB
  have h1:=F6 O.cn.1
  have h2:=Yc (f:=Pa.sz) (k:=3000) (l:=(Nl S v).ps) fun a ha=>by
   have h:=O.cn.2 a ha
   have:=F6 h.1;have:=F6 h.2.1;have:=F6 h.2.2
   unfold Pa.sz;omega
  have h3:=O.len
  refine ⟨⟨?_,h3,OX O.ms O.ml⟩,⟨gI O.cn.1,by omega,fun a ha=>?_⟩,TD O.ms O.ml⟩
  ·unfold Cd.sz;omega
  ·have h:=O.cn.2 a ha
   exact ⟨gI h.1,gI h.2.1,gI h.2.2⟩
theorem ZO {σ : Store} : Fin σ (.gq [.agg [iv 0,.bool false,.ak,.ak,.ak],.ak,.bool false]) (.gq [SA ⟨0,R0,[]⟩,iq [],.bool false]) :=
 ⟨.gq [SA ⟨0,R0,[]⟩,iq [],.bool false],[],by
  simp only [bM,nN]
  exact ⟨_,rfl,_,_,rfl,⟨_,rfl,_,_,rfl,rfl,_,_,rfl,rfl,_,_,rfl,.inl ⟨rfl,.inl rfl⟩,_,_,rfl,.inl ⟨rfl,.inl rfl⟩,_,_,rfl,.inl ⟨rfl,.inl rfl⟩,rfl⟩,_,_,rfl,.inl ⟨rfl,.inl rfl⟩,_,_,rfl,rfl,rfl⟩,SV (tY (o1:=[]) (uJ (Ju (qO (tY (o1:=[]) jC (tY (o1:=[]) jC (tY (o1:=[]) (by simp [bI,Ip]) kG)))))) (tY (o1:=[]) (by simp [bI,iq]) (qO kG))),.nil⟩
theorem JU {T : Tb} (h : pz T) {S : List Lk} {v : Int} (hw : MR Lk.wf S) : PO T 174 [iq S,iv v] (.gq [SA (Nl S v),iq (elM S v),.bool (O9 S v)]):=by
 have ci:=JB h.wL hw
 cases hb : bJ S
 ·rw [hb] at ci
  have hB : O9 S v = false:=by unfold O9;rw [hb];rfl
  rw [(Pg hB).1,(Pg hB).2,hB]
  refine dw nR h.hT ?_
  simp only [fZ,Lz,St.enter,List.length_cons,List.length_nil,Nat.zero_add]
  refine ew ?_
  refine ah ci ?_
  refine ew ?_
  exact ZO
 rw [hb] at ci
 have ce:=MI h.F5 (v:=v) hb hw
 cases hB : O9 S v
 ·rw [(Pg hB).1,(Pg hB).2,hB] at ce
  rw [(Pg hB).1,(Pg hB).2]
  refine dw nR h.hT ?_
  simp only [fZ,Lz,St.enter,List.length_cons,List.length_nil,Nat.zero_add]
  refine ew ?_
  refine ah ci ?_
  refine ew ?_
  refine ah ce ?_
  refine ew ?_
  exact ZO
 ·have O:=aeM hB
  rw [hB] at ce
  generalize Nl S v = c at *
  generalize elM S v = M at *
  have e4 : ∀ σ : Store,resolve σ FD (SA c) = some (SA c):=fun σ=>qQ (QK [c] _ (by simp))
  refine dw (fun x d=>x == 183 || x == 110) h.hT ?_
  simp only [fZ,Lz,St.enter,List.length_cons,List.length_nil,Nat.zero_add]
  refine ew ?_
  refine ah ci ?_
  refine ew ?_
  refine ah ce ?_
  refine ew ?_
  refine iU (I5 h.Ee (c:=c) O.ne ⟨by have:=F6 O.cn.1;omega,fun a ha=>by have h1:=O.cn.2 a ha;have:=F6 h1.1;have:=F6 h1.2.1;have:=F6 h1.2.2;unfold Pa.sz;omega⟩ (by have:=O.len;omega)) (by (refine CQ @e4 ?_;try with_reducible exact True.intro)) ?_
  intro r q1 o1 G
  have E : Ep [some ⟨5,[[iv 0,.bool false,.ak,.ak,.ak]]⟩,some ⟨5,[c.cells]⟩] [] [] [] []:=⟨Ox,by simp⟩
  have E1:=E.got (s1:=[some ⟨5,[[iv 0,.bool false,.ak,.ak,.ak]]⟩,some ⟨5,[c.cells]⟩]) (fun _ _=>rfl) (Nat.le_refl _) (adt G.ow) G.nd G.fresh G.old
  obtain ⟨cs,rfl,hQ⟩:=G.ow.fG
  have gl:=G.len
  have ho0:=(G.old 0 (by simp)).trans rfl
  have ho1:=(G.old 1 (by simp)).trans rfl
  obtain ⟨c2,c3,c4,rfl⟩:=hQ.cd
  have LF : [iv c.node,V.bool c.total.neg,c2,c3,c4].all V.leaf = true:=hQ.leaf rfl
  simp only [List.all_cons,List.all_nil,Bool.and_eq_true,Bool.and_true] at LF
  have lm:=OX O.ms O.ml
  simp only [List.length_cons,List.length_nil] at gl
  refine yS @ho0 @ho1 ?_
  refine iU (Tc h.Lh (l:=M) (by omega)) (by (refine ew ?_;try with_reducible exact True.intro)) ?_
  intro r2 q2 o2 G2
  have E2:=E1.got (s1:=q1) (fun _ _=>rfl) (Nat.le_refl _) (adt G2.ow) G2.nd G2.fresh G2.old
  have lr:=G2.ow.leaf rfl
  have gl2:=G2.len
  have hp0:=(G2.old 0 (by omega)).trans ho0
  have hp1:=(G2.old 1 (by omega)).trans ho1
  refine MC @LF @lr @hp0 @hp1 ?_
  have n0 : 0 ∉ ([] ++ o1) ++ o2:=fun hm=>by
   rcases List.mem_append.1 hm with hm | hm
   ·have:=G.fresh 0 (by simpa using hm);simp at this
   ·have:=G2.fresh 0 hm;omega
  have C3:=E2.c.set (o:=0) (x:=some ⟨5,[[iv c.node,.bool c.total.neg,c2,c3,c4]]⟩) n0
  have C4:=dU C3.ow (qO (b:=true) kG)
  rw [List.append_nil] at C4
  exact oU (SV C4) C3.nd
theorem Wn {n : Nat} {S : List Lk} (h : FV n S) : ∀ x ∈ S,Jn 7 x:=by
 obtain ⟨L,hL,rfl⟩:=h.L
 have h1:=hL.rn
 have h2:=hL.len
 obtain ⟨S',e,a,hf,hj,he⟩:=O7 (N:=(n : Int) + 1) (by omega) (by omega) hL.sm L.length (Nat.le_refl _)
 have hg : WO L = some (S',e):=by unfold WO;rw [hf];exact if_pos he.ok
 have e1 : LZ L = S':=by unfold LZ;rw [hg];rfl
 rw [e1]
 intro x hx
 exact (hj x hx).mono (by omega)
def stP (v : Int) (l : Lk) : Bool:=decide (l.a = v) || decide (l.b = v)
def Pq (v : Int) (l : Lk) : Pa:=if l.a = v then ⟨l.b,l.w,negR l.dx,negR l.dy⟩ else ⟨l.a,l.w,l.dx,l.dy⟩
theorem aeN {v : Int} {x : Lk} (h : stP v x = true) : Hq v x = some (Pq v x):=by
 unfold stP at h
 simp only [Bool.or_eq_true,decide_eq_true_eq] at h
 unfold Hq Pq
 by_cases h1 : x.a = v
 ·rw [if_pos h1,if_pos h1]
 ·rw [if_neg h1,if_neg h1,if_pos (h.resolve_left h1)]
theorem aeO {v : Int} {x : Lk} (h : stP v x = false) : Hq v x = none:=by
 unfold stP at h
 simp only [Bool.or_eq_false_iff,decide_eq_false_iff_not] at h
 unfold Hq
 rw [if_neg h.1,if_neg h.2]
theorem JV (S : List Lk) (v : Int) : dM S v = (S.filter (stP v)).map (Pq v):=by
 unfold dM CJ
 rw [List.take_length]
 induction S with
 | nil=>rfl
 |
  cons x S ih =>
  cases h : stP v x
  ·rw [List.filterMap_cons_none (aeO h),List.filter_cons_of_neg (by rw [h];simp),ih]
  ·rw [List.filterMap_cons_some (aeN h),List.filter_cons_of_pos h,List.map_cons,ih]
structure Jm (v : Int) (a : Pa) : Prop where
 nd : 0 ≤ a.node ∧ a.node ≤ 5 ∧ a.node ≠ v
 w : Rw a.share a.share.v 63 1
 n : ∃ n : Int,(1 ≤ n ∧ n ≤ 63) ∧ a.share.v = (n : Rat)
 x : ∃ n : Int,(-1260 ≤ n ∧ n ≤ 1260) ∧ a.share.v * a.dx.v = (n : Rat)
 y : ∃ n : Int,(-1260 ≤ n ∧ n ≤ 1260) ∧ a.share.v * a.dy.v = (n : Rat)
 dx : Rw a.dx a.dx.v 1260 63
 dy : Rw a.dy a.dy.v 1260 63
theorem aeP (p n : Rat) : -(p / n) = (-p) / n:=by grind
theorem JW (p n : Rat) (h : n ≠ 0) : n * (p / n) = p:=by grind
theorem aoE {v : Int} {l : Lk} (hj : Jn 7 l) (hn : 0 ≤ l.a ∧ l.a < l.b ∧ l.b ≤ 5) (hv : stP v l = true) : Jm v (Pq v l):=by
 obtain ⟨n,p,q,h1,h2,h3,e1,e2,e3⟩:=hj.ex
 have hn0 : (n : Rat) ≠ 0:=fun e=>by have:=Rat.intCast_eq_zero_iff.1 e;omega
 have w : Rw l.w (n : Rat) 63 1:=⟨e1,IW (by omega)⟩
 have x : Rw l.dx ((p : Rat) / n) 1260 63:=⟨e2,BG (by omega) (by omega) (by omega)⟩
 have y : Rw l.dy ((q : Rat) / n) 1260 63:=⟨e3,BG (by omega) (by omega) (by omega)⟩
 unfold stP at hv
 simp only [Bool.or_eq_true,decide_eq_true_eq] at hv
 unfold Pq
 split
 ·rename_i ha
  have x':=x.neg
  have y':=y.neg
  rw [aeP,← Rat.intCast_neg] at x' y'
  refine ⟨⟨by dsimp only;omega,by dsimp only;omega,by dsimp only;omega⟩,by dsimp only;rw [w.v];exact w,⟨n,by omega,w.v⟩,⟨-p,by omega,?_⟩,⟨-q,by omega,?_⟩,by dsimp only;rw [x'.v];exact x',by dsimp only;rw [y'.v];exact y'⟩
  ·dsimp only;rw [w.v,x'.v];exact JW _ _ hn0
  ·dsimp only;rw [w.v,y'.v];exact JW _ _ hn0
 ·rename_i ha
  refine ⟨⟨by dsimp only;omega,by dsimp only;omega,by dsimp only;omega⟩,by dsimp only;rw [w.v];exact w,⟨n,by omega,w.v⟩,⟨p,by omega,?_⟩,⟨q,by omega,?_⟩,by dsimp only;rw [x.v];exact x,by dsimp only;rw [y.v];exact y⟩
  ·dsimp only;rw [w.v,x.v];exact JW _ _ hn0
  ·dsimp only;rw [w.v,y.v];exact JW _ _ hn0
def sm (f : Pa → Rat) : List Pa → Rat
 | []=>0
 | a :: l=>f a + sm f l
theorem aeQ (f : Pa → Rat) : ∀ A B : List Pa,sm f (A ++ B) = sm f A + sm f B
 | [],B=>by simp only [List.nil_append,sm,Rat.zero_add]
 | a :: A,B=>by simp only [List.cons_append,sm,aeQ f A B,Rat.add_assoc]
theorem TV (f : Pa → Rat) {l : List Pa} {k : Nat} (h : k < l.length) : sm f (l.take (k + 1)) = sm f (l.take k) + f (l.getD k default):=by
 rw [take_snoc h,aeQ]
 show _ + (f _ + 0) = _
 rw [Rat.add_zero]
theorem Yr {f : Pa → Rat} {lo hi : Int} : ∀ {A : List Pa},(∀ a ∈ A,∃ n : Int,(lo ≤ n ∧ n ≤ hi) ∧ f a = (n : Rat)) → ∃ n : Int,(lo * A.length ≤ n ∧ n ≤ hi * A.length) ∧ sm f A = (n : Rat)
 | [],_=>⟨0,by simp,by simp [sm]⟩
 |
  a :: A,h=>by
  obtain ⟨m,hm,e⟩:=Yr (A:=A) fun x hx=>h x (by simp [hx])
  obtain ⟨n,hn,e2⟩:=h a (by simp)
  refine ⟨n + m,?_,by simp only [sm];rw [e,e2,Rat.intCast_add]⟩
  have e1 : ((a :: A).length : Int) = (A.length : Int) + 1:=by simp
  rw [e1,Int.mul_add,Int.mul_add]
  omega
theorem Yt (c : Rat) (f : Pa → Rat) : ∀ A : List Pa,sm (fun a=>c * f a) A = c * sm f A
 | []=>by simp [sm]
 | a :: A=>by simp only [sm,Yt c f A,Rat.mul_add]
theorem Pv {f g : Pa → Rat} : ∀ {A : List Pa},(∀ a ∈ A,f a = g a) → sm f A = sm g A
 | [],_=>rfl
 | a :: A,h=>by simp only [sm,h a (by simp),Pv (A:=A) fun x hx=>h x (by simp [hx])]
theorem Yu {A : List Pa} {f : Pa → Rat} {P N K : Nat} (h : ∀ a ∈ A,Rw a.share (f a) P N) (hF : hbF P N K = true) : ∀ k,k ≤ A.length → k ≤ K → Rw (GR A k) (sm f (A.take k)) (hb P N k).1 (hb P N k).2
 |
  0,_,_=>by
  rw [adA,List.take_zero]
  exact ⟨FB (n:=0) (by decide),IW (n:=0) (P:=0) (by decide)⟩
 |
  k + 1,h1,h2=>by
  have ih:=Yu h hF k (by omega) (by omega)
  rw [adB A (by omega),TV f (by omega)]
  exact ih.add (h _ (getD_mem (by omega))) (Ym hF h2)
theorem Wp {r : R} {a : Rat} {P N : Nat} (h : Rw r a P N) (hp : 0 < a) : 0 < tZ r:=by
 unfold tZ
 rw [h.q]
 show 0 < WH a.num
 have : 0 < a.num:=by
  rw [Rat.lt_iff,show (0 : Rat).num = 0 from rfl,show (0 : Rat).den = 1 from rfl,Int.zero_mul,Int.natCast_one,Int.mul_one] at hp
  exact hp
 unfold WH
 rw [if_neg (by omega),if_neg (by omega)]
 decide
structure Star (v : Int) (A : List Pa) : Prop where
 jm : ∀ a ∈ A,Jm v a
 asc : A.Pairwise fun a b=>a.node < b.node
 len : 1 ≤ A.length ∧ A.length ≤ 5
 v : 1 ≤ v ∧ v ≤ 5
theorem aeR {v : Int} {A : List Pa} (h1 : ∀ a ∈ A,0 ≤ a.node ∧ a.node ≤ 5 ∧ a.node ≠ v) (h2 : A.Pairwise fun a b=>a.node < b.node) (hv : 0 ≤ v ∧ v ≤ 5) : A.length ≤ 5:=by
 have key : ∀ i,i < A.length → (i : Int) ≤ if (A.getD i default).node < v then (A.getD i default).node else (A.getD i default).node - 1:=fun i=>by
  induction i with
  |
   zero =>
   intro hi
   have:=h1 _ (getD_mem (l:=A) (i:=0) hi)
   split <;> omega
  |
   succ i ih =>
   intro hi
   have h3:=ih (by omega)
   have h4:=List.pairwise_iff_getElem.1 h2 i (i + 1) (by omega) hi (by omega)
   have ei : A.getD i default = A[i]:=by rw [List.getD_eq_getElem?_getD,List.getElem?_eq_getElem (by omega)];rfl
   have ej : A.getD (i + 1) default = A[i + 1]:=by rw [List.getD_eq_getElem?_getD,List.getElem?_eq_getElem hi];rfl
   rw [← ei,← ej] at h4
   have k1:=h1 _ (getD_mem (l:=A) (i:=i) (by omega))
   have k2:=h1 _ (getD_mem (l:=A) (i:=i + 1) hi)
   split at h3 <;> split <;> omega
 rcases Nat.lt_or_ge 5 A.length with h | h
 ·have h3:=key 5 h
  have h4:=h1 _ (getD_mem (l:=A) (i:=5) h)
  split at h3 <;> omega
 ·exact h
theorem ahU {n : Nat} {S : List Lk} (h : FV n S) {v : Int} (hv : 1 ≤ v) (hm : ∃ x ∈ S,stP v x = true) : Star v (dM S v):=by
 have hrn:=h.rn
 have hj : ∀ a ∈ dM S v,Jm v a:=by
  rw [JV]
  intro a ha
  obtain ⟨l,hl,rfl⟩:=List.mem_map.1 ha
  obtain ⟨h1,h2⟩:=List.mem_filter.1 hl
  have:=h.ab l h1
  exact aoE (Wn h l h1) (by omega) h2
 have hv5 : v ≤ 5:=by
  obtain ⟨x,hx,hs⟩:=hm
  have:=h.ab x hx
  unfold stP at hs
  simp only [Bool.or_eq_true,decide_eq_true_eq] at hs
  omega
 have ha : (dM S v).Pairwise fun a b=>a.node < b.node:=by
  have e:=(ahK h.ok v).symm
  have hn : Asc (nbI S v S.length):=by rw [← aoq h.ok v];exact Tt _ _ .nil
  rw [e,List.pairwise_map]
  refine List.Pairwise.imp ?_ hn
  intro a b hab
  unfold Ro
  split <;> split <;> exact hab
 have h5:=aeR (v:=v) (fun a h=>(hj a h).nd) ha (by omega)
 refine ⟨hj,ha,⟨?_,h5⟩,hv,hv5⟩
 rw [JV,List.length_map]
 obtain ⟨x,hx,hs⟩:=hm
 exact List.length_pos_of_mem (List.mem_filter.2 ⟨hx,hs⟩)
structure PtF (p : Pt) : Prop where
 x : Rw p.x p.x.v 10 3
 y : Rw p.y p.y.v 10 3
 x6 : ∃ n : Int,(-60 ≤ n ∧ n ≤ 60) ∧ 6 * p.x.v = (n : Rat)
 y6 : ∃ n : Int,(-60 ≤ n ∧ n ≤ 60) ∧ 6 * p.y.v = (n : Rat)
structure AtS (P : List Pt) : Prop where
 len : P.length = 10
 pt : ∀ p ∈ P,PtF p
theorem AtS.at {P : List Pt} (h : AtS P) {k : Nat} (hk : k < 10) : PtF (P.getD k default):=h.pt _ (getD_mem (by rw [h.len];exact hk))
def qX (P : List Pt) (a : Pa) : Rat:=(P.getD a.node.toNat default).x.v + a.dx.v
def qY (P : List Pt) (a : Pa) : Rat:=(P.getD a.node.toNat default).y.v + a.dy.v
def sW (a : Pa) : Rat:=a.share.v
theorem JX {v : Int} {A : List Pa} (h : Star v A) : ∃ t : Int,(1 ≤ t ∧ t ≤ 315) ∧ sm sW A = (t : Rat) ∧ Rw (fH A) (t : Rat) 315 1:=by
 obtain ⟨t,ht,e⟩:=Yr (f:=sW) (A:=A) fun a ha=>(h.jm a ha).n
 have hl:=h.len
 have hw:=Yu (A:=A) (f:=sW) (P:=63) (N:=1) (K:=5) (fun a ha=>(h.jm a ha).w) (by decide +kernel) A.length (Nat.le_refl _) h.len.2
 rw [List.take_length,e] at hw
 have ht2 : 1 ≤ t ∧ t ≤ 315:=by omega
 exact ⟨t,ht2,e,hw.q,IW (by omega)⟩
theorem JY {t : Int} (h : 1 ≤ t) : (t : Rat) ≠ 0:=fun e=>by have:=Rat.intCast_eq_zero_iff.1 e;omega
theorem Np {t : Int} (h : 1 ≤ t) : (0 : Rat) < (t : Rat):=Rat.intCast_pos.2 (by omega)
theorem L9 {n t : Int} (hn : 1 ≤ n) (ht : 1 ≤ t) : (0 : Rat) < (n : Rat) / (t : Rat):=by
 rw [Rat.div_def];exact Rat.mul_pos (Np hn) (Rat.inv_pos.2 (Np ht))
theorem Ef {v : Int} {A : List Pa} (h : Star v A) {t : Int} (ht : 1 ≤ t ∧ t ≤ 315) (hT : Rw (fH A) (t : Rat) 315 1) {a : Pa} (ha : a ∈ A) : Rw (wI a.share (fH A)) (sW a / t) 63 315 ∧ 0 < sW a / (t : Rat):=by
 have j:=h.jm a ha
 obtain ⟨n,hn,e⟩:=j.n
 have e : sW a = (n : Rat):=e
 refine ⟨Rw.aoy j.w.q hT.q (JY ht.1) rfl ?_,?_⟩
 ·show H2 (sW a / t) 63 315
  rw [e]
  exact BG (by omega) ht.1 ht.2
 ·rw [e];exact L9 hn.1 ht.1
theorem aeS (t : Rat) (f : Pa → Rat) (A : List Pa) : sm (fun a=>f a / t) A = sm f A / t:=by
 rw [Rat.div_def,Rat.mul_comm,← Yt]
 exact Pv fun a _=>by rw [Rat.div_def,Rat.mul_comm]
theorem abl (t : Rat) (h : t ≠ 0) : t / t = 1:=by grind
theorem ZP {v : Int} {A : List Pa} (h : Star v A) : nV (bW v A) = true:=by
 obtain ⟨t,ht,hs,hT⟩:=JX h
 have hl:=h.len
 have hv:=h.v
 have hpl : (bW v A).ps.length = A.length:=List.length_map ..
 have hpa : ahc (bW v A):=fun i hi=>by
  rw [hpl] at hi
  have hm:=getD_mem (l:=A) (i:=i) hi
  have j:=h.jm _ hm
  have hsh:=Ef h ht hT hm
  have hp:=Wp hsh.1 hsh.2
  unfold EK
  rw [zS hi]
  have aoF : (decide (i = 0) || decide (((bW v A).ps.getD (i - 1) default).node < (zO (fH A) (A.getD i default)).node)) = true:=by
   rcases Nat.eq_zero_or_pos i with h0 | h0
   ·rw [decide_eq_true h0];rfl
   ·rw [zS (by omega)]
    have:=List.pairwise_iff_getElem.1 h.asc (i - 1) i (by omega) hi (by omega)
    rw [Bool.or_eq_true]
    refine .inr (decide_eq_true ?_)
    show (A.getD (i - 1) default).node < (A.getD i default).node
    rw [List.getD_eq_getElem?_getD,List.getElem?_eq_getElem (by omega),List.getD_eq_getElem?_getD,List.getElem?_eq_getElem hi]
    exact this
  rw [aoF]
  have nd:=j.nd
  show (inB (A.getD i default).node 0 9 && !decide ((A.getD i default).node = v) && true && decide (0 < tZ (wI (A.getD i default).share (fH A))) && (A.getD i default).dx.ok && (A.getD i default).dy.ok) = true
  rw [decide_eq_true hp,j.dx.ok,j.dy.ok,decide_eq_false nd.2.2]
  unfold inB
  rw [decide_eq_true nd.1,decide_eq_true (show (A.getD i default).node ≤ 9 by omega)]
  rfl
 rw [adC hpa]
 have h1 : inB (bW v A).node 1 9 = true:=by
  show inB v 1 9 = true
  unfold inB
  rw [decide_eq_true hv.1,decide_eq_true (show v ≤ 9 by omega)];rfl
 have h2 : 0 < tZ (bW v A).total:=Wp (r:=fH A) hT (Np ht.1)
 have h3 : (bW v A).ps.isEmpty = false:=by
  cases he : (bW v A).ps with
  | nil=>rw [he] at hpl;simp at hpl;omega
  | cons _ _=>rfl
 have h4 : GR (bW v A).ps (bW v A).ps.length = bQ 1:=by
  have hw:=Yu (A:=(bW v A).ps) (f:=fun a=>a.share.v) (P:=63) (N:=315) (K:=5) (fun a ha=>by
   obtain ⟨b,hb,rfl⟩:=List.mem_map.1 ha
   have:=(Ef h ht hT hb).1
   show Rw (wI b.share (fH A)) (wI b.share (fH A)).v 63 315
   rw [this.v];exact this) (by decide +kernel) (bW v A).ps.length (Nat.le_refl _) (by omega)
  rw [List.take_length] at hw
  have ev : sm (fun a=>a.share.v) (bW v A).ps = 1:=by
   have e1 : ∀ B : List Pa,(∀ b ∈ B,b ∈ A) → sm (fun a=>a.share.v) (B.map (zO (fH A))) = sm (fun a=>sW a / t) B:=fun B=>by
    induction B with
    | nil=>intro _;rfl
    |
     cons b B ih =>
     intro hB
     simp only [List.map_cons,sm]
     rw [ih fun x hx=>hB x (by simp [hx])]
     congr 1
     exact (Ef h ht hT (hB b (by simp))).1.v
   show sm (fun a=>a.share.v) (A.map (zO (fH A))) = 1
   rw [e1 A fun _ h=>h,aeS,hs]
   exact abl _ (JY ht.1)
  exact hw.eq (aev (n:=1) (P:=1) (by decide)) (Jz _ _) (rO (by decide)) (by rw [ev];rfl)
 rw [h1,decide_eq_true h2,h3,decide_eq_true h4]
 rfl
def pX (P : List Pt) (A : List Pa) : Rat:=sm (fun a=>sW a * qX P a) A / sm sW A
def pY (P : List Pt) (A : List Pa) : Rat:=sm (fun a=>sW a * qY P a) A / sm sW A
theorem q6 (w x d : Rat) : 6 * (w * (x + d)) = w * (6 * x) + 6 * (w * d):=by grind
theorem ahV (s t : Rat) (h : t ≠ 0) : s / t = (6 * s) / (6 * t):=by grind
theorem aeT {v : Int} {A : List Pa} {P : List Pt} (h : Star v A) (hP : AtS P) : Rw (zN (bW v A) P A.length) (pX P A) 56700 1890 ∧ Rw (Ho (bW v A) P A.length) (pY P A) 56700 1890:=by
 obtain ⟨t,ht,hs,hT⟩:=JX h
 have hl:=h.len
 have ht0:=JY ht.1
 have hnd : ∀ a ∈ A,a.node.toNat < 10:=fun a ha=>by have:=(h.jm a ha).nd;omega
 have hB : hbF 277830 59535 5 = true:=by decide +kernel
 have key : ∀ (dR : Pa → R) (xR : Pt → R) (G : Nat → R),(∀ a ∈ A,Rw (dR a) (dR a).v 1260 63) → (∀ p ∈ P,Rw (xR p) (xR p).v 10 3) → (∀ a ∈ A,∃ n : Int,(-1260 ≤ n ∧ n ≤ 1260) ∧ sW a * (dR a).v = (n : Rat)) →
   (∀ p ∈ P,∃ n : Int,(-60 ≤ n ∧ n ≤ 60) ∧ 6 * (xR p).v = (n : Rat)) → G 0 = bQ 0 →
   (∀ k,k < A.length → G (k + 1) = dZ (G k) (mulR (wI (A.getD k default).share (fH A)) (dZ (xR (P.getD (A.getD k default).node.toNat default)) (dR (A.getD k default))))) →
   Rw (G A.length) (sm (fun a=>sW a * ((xR (P.getD a.node.toNat default)).v + (dR a).v)) A / sm sW A) 56700 1890:=by
  intro dR xR G d1 x1 d2 x2 g0 gs
  have step : ∀ k,k ≤ A.length → Rw (G k) (sm (fun a=>sW a / t * ((xR (P.getD a.node.toNat default)).v + (dR a).v)) (A.take k)) (hb 277830 59535 k).1 (hb 277830 59535 k).2:=by
   intro k
   induction k with
   | zero=>intro _;rw [g0,List.take_zero];exact ⟨FB (n:=0) (by decide),IW (n:=0) (P:=0) (by decide)⟩
   |
    succ k ih =>
    intro hk
    have hm:=getD_mem (l:=A) (i:=k) (by omega)
    have hn:=hnd _ hm
    have hp:=getD_mem (l:=P) (i:=(A.getD k default).node.toNat) (by rw [hP.len];exact hn)
    rw [gs k (by omega),TV _ (by omega)]
    have hw:=((Ef h ht hT hm).1.mul ((x1 _ hp).add (d1 _ hm))).mono (P':=277830) (N':=59535)
    exact (ih (by omega)).add hw (Ym (k:=k + 1) hB (by omega))
  have hw:=step A.length (Nat.le_refl _)
  rw [List.take_length] at hw
  have e1 : sm (fun a=>sW a / t * ((xR (P.getD a.node.toNat default)).v + (dR a).v)) A = sm (fun a=>sW a * ((xR (P.getD a.node.toNat default)).v + (dR a).v)) A / sm sW A:=by
   rw [hs,← aeS]
   exact Pv fun a _=>by rw [Rat.div_def,Rat.div_def];grind
  rw [e1] at hw
  refine hw.re ?_
  obtain ⟨m,hm,e2⟩:=Yr (f:=fun a=>6 * (sW a * ((xR (P.getD a.node.toNat default)).v + (dR a).v))) (lo:=-11340) (hi:=11340) (A:=A) fun a ha=>by
   obtain ⟨w,hw,ew⟩:=(h.jm a ha).n
   obtain ⟨d,hd,ed⟩:=d2 a ha
   obtain ⟨x,hx,ex⟩:=x2 _ (getD_mem (l:=P) (i:=a.node.toNat) (by rw [hP.len];exact hnd a ha))
   have ew : sW a = (w : Rat):=ew
   refine ⟨w * x + 6 * d,?_,?_⟩
   ·have b1 : -3780 ≤ w * x ∧ w * x ≤ 3780:=by
     constructor
     ·have : w * (-60) ≤ w * x:=Int.mul_le_mul_of_nonneg_left hx.1 (by omega)
      omega
     ·have : w * x ≤ w * 60:=Int.mul_le_mul_of_nonneg_left hx.2 (by omega)
      omega
    omega
   ·show 6 * _ = _
    rw [q6,ex,ed,ew,Rat.intCast_add,Rat.intCast_mul,Rat.intCast_mul];rfl
  rw [Yt] at e2
  rw [hs,ahV _ _ ht0,e2,show (6 : Rat) * (t : Rat) = ((6 * t : Int) : Rat) by rw [Rat.intCast_mul];rfl]
  exact BG (by omega) (by omega) (by omega)
 refine ⟨key (·.dx) (·.x) (zN (bW v A) P) (fun a ha=>(h.jm a ha).dx) (fun p hp=>(hP.pt p hp).x) (fun a ha=>(h.jm a ha).x) (fun p hp=>(hP.pt p hp).x6) rfl (fun k hk=>?_),key (·.dy) (·.y) (Ho (bW v A) P) (fun a ha=>(h.jm a ha).dy) (fun p hp=>(hP.pt p hp).y) (fun a ha=>(h.jm a ha).y) (fun p hp=>(hP.pt p hp).y6) rfl (fun k hk=>?_)⟩
 ·show dZ _ (Yl ((bW v A).ps.getD k default) (P.getD ((bW v A).ps.getD k default).node.toNat default).x ((bW v A).ps.getD k default).dx) = _
  rw [zS hk];rfl
 ·show dZ _ (Yl ((bW v A).ps.getD k default) (P.getD ((bW v A).ps.getD k default).node.toNat default).y ((bW v A).ps.getD k default).dy) = _
  rw [zS hk];rfl
theorem ahW {v : Int} {A : List Pa} {P : List Pt} (h : Star v A) (hP : AtS P) : GX (bW v A) P = true ∧ (PK (bW v A) P) = ⟨zN (bW v A) P A.length,Ho (bW v A) P A.length⟩:=by
 have hpl : (bW v A).ps.length = A.length:=List.length_map ..
 have hp:=aeT h hP
 have hg : acG (bW v A) P.length = true:=V4 fun k hk=>by
  rw [hpl] at hk
  rw [zS hk,hP.len]
  have:=(h.jm _ (getD_mem (l:=A) hk)).nd
  show (A.getD k default).node < _
  omega
 have ho : GX (bW v A) P = true:=by
  unfold GX
  rw [ZP h,hg,hpl,hp.1.ok,hp.2.ok];rfl
 refine ⟨ho,?_⟩
 unfold PK
 rw [if_pos ho,hpl]
structure AtV (P Q : List Pt) (v : Int) (p : Pt) : Prop where
 len : Q.length = 10
 atv : Q.getD v.toNat default = p
 o : ∀ k : Nat,k ≠ v.toNat → Q.getD k default = P.getD k default
theorem TW {P : List Pt} (h : P.length = 10) {v : Int} (hv : 0 ≤ v ∧ v < 10) (p : Pt) : AtV P (P.set v.toNat p) v p:=by
 refine ⟨by simp [h],?_,fun k hk=>?_⟩
 ·rw [List.getD_eq_getElem?_getD,List.getElem?_set_self (by omega)];rfl
 ·rw [List.getD_eq_getElem?_getD,List.getD_eq_getElem?_getD,List.getElem?_set_ne (by omega)]
def enA (P : List Pt) (px py : Rat) (a : Pa) : Rat:=sW a * ((qX P a - px) * (qX P a - px) + (qY P a - py) * (qY P a - py))
theorem ak4 (w a b c d : Rat) (h1 : a = -c) (h2 : b = -d) : w * (a * a + b * b) = w * (c * c + d * d):=by rw [h1,h2];grind
theorem ahX {v : Int} {P Q : List Pt} {l : Lk} {p : Pt} (hj : Jn 7 l) (hn : 0 ≤ l.a ∧ l.a < l.b ∧ l.b ≤ 5) (hs : stP v l = true) (hP : AtS P) (hQ : AtV P Q v p) (px : Rw p.x p.x.v 58590 1890) (py : Rw p.y p.y.v 58590 1890) :
  Rw (yO l (Q.getD l.a.toNat default) (Q.getD l.b.toNat default)) (enA P p.x.v p.y.v (Pq v l)) (63 * (19408410 * 19408410 * (357210 * 357210) + 19408410 * 19408410 * (357210 * 357210))) (1 * (357210 * 357210 * (357210 * 357210))):=by
 obtain ⟨n,a,b,h1,h2,h3,e1,e2,e3⟩:=hj.ex
 have w : Rw l.w (n : Rat) 63 1:=⟨e1,IW (by omega)⟩
 have x : Rw l.dx ((a : Rat) / n) 1260 63:=⟨e2,BG (by omega) (by omega) (by omega)⟩
 have y : Rw l.dy ((b : Rat) / n) 1260 63:=⟨e3,BG (by omega) (by omega) (by omega)⟩
 have ho : fJ l = true:=by
  exact TJ ⟨hn.1,hn.2.1,by omega⟩ (w.rv (M:=63)) (Np h1.1) x.ok y.ok
 unfold stP at hs
 simp only [Bool.or_eq_true,decide_eq_true_eq] at hs
 have ew : l.w.v = (n : Rat):=w.v
 have ex : l.dx.v = (a : Rat) / n:=x.v
 have ey : l.dy.v = (b : Rat) / n:=y.v
 by_cases ha : l.a = v
 ·have hb : l.b.toNat ≠ v.toNat:=by omega
  have q:=hP.at (k:=l.b.toNat) (by omega)
  rw [ha,hQ.atv,hQ.o _ hb]
  have s1 : Rw (iC (iC (P.getD l.b.toNat default).x p.x) l.dx) _ 19408410 357210:=(((q.x.sub px).mono (P':=194670) (N':=5670)).sub x).mono
  have s2 : Rw (iC (iC (P.getD l.b.toNat default).y p.y) l.dy) _ 19408410 357210:=(((q.y.sub py).mono (P':=194670) (N':=5670)).sub y).mono
  refine (Yn (p:=p) (q:=P.getD l.b.toNat default) (a:=(P.getD l.b.toNat default).x.v - p.x.v - (a : Rat) / n) (b:=(P.getD l.b.toNat default).y.v - p.y.v - (b : Rat) / n) ho w s1 s2).val ?_
  have nx : (negR l.dx).v = -((a : Rat) / n):=x.neg.v
  have ny : (negR l.dy).v = -((b : Rat) / n):=y.neg.v
  have hF : Pq v l = ⟨l.b,l.w,negR l.dx,negR l.dy⟩:=by unfold Pq;rw [if_pos ha]
  rw [hF]
  unfold enA sW qX qY
  dsimp only
  rw [nx,ny,ew]
  have k1 : ∀ x p d : Rat,x - p - d = x + -d - p:=fun x p d=>by grind
  rw [k1,k1]
 ·have hb : l.b = v:=by omega
  have hv : l.a.toNat ≠ v.toNat:=by omega
  have q:=hP.at (k:=l.a.toNat) (by omega)
  rw [hb,hQ.atv,hQ.o _ hv]
  have s1 : Rw (iC (iC p.x (P.getD l.a.toNat default).x) l.dx) _ 19408410 357210:=(((px.sub q.x).mono (P':=194670) (N':=5670)).sub x).mono
  have s2 : Rw (iC (iC p.y (P.getD l.a.toNat default).y) l.dy) _ 19408410 357210:=(((py.sub q.y).mono (P':=194670) (N':=5670)).sub y).mono
  refine (Yn (p:=P.getD l.a.toNat default) (q:=p) (a:=p.x.v - (P.getD l.a.toNat default).x.v - (a : Rat) / n) (b:=p.y.v - (P.getD l.a.toNat default).y.v - (b : Rat) / n) ho w s1 s2).val ?_
  have hF : Pq v l = ⟨l.a,l.w,l.dx,l.dy⟩:=by unfold Pq;rw [if_neg ha]
  rw [hF]
  unfold enA sW qX qY
  dsimp only
  rw [ex,ey,ew]
  exact ak4 _ _ _ _ _ (by grind) (by grind)
theorem ZQ (f : Pa → Rat) (g : Lk → Pa) : ∀ L : List Lk,tot (fun l=>f (g l)) L = sm f (L.map g)
 | []=>rfl
 | l :: L=>by simp only [tot,List.map_cons,sm,ZQ f g L]
theorem Wq {v : Int} {P Q : List Pt} {S : List Lk} {n : Nat} {p : Pt} (hS : FV n S) (hA : Star v (dM S v)) (hP : AtS P) (hQ : AtV P Q v p) (px : Rw p.x p.x.v 58590 1890) (py : Rw p.y p.y.v 58590 1890) :
  D8 (S.filter (stP v)) Q = true ∧ ∃ N M,Rw (OU (S.filter (stP v)) Q) (sm (enA P p.x.v p.y.v) (dM S v)) N M:=by
 have hl : (S.filter (stP v)).length ≤ 5:=by have:=hA.len.2;rw [JV,List.length_map] at this;exact this
 have hrn:=hS.rn
 have hx : ∀ x ∈ S.filter (stP v),Jn 7 x ∧ (0 ≤ x.a ∧ x.a < x.b ∧ x.b ≤ 5) ∧ stP v x = true:=fun x hx=>by
  obtain ⟨h1,h2⟩:=List.mem_filter.1 hx
  have:=hS.ab x h1
  exact ⟨Wn hS x h1,by omega,h2⟩
 have hw:=Yo (l:=S.filter (stP v)) (at':=Q) (g:=fun l=>enA P p.x.v p.y.v (Pq v l)) (K:=5) (fun x h=>ahX (hx x h).1 (hx x h).2.1 (hx x h).2.2 hP hQ px py) (by decide +kernel) _ (Nat.le_refl _) hl
 rw [List.take_length,ZQ,← JV] at hw
 have hg : teG (S.filter (stP v)) Q.length = true:=by
  unfold teG
  refine List.all_eq_true.2 fun x h=>?_
  have:=(hx x h).2.1
  unfold KW
  rw [hQ.len,decide_eq_true this.1,decide_eq_true (show x.a < ((10 : Nat) : Int) by omega),decide_eq_true (show 0 ≤ x.b by omega),decide_eq_true (show x.b < ((10 : Nat) : Int) by omega)]
  rfl
 have ho : D8 (S.filter (stP v)) Q = true:=by unfold D8;rw [hg,hw.ok];rfl
 refine ⟨ho,?_⟩
 unfold OU
 rw [if_pos ho]
 exact ⟨_,_,hw⟩
def w2 (P : List Pt) (a b : Pa) : Rat:=sW a * sW b * ((qX P b - qX P a) * (qX P b - qX P a) + (qY P b - qY P a) * (qY P b - qY P a))
def pr (P : List Pt) : List Pa → Rat
 | []=>0
 | a :: l=>sm (w2 P a) l + pr P l
theorem aiy (P : List Pt) (a : Pa) : ∀ l : List Pa,sm (w2 P a) l = sW a * ((qX P a * qX P a + qY P a * qY P a) * sm sW l - 2 * (qX P a * sm (fun b=>sW b * qX P b) l) - 2 * (qY P a * sm (fun b=>sW b * qY P b) l) + sm (fun b=>sW b * (qX P b * qX P b + qY P b * qY P b)) l)
 | []=>by simp only [sm];grind
 |
  b :: l=>by
  simp only [sm]
  rw [aiy P a l]
  unfold w2
  grind
theorem aiz (P : List Pt) : ∀ l : List Pa,pr P l = sm sW l * sm (fun b=>sW b * (qX P b * qX P b + qY P b * qY P b)) l - sm (fun b=>sW b * qX P b) l * sm (fun b=>sW b * qX P b) l - sm (fun b=>sW b * qY P b) l * sm (fun b=>sW b * qY P b) l
 | []=>by simp only [pr,sm];grind
 |
  a :: l=>by
  simp only [pr,sm]
  rw [aiz P l,aiy]
  grind
theorem TY (P : List Pt) (px py : Rat) : ∀ l : List Pa,sm (enA P px py) l = sm (fun b=>sW b * (qX P b * qX P b + qY P b * qY P b)) l - 2 * (px * sm (fun b=>sW b * qX P b) l) - 2 * (py * sm (fun b=>sW b * qY P b) l) + (px * px + py * py) * sm sW l
 | []=>by simp only [sm];grind
 |
  a :: l=>by
  simp only [sm]
  rw [TY P px py l]
  unfold enA
  grind
theorem asI (t z x y : Rat) (h : t ≠ 0) : z - 2 * (x / t * x) - 2 * (y / t * y) + (x / t * (x / t) + y / t * (y / t)) * t = (t * z - x * x - y * y) / t:=by grind
theorem asJ (t z x y : Rat) (h : t ≠ 0) : z - 2 * ((x / t + 1) * x) - 2 * (y / t * y) + ((x / t + 1) * (x / t + 1) + y / t * (y / t)) * t = z - 2 * (x / t * x) - 2 * (y / t * y) + (x / t * (x / t) + y / t * (y / t)) * t + t:=by grind
theorem aeU {P : List Pt} {A : List Pa} (h : sm sW A ≠ 0) : sm (enA P (pX P A) (pY P A)) A = pr P A / sm sW A ∧ sm (enA P (pX P A + 1) (pY P A)) A = sm (enA P (pX P A) (pY P A)) A + sm sW A:=by
 rw [TY,TY,aiz]
 unfold pX pY
 exact ⟨asI _ _ _ _ h,asJ _ _ _ _ h⟩
theorem ZR {v : Int} {A : List Pa} {P Q : List Pt} {p : Pt} (h : Star v A) (hP : AtS P) (hQ : AtV P Q v p) {i j : Nat} (hij : i < j) (hj : j < A.length) :
  fJ (Bd (fH A) (A.getD i default) (A.getD j default)) = true ∧
  Rw (yO (Bd (fH A) (A.getD i default) (A.getD j default)) (Q.getD (A.getD i default).node.toNat default) (Q.getD (A.getD j default).node.toNat default)) (w2 P (A.getD i default) (A.getD j default) / sm sW A) (3969 * (1666980 * 1666980 * (35721 * 35721) + 1666980 * 1666980 * (35721 * 35721))) (315 * (35721 * 35721 * (35721 * 35721))):=by
 obtain ⟨t,ht,hs,hT⟩:=JX h
 have hl:=h.len
 have hasc:=List.pairwise_iff_getElem.1 h.asc i j (by omega) hj hij
 have ei : A.getD i default = A[i]:=by rw [List.getD_eq_getElem?_getD,List.getElem?_eq_getElem (by omega)];rfl
 have ej : A.getD j default = A[j]:=by rw [List.getD_eq_getElem?_getD,List.getElem?_eq_getElem hj];rfl
 rw [← ei,← ej] at hasc
 have ha:=h.jm _ (getD_mem (l:=A) (i:=i) (by omega))
 have hb:=h.jm _ (getD_mem (l:=A) (i:=j) hj)
 generalize A.getD i default = a at *
 generalize A.getD j default = b at *
 obtain ⟨n,hn,en⟩:=ha.n
 obtain ⟨m,hm,em⟩:=hb.n
 have hnm : 1 ≤ n * m ∧ n * m ≤ 3969:=by
  constructor
  ·have : 0 < n * m:=Int.mul_pos (by omega) (by omega)
   omega
  ·have h1 : n * m ≤ 63 * m:=Int.mul_le_mul_of_nonneg_right hn.2 (by omega)
   omega
 have hw : Rw (wI (mulR a.share b.share) (fH A)) ((sW a * sW b) / t) 3969 315:=by
  refine Rw.aoy (ha.w.mul hb.w).q hT.q (JY ht.1) rfl ?_
  unfold sW
  rw [en,em,← Rat.intCast_mul]
  exact BG (by omega) ht.1 ht.2
 have hwp : 0 < (sW a * sW b) / (t : Rat):=by
  unfold sW
  rw [en,em,← Rat.intCast_mul]
  exact L9 hnm.1 ht.1
 have dx:=(ha.dx.sub hb.dx).mono (P':=158760) (N':=3969)
 have dy:=(ha.dy.sub hb.dy).mono (P':=158760) (N':=3969)
 have na:=ha.nd
 have nb:=hb.nd
 have hv:=h.v
 have ho : fJ (Bd (fH A) a b) = true:=by
  exact TJ (l:=Bd (fH A) a b) ⟨na.1,hasc,by show b.node ≤ 9;omega⟩ (hw.rv (M:=3969)) hwp dx.ok dy.ok
 refine ⟨ho,?_⟩
 rw [hQ.o a.node.toNat (by omega),hQ.o b.node.toNat (by omega)]
 have qa:=hP.at (k:=a.node.toNat) (by omega)
 have qb:=hP.at (k:=b.node.toNat) (by omega)
 have s1 : Rw (iC (iC (P.getD b.node.toNat default).x (P.getD a.node.toNat default).x) (iC a.dx b.dx)) _ 1666980 35721:=(((qb.x.sub qa.x).mono (P':=60) (N':=9)).sub dx).mono
 have s2 : Rw (iC (iC (P.getD b.node.toNat default).y (P.getD a.node.toNat default).y) (iC a.dy b.dy)) _ 1666980 35721:=(((qb.y.sub qa.y).mono (P':=60) (N':=9)).sub dy).mono
 refine (Yn (l:=Bd (fH A) a b) (p:=P.getD a.node.toNat default) (q:=P.getD b.node.toNat default) ho hw s1 s2).val ?_
 rw [hs]
 unfold w2 qX qY
 have k1 : ∀ x y d e : Rat,x - y - (d - e) = x + e - (y + d):=fun x y d e=>by grind
 rw [k1,k1]
 have k2 : ∀ w t z : Rat,w / t * z = w * z / t:=fun w t z=>by rw [Rat.div_def,Rat.div_def];grind
 rw [k2]
theorem Ua {v : Int} {A : List Pa} {P Q : List Pt} {p : Pt} (h : Star v A) (hP : AtS P) (hQ : AtV P Q v p) {x : Lk} (hx : x ∈ FW A) : fJ x = true ∧ KW 10 x = true ∧
  Rw (yO x (Q.getD x.a.toNat default) (Q.getD x.b.toNat default)) (yO x (Q.getD x.a.toNat default) (Q.getD x.b.toNat default)).v (3969 * (1666980 * 1666980 * (35721 * 35721) + 1666980 * 1666980 * (35721 * 35721))) (315 * (35721 * 35721 * (35721 * 35721))):=by
 obtain ⟨i,k,_,h2,h3,rfl⟩:=IY hx
 have:=ZR h hP hQ h2 h3
 have na:=(h.jm _ (getD_mem (l:=A) (i:=i) (by omega))).nd
 have nb:=(h.jm _ (getD_mem (l:=A) (i:=k) h3)).nd
 refine ⟨this.1,?_,?_⟩
 ·unfold KW Bd
  dsimp only
  rw [decide_eq_true na.1,decide_eq_true nb.1,decide_eq_true (show (A.getD i default).node < ((10 : Nat) : Int) by omega),decide_eq_true (show (A.getD k default).node < ((10 : Nat) : Int) by omega)]
  rfl
 ·have e:=this.2
  show Rw (yO (Bd (fH A) (A.getD i default) (A.getD k default)) (Q.getD (A.getD i default).node.toNat default) (Q.getD (A.getD k default).node.toNat default)) (yO (Bd (fH A) (A.getD i default) (A.getD k default)) (Q.getD (A.getD i default).node.toNat default) (Q.getD (A.getD k default).node.toNat default)).v _ _
  rw [e.v];exact e
def eV (Q : List Pt) (x : Lk) : Rat:=(yO x (Q.getD x.a.toNat default) (Q.getD x.b.toNat default)).v
theorem Yv {A : List Pa} {i : Nat} (h : i < A.length) : A.drop i = A.getD i default :: A.drop (i + 1):=by
 rw [List.drop_eq_getElem_cons h,List.getD_eq_getElem?_getD,List.getElem?_eq_getElem h];rfl
theorem Ws {v : Int} {A : List Pa} {P Q : List Pt} {p : Pt} (h : Star v A) (hP : AtS P) (hQ : AtV P Q v p) {i : Nat} : ∀ j,i + 1 + j ≤ A.length → tot (eV Q) (o9 A i j) = sm (w2 P (A.getD i default)) ((A.drop (i + 1)).take j) / sm sW A
 | 0,_=>by rw [TP,List.take_zero];simp only [tot,sm];rw [Rat.div_def,Rat.zero_mul]
 |
  j + 1,hj=>by
  rw [ZC A (by omega),BF,Ws h hP hQ j (by omega),TV _ (by simp;omega)]
  have e:=(ZR h hP hQ (i:=i) (j:=i + 1 + j) (by omega) (by omega)).2.v
  have e2 : (A.drop (i + 1)).getD j default = A.getD (i + 1 + j) default:=by
   rw [List.getD_eq_getElem?_getD,List.getElem?_drop,List.getD_eq_getElem?_getD]
  rw [e2]
  have e3 : tot (eV Q) [Bd (fH A) (A.getD i default) (A.getD (i + 1 + j) default)] = w2 P (A.getD i default) (A.getD (i + 1 + j) default) / sm sW A:=by
   show eV Q _ + 0 = _
   rw [Rat.add_zero]
   exact e
  rw [e3,Rat.div_def,Rat.div_def,Rat.div_def,Rat.add_mul]
theorem Wu {v : Int} {A : List Pa} {P Q : List Pt} {p : Pt} (h : Star v A) (hP : AtS P) (hQ : AtV P Q v p) : ∀ k,k ≤ A.length → tot (eV Q) (jW A k) + pr P (A.drop k) / sm sW A = pr P A / sm sW A
 | 0,_=>by rw [List.drop_zero];simp only [jW,tot,Rat.zero_add]
 |
  k + 1,hk=>by
  have ih:=Wu h hP hQ k (by omega)
  rw [Yv (by omega)] at ih
  show tot (eV Q) (jW A k ++ o9 A k (A.length - (k + 1))) + _ = _
  rw [BF,Ws h hP hQ _ (by omega),List.take_of_length_le (by simp),← ih]
  simp only [pr]
  rw [Rat.div_def,Rat.div_def,Rat.div_def,Rat.add_mul,Rat.add_assoc]
theorem Ub {A : List Pa} (h : A.length ≤ 5) : (FW A).length ≤ 10:=by
 have key : ∀ k,k ≤ A.length → (jW A k).length = (List.range k).foldl (fun s i=>s + (A.length - (i + 1))) 0:=fun k=>by
  induction k with
  | zero=>intro _;rfl
  |
   succ k ih =>
   intro hk
   rw [List.range_succ,List.foldl_append,List.foldl_cons,List.foldl_nil,← ih (by omega)]
   show (jW A k ++ o9 A k (A.length - (k + 1))).length = _
   rw [List.length_append]
   congr 1
   unfold o9;simp
 unfold FW
 rw [key _ (Nat.le_refl _)]
 generalize A.length = n at h
 have : n = 0 ∨ n = 1 ∨ n = 2 ∨ n = 3 ∨ n = 4 ∨ n = 5:=by omega
 rcases this with rfl | rfl | rfl | rfl | rfl | rfl <;> decide
theorem Rt {v : Int} {A : List Pa} {P Q : List Pt} {p : Pt} (h : Star v A) (hP : AtS P) (hQ : AtV P Q v p) : (FW A).all fJ = true ∧ D8 (FW A) Q = true ∧ ∃ N M,Rw (OU (FW A) Q) (pr P A / sm sW A) N M:=by
 have hw:=Yo (l:=FW A) (at':=Q) (g:=eV Q) (K:=10) (fun x hx=>(Ua h hP hQ hx).2.2) (by decide +kernel) _ (Nat.le_refl _) (Ub h.len.2)
 have ht:=Wu h hP hQ A.length (Nat.le_refl _)
 rw [List.drop_length] at ht
 have ht : tot (eV Q) (FW A) = pr P A / sm sW A:=by
  rw [← ht]
  show _ = _ + (0 : Rat) / _
  rw [Rat.div_def,Rat.zero_mul,Rat.add_zero];rfl
 rw [List.take_length,ht] at hw
 have hg : teG (FW A) Q.length = true:=by
  unfold teG
  refine List.all_eq_true.2 fun x hx=>?_
  rw [hQ.len]
  exact (Ua h hP hQ hx).2.1
 have ho : D8 (FW A) Q = true:=by unfold D8;rw [hg,hw.ok];rfl
 refine ⟨List.all_eq_true.2 fun x hx=>(Ua h hP hQ hx).1,ho,?_⟩
 unfold OU
 rw [if_pos ho]
 exact ⟨_,_,hw⟩
theorem aeV {n : Nat} {S : List Lk} {P : List Pt} {v : Int} (hS : FV n S) (hv : 1 ≤ v) (hm : ∃ x ∈ S,stP v x = true) (hP : AtS P) :
  O9 S v = true ∧ GX (Nl S v) P = true ∧ (1 ≤ v ∧ v ≤ 5) ∧
  D8 (S.filter (stP v)) (P.set v.toNat (PK (Nl S v) P)) = true ∧ D8 (elM S v) (P.set v.toNat (PK (Nl S v) P)) = true ∧
  D8 (S.filter (stP v)) (P.set v.toNat ⟨dZ (PK (Nl S v) P).x (bQ 1),(PK (Nl S v) P).y⟩) = true ∧
  OU (S.filter (stP v)) (P.set v.toNat (PK (Nl S v) P)) = OU (elM S v) (P.set v.toNat (PK (Nl S v) P)) ∧
  OU (S.filter (stP v)) (P.set v.toNat ⟨dZ (PK (Nl S v) P).x (bQ 1),(PK (Nl S v) P).y⟩) = dZ (OU (S.filter (stP v)) (P.set v.toNat (PK (Nl S v) P))) (Nl S v).total:=by
 have hA:=ahU hS hv hm
 have hv5:=hA.v
 have hQ0:=TW hP.len (v:=v) (by omega) ⟨bQ 0,bQ 0⟩
 have hB : O9 S v = true:=by
  unfold O9
  rw [hS.ok,ZP hA,(Rt hA hP hQ0).1]
  unfold inB
  rw [decide_eq_true hv,decide_eq_true (show v ≤ 9 by omega)];rfl
 obtain ⟨eC,eM⟩:=ahI hB
 rw [eC,eM]
 obtain ⟨ho,hV⟩:=ahW hA hP
 have hp:=aeT hA hP
 rw [hV]
 obtain ⟨t,ht,hs,hT⟩:=JX hA
 have hs0 : sm sW (dM S v) ≠ 0:=by rw [hs];exact JY ht.1
 obtain ⟨a1,a2⟩:=aeU (P:=P) hs0
 have hQ1:=TW hP.len (v:=v) (by omega) ⟨zN (bW v (dM S v)) P (dM S v).length,Ho (bW v (dM S v)) P (dM S v).length⟩
 have hQ2:=TW hP.len (v:=v) (by omega) ⟨dZ (zN (bW v (dM S v)) P (dM S v).length) (bQ 1),Ho (bW v (dM S v)) P (dM S v).length⟩
 have p1:=hp.1
 have p2:=hp.2
 have p3:=hp.1.add (aev (n:=1) (P:=1) (by decide))
 have v1:=p1.v
 have v2:=p2.v
 have v3:=p3.v
 have w1 : Rw (zN (bW v (dM S v)) P (dM S v).length) (zN (bW v (dM S v)) P (dM S v).length).v 58590 1890:=by rw [v1];exact p1.mono
 have w2 : Rw (Ho (bW v (dM S v)) P (dM S v).length) (Ho (bW v (dM S v)) P (dM S v).length).v 58590 1890:=by rw [v2];exact p2.mono
 have w3 : Rw (dZ (zN (bW v (dM S v)) P (dM S v).length) (bQ 1)) (dZ (zN (bW v (dM S v)) P (dM S v).length) (bQ 1)).v 58590 1890:=by rw [v3];exact p3.mono
 obtain ⟨k1,N1,M1,r1⟩:=Wq hS hA hP hQ1 w1 w2
 obtain ⟨k2,N2,M2,r2⟩:=Wq hS hA hP hQ2 w3 w2
 obtain ⟨_,k3,N3,M3,r3⟩:=Rt hA hP hQ1
 have r1:=r1.val (b:=pr P (dM S v) / sm sW (dM S v)) (by dsimp only;rw [v1,v2,a1])
 have hX : (1 : Rat) = ((1 : Int) : Rat):=rfl
 have r2:=r2.val (b:=pr P (dM S v) / sm sW (dM S v) + sm sW (dM S v)) (by dsimp only;rw [v3,v2,← hX,a2,a1])
 refine ⟨hB,ho,hv5,k1,k3,k2,r1.eq r3 (KX _ _) (KX _ _) rfl,?_⟩
 have hsum : (dZ (OU (S.filter (stP v)) (P.set v.toNat ⟨zN (bW v (dM S v)) P (dM S v).length,Ho (bW v (dM S v)) P (dM S v).length⟩)) (fH (dM S v))).q = some (pr P (dM S v) / sm sW (dM S v) + sm sW (dM S v)):=by
  have hf:=(zk.1 r2.ok)
  rw [Fz,r1.q,hT.q,← hs]
  have hn:=r2.q
  show norm _ = _
  exact abd hn
 show _ = dZ _ (fH (dM S v))
 rw [← KX (S.filter (stP v)) (P.set v.toNat ⟨dZ (zN (bW v (dM S v)) P (dM S v).length) (bQ 1),Ho (bW v (dM S v)) P (dM S v).length⟩),← nZ (OU (S.filter (stP v)) (P.set v.toNat ⟨zN (bW v (dM S v)) P (dM S v).length,Ho (bW v (dM S v)) P (dM S v).length⟩)) (fH (dM S v)),hsum,r2.q]
def LnB (σ s : Store) (r : V) (M : List Lk) : Prop :=
 ((r = .ak ∧ M = []) ∨ ∃ p,σ.length ≤ p ∧ r = .bF p 0 M.length ∧ aj s p = some ⟨11,M.map Lk.cells⟩) ∧ (∀ o,o < σ.length → aj s o = aj σ o) ∧ σ.length ≤ s.length
theorem LnB.snoc {σ s : Store} {r : V} {M : List Lk} {x : Option Obj} (h : LnB σ s r M) : LnB σ (s ++ [x]) r M:=by
 obtain ⟨h1,h2,h3⟩:=h
 refine ⟨?_,fun o ho=>(aI (by omega)).trans (h2 o ho),by simp;omega⟩
 rcases h1 with h1 | ⟨p,a,b,c⟩
 ·exact .inl h1
 ·exact .inr ⟨p,a,b,(aI (aG c)).trans c⟩
theorem LnB.new {σ s s' : Store} {M : List Lk} {q n : Nat} (h2 : ∀ o,o < σ.length → aj s o = aj σ o) (h3 : σ.length ≤ s.length) (hq : σ.length ≤ q) (ho : ∀ o,o < σ.length → aj s' o = aj s o) (hl : s.length ≤ s'.length) (hn : n = M.length)
  (hm : aj s' q = some ⟨11,M.map Lk.cells⟩) : LnB σ s' (.bF q 0 n) M :=
 ⟨.inr ⟨q,hq,by rw [hn],hm⟩,fun o h=>(ho o h).trans (h2 o h),by omega⟩
def stp (v i j : Nat) (s : Gd × Nat) : Gd × Nat:=if s.1 v i = true ∧ s.1 v j = true ∧ s.1 i j = false then (JG (JG s.1 i j true) j i true,s.2 + 1) else s
def cj (v i : Nat) (s : Gd × Nat) : Nat → Gd × Nat
 | 0=>s
 | n + 1=>if i < n then stp v i n (cj v i s n) else s
def ci (v : Nat) (g : Gd) : Nat → Gd × Nat
 | 0=>(g,0)
 | n + 1=>cj v n (ci v g n) 10
def cz (v : Nat) (g : Gd) : Nat → Gd
 | 0=>g
 | n + 1=>JG (JG (cz v g n) v n false) n v false
def asK (g : Gd) (v : Nat) : Gd:=cz v (ci v g 10).1 10
def dg (g : Gd) (v : Nat) : Nat → Nat
 | 0=>0
 | n + 1=>dg g v n + if g v n = true then 1 else 0
def stE (a b : Nat) (s : Gd × Nat) : Gd × Nat:=(JG (JG s.1 a b true) b a true,if s.1 a b = true then s.2 else s.2 + 1)
def ej (L : List Int) (i : Nat) (s : Gd × Nat) : Nat → Gd × Nat
 | 0=>s
 | k + 1=>stE (L.getD i 0).toNat (L.getD (i + 1 + k) 0).toNat (ej L i s k)
def ez (a v : Nat) (s : Gd × Nat) : Gd × Nat:=(JG (JG s.1 a v false) v a false,s.2)
def ei (L : List Int) (v : Nat) (g : Gd) : Nat → Gd × Nat
 | 0=>(g,0)
 | i + 1=>ez (L.getD i 0).toNat v (ej L i (ei L v g i) (L.length - (i + 1)))
structure Gok (g : Gd) : Prop where
 irr : ∀ x,g x x = false
 sym : ∀ x y,g x y = g y x
structure av1 (g : Gd) (v : Nat) (xs : List Nat) (sI sS : Gd × Nat) : Prop where
 n : sS.2 = sI.2
 eq : ∀ x y,x ≠ v → y ≠ v → sS.1 x y = sI.1 x y
 ok : Gok sI.1
 row : ∀ y,sI.1 v y = g v y
 rs : ∀ y,sS.1 v y = (g v y && decide (y ∈ xs ∨ 10 ≤ y))
 cs : ∀ y,sS.1 y v = (g v y && decide (y ∈ xs ∨ 10 ≤ y))
structure av2 (g : Gd) (v : Nat) (f : Nat → Bool) (sI sS : Gd × Nat) : Prop where
 n : sS.2 = sI.2
 eq : ∀ x y,x ≠ v → y ≠ v → sS.1 x y = sI.1 x y
 ok : Gok sI.1
 row : ∀ y,sI.1 v y = g v y
 rs : ∀ y,sS.1 v y = f y
 cs : ∀ y,sS.1 y v = f y
def woI (l : List Int) (n : Int) : List Int:=l.filter fun x=>decide (x ≠ n)
def dgI (g : Gd) (v : Int) : Nat:=dg g v.toNat 10
def pk (g : Gd) : List Int → Int → Int
 | [],b=>b
 | v :: l,b=>pk g l (if dgI g v < dgI g b then v else b)
def chI (rest last : List Int) : List Int:=rest.filter fun x=>decide (x ∉ last)
def ch2 (rest last : List Int) : List Int:=if chI rest last = [] then rest else chI rest last
def ak5 (g : Gd) (rest last : List Int) : Int:=pk g (ch2 rest last) ((ch2 rest last).getD 0 0)
def WR (last : List Int) (g0 : Gd) (ns : List Int) : Nat → Gd × List Int × List Int
 | 0=>(g0,ns,[])
 | k + 1=>(asK (WR last g0 ns k).1 (ak5 (WR last g0 ns k).1 (WR last g0 ns k).2.1 last).toNat,woI (WR last g0 ns k).2.1 (ak5 (WR last g0 ns k).1 (WR last g0 ns k).2.1 last),(WR last g0 ns k).2.2 ++ [ak5 (WR last g0 ns k).1 (WR last g0 ns k).2.1 last])
structure av4 (last : List Int) (g0 : Gd) (ns : List Int) (k : Nat) : Prop where
 len : (WR last g0 ns k).2.1.length + k = ns.length
 out : (WR last g0 ns k).2.2.length = k
 nd : (WR last g0 ns k).2.1.Nodup
 sub : ∀ x ∈ (WR last g0 ns k).2.1,x ∈ ns
 rest : (WR last g0 ns k).2.1 = ns.filter fun x=>decide (x ∉ (WR last g0 ns k).2.2)
 gok : Gok (WR last g0 ns k).1
theorem Yw {n : Nat} {S : List Lk} (h : FV n S) : 1 ≤ (AP S).length:=by
 obtain ⟨x,hx,h1,h2⟩:=h.base 0 (by have:=h.rn;omega)
 have hm : (1 : Int) ∈ AP S:=by
  rw [OL h.ok,OJ]
  refine ⟨by decide,by decide,?_⟩
  obtain ⟨k,hk⟩:=List.mem_iff_getElem?.1 hx
  have hkl:=(List.getElem?_eq_some_iff.1 hk).1
  refine adK.2 ⟨k,hkl,.inr ?_⟩
  rw [List.getD_eq_getElem?_getD,hk]
  exact h2
 exact List.length_pos_of_mem hm
def yJ : Fn:=⟨1,157,[.tmp 2],(sr [oN 2 mF] (.seq (sr [oW 22 0,oN 23 (ln 22),oN 24 (bc .gtr 23 1048576)] (cd 24 (sr [oN 2 mT] .ret) .skip)) (sr [oW 25 0,oN 26 (cl 171 [25]),oW 3 26] (sr [oW 27 3,oN 28 (cl 172 [27]),oW 4 28] (.seq (sr [oW 29 4,oN 30 (ln 29),oN 31 (bc .eql 30 0)] (cd 31 (sr [oN 2 mF] .ret) .skip)) (sr [oW 32 4,oW 33 0,oN 34 (.call 173 [(.t 33),(cI 1)]),oW 35 4,oN 36 (ln 35),oN 37 (bt .rem 34 36),oN 38 (ix 1 32 37),oN 39 (lF 1 38),oW 5 39] (.seq (rf 1 [oK 41 1 (oV 3),oK 42 1 (oV 5),oK 43 1 (cl 174 [41,42]),oK 40 1 (oV 43),oK 44 1 (ex 0 40),oK 45 1 (ex 1 40),oK 46 1 (ex 2 40),oN 6 (.alloc XF),⟨none,none,1,.store 5 (.t 6) (.t 44),[]⟩,oK 7 1 (oV 45),oK 8 1 (oV 46)]) (.seq (rf 1 [oN 47 (.fE 6 zz6 0 []),oK 9 1 (oV 47)]) (.seq (sr [oN 10 (.iw (cI 0))] (.block 0 (.loop (.seq (sr [oW 48 10,oN 49 (bc .lss 48 10)] (cd 49 .skip (.exit 0))) (.seq (.block 1 (rf 2 [oK 52 2 (oV 9),oK 53 2 (oV 0),oK 54 2 (oV 10),oK 55 2 (cl 175 [53,54]),oK 56 2 (oV 0),oK 57 2 (oV 10),oK 58 2 (bc .add 57 20),oK 59 2 (cl 175 [56,58]),oK 60 2 (.build zz6 [(0,3,(.t 55)),(3,3,(.t 59))]),oN 61 (.fE 6 zz6 1 [(0,(.t 60))]),oK 62 1 (.app 6 112 (.t 52) (.t 61)),oK 9 2 (oV 62)])) (rg [oW 50 10,oN 51 (bc .add 50 1),oW 10 51])))))) (.seq (rf 1 [oK 64 1 (lT 5 6),oK 65 1 (oV 9),oK 66 1 (cl 176 [64,65]),oK 63 1 (oV 66),oK 67 1 (ex 0 63),oK 68 1 (ex 1 63),oN 11 (.alloc zz6),⟨none,none,1,.store 6 (.t 11) (.t 67),[]⟩,oK 12 1 (oV 68)]) (.seq (sr [oW 69 8,oN 70 (nt 69),oW 71 70,oG 71 false 72 (oV 12),oG 71 false 73 (nt 72),oN 74 (.pick (.t 71) (.c (.bool true)) (.t 73)),oW 75 74,oG 75 false 76 (oV 5),oG 75 false 77 (bc .lss 76 0),oN 78 (.pick (.t 75) (.c (.bool true)) (.t 77)),oW 79 78,oG 79 false 80 (oV 5),oG 79 false 81 (oV 9),oG 79 false 82 (ln 81),oG 79 false 83 (bt .geq 80 82),oN 84 (.pick (.t 79) (.c (.bool true)) (.t 83))] (cd 84 (sr [oN 2 mF] .ret) .skip)) (.seq (rf 1 [oN 85 (.fE 11 CP 0 []),oK 13 1 (oV 85)]) (.seq (sr [oW 86 3,oN 87 (ln 86),oN 88 (.iw (cI 0))] (.block 2 (.loop (sr [oN 89 (bt .lss 88 87)] (.seq (cd 89 .skip (.exit 2)) (.seq (.block 3 (.seq (rf 1 [oK 90 1 (ix 11 86 88),oK 91 1 (lT 11 90),oN 15 (.alloc CP),⟨none,none,1,.store 11 (.t 15) (.t 91),[]⟩]) (sr [oN 92 (fd 0 15),oN 93 (lF 1 92),oW 94 5,oN 95 (bt .eql 93 94),oW 96 95,oG 96 false 97 (fd 1 15),oG 96 false 98 (lF 1 97),oG 96 false 99 (oV 5),oG 96 false 100 (bt .eql 98 99),oN 101 (.pick (.t 96) (.c (.bool true)) (.t 100))] (cd 101 (rf 2 [oK 102 2 (oV 13),oK 103 2 (lT 11 15),oN 104 (.fE 11 CP 1 [(0,(.t 103))]),oK 105 1 (.app 11 184 (.t 102) (.t 104)),oK 13 2 (oV 105)]) .skip)))) (rg [oN 106 (bc .add 88 1),oW 88 106]))))))) (sr [oW 107 9,oW 108 5,oN 109 (lT 6 11),oN 110 (ix 6 107 108),oS (.store 6 (.t 110) (.t 109))] (.seq (rf 1 [oK 112 1 (oV 13),oK 113 1 (oV 9),oK 114 1 (cl 177 [112,113]),oK 111 1 (oV 114),oK 115 1 (ex 0 111),oK 116 1 (ex 1 111),oN 16 (.alloc mV),⟨none,none,1,.store 3 (.t 16) (.t 115),[]⟩,oK 17 1 (oV 116)]) (.seq (rf 1 [oK 118 1 (oV 7),oK 119 1 (oV 9),oK 120 1 (cl 177 [118,119]),oK 117 1 (oV 120),oK 121 1 (ex 0 117),oK 122 1 (ex 1 117),oN 18 (.alloc mV),⟨none,none,1,.store 3 (.t 18) (.t 121),[]⟩,oK 19 1 (oV 122)]) (.seq (rt 0 [oW 123 9,oW 124 5,oN 125 (fd 0 11),oA 126 0 (lT 3 125) [2],oN 127 (.call 39 [(cI 1)]),oA 128 0 (cl 178 [126,127]) [3,4,4],oA 129 0 (ix 6 123 124) [0,1,0,1,2,3,4,5],oA 130 0 (fd 0 129) [6,0,1,2,3,4,5],⟨none,none,0,.store 3 (.t 130) (.t 128),[7,5,5,0,1,2,3,4,5]⟩]) (.seq (rf 1 [oK 132 1 (oV 13),oK 133 1 (oV 9),oK 134 1 (cl 177 [132,133]),oK 131 1 (oV 134),oK 135 1 (ex 0 131),oK 136 1 (ex 1 131),oN 20 (.alloc mV),⟨none,none,1,.store 3 (.t 20) (.t 135),[]⟩,oK 21 1 (oV 136)]) (.seq (rt 0 [oW 137 17,oA 138 0 (oV 137) [0],oH 138 true 139 0 (oV 19) [1],oA 140 0 (.pick (.t 138) (.t 139) (.c (.bool false))) [1,2],oA 141 0 (oV 140) [3,1],oH 141 true 142 0 (oV 21) [4],oA 143 0 (.pick (.t 141) (.t 142) (.c (.bool false))) [4,5],oA 144 0 (oV 143) [6,4],oH 144 true 145 0 (lT 3 16) [7],oH 144 true 146 0 (lT 3 18) [7],oH 144 true 147 0 (cl 32 [145,146]) [8,9,7,7],oA 148 0 (.pick (.t 144) (.t 147) (.c (.bool false))) [7,10],oA 149 0 (oV 148) [11,10],oH 149 true 150 0 (lT 3 20) [12],oH 149 true 151 0 (lT 3 16) [12],oH 149 true 152 0 (fd 1 6) [12],oH 149 true 153 0 (lT 3 152) [15,12],oH 149 true 154 0 (cl 178 [151,153]) [14,16,12,12],oH 149 true 155 0 (cl 32 [150,154]) [13,17,17,12],oA 156 0 (.pick (.t 149) (.t 155) (.c (.bool false))) [12,18],oA 2 0 (oV 156) [19,18,0,1,2,3,4,5,6,7,8,9,10,11,12,13,14,15,16,17,18,19]]) .ret)))))))))))))))))))⟩
structure Hu (T : Tb) : Prop where
 hT : T 170 = some yJ
 sG : sD T
 bU : fB T
 Px : Bc T
 Py : AO T
 Pz : AX T
 F7 : pz T
 PD : vK T
 Dv : lM T
 tu : sV T
 qR : qN T
theorem aeX {S : List Lk} (h : bJ S = true) {a : Int} (ha : a ∈ AP S) : 1 ≤ a ∧ ∃ x ∈ S,stP a x = true:=by
 rw [OL h] at ha
 obtain ⟨h1,_,h2⟩:=(OJ S 10 a).1 ha
 exact ⟨h1,List.any_eq_true.1 h2⟩
theorem PE {T : Tb} (h : qN T) {r s : R} (hr : r.ok = true) (hs : s.ok = true) : PO T 178 [aQ r,aQ s] (aQ (dZ r s)):=by
 have o1:=uD h.dG (gI (kD hr))
 have o2:=uD h.dG (gI (kD hs))
 rw [hr] at o1;rw [hs] at o2
 have c:=D5 h.bG (kD hr) (kD hs)
 refine dw (fun x d=>x == 131) h.hT ?_
 simp only [kQ,Lz,St.enter,List.length_cons,List.length_nil,Nat.zero_add]
 refine ew ?_
 refine ah o1 ?_
 refine ew ?_
 refine ah o2 ?_
 refine ew ?_
 refine iU c (by (refine ew ?_;try with_reducible exact True.intro)) ?_
 intro r q1 o1 G
 obtain ⟨_,rfl,hQ⟩:=G.ow.fG
 obtain ⟨x1,x2,rfl⟩:=hQ.rat
 have gl:=G.len
 simp only [List.length_cons,List.length_nil] at gl
 have h2:=(G.old 2 (by simp)).trans rfl
 have lx:=bT.leaf hQ rfl
 simp only [List.all_cons,List.all_nil,Bool.and_true,Bool.and_eq_true] at lx
 refine IG @h2 @lx @gl ?_
 have h2n : 2 ∉ o1:=fun hm=>by have:=G.fresh 2 hm;simp at this
 have C : Cs q1 [.bool (dZ r s).neg,x1,x2] (dZ r s).cells o1:=⟨hQ,G.nd⟩
 exact oU (uJ (C.set h2n).ow) G.nd
theorem abm {σ : Store} {rows ts : List (List V)} {n l : Nat} (h : rows.length = l) (hr : rows.mapM (fun (r : List V)=>r.mapM (resolve σ 11)) = some ts) : Fe σ 0 l (some ⟨n,rows⟩) = some (.sl n ts):=by
 subst h
 unfold Fe
 dsimp only
 rw [if_pos (by omega),List.drop_zero,List.take_length,hr];rfl
theorem mapM_at {α β : Type} {f : α → Option β} : ∀ {l : List α} {m : List β},l.length = m.length → (∀ (i : Nat) (a : α) (b : β),l[i]? = some a → m[i]? = some b → f a = some b) → l.mapM f = some m
 | [],[],_,_=>rfl
 | [],_ :: _,h,_=>by simp at h
 | _ :: _,[],h,_=>by simp at h
 |
  a :: l,b :: m,h,hf=>by
  rw [List.mapM_cons,hf 0 a b rfl rfl,mapM_at (l:=l) (m:=m) (by simpa using h) fun i a b h1 h2=>hf (i + 1) a b h1 h2]
  rfl
theorem ak6 {σ : Store} {P : List Pt} {q : Pt} {k : Nat} {cs : List V} (hP : P.length = 10) (hk : k < 10) (hc : cs.mapM (resolve σ 11) = some q.cells) : Fe σ 0 10 (some ⟨6,(P.map Pt.cells).set k cs⟩) = some (Xy (P.set k q)):=by
 refine abm (by simp [hP]) (mapM_at (by simp) fun i a b h1 h2=>?_)
 rw [List.map_set,List.getElem?_set] at h2
 rw [List.getElem?_set] at h1
 by_cases e : k = i
 ·subst e
  rw [if_pos rfl,if_pos (by simp [hP];omega)] at h1 h2
  cases h1;cases h2;exact hc
 ·rw [if_neg e] at h1 h2
  rw [h1] at h2;cases h2
  have hm:=List.mem_of_getElem? h1
  exact sN (n:=10) (fun v hv=>Y0 P a hm v hv)
theorem ZT {σ : Store} {cs ts : List V} {os : List Nat} (h : bT σ cs ts os) (hd : ∀ t ∈ ts,eF 11 t) : cs.mapM (resolve σ 11) = some ts:=by
 induction ts generalizing cs os with
 | nil=>obtain ⟨rfl,_⟩:=h.zJ;rfl
 |
  cons t ts ih =>
  obtain ⟨v,vs,o1,o2,rfl,rfl,h1,h2⟩:=h.inv
  rw [List.mapM_cons,FN 11 h1 (hd t (by simp)),ih h2 fun t ht=>hd t (by simp [ht])]
  rfl
theorem nx {σ τ : Store} {b o : Nat} {ob X : Obj} (h : aj σ o = some X) (hb : o ≠ b) (old : ∀ o,o < σ.length → aj τ o = aj σ o) (hl : σ.length ≤ τ.length) : aj (τ.set b (some ob) ++ [none]) o = some X :=
 (aI (by have:=aG h;simp;omega)).trans ((aB hb).trans ((old o (aG h)).trans h))
theorem nxO {σ τ : Store} {b : Nat} {ob : Obj} {cs ts : List V} {os : List Nat} (h : bT σ cs ts os) (hb : b ∉ os) (old : ∀ o,o < σ.length → aj τ o = aj σ o) (hl : σ.length ≤ τ.length) : bT (τ.set b (some ob) ++ [none]) cs ts os :=
 h.frame fun o ho=>(aI (by have:=h.lt o ho;simp;omega)).trans ((aB fun e=>hb (by rw [← e];exact ho)).trans (old o (h.lt o ho)))
theorem nxM {τ : Store} {b : Nat} {ob : Obj} (hb : b < τ.length) : aj (τ.set b (some ob) ++ [none]) b = some ob:=(aI (by simpa using hb)).trans (aY hb)
theorem nxN {τ : Store} {b : Nat} {ob : Obj} {cs ts : List V} {os : List Nat} (h : bT τ cs ts os) (hb : b ∉ os) : bT (τ.set b (some ob) ++ [none]) cs ts os :=
 h.frame fun o ho=>(aI (by have:=h.lt o ho;simp;omega)).trans (aB fun e=>hb (by rw [← e];exact ho))
theorem Got.ak7 {σ τ : Store} {r : V} {x : R} {b : Bool} {os : List Nat} (G : Got σ τ r (.gq [aQ x,.bool b]) os) : ∃ z1 z2,r = .gq [.agg [.bool x.neg,z1,z2],.bool b] ∧ bT τ [.bool x.neg,z1,z2] x.cells os ∧ z1.leaf = true ∧ z2.leaf = true:=by
 obtain ⟨_,rfl,G1⟩:=G.ow.SX
 obtain ⟨w1,_,oa,ob,rfl,rfl,hw1,hz⟩:=G1.inv
 obtain ⟨_,rfl,hz2⟩:=hz.lG
 obtain ⟨rfl,rfl⟩:=hz2.zJ
 obtain ⟨_,rfl,hQ⟩:=hw1.fG
 obtain ⟨y1,y2,rfl⟩:=hQ.rat
 have lq:=bT.leaf hQ rfl
 simp only [List.all_cons,List.all_nil,Bool.and_true,Bool.and_eq_true] at lq
 exact ⟨y1,y2,rfl,by simpa using hQ,lq.2.1,lq.2.2⟩
theorem Yx {L : Nat} {d e : fM} {i : Nat} {R : List Nat} {b : Acc} (hw : b.W = []) (hR : ∀ o ∈ R,o < L) (h : nS L d e ⟨i,[],[],false⟩ b = true) : nS L d e ⟨i,R,[],false⟩ b = true:=by
 simp only [nS,Bool.and_eq_true] at h ⊢
 obtain ⟨⟨⟨⟨h1,h2⟩,h3⟩,h4⟩,h5⟩:=h
 refine ⟨⟨⟨⟨h1,h2⟩,by rw [hw];rfl⟩,h4⟩,?_⟩
 unfold wC at h5 ⊢
 simp only [Bool.not_false,Bool.true_and,List.all_nil,Bool.and_true,Bool.or_true] at h5 ⊢
 rw [List.all_eq_true.2 fun o ho=>decide_eq_true (hR o ho)]
 simp
theorem Yy {L : Nat} {d e : fM} {i : Nat} {R : List Nat} {b : Acc} (hw : b.W = []) (hR : ∀ o ∈ R,o < L) (h : nS L d e b ⟨i,[],[],false⟩ = true) : nS L d e b ⟨i,R,[],false⟩ = true:=by
 simp only [nS,Bool.and_eq_true] at h ⊢
 obtain ⟨⟨⟨⟨h1,h2⟩,h3⟩,h4⟩,h5⟩:=h
 refine ⟨⟨⟨⟨h1,by rw [hw];rfl⟩,h3⟩,?_⟩,h5⟩
 unfold wC at h4 ⊢
 simp only [Bool.not_false,Bool.true_and,List.all_nil,Bool.and_true,Bool.or_true] at h4 ⊢
 rw [List.all_eq_true.2 fun o ho=>decide_eq_true (hR o ho)]
 simp
theorem aeY {L : Nat} {B : Nat → List Nat} {ops : List fM} {i : Nat} {R : List Nat} (hR : ∀ o ∈ R,o < L) : ∀ (pre post : List Acc),(∀ b ∈ pre ++ post,b.W = []) → okA L B ops (pre ++ ⟨i,[],[],false⟩ :: post) = true → okA L B ops (pre ++ ⟨i,R,[],false⟩ :: post) = true
 |
  [],post,hw,h=>by
  simp only [List.nil_append,okA,Bool.and_eq_true,List.all_eq_true,Bool.or_eq_true] at h ⊢
  refine ⟨fun b hb=>?_,h.2⟩
  rcases h.1 b hb with k | k
  ·exact .inl k
  ·exact .inr (Yx (hw b (by simpa using hb)) hR k)
 |
  a :: pre,post,hw,h=>by
  simp only [List.cons_append,okA,Bool.and_eq_true,List.all_eq_true,Bool.or_eq_true] at h ⊢
  refine ⟨fun b hb=>?_,aeY hR pre post (fun b hb=>hw b (by simp only [List.cons_append,List.mem_cons];exact .inr hb)) h.2⟩
  rcases List.mem_append.1 hb with hb | hb
  ·exact h.1 b (List.mem_append_left _ hb)
  ·rcases List.mem_cons.1 hb with rfl | hb
   ·rcases h.1 ⟨i,[],[],false⟩ (by simp) with k | k
    ·exact .inl k
    ·exact .inr (Yy (hw a (by simp)) hR k)
   ·exact h.1 b (List.mem_append_right _ (List.mem_cons_of_mem _ hb))
theorem ak8 {L : Nat} {ops : List fM} {i : Nat} {R : List Nat} (pre post : List Acc) (hR : ∀ o ∈ R,o < L) (hw : ∀ b ∈ pre ++ post,b.W = []) (h : lU L ops (pre ++ ⟨i,[],[],false⟩ :: post)) : lU L ops (pre ++ ⟨i,R,[],false⟩ :: post):=by
 unfold lU at h ⊢
 simp only [List.reverse_append,List.reverse_cons,List.append_assoc,List.singleton_append] at h ⊢
 exact aeY hR _ _ (fun b hb=>hw b (by rcases List.mem_append.1 hb with h | h <;> simp at h <;> simp [h])) h
theorem qw {σ : Store} {cs ts : List V} {os : List Nat} (h : bT σ cs ts os) : ∀ (c : Nat) {v t : V},cs[c]? = some v → ts[c]? = some t → eF 11 t → resolve σ 11 v = some t:=by
 induction ts generalizing cs os with
 | nil=>intro c v t _ h2;cases c <;> cases h2
 |
  cons x ts ih =>
  intro c v t h1 h2 hd
  obtain ⟨w,ws,o1,o2,rfl,rfl,k1,k2⟩:=h.inv
  cases c with
  | zero=>cases h1;cases h2;exact FN 11 k1 hd
  | succ c=>exact ih k2 c h1 h2 hd
theorem aoG {σ : Store} {a b : Bool} {w1 w2 y3 y4 i1 i2 i3 i4 : V} (h1 : resolve σ 11 w1 = some i1) (h2 : resolve σ 11 w2 = some i2) (h3 : resolve σ 11 y3 = some i3) (h4 : resolve σ 11 y4 = some i4) : [V.bool a,w1,w2,.bool b,y3,y4].mapM (resolve σ 11) = some [.bool a,i1,i2,.bool b,i3,i4]:=by
 simp only [List.mapM_cons,List.mapM_nil,h1,h2,h3,h4]
 rfl
theorem ahY {m d k e : Int} (hm : -10 ≤ m ∧ m ≤ 10) (hd : 1 ≤ d ∧ d ≤ 3) (hk : -10 ≤ k ∧ k ≤ 10) (he : 1 ≤ e ∧ e ≤ 3) : PtF ⟨CG m d,CG k e⟩:=by
 have key : ∀ {m d : Int},(-10 ≤ m ∧ m ≤ 10) → (1 ≤ d ∧ d ≤ 3) → Rw (CG m d) (CG m d).v 10 3 ∧ ∃ n : Int,(-60 ≤ n ∧ n ≤ 60) ∧ 6 * (CG m d).v = (n : Rat):=fun {m d} hm hd=>by
  have q:=(akF hm hd).q
  rw [Rat.divInt_eq_div] at q
  have w : Rw (CG m d) ((m : Rat) / (d : Rat)) 10 3:=⟨q,BG (by omega) hd.1 hd.2⟩
  refine ⟨by rw [w.v];exact w,?_⟩
  rw [w.v]
  have : d = 1 ∨ d = 2 ∨ d = 3:=by omega
  rcases this with rfl | rfl | rfl
  ·exact ⟨6 * m,by omega,by rw [Rat.intCast_mul];show 6 * ((m : Rat) / 1) = 6 * (m : Rat);grind⟩
  ·exact ⟨3 * m,by omega,by rw [Rat.intCast_mul];show 6 * ((m : Rat) / 2) = 3 * (m : Rat);grind⟩
  ·exact ⟨2 * m,by omega,by rw [Rat.intCast_mul];show 6 * ((m : Rat) / 3) = 2 * (m : Rat);grind⟩
 exact ⟨(key hm hd).1,(key hk he).1,(key hm hd).2,(key hk he).2⟩
theorem ZU {T : Tb} (h : vK T) {x : List UInt8} (hx : x.length ≤ 1048576) : ∀ k : Nat,k ≤ 10 → ∃ P : List Pt,P.length = k ∧ (∀ p ∈ P,PtF p) ∧ ∀ i : Nat,i < k → PF T 175 [bytesV x,iv (i : Nat)] (aQ (P.getD i default).x) ∧ PF T 175 [bytesV x,iv ((i : Int) + 20)] (aQ (P.getD i default).y)
 | 0,_=>⟨[],rfl,by simp,fun i hi=>absurd hi (Nat.not_lt_zero _)⟩
 |
  k + 1,hk=>by
  obtain ⟨P,h1,h2,h3⟩:=ZU h hx k (by omega)
  obtain ⟨m,d,hm,hd,c1⟩:=Ri h (n:=(k : Int)) (by omega) hx
  obtain ⟨m2,d2,hm2,hd2,c2⟩:=Ri h (n:=(k : Int) + 20) (by omega) hx
  refine ⟨P ++ [⟨CG m d,CG m2 d2⟩],by simp [h1],fun p hp=>?_,fun i hi=>?_⟩
  ·rcases List.mem_append.1 hp with hp | hp
   ·exact h2 p hp
   ·rw [List.mem_singleton.1 hp];exact ahY hm hd hm2 hd2
  ·by_cases e : i = k
   ·subst e
    have : (P ++ [(⟨CG m d,CG m2 d2⟩ : Pt)]).getD i default = ⟨CG m d,CG m2 d2⟩:=by
     rw [List.getD_eq_getElem?_getD,List.getElem?_append_right (by omega),h1];simp
    rw [this];exact ⟨c1,c2⟩
   ·have : (P ++ [(⟨CG m d,CG m2 d2⟩ : Pt)]).getD i default = P.getD i default:=by
     rw [List.getD_eq_getElem?_getD,List.getElem?_append_left (by omega),List.getD_eq_getElem?_getD]
    rw [this];exact h3 i (by omega)
theorem Wv {T : Tb} (h : Hu T) (x : List UInt8) (wx : x.length ≤ 9223372036854775807) : PF T 170 [bytesV x] (.bool true):=by
 refine aC (fun x d=>(x == 176 && d == 66) || (x == 177 && d == 114) || (x == 177 && d == 120) || (x == 178 && d == 128) || (x == 177 && d == 134) || (x == 178 && d == 154)) h.hT ?_
 simp only [yJ,Lz]
 refine ew ?_
 refine aN (fun hb=>?_) fun hb=>?_
 ·refine ew ?_
  exact au _
 have hx : x.length ≤ 1048576:=by omega
 obtain ⟨n,S,hS,cm⟩:=abb h.Px hx
 have hw:=hS.wf
 have hlen:=hS.len
 have hsl : S.length ≤ 1048576:=by omega
 have c1:=(Tq h.Py (l:=S) hw).WU (aT _ _)
 have hn1:=Yw hS
 have hn2:=X3 S
 have hnm:=fun a=>@aeX S hS.ok a
 obtain ⟨m,hm,c2⟩:=aa4 h.Pz (n:=1) (by omega) hx
 generalize AP S = ns at *
 have ht : 0 ≤ m.tmod (ns.length : Int) ∧ m.tmod (ns.length : Int) < ns.length:=⟨Int.tmod_nonneg _ hm.1,Int.tmod_lt_of_pos _ (by omega)⟩
 obtain ⟨t,htt⟩ : ∃ t : Nat,m.tmod (ns.length : Int) = (t : Int):=⟨(m.tmod (ns.length : Int)).toNat,by omega⟩
 obtain ⟨v,hv⟩ : ∃ v,ns.getD t 0 = v:=⟨_,rfl⟩
 have hvm:=hnm v (by rw [← hv,List.getD_eq_getElem?_getD,List.getElem?_eq_getElem (by omega)];exact List.getElem_mem _)
 obtain ⟨d,rfl⟩ : ∃ d : Nat,v = (d : Int):=⟨v.toNat,by have:=hvm.1;omega⟩
 refine ew ?_
 refine ah cm ?_
 refine ew ?_
 refine ah c1 ?_
 refine ew ?_
 have hne : ¬ ((ns.length : Nat) : Int) = 0:=by omega
 refine CQ @hne ?_
 refine ah c2 ?_
 obtain ⟨P,hPl,hPf,hPc⟩:=ZU h.PD hx 10 (Nat.le_refl _)
 obtain ⟨k1,k2,k3,k4,k5,k6,k7,k8⟩:=aeV hS hvm.1 hvm.2 ⟨hPl,hPf⟩
 rw [Int.toNat_natCast] at k4 k5 k6 k7 k8
 have hab:=hS.ab
 have hrn:=hS.rn
 have ce:=(JU h.F7 (S:=S) (v:=(d : Int)) hw).WU (adq (aks _ _) (ag5 _ _) (qP _ _))
 rw [k1] at ce
 have hR:=ak3 S (d : Int)
 have hO:=aeM k1
 generalize Nl S (d : Int) = c at *
 generalize elM S (d : Int) = M at *
 refine yS @htt @hv ?_
 refine ah ce ?_
 refine ew ?_
 refine aS (fun x d=>(x == 176 && d == 66) || (x == 177 && d == 114) || (x == 177 && d == 120) || (x == 178 && d == 128) || (x == 177 && d == 134) || (x == 178 && d == 154)) (α:=Nat × Store × V) (fun q=>⟨dX [bytesV x,.any,.any,iq S,.any,iv (d : Nat),.ptr 0 0 0,iq M,.bool true,q.2.2,iv (q.1 : Nat)],q.2.1,0,0,[],[]⟩) (fun q=>(q.1 ≤ 10 ∧ 2 ≤ q.2.1.length) ∧ aj q.2.1 0 = some ⟨5,[c.cells]⟩ ∧ GnA 6 q.2.1 q.2.2 ((P.take q.1).map Pt.cells)) (fun q=>10 - q.1) rfl (0,[some ⟨5,[c.cells]⟩,none],.ak) ?_ ?_ ?_
 ·exact ⟨⟨Nat.zero_le _,Nat.le_refl _⟩,rfl,.inl ⟨rfl,rfl⟩⟩
 ·(refine aJ ?_;exact zy)
 ·rintro ⟨i,s,r⟩ ⟨⟨hi,hs2⟩,I0,hN⟩
  dsimp only at hi hs2 I0 hN
  by_cases hc : (i : Int) < 10
  ·have hil : i < 10:=by omega
   obtain ⟨cx,cy⟩:=hPc i hil
   have ets : (P.take (i + 1)).map Pt.cells = (P.take i).map Pt.cells ++ [(P.getD i default).cells]:=by rw [take_snoc (by omega),List.map_append];rfl
   have hAl : ((P.take i).map Pt.cells).length = i:=by simp;omega
   generalize P.getD i default = p0 at *
   generalize (P.take i).map Pt.cells = A at *
   have l0:=aG I0
   rcases hN with ⟨rfl,rfl⟩ | ⟨p,rfl,hp,hp3,hA0⟩
   ·refine yS @hc @I0 ?_
    refine ah cx ?_
    refine CQ @I0 ?_
    refine ah cy ?_
    refine CQ @I0 ?_
    refine ⟨by omega,(i + 1,?s1,.bF (s.length + 1) 0 1),?m1,⟨⟨?a1,?z1⟩,?b1,?c1⟩,?e1⟩
    case e1=>dsimp only;(refine aJ ?_;exact zy)
    case m1=>dsimp only;omega
    case z1=>dsimp only;simp
    case a1=>dsimp only;omega
    case b1=>exact (show aj _ 0 = aj s 0 by exact GL).trans I0
    case c1 =>
     dsimp only
     rw [ets]
     refine .inr ⟨s.length + 1,?g1,?h1,by omega,by simp⟩
     case g1=>simp
     case h1=>simp (disch:=first | omega | (simp only [List.length_append,List.length_set,List.length_cons,List.length_nil];omega)) only [Hg];rfl
   ·have hpl:=aG hp
    refine IG @hc @I0 @hp ?_
    refine ah cx ?_
    refine yS @I0 @hp ?_
    refine ah cy ?_
    refine yS @I0 @hp ?_
    refine ⟨by omega,(i + 1,?s2,.bF (s.length + 1) 0 (A.length + 1)),?m2,⟨⟨?a2,?z2⟩,?b2,?c2⟩,?e2⟩
    case e2=>dsimp only;(refine aJ ?_;exact zy)
    case m2=>dsimp only;omega
    case z2=>dsimp only;simp
    case a2=>dsimp only;omega
    case b2=>exact (show aj _ 0 = aj s 0 by exact GL).trans I0
    case c2 =>
     dsimp only
     rw [ets]
     refine .inr ⟨s.length + 1,?g2,?h2,by omega,by simp⟩
     case g2=>simp
     case h2=>simp (disch:=first | omega | (simp only [List.length_append,List.length_set,List.length_cons,List.length_nil];omega)) only [Hg]
  ·have asO : i = 10:=by omega
   subst asO
   rw [List.take_of_length_le (by omega)] at hN
   rcases hN with ⟨hn0,rfl⟩ | ⟨p,rfl,hp,hp3,_⟩
   ·rw [List.map_eq_nil_iff] at hn0;rw [hn0] at hPl;cases hPl
   rw [List.length_map,hPl]
   have hpl:=aG hp
   have l0:=aG I0
   have hwP : MR Pt.wf P:=⟨by omega,fun q hq=>⟨gI (kD (hPf q hq).x.ok),gI (kD (hPf q hq).y.ok)⟩⟩
   have ca:=FX h.Dv (c:=c) (at':=P) hR.2.1 hwP (by have:=hR.1.2.1;omega) (by omega)
   rw [k2] at ca
   have hct : c.total.ok = true:=by
    have k:=k2
    unfold GX at k
    simp only [Bool.and_eq_true] at k
    have k:=k.1
    unfold nV at k
    simp only [Bool.and_eq_true,decide_eq_true_eq] at k
    exact Jy k.1.1.2
   have teo : ∀ (l : List Lk) (Q : List Pt),D8 l Q = true → (OU l Q).ok = true:=fun l Q h=>by
    have k:=h
    unfold D8 at k
    simp only [Bool.and_eq_true] at k
    unfold OU;rw [if_pos h];exact k.2
   have ak9:=akM c P
   have hpx : (PK c P).x.ok = true:=by
    have k:=k2
    unfold GX at k
    simp only [Bool.and_eq_true] at k
    unfold PK;rw [if_pos k2];exact k.2.2.1
   generalize PK c P = ps at *
   have e4 : ∀ σ : Store,resolve σ FD (SA c) = some (SA c):=fun σ=>qQ (QK [c] _ (by simp))
   have eP : ∀ σ : Store,aj σ p = some ⟨6,P.map Pt.cells⟩ → resolve σ FD (.bF p 0 10) = some (Xy P):=fun σ hσ=>by
    have:=JH (n:=10) hσ (Y0 P)
    rw [List.length_map,hPl] at this
    exact this
   refine yS @hc @I0 ?_
   refine iU ca (by (refine yS @e4 @hp ?_;try with_reducible exact True.intro)) ?_
   intro r q1 o1 G
   obtain ⟨_,rfl,G1⟩:=G.ow.SX
   obtain ⟨w1,_,oa,ob,rfl,rfl,hw1,hz⟩:=G1.inv
   obtain ⟨_,rfl,hz2⟩:=hz.lG
   obtain ⟨rfl,rfl⟩:=hz2.zJ
   obtain ⟨_,rfl,hQ⟩:=hw1.fG
   obtain ⟨y1,y2,y3,y4,rfl⟩:=hQ.pt
   have lq:=bT.leaf hQ rfl
   simp only [List.all_cons,List.all_nil,Bool.and_true,Bool.and_eq_true] at lq
   have gl : s.length + 1 ≤ q1.length:=by have:=G.len;simpa using this
   have hv0 : ¬ ((d : Nat) : Int) < 0:=by omega
   have asP : ¬ ((10 : Nat) : Int) ≤ ((d : Nat) : Int):=by omega
   have ip : aj q1 p = some ⟨6,P.map Pt.cells⟩:=(G.old p (by simp;omega)).trans ((aI hpl).trans hp)
   have i0 : aj q1 0 = some ⟨5,[c.cells]⟩:=(G.old 0 (by simp)).trans ((aI l0).trans I0)
   have fr1 : ∀ o ∈ oa ++ [],s.length + 1 ≤ o:=fun o ho=>by have:=G.fresh o ho;simpa using this
   rw [List.append_nil] at fr1
   refine Ue @lq @gl @hv0 @asP @ip @List.set_set.{0} ?_
   obtain ⟨σ1,Yz⟩ : ∃ σ1 : Store,q1.set s.length (some (⟨6,[[.bool ps.x.neg,y1,y2,.bool ps.y.neg,y3,y4]]⟩ : Obj)) ++ [none] = σ1:=⟨_,rfl⟩
   have j0 : aj σ1 0 = some ⟨5,[c.cells]⟩:=by rw [← Yz];exact (aI (by simp;omega)).trans ((aB (by omega)).trans i0)
   have jp : aj σ1 p = some ⟨6,P.map Pt.cells⟩:=by rw [← Yz];exact (aI (by simp;omega)).trans ((aB (by omega)).trans ip)
   have ja : aj σ1 s.length = some ⟨6,[[.bool ps.x.neg,y1,y2,.bool ps.y.neg,y3,y4]]⟩:=by rw [← Yz];exact (aI (by simp;omega)).trans (aY (by omega))
   have jl : σ1.length = q1.length + 1:=by rw [← Yz];simp
   have jQ : bT σ1 [.bool ps.x.neg,y1,y2,.bool ps.y.neg,y3,y4] ps.cells oa:=by
    refine hQ.frame fun o ho=>?_
    have h1:=fr1 o ho
    have h2:=hQ.lt o ho
    rw [← Yz,aI (by simp;omega),aB (by omega)]
   have jn : oa.Nodup:=by have:=G.nd;simpa using this
   generalize hal : s.length = al at *
   simp only [Yz]
   clear Yz G G1 hQ ip i0 I0 hp
   have hst : S.filter (stP (d : Nat)) = (S.take S.length).filter (stP (d : Nat)):=by rw [List.take_length]
   refine aS (fun x d=>(x == 176 && d == 66) || (x == 177 && d == 114) || (x == 177 && d == 120) || (x == 178 && d == 128) || (x == 177 && d == 134) || (x == 178 && d == 154)) (α:=Nat × Store × V) (fun q=>⟨dX [.any,.any,.any,.any,.any,iv (d : Nat),.ptr 0 0 0,iq M,.any,.bF p 0 10,.any,.ptr al 0 0,.any,q.2.2,.any,.any,.any,.any,.any,.any,.any,.any,.any,.any,.any,.any,.any,.any,.any,.any,.any,.any,.any,.any,.any,.any,.any,.any,.any,.any,.any,.any,.any,.any,.any,.any,.any,.any,.any,.any,.any,.any,.any,.any,.any,.any,.any,.any,.any,.any,.any,.any,.any,.any,.any,.any,.any,.any,.any,.any,.any,.any,.any,.any,.any,.any,.any,.any,.any,.any,.any,.any,.any,.any,.any,.any,iq S,iv (S.length : Nat),iv (q.1 : Nat)],q.2.1,0,0,[],[]⟩) (fun q=>q.1 ≤ S.length ∧ LnB σ1 q.2.1 q.2.2 ((S.take q.1).filter (stP (d : Nat)))) (fun q=>S.length - q.1) rfl (0,σ1,.ak) ?_ ?_ ?_
   ·exact ⟨Nat.zero_le _,.inl ⟨rfl,rfl⟩,fun o ho=>rfl,Nat.le_refl _⟩
   ·(refine aJ ?_;exact zy)
   ·rintro ⟨j,s,r⟩ ⟨hj,hL,hso,hsl⟩
    dsimp only at hj hL hso hsl
    have hxl : ((S.take j).filter (stP (d : Nat))).length ≤ 1048576:=by have:=List.length_filter_le (stP (d : Nat)) (S.take j);rw [List.length_take] at this;omega
    by_cases hc2 : (j : Int) < (S.length : Nat)
    ·have hjl : j < S.length:=by omega
     have es : (S.take (j + 1)).filter (stP (d : Nat)) = (S.take j).filter (stP (d : Nat)) ++ (if stP (d : Nat) (S.getD j default) = true then [S.getD j default] else []):=by
      rw [take_snoc hjl,List.filter_append]
      congr 1
      cases h : stP (d : Nat) (S.getD j default)
      ·rw [List.filter_cons_of_neg (by rw [h];simp)];rfl
      ·rw [List.filter_cons_of_pos h];rfl
     generalize (S.take j).filter (stP (d : Nat)) = F at *
     obtain ⟨F',e'⟩ : ∃ F',F' = (S.take (j + 1)).filter (stP (d : Nat)):=⟨_,rfl⟩
     rw [← e'] at es
     obtain ⟨y,hy⟩ : ∃ y,S.getD j default = y:=⟨_,rfl⟩
     rw [hy] at es
     unfold stP at es
     by_cases hsP : y.a = (d : Nat) ∨ y.b = (d : Nat)
     ·have es : F' = F ++ [y]:=by
       rw [es,if_pos (by simp only [Bool.or_eq_true,decide_eq_true_eq];exact hsP)]
      subst es
      rcases hL with ⟨rfl,rfl⟩ | ⟨q,hq,rfl,hm⟩
      ·by_cases ha : y.a = (d : Nat)
       ·refine MC @hc2 @mg @hy ((eq_true ha : (y.a = (d : Nat)) = True)) ?_
        refine ⟨by omega,(j + 1,?st0,.bF (s.length + 1 + 1) 0 1),by dsimp only;omega,⟨by dsimp only;omega,?lt0⟩,?ft0⟩
        case ft0=>(refine aJ ?_;exact zy)
        case lt0 =>
         dsimp only
         rw [← e']
         refine LnB.new (s:=s) hso hsl (by omega) (fun o ho=>?_) ?_ rfl ?_
         ·exact GL
         ·simp
         ·simp (disch:=first | omega | (simp only [List.length_append,List.length_set,List.length_cons,List.length_nil];omega)) only [Hg]
          rfl
       ·refine JZ @hc2 @mg @hy @ha ((eq_true (hsP.resolve_left ha) : (y.b = (d : Nat)) = True)) ?_
        refine ⟨by omega,(j + 1,?st1,.bF (s.length + 1 + 1) 0 1),by dsimp only;omega,⟨by dsimp only;omega,?lt1⟩,?ft1⟩
        case ft1=>(refine aJ ?_;exact zy)
        case lt1 =>
         dsimp only
         rw [← e']
         refine LnB.new (s:=s) hso hsl (by omega) (fun o ho=>?_) ?_ rfl ?_
         ·exact GL
         ·simp
         ·simp (disch:=first | omega | (simp only [List.length_append,List.length_set,List.length_cons,List.length_nil];omega)) only [Hg]
          rfl
      ·have hql:=aG hm
       by_cases ha : y.a = (d : Nat)
       ·refine JZ @hc2 @mg @hy ((eq_true ha : (y.a = (d : Nat)) = True)) @hm ?_
        refine ⟨by omega,(j + 1,?st2,.bF (s.length + 1 + 1) 0 (F.length + 1)),by dsimp only;omega,⟨by dsimp only;omega,?lt2⟩,?ft2⟩
        case ft2=>(refine aJ ?_;exact zy)
        case lt2 =>
         dsimp only
         rw [← e']
         refine LnB.new (s:=s) hso hsl (by omega) (fun o ho=>?_) ?_ (by simp) ?_
         ·have hop : o ≠ q:=by omega
          exact GL
         ·simp;omega
         ·simp (disch:=first | omega | (simp only [List.length_append,List.length_set,List.length_cons,List.length_nil];omega)) only [Hg];simp
       ·refine Ue @hc2 @mg @hy @ha ((eq_true (hsP.resolve_left ha) : (y.b = (d : Nat)) = True)) @hm ?_
        refine ⟨by omega,(j + 1,?st3,.bF (s.length + 1 + 1) 0 (F.length + 1)),by dsimp only;omega,⟨by dsimp only;omega,?lt3⟩,?ft3⟩
        case ft3=>(refine aJ ?_;exact zy)
        case lt3 =>
         dsimp only
         rw [← e']
         refine LnB.new (s:=s) hso hsl (by omega) (fun o ho=>?_) ?_ (by simp) ?_
         ·have hop : o ≠ q:=by omega
          exact GL
         ·simp;omega
         ·simp (disch:=first | omega | (simp only [List.length_append,List.length_set,List.length_cons,List.length_nil];omega)) only [Hg];simp
     ·have es : F' = F:=by
       rw [es,if_neg (by simp only [Bool.or_eq_true,decide_eq_true_eq];exact hsP),List.append_nil]
      subst es
      have n1 : ¬ y.a = (d : Nat):=fun e=>hsP (.inl e)
      have n2 : ¬ y.b = (d : Nat):=fun e=>hsP (.inr e)
      refine JZ @hc2 @mg @hy @n1 @n2 ?_
      exact ⟨(j + 1,s ++ [some ⟨11,[y.cells]⟩],r),by dsimp only;omega,⟨by dsimp only;omega,by dsimp only;rw [← e'];exact LnB.snoc ⟨hL,hso,hsl⟩⟩,by (refine aJ ?_;exact zy)⟩
    ·have hjn : j = S.length:=by omega
     subst hjn
     rw [← hst] at hL hxl
     have m0:=(hso 0 (by omega)).trans j0
     have mp:=(hso p (by omega)).trans jp
     have ma:=(hso al (by omega)).trans ja
     have mQ : bT s [.bool ps.x.neg,y1,y2,.bool ps.y.neg,y3,y4] ps.cells oa:=jQ.frame fun o ho=>hso o (jQ.lt o ho)
     have hd10 : d < 10:=by omega
     have aoH : (P.map Pt.cells).length = 10:=by simp [hPl]
     have hrow : (P.map Pt.cells)[d]? = some [.bool (P.getD d default).x.neg,ints (P.getD d default).x.mag,ints (P.getD d default).x.den,.bool (P.getD d default).y.neg,ints (P.getD d default).y.mag,ints (P.getD d default).y.den]:=by
      rw [List.getElem?_map,List.getElem?_eq_getElem (by omega),List.getD_eq_getElem?_getD,List.getElem?_eq_getElem (by omega)];rfl
     obtain ⟨F,hF⟩ : ∃ F,S.filter (stP (d : Nat)) = F:=⟨_,rfl⟩
     rw [hF] at hL hxl k4 k6 k7 k8
     rcases hL with ⟨_,hF0⟩ | ⟨q,hq,rfl,hm⟩
     ·exfalso
      obtain ⟨y,hy1,hy2⟩:=hvm.2
      have:=List.mem_filter.2 ⟨hy1,hy2⟩
      rw [hF,hF0] at this;cases this
     have hql:=aG hm
     have hwF : MR Lk.wf F:=⟨by omega,fun y hy=>hw.2 y (by rw [← hF] at hy;exact (List.mem_filter.1 hy).1)⟩
     have hwQ : ∀ r : Pt,r.x.cn → r.y.cn → MR Pt.wf (P.set d r):=fun r h1 h2=>⟨by simp;omega,fun y hy=>by
      rcases List.mem_or_eq_of_mem_set hy with hy | rfl
      ·exact hwP.2 y hy
      ·exact ⟨gI h1,gI h2⟩⟩
     have aoI:=hwQ ps ak9.1 ak9.2
     have cT1:=zu h.tu (l:=F) (at':=P.set d ps) hwF aoI (by omega) (by simp;omega)
     have cT2:=zu h.tu (l:=M) (at':=P.set d ps) hR.2.2 aoI (by have:=hO.ml;omega) (by simp;omega)
     have hev:=teo _ _ k4
     have asR:=KX F (P.set d ps)
     have asT:=KX M (P.set d ps)
     rw [k4] at cT1
     rw [k5] at cT2
     have cT3:=zu h.tu (l:=F) (at':=P.set d ⟨dZ ps.x (bQ 1),ps.y⟩) hwF (hwQ ⟨dZ ps.x (bQ 1),ps.y⟩ (nZ _ _) ak9.2) (by omega) (by simp;omega)
     rw [k6] at cT3
     have asU:=KX F (P.set d ⟨dZ ps.x (bQ 1),ps.y⟩)
     refine WL @hc2 @ma @mp @aoH @lq @hd10 @hrow ?_
     obtain ⟨σ2,Wx⟩ : ∃ σ2 : Store,s.set p (some (⟨6,(P.map Pt.cells).set d [.bool ps.x.neg,y1,y2,.bool ps.y.neg,y3,y4]⟩ : Obj)) ++ [none] = σ2:=⟨_,rfl⟩
     have hpo : p ∉ oa:=fun hm=>by have:=fr1 p hm;omega
     have n0 : aj σ2 0 = some ⟨5,[c.cells]⟩:=by rw [← Wx];exact nx m0 (by omega) (fun _ _=>rfl) (Nat.le_refl _)
     have na : aj σ2 al = some ⟨6,[[.bool ps.x.neg,y1,y2,.bool ps.y.neg,y3,y4]]⟩:=by rw [← Wx];exact nx ma (by omega) (fun _ _=>rfl) (Nat.le_refl _)
     have nq : aj σ2 q = some ⟨11,F.map Lk.cells⟩:=by rw [← Wx];exact nx hm (by omega) (fun _ _=>rfl) (Nat.le_refl _)
     have np : aj σ2 p = some ⟨6,(P.map Pt.cells).set d [.bool ps.x.neg,y1,y2,.bool ps.y.neg,y3,y4]⟩:=by rw [← Wx];exact nxM (aG mp)
     have nQ : bT σ2 [.bool ps.x.neg,y1,y2,.bool ps.y.neg,y3,y4] ps.cells oa:=by rw [← Wx];exact nxN mQ hpo
     have nl : σ2.length = s.length + 1:=by rw [← Wx];simp
     generalize hb1 : s.length = b1 at *
     simp only [Wx]
     clear Wx m0 ma hm mp mQ
     have rS : ∀ σ : Store,aj σ q = some ⟨11,F.map Lk.cells⟩ → Fe σ 0 F.length (aj σ q) = some (iq F):=fun σ h=>by
      rw [h]
      have:=Bq (σ:=σ) (s:=0) (l:=F.length) (n:=11) (Fh F) (by simp)
      rw [List.drop_zero,List.take_of_length_le (by simp)] at this
      exact this
     have rA : ∀ (σ : Store) (pc : List V) (r : Pt),aj σ p = some ⟨6,(P.map Pt.cells).set d pc⟩ → pc.mapM (resolve σ 11) = some r.cells → Fe σ 0 10 (aj σ p) = some (Xy (P.set d r)):=fun σ pc r h h2=>by
      rw [h];exact ak6 hPl hd10 h2
     have dpt : ∀ r : Pt,∀ t ∈ r.cells,eF 11 t:=fun r t ht=>by
      simp only [Pt.cells,R.cells,List.cons_append,List.nil_append,List.mem_cons,List.not_mem_nil,or_false] at ht
      rcases ht with rfl | rfl | rfl | rfl | rfl | rfl <;> first | exact aT _ _ | exact qP _ _
     have rS2:=rS σ2 nq
     have rA2:=rA σ2 _ ps np (ZT nQ (dpt ps))
     refine iU cT1 (by (refine yS @rS2 @rA2 ?_;try with_reducible exact True.intro)) ?_
     intro r3 q3 o3 G3
     obtain ⟨z1,z2,rfl,hZ,lz1,lz2⟩:=G3.ak7
     have gl3:=G3.len
     refine MC @lz1 @lz2 @gl3 @List.set_set.{0} ?_
     generalize OU F (P.set d ps) = ev at *
     obtain ⟨σ3,Qm⟩ : ∃ σ3 : Store,q3.set b1 (some (⟨3,[[.bool ev.neg,z1,z2]]⟩ : Obj)) ++ [none] = σ3:=⟨_,rfl⟩
     have fr3 : ∀ o ∈ o3,b1 + 1 ≤ o:=fun o ho=>by have:=G3.fresh o ho;omega
     have b1o : b1 ∉ oa:=fun hm=>by have:=jQ.lt _ hm;omega
     have b1z : b1 ∉ o3:=fun hm=>by have:=fr3 _ hm;omega
     have v0 : aj σ3 0 = some ⟨5,[c.cells]⟩:=by rw [← Qm];exact nx n0 (by omega) G3.old gl3
     have va : aj σ3 al = some ⟨6,[[.bool ps.x.neg,y1,y2,.bool ps.y.neg,y3,y4]]⟩:=by rw [← Qm];exact nx na (by omega) G3.old gl3
     have vq : aj σ3 q = some ⟨11,F.map Lk.cells⟩:=by rw [← Qm];exact nx nq (by omega) G3.old gl3
     have vp : aj σ3 p = some ⟨6,(P.map Pt.cells).set d [.bool ps.x.neg,y1,y2,.bool ps.y.neg,y3,y4]⟩:=by rw [← Qm];exact nx np (by omega) G3.old gl3
     have vb1 : aj σ3 b1 = some ⟨3,[[.bool ev.neg,z1,z2]]⟩:=by rw [← Qm];exact nxM (by omega)
     have vQ : bT σ3 [.bool ps.x.neg,y1,y2,.bool ps.y.neg,y3,y4] ps.cells oa:=by rw [← Qm];exact nxO nQ b1o G3.old gl3
     have vZ : bT σ3 [.bool ev.neg,z1,z2] ev.cells o3:=by rw [← Qm];exact nxN hZ b1z
     have vl : σ3.length = q3.length + 1:=by rw [← Qm];simp
     have vo : ∀ o ∈ o3,o < q3.length:=fun o ho=>hZ.lt o ho
     have awj : b1 < q3.length:=by omega
     generalize hb2 : q3.length = b2 at *
     simp only [Qm]
     clear Qm n0 na nq np nQ hZ G3 rS2 rA2
     have rA3:=rA σ3 _ ps vp (ZT vQ (dpt ps))
     refine iU cT2 (by (refine CQ @rA3 ?_;try with_reducible exact True.intro)) ?_
     intro r4 q4 o4 G4
     obtain ⟨t1,t2,rfl,hT,lt1,lt2⟩:=G4.ak7
     have gl4:=G4.len
     have vo4 : ∀ o ∈ o4,o < q4.length:=fun o ho=>hT.lt o ho
     generalize OU M (P.set d ps) = fv at *
     have x0:=(G4.old 0 (by omega)).trans v0
     have xa:=(G4.old al (by omega)).trans va
     have xq:=(G4.old q (by omega)).trans vq
     have xp:=(G4.old p (by omega)).trans vp
     have xb1:=(G4.old b1 (by omega)).trans vb1
     have asV : b2 < q4.length:=by omega
     have fr4 : ∀ o ∈ o4,b2 + 1 ≤ o:=fun o ho=>by have:=G4.fresh o ho;omega
     have b2o : b2 ∉ oa:=fun hm=>by have:=jQ.lt _ hm;omega
     have b2z : b2 ∉ o3:=fun hm=>by have:=vo _ hm;omega
     have b2t : b2 ∉ o4:=fun hm=>by have:=fr4 _ hm;omega
     have hrow2 : ((P.map Pt.cells).set d [.bool ps.x.neg,y1,y2,.bool ps.y.neg,y3,y4])[d]? = some [.bool ps.x.neg,y1,y2,.bool ps.y.neg,y3,y4]:=by rw [List.getElem?_set_self (by omega)]
     have YA : ((P.map Pt.cells).set d [.bool ps.x.neg,y1,y2,.bool ps.y.neg,y3,y4]).length = 10:=by simp [hPl]
     have c1R:=yB h.bU (n:=1) (by omega)
     refine Ue (And.intro lt1 (And.intro lt2 gl4)) @List.set_set.{0} (And.intro xa xp) (And.intro aO dQ) @lq (And.intro YA hd10) ?_
     refine ah c1R ?_
     refine Ue (And.intro lt1 (And.intro lt2 gl4)) @List.set_set.{0} (And.intro xa xp) (And.intro aO dQ) @lq (And.intro YA hd10) ?_
     obtain ⟨σ4,aeZ⟩ : ∃ σ4 : Store,q4.set b2 (some (⟨3,[[.bool fv.neg,t1,t2]]⟩ : Obj)) = σ4:=⟨_,rfl⟩
     have fr' : ∀ o,o ≠ b2 → aj σ4 o = aj q4 o:=fun o ho=>by rw [← aeZ];exact aB ho
     have u0:=(fr' 0 (by omega)).trans x0
     have ua:=(fr' al (by omega)).trans xa
     have uq:=(fr' q (by omega)).trans xq
     have up:=(fr' p (by omega)).trans xp
     have ub1:=(fr' b1 (by omega)).trans xb1
     have ub2 : aj σ4 b2 = some ⟨3,[[.bool fv.neg,t1,t2]]⟩:=by rw [← aeZ];exact aY asV
     have uQ : bT σ4 [.bool ps.x.neg,y1,y2,.bool ps.y.neg,y3,y4] ps.cells oa:=vQ.frame fun o ho=>(fr' o (fun e=>b2o (by rw [← e];exact ho))).trans (G4.old o (vQ.lt o ho))
     have uZ : bT σ4 [.bool ev.neg,z1,z2] ev.cells o3:=vZ.frame fun o ho=>(fr' o (fun e=>b2z (by rw [← e];exact ho))).trans (G4.old o (vZ.lt o ho))
     have uT : bT σ4 [.bool fv.neg,t1,t2] fv.cells o4:=hT.frame fun o ho=>fr' o (fun e=>b2t (by rw [← e];exact ho))
     have ul : σ4.length = q4.length:=by rw [← aeZ];simp
     simp only [aeZ,← ul]
     clear aeZ x0 xa xq xp xb1 v0 va vq vp vb1 vQ vZ hT fr'
     have rQ1:=qw uQ 1 rfl rfl (aT _ _)
     have rQ2:=qw uQ 2 rfl rfl (aT _ _)
     refine Jt (PE h.qR hpx (s:=bQ 1) (by decide +kernel)) (by (refine MC @rQ1 @rQ2 @aO @dQ ?_;try with_reducible exact True.intro)) ?_
     intro r5 q5 o5 G5
     generalize fO _ _ _ = Rr
     obtain ⟨_,rfl,hX⟩:=G5.ow.fG
     obtain ⟨w1,w2,rfl⟩:=hX.rat
     have lx:=bT.leaf hX rfl
     simp only [List.all_cons,List.all_nil,Bool.and_true,Bool.and_eq_true] at lx
     have gl5:=G5.len
     have y0:=(G5.old 0 (aG u0)).trans u0
     have ya:=(G5.old al (aG ua)).trans ua
     have yq:=(G5.old q (aG uq)).trans uq
     have yp:=(G5.old p (aG up)).trans up
     have yb1:=(G5.old b1 (aG ub1)).trans ub1
     have yb2:=(G5.old b2 (aG ub2)).trans ub2
     have yQ : bT q5 [.bool ps.x.neg,y1,y2,.bool ps.y.neg,y3,y4] ps.cells oa:=uQ.frame fun o ho=>G5.old o (uQ.lt o ho)
     have yZ : bT q5 [.bool ev.neg,z1,z2] ev.cells o3:=uZ.frame fun o ho=>G5.old o (uZ.lt o ho)
     have yT : bT q5 [.bool fv.neg,t1,t2] fv.cells o4:=uT.frame fun o ho=>G5.old o (uT.lt o ho)
     have fr5 : ∀ o ∈ o5,q4.length ≤ o:=fun o ho=>by have:=G5.fresh o ho;omega
     refine JZ @lx @yp (And.intro aO dQ) (And.intro YA (And.intro hd10 hrow2)) @List.set_set.{0} ?_
     refine ⟨by unfold lU;rfl,?_⟩
     generalize hxp : dZ ps.x (bQ 1) = xv at *
     have awt : xv.cn:=by rw [← hxp];exact nZ _ _
     obtain ⟨ZV,MJ⟩ : ∃ ZV : Store,q5.set p (some (⟨6,(P.map Pt.cells).set d [.bool xv.neg,w1,w2,.bool ps.y.neg,y3,y4]⟩ : Obj)) ++ [none] = ZV:=⟨_,rfl⟩
     have po3 : p ∉ o3:=fun hm=>by have:=fr3 p hm;omega
     have po4 : p ∉ o4:=fun hm=>by have:=fr4 p hm;omega
     have po5 : p ∉ o5:=fun hm=>by have:=fr5 p hm;omega
     have z0 : aj ZV 0 = some ⟨5,[c.cells]⟩:=by rw [← MJ];exact nx y0 (by omega) (fun _ _=>rfl) (Nat.le_refl _)
     have zq : aj ZV q = some ⟨11,F.map Lk.cells⟩:=by rw [← MJ];exact nx yq (by omega) (fun _ _=>rfl) (Nat.le_refl _)
     have zp : aj ZV p = some ⟨6,(P.map Pt.cells).set d [.bool xv.neg,w1,w2,.bool ps.y.neg,y3,y4]⟩:=by rw [← MJ];exact nxM (aG yp)
     have zb1 : aj ZV b1 = some ⟨3,[[.bool ev.neg,z1,z2]]⟩:=by rw [← MJ];exact nx yb1 (by omega) (fun _ _=>rfl) (Nat.le_refl _)
     have zb2 : aj ZV b2 = some ⟨3,[[.bool fv.neg,t1,t2]]⟩:=by rw [← MJ];exact nx yb2 (by omega) (fun _ _=>rfl) (Nat.le_refl _)
     have zQ : bT ZV [.bool ps.x.neg,y1,y2,.bool ps.y.neg,y3,y4] ps.cells oa:=by rw [← MJ];exact nxN yQ hpo
     have zZ : bT ZV [.bool ev.neg,z1,z2] ev.cells o3:=by rw [← MJ];exact nxN yZ po3
     have zT : bT ZV [.bool fv.neg,t1,t2] fv.cells o4:=by rw [← MJ];exact nxN yT po4
     have zX : bT ZV [.bool xv.neg,w1,w2] xv.cells o5:=by rw [← MJ];exact nxN hX po5
     have zl : ZV.length = q5.length + 1:=by rw [← MJ];simp
     have pl5:=aG yb2
     generalize hb3 : q5.length = b3 at *
     simp only [MJ]
     clear MJ y0 yq yp yb1 yb2 yQ yZ yT hX u0 uq up ub1 ub2 uQ uZ uT G5
     have rS5:=rS ZV zq
     have rA5:=rA ZV _ ⟨xv,ps.y⟩ zp (aoG (qw zX 1 rfl rfl (aT _ _)) (qw zX 2 rfl rfl (aT _ _)) (qw zQ 4 rfl rfl (aT _ _)) (qw zQ 5 rfl rfl (aT _ _)))
     refine iU cT3 (by (refine yS @rS5 @rA5 ?_;try with_reducible exact True.intro)) ?_
     intro r6 q6 o6 G6
     obtain ⟨s1,s2,rfl,hV,ls1,ls2⟩:=G6.ak7
     have gl6:=G6.len
     have a0:=(G6.old 0 (aG z0)).trans z0
     have ab1:=(G6.old b1 (aG zb1)).trans zb1
     have ab2:=(G6.old b2 (aG zb2)).trans zb2
     have cE1:=AB h.sG (y:=ev) (z:=fv) (gI asR) (gI asT)
     rw [decide_eq_true k7] at cE1
     have cA:=PE h.qR hev hct
     have cE2:=AB h.sG (y:=OU F (P.set d ⟨xv,ps.y⟩)) (z:=dZ ev c.total) (gI asU) (gI (nZ _ _))
     rw [decide_eq_true k8] at cE2
     refine MC (And.intro ls1 (And.intro ls2 gl6)) @List.set_set.{0} (And.intro a0 (And.intro ab1 ab2)) (And.intro aO dQ) ?_
     clear k7 k8
     generalize hgv : OU F (P.set d ⟨xv,ps.y⟩) = gv at *
     obtain ⟨σ6,ala⟩ : ∃ σ6 : Store,q6.set b3 (some (⟨3,[[.bool gv.neg,s1,s2]]⟩ : Obj)) = σ6:=⟨_,rfl⟩
     have fr6 : ∀ o ∈ o6,b3 + 1 ≤ o:=fun o ho=>by have:=G6.fresh o ho;omega
     have fr' : ∀ o,o ≠ b3 → aj σ6 o = aj q6 o:=fun o ho=>by rw [← ala];exact aB ho
     have c0:=(fr' 0 (by omega)).trans a0
     have cb1:=(fr' b1 (by omega)).trans ab1
     have cb2:=(fr' b2 (by omega)).trans ab2
     have cb3 : aj σ6 b3 = some ⟨3,[[.bool gv.neg,s1,s2]]⟩:=by rw [← ala];exact aY (by omega)
     have cZ : bT σ6 [.bool ev.neg,z1,z2] ev.cells o3:=zZ.frame fun o ho=>(fr' o (by have:=vo o ho;omega)).trans (G6.old o (zZ.lt o ho))
     have cT : bT σ6 [.bool fv.neg,t1,t2] fv.cells o4:=zT.frame fun o ho=>(fr' o (by have:=vo4 o ho;omega)).trans (G6.old o (zT.lt o ho))
     have cV : bT σ6 [.bool gv.neg,s1,s2] gv.cells o6:=hV.frame fun o ho=>fr' o (by have:=fr6 o ho;omega)
     have R:=And.intro (qw cZ 1 rfl rfl (aT _ _)) (And.intro (qw cZ 2 rfl rfl (aT _ _)) (And.intro (qw cT 1 rfl rfl (aT _ _)) (And.intro (qw cT 2 rfl rfl (aT _ _)) (And.intro (qw cV 1 rfl rfl (aT _ _)) (qw cV 2 rfl rfl (aT _ _))))))
     simp only [ala]
     refine MC @R (And.intro c0 (And.intro cb1 (And.intro cb2 cb3))) @aO @dQ ?_
     refine ah cE1 ?_
     refine MC @R (And.intro c0 (And.intro cb1 (And.intro cb2 cb3))) @aO @dQ ?_
     refine Jt cA (by (refine IG @R @aO @dQ ?_;try with_reducible exact True.intro)) ?_
     intro r7 q7 o7 G7
     generalize fO _ _ _ = Rb
     obtain ⟨_,rfl,hK⟩:=G7.ow.fG
     obtain ⟨g1,g2,rfl⟩:=hK.rat
     have gl7:=G7.len
     have lk:=bT.leaf hK rfl
     simp only [List.all_cons,List.all_nil,Bool.and_true,Bool.and_eq_true] at lk
     have e3:=(G7.old b3 (aG cb3)).trans cb3
     have dV : bT q7 [.bool gv.neg,s1,s2] gv.cells o6:=cV.frame fun o ho=>G7.old o (cV.lt o ho)
     have R7:=And.intro (qw dV 1 rfl rfl (aT _ _)) (And.intro (qw dV 2 rfl rfl (aT _ _)) (And.intro (qw hK 1 rfl rfl (aT _ _)) (qw hK 2 rfl rfl (aT _ _))))
     refine JZ @R7 @lk @e3 @aO @dQ ?_
     refine ah cE2 ?_
     refine JZ @R7 @lk @e3 @aO @dQ ?_
     refine ⟨?_,au _⟩
     generalize reach q7 11 s1 ++ reach q7 11 s2 ++ (reach q7 11 g1 ++ reach q7 11 g2) = Rc
     generalize reach σ6 11 z1 ++ reach σ6 11 z2 ++ (reach σ6 11 t1 ++ reach σ6 11 t2) = Rd
     refine ak8 (i:=13) (R:=[b3]) [⟨20,[],[],false⟩,⟨19,[],[],false⟩,⟨18,Rc,[],false⟩,⟨17,Rb,[],true⟩,⟨16,[0],[],false⟩,⟨15,[0],[],false⟩,⟨14,[b1],[],false⟩]
      [⟨12,[],[],false⟩,⟨11,[],[],false⟩,⟨10,Rd,[],false⟩,⟨9,[b2],[],false⟩,⟨8,[b1],[],false⟩,⟨7,[],[],false⟩,⟨6,[],[],false⟩,⟨5,[],[],false⟩,⟨4,[],[],false⟩,⟨3,[],[],false⟩,⟨2,[],[],false⟩,⟨1,[],[],false⟩,⟨0,[],[],false⟩]
      (by intro o ho;rw [List.mem_singleton.1 ho];omega) (by simp) ?_
     unfold lU
     rfl
def ae1 (P : Program) (fid : Nat) (o : WS) : Prop :=
 ∀ args σ r σ',o.sem args σ r σ' → ∀ w M D (vals : Array Value),fD w D (XS M D) args vals.toList → jk w D M σ → Calls P fid vals w (Post M D w σ.length r σ')
def Fits (P : Program) (ν : Nat → Option Nat) (T : Tb) : Prop :=
 ∀ fid f F,ν fid = some f → T f = some F → (∃ fn,P.funcs[fid]? = some fn ∧ aaf P ν fn = some F) ∨ ∃ o,F.body = .lib o ∧ ae1 P fid o
theorem alb {T : Tb} {j : Job} {x : Out} (h : Run T j x) : ∀ o st,j ≠ .code (.lib o) st:=by
 induction h with
 | gc ρ hn hρ h ih=>intro o st e;cases e;exact ih o _ rfl
 | forget he ho hk h ih=>intro o st e;cases e;exact ih o _ rfl
 | re W h h' ih=>intro o st e;cases e;exact ih o _ rfl
 | _=>intro o st e;cases e
theorem ahZ {P : Program} {ν : Nat → Option Nat} {nt : Nat} {o : WS} : ∀ c : Code,J8 P ν nt c ≠ some (.lib o):=by
 intro c h
 unfold J8 at h
 cases c <;> simp at h
 all_goals (try (split at h <;> simp at h))
theorem ae2 {P : Program} {ν : Nat → Option Nat} {fn : Func} {F : Fn} {o : WS} (h : aaf P ν fn = some F) (hb : F.body = .lib o) : False:=by
 unfold aaf at h
 split at h <;> first | (cases h;done) | skip
 split at h <;> first | (cases h;done) | skip
 rename_i b rs' hb' aoJ
 split at h <;> first | (cases h;done) | skip
 simp only [Option.some.injEq] at h
 subst h
 simp only [] at hb
 subst hb
 exact ahZ _ hb'
section
variable {P : Program} {ν : Nat → Option Nat} {T : Tb}
theorem Wy {m : Nat} {x : fM} {l : List fM} (h : Uc m (x :: l) = true) : Uc m l = true ∧ ∀ y ∈ l,y.i.makes = true → y.k ≠ x.k ∧ y.k < m:=by
 have hm : ∀ (l : List fM),Uc m l = true → ∀ y ∈ l,y.i.makes = true → y.k < m:=by
  intro l
  induction l with
  | nil=>intro _ y hy;cases hy
  |
   cons z l ih =>
   intro h y hy hmk
   simp only [Uc,Bool.and_eq_true] at h
   rcases List.mem_cons.1 hy with rfl | hy
   ·have:=h.1
    rw [if_pos hmk] at this
    simp only [Bool.and_eq_true,decide_eq_true_eq] at this
    exact this.1
   ·exact ih h.2 y hy hmk
 simp only [Uc,Bool.and_eq_true] at h
 refine ⟨h.2,fun y hy hmk=>⟨?_,hm l h.2 y hy hmk⟩⟩
 by_cases hx : x.i.makes = true
 ·have:=h.1
  rw [if_pos hx] at this
  simp only [Bool.and_eq_true,decide_eq_true_eq,List.all_eq_true] at this
  have:=this.2 y hy
  simpa [hmk] using this
 ·have:=h.1
  rw [if_neg hx] at this
  simp only [beq_iff_eq] at this
  have:=hm l h.2 y hy hmk
  omega
theorem YB {m : Nat} : ∀ (l : List fM),Uc m l = true → ∀ x ∈ l,x.i.makes = true → x.k < m
 | [],_,y,hy,_=>by cases hy
 |
  z :: l,h,y,hy,hmk=>by
  simp only [Uc,Bool.and_eq_true] at h
  rcases List.mem_cons.1 hy with rfl | hy
  ·have:=h.1
   rw [if_pos hmk] at this
   simp only [Bool.and_eq_true,decide_eq_true_eq] at this
   exact this.1
  ·exact YB l h.2 y hy hmk
theorem ae3 {m : Nat} : ∀ (l : List fM),Uc m l = true → ∀ (i j : Nat) (x y : fM),l[i]? = some x → l[j]? = some y → i ≠ j → x.i.makes = true → x.k ≠ y.k
 | [],_,i,j,x,y,hx,_,_,_=>by simp at hx
 |
  z :: l,h,i,j,x,y,hx,hy,hij,hmk=>by
  obtain ⟨k1,k2⟩:=Wy h
  cases i with
  |
   zero =>
   simp at hx;subst hx
   cases j with
   | zero=>exact absurd rfl hij
   |
    succ j =>
    have hy' : y ∈ l:=List.mem_of_getElem? (by simpa using hy)
    by_cases hmy : y.i.makes = true
    ·exact fun e=>(k2 y hy' hmy).1 e.symm
    ·-- one that makes none has the number m
     have hm : ∀ (l : List fM),Uc m l = true → ∀ y ∈ l,y.i.makes ≠ true → y.k = m:=by
      intro l
      induction l with
      | nil=>intro _ y hy;cases hy
      |
       cons z l ih =>
       intro h y hy hn
       simp only [Uc,Bool.and_eq_true] at h
       rcases List.mem_cons.1 hy with rfl | hy
       ·have:=h.1
        rw [if_neg hn] at this
        simpa using this
       ·exact ih h.2 y hy hn
     have:=hm l k1 y hy' hmy
     have h3:=YB _ h z (by simp) hmk
     omega
  |
   succ i =>
   have hx' : x ∈ l:=List.mem_of_getElem? (by simpa using hx)
   cases j with
   |
    zero =>
    simp at hy;subst hy
    exact (k2 x hx' hmk).1
   | succ j=>exact ae3 l k1 i j x y (by simpa using hx) (by simpa using hy) (by omega) hmk
theorem YC {o : fM} {l : List fM} {st st1 st2 : St} (h1 : Ux P ν o st st1) (h2 : abS P ν l st1 st2) : abS P ν (o :: l) st st2:=by
 obtain ⟨a1,a2,a3,a4⟩:=h1
 obtain ⟨b1,b2,b3,b4⟩:=h2
 refine ⟨b1.trans a1,b2.trans a2,Nat.le_trans a3 b3,?_⟩
 intro ops dr nt m k rest htr hk M w0 D0 D a w hs hid Q hQ
 cases rest with
 | nil=>simp [Ei] at htr
 |
  cons r rest =>
  simp only [Ei] at htr
  split at htr <;> first | (cases htr;done) | skip
  rename_i x hx
  split at htr <;> first | (cases htr;done) | skip
  rename_i l' hl'
  simp only [Option.some.injEq,List.cons.injEq] at htr
  obtain ⟨rfl,rfl⟩:=htr
  obtain ⟨k1,k2⟩:=Wy hk
  have key:=a4 ops dr nt m k r hx M w0 D0 D a w hs (hid x (by simp)) (wpList P ops Q rest) Q (fun D' a' w' hs' hun=>by
   refine b4 ops dr nt m _ rest hl' k1 M w0 D0 D' a' w' hs' (fun y hy hmk=>?_) Q hQ
   rw [a1]
   obtain ⟨e1,e2⟩:=hid y (by simp [hy]) hmk
   exact ⟨Nat.lt_of_lt_of_le e1 a3,hun _ (Nat.le_add_right _ _) e1 e2 (fun h=>(k2 y hy hmk).1 (by omega))⟩)
  unfold wpList
  split
  ·rename_i hw;rw [if_pos hw] at key;exact .inl key
  ·rename_i hw;rw [if_neg hw] at key;exact key
theorem yK {nt : Nat} {cc : Code} {c : C} (h : J8 P ν nt cc = some c) : match c with
  | .skip=>cc = .skip
  | .reg d m l=>∃ id ops,cc = .region id ops d ∧ Ei P ν ops d nt m 0 ops.toList = some l
  | .seq x y=>∃ a b,cc = .seq a b ∧ J8 P ν nt a = some x ∧ J8 P ν nt b = some y
  | .cond s x y=>∃ o a b,cc = .cond o a b ∧ CU o = some s ∧ J8 P ν nt a = some x ∧ J8 P ν nt b = some y
  | .block id x=>∃ a,cc = .block id a ∧ J8 P ν nt a = some x
  | .loop x=>∃ a,cc = .loop a ∧ J8 P ν nt a = some x
  | .exit id=>cc = .exit id
  | .ret=>cc = .ret
  | .lib _=>False:=by
 cases cc with
 | skip=>simp only [J8,Option.some.injEq] at h;subst h;rfl
 |
  region id ops d =>
  simp only [J8,Option.map_eq_some_iff] at h
  obtain ⟨l,h1,rfl⟩:=h
  exact ⟨id,ops,rfl,h1⟩
 |
  seq a b =>
  simp only [J8] at h
  split at h <;> first | (cases h;done) | skip
  rename_i x y h1 h2
  simp only [Option.some.injEq] at h;subst h
  exact ⟨a,b,rfl,h1,h2⟩
 |
  cond o a b =>
  simp only [J8] at h
  split at h <;> first | (cases h;done) | skip
  rename_i s x y h1 h2 h3
  simp only [Option.some.injEq] at h;subst h
  exact ⟨o,a,b,rfl,h1,h2,h3⟩
 |
  block id a =>
  simp only [J8,Option.map_eq_some_iff] at h
  obtain ⟨x,h1,rfl⟩:=h
  exact ⟨a,rfl,h1⟩
 |
  loop a =>
  simp only [J8,Option.map_eq_some_iff] at h
  obtain ⟨x,h1,rfl⟩:=h
  exact ⟨a,rfl,h1⟩
 | exit id=>simp only [J8,Option.some.injEq] at h;subst h;rfl
 | ret=>simp only [J8,Option.some.injEq] at h;subst h;rfl
 | _=>simp [J8] at h
theorem ZW {c : C} {e : Ex} {st st' : St} (hk : st'.keep = st.keep) (h : RI P ν c e st st') : Xb P ν (.loop c) e st st':=by
 refine ⟨hk,?_⟩
 intro nt cc htr M w0 D0 D a w hs Q hQ
 obtain ⟨cb,rfl,hb⟩:=yK htr
 intro b k cs
 obtain ⟨x,a',w',q,harr⟩:=h nt cb hb M w0 D0 D a w hs Q hQ b k cs
 exact ⟨x,a',w',q,.of_steps (.one step_loop) harr⟩
theorem ah0 {e : Ex} (h : e ≠ .normal) : Us e ≠ .normal:=by cases e <;> simp [Us] at h ⊢
theorem ah1 {next : Act → World → Prop} {Q : Exit → Act → World → Prop} {e : Ex} (h : e ≠ .normal) {a : Act} {w : World} (hq : Q (Us e) a w) : Exit.then next Q (Us e) a w:=by
 cases e <;> first | (simp at h;done) | exact hq
def Lj (tmps : Array Value) : ResultVar → Sem Value
 | .tmp t=>pure (tmps.getD t undef)
 | .cell q t=>do loadVar t (← asAddr (tmps.getD q undef))
theorem YD (fn : Func) (tmps : Array Value) : results fn tmps = (do let vs ← fn.results.mapM (Lj tmps);pure (if h : vs.size = 1 then vs[0] else .tuple vs)):=rfl
theorem ae4 (hT : Fits P ν T) {f : Nat} {args : List V} {σ : Store} {F : Fn} {o : WS} {r : V} {σ' : Store} (hf : T f = some F) (hb : F.body = .lib o) (h : o.sem args σ r σ') : H9 P ν f args σ r σ':=by
 intro fid alc w M D vals hv hS
 rcases hT fid f F alc hf with ⟨fn,hfn,htr⟩ | ⟨o',e,hO⟩
 ·exact (ae2 htr hb).elim
 ·rw [hb] at e
  cases e
  exact hO args σ r σ' h w M D vals hv hS
theorem ah2 (hT : Fits P ν T) {f : Nat} {args : List V} {σ : Store} {F : Fn} {e : Ex} {st' : St} {rs : List V} (hf : T f = some F) (hl : args.length = F.nargs) (hnl : ∀ o,F.body ≠ .lib o)
  (ih : Xb P ν F.body e (St.enter args σ) st') (he : e = .normal ∨ e = .ret) (hr : F.res.mapM (EF.get st') = some rs) : H9 P ν f args σ (jR rs) st'.objs:=by
 intro fid alc w M D vals hv hS
 rcases hT fid f F alc hf with ⟨fn,hfn,htr⟩ | ⟨o,e,_⟩
 case inr=>exact (hnl o e).elim
 unfold aaf at htr
 split at htr <;> first | (cases htr;done) | skip
 rename_i body hbody
 split at htr <;> first | (cases htr;done) | skip
 rename_i b rs' hb aoJ
 split at htr <;> first | (cases htr;done) | skip
 rename_i hle
 simp only [Option.some.injEq] at htr;subst htr
 have hvl : vals.size = args.length:=by simpa using (gB _ _ hv).symm
 refine calls_of_wp hfn hbody ?_
 have hs0 : SR fn.ntmps M w D (St.enter args σ) D { tmps:=vals ++ Array.replicate (fn.ntmps - vals.size) undef,defers:=[] } w:=by
  refine ⟨?_,?_,rfl,hS,Gr.refl _ _,fun o d h=>.inl ⟨o,d,h,rfl⟩,fun o _=>jF.refl _⟩
  ·intro t
   simp only [St.enter]
   by_cases ht : t < args.length
   ·obtain ⟨y,h1,h2⟩:=wS _ _ hv t args[t] (by simp [ht])
    have e1 : dX args t = args[t]:=by simp [dX,ht]
    rw [e1]
    have e2 : (vals ++ Array.replicate (fn.ntmps - vals.size) undef).getD t undef = y:=by
     rw [Array.getD_eq_getD_getElem?,Array.getElem?_append_left (by omega)]
     rw [← Array.getElem?_toList,h1];rfl
    rw [e2];exact h2
   ·have e1 : dX args t = .any:=by simp [dX,List.getD,List.getElem?_eq_none (Nat.le_of_not_lt ht)]
    rw [e1];simp only [rd]
  ·simp only [Array.size_append,Array.size_replicate];simp only [] at hl;omega
 refine ih.2 fn.ntmps body hb M w D D _ w hs0 _ ?_
 intro D' a' w' hs'
 have hres : ∃ v,(results fn a'.tmps).run P w' = .ok v w' ∧ rd w' D' (XS M D') (jR rs) v:=by
  have hlist : ∀ (vars : List ResultVar) (rl : List EF) (vl : List V),vars.mapM (YQ P) = some rl → rl.mapM (EF.get st') = some vl →
    ∃ ys : List Value,(vars.mapM (Lj a'.tmps)).run P w' = .ok ys w' ∧ fD w' D' (XS M D') vl ys:=by
   intro vars
   induction vars with
   | nil=>intro rl vl h1 h2;simp at h1;subst h1;simp at h2;subst h2;exact ⟨[],by simp,by simp [fD]⟩
   |
    cons x vars ihv =>
    intro rl vl h1 h2
    simp only [List.mapM_cons,Option.pure_def,Option.bind_eq_bind,Option.bind_eq_some_iff,Option.some.injEq] at h1
    obtain ⟨r,hr1,rl',hr2,rfl⟩:=h1
    simp only [List.mapM_cons,Option.pure_def,Option.bind_eq_bind,Option.bind_eq_some_iff,Option.some.injEq] at h2
    obtain ⟨z,hz1,vl',hz2,rfl⟩:=h2
    obtain ⟨ys,k1,k2⟩:=ihv rl' vl' hr2 hz2
    cases x with
    |
     tmp t =>
     simp only [YQ,Option.some.injEq] at hr1;subst hr1
     simp only [EF.get,Option.some.injEq] at hz1;subst hz1
     refine ⟨a'.tmps.getD t undef :: ys,?_,by simp only [fD];exact ⟨_,_,rfl,hs'.env t,k2⟩⟩
     have hg : (Lj a'.tmps (.tmp t)).run P w' = .ok (a'.tmps.getD t undef) w':=rfl
     simp only [List.mapM_cons,Sem.run_bind,Sem.run_pure,Result.andThen_ok,k1,hg]
    |
     cell q t =>
     simp only [YQ,Option.map_eq_some_iff] at hr1
     obtain ⟨⟨n,g⟩,hg,rfl⟩:=hr1
     simp only [EF.get] at hz1
     split at hz1 <;> first | (cases hz1;done) | skip
     rename_i row off hrow
     obtain ⟨u,j1,j2⟩:=Ja hs'.store hg hrow (hs'.env q) hz1
     obtain ⟨bl,oo,aoK,_⟩:=Uo hs'.store hrow (hs'.env q)
     refine ⟨u :: ys,?_,by simp only [fD];exact ⟨_,_,rfl,j2,k2⟩⟩
     have j1' : (loadVar t ⟨bl,oo + off,none⟩).run P w' = .ok u w':=by
      rw [aoK] at j1
      simpa [Instr.loadAt,Instr.sureAddr] using j1
     have hg : (Lj a'.tmps (.cell q t)).run P w' = .ok u w':=by
      simp only [Lj,aoK,asAddr,Sem.run_bind,Sem.run_pure,Result.andThen_ok,j1']
     simp only [List.mapM_cons,Sem.run_bind,Sem.run_pure,Result.andThen_ok,k1,hg]
  obtain ⟨ys,k1,k2⟩:=hlist fn.results.toList rs' rs aoJ hr
  refine ⟨if h : ys.toArray.size = 1 then ys.toArray[0] else .tuple ys.toArray,?_,?_⟩
  ·have : (fn.results.mapM (Lj a'.tmps)).run P w' = .ok ys.toArray w':=by
    rw [← Array.toArray_toList (xs:=fn.results),List.mapM_toArray,Sem.run_map,k1];rfl
   rw [YD]
   simp only [Sem.run_bind,this,Result.andThen_ok,Sem.run_pure]
  ·have hlen:=gB _ _ k2
   have gen : ∀ (rs : List V) (ys : List Value),fD w' D' (XS M D') rs ys → rs.length = ys.length → rd w' D' (XS M D') (jR rs) (if h : ys.toArray.size = 1 then ys.toArray[0] else .tuple ys.toArray):=by
    intro rs ys h hl
    cases rs with
    |
     nil =>
     cases ys with
     | nil=>simp only [jR];rw [dif_neg (by simp)];simp only [rd];exact ⟨_,rfl,h⟩
     | cons y ys=>simp at hl
    |
     cons x xs =>
     cases ys with
     | nil=>simp at hl
     |
      cons y ys =>
      cases xs with
      |
       nil =>
       cases ys with
       |
        nil =>
        simp only [fD] at h
        obtain ⟨y',ys',h0,h1,h2⟩:=h
        cases h0
        simpa [jR] using h1
       | cons y' ys=>simp at hl
      |
       cons x' xs =>
       cases ys with
       | nil=>simp at hl
       |
        cons y' ys =>
        simp only [jR]
        rw [dif_neg (by simp)]
        simp only [rd]
        exact ⟨_,rfl,h⟩
   exact gen rs ys k2 hlen
 obtain ⟨v,hv1,hv2⟩:=hres
 have hfin : bodyPost P fn (Post M D w σ.length (jR rs) st'.objs) .ret a' w' :=
  ⟨hs'.df,v,hv1,v,D',rfl,hv2,hs'.store,hs'.gr,hs'.fr,fun o ho=>hs'.kp o (by rw [ih.1];exact ho)⟩
 rcases he with rfl | rfl <;> exact hfin
theorem Ll {ops : Array Oper} {dr : Bool} {nt m : Nat} : ∀ {k : Nat} {rest : List Oper} {l : List fM},Ei P ν ops dr nt m k rest = some l →
  l.length = rest.length ∧ ∀ (i : Nat) (x : fM),l[i]? = some x → ∃ o k',rest[i]? = some o ∧ Xa P ν ops dr nt m k' o = some x
 | k,[],l,h=>by simp only [Ei,Option.some.injEq] at h;subst h;simp
 |
  k,o :: rest,l,h=>by
  simp only [Ei] at h
  split at h <;> first | (cases h;done) | skip
  rename_i x hx
  split at h <;> first | (cases h;done) | skip
  rename_i l' hl'
  simp only [Option.some.injEq] at h;subst h
  obtain ⟨e1,e2⟩:=Ll hl'
  refine ⟨by simp [e1],fun i y hi=>?_⟩
  cases i with
  | zero=>simp at hi;subst hi;exact ⟨o,k,rfl,hx⟩
  | succ i=>simpa using e2 i y (by simpa using hi)
theorem WA {ops : Array Oper} {nt m k : Nat} {o : Oper} {x : fM} (h : Xa P ν ops true nt m k o = some x) : x.Z7 = YP o:=by
 unfold Xa at h
 split at h <;> first | (cases h;done) | skip
 split at h <;> first | (cases h;done) | skip
 simp only [Option.some.injEq] at h;subst h
 rfl
theorem Ru {ops : Array Oper} {nt m : Nat} {l : List fM} (h : Ei P ν ops true nt m 0 ops.toList = some l) {done : List Nat} {listed : Array Bool} (hs : listed.size = ops.size)
  (hl : ∀ i,listed.getD i false = true ↔ i ∈ done) {i : Nat} : i ∈ Region.ready .any ops listed ↔ nO l done i = true:=by
 obtain ⟨e1,e2⟩:=Ll h
 rw [mem_ready]
 have hlt : ∀ {i : Nat},i < ops.size → (listed.getD i true = false ↔ i ∉ done):=by
  intro i hi
  have : listed.getD i true = listed.getD i false:=by
   rw [Array.getD_eq_getD_getElem?,Array.getD_eq_getD_getElem?,Array.getElem?_eq_getElem (by omega)];rfl
  rw [this]
  constructor
  ·intro h1 h2;rw [(hl i).2 h2] at h1;cases h1
  ·intro h1
   cases hb : listed.getD i false with
   | false=>rfl
   | true=>exact absurd ((hl i).1 hb) h1
 constructor
 ·rintro ⟨h1,o,ho,h2⟩
  have hi:=(Array.getElem?_eq_some_iff.1 ho).1
  have hil : i < l.length:=by rw [e1];simpa using hi
  obtain ⟨o',k',ho',hx⟩:=e2 i l[i] (by simp [hil])
  have : o' = o:=by rw [Array.getElem?_toList] at ho';rw [ho] at ho';exact (Option.some.inj ho').symm
  subst this
  unfold nO
  rw [List.getElem?_eq_getElem hil]
  simp only [Bool.and_eq_true,Bool.not_eq_true',List.all_eq_true]
  refine ⟨?_,?_⟩
  ·have:=(hlt hi).1 h1
   simpa using this
  ·intro e he
   rw [WA hx] at he
   simp only [YP,List.mem_map,List.mem_filter] at he
   obtain ⟨ed,⟨h3,h4⟩,rfl⟩:=he
   have:=h2 ed (by simpa using h3) h4
   simpa using (hl _).1 this
 ·intro hr
  unfold nO at hr
  split at hr <;> first | (cases hr;done) | skip
  rename_i x hx
  simp only [Bool.and_eq_true,Bool.not_eq_true',List.all_eq_true] at hr
  obtain ⟨o,k',ho,htr⟩:=e2 i x hx
  have ho' : ops[i]? = some o:=by rwa [Array.getElem?_toList] at ho
  have hi:=(Array.getElem?_eq_some_iff.1 ho').1
  refine ⟨(hlt hi).2 (by simpa using hr.1),o,ho',?_⟩
  intro e he hb
  refine (hl _).2 ?_
  have:=hr.2 e.on (by rw [WA htr];simp only [YP,List.mem_map,List.mem_filter];exact ⟨e,⟨by simpa using he,hb⟩,rfl⟩)
  simpa using this
theorem sound (hm : P.follows .mixedOrders = true) (hT : Fits P ν T) {j : Job} {o : Out} (h : Run T j o) : Sound P ν j o:=by
 induction h with
 |
  skip st =>
  refine ⟨⟨rfl,?_⟩,fun x h=>by cases h⟩
  intro nt cc htr M w0 D0 D a w hs Q hQ
  have hc : cc = .skip:=yK htr
  subst hc
  exact Go.wp_skip (hQ D a w hs)
 |
  @reg m l st st' hk h ih =>
  obtain ⟨_,i1,i2,i3,i4⟩:=ih
  refine ⟨⟨i2,?_⟩,fun x h=>by cases h⟩
  intro nt cc htr M w0 D0 D a w hs Q hQ
  obtain ⟨id,ops,rfl,hops⟩:=yK htr
  refine wp_region_list ?_
  refine i4 ops false nt m 0 ops.toList hops hk M w0 D0 D a w ⟨hs.env,hs.tm,hs.df,hs.mem m,hs.gr,hs.fr,hs.kp⟩ (fun x hx hmk=>?_) Q (fun D' a' w' h=>hQ D' a' w' h)
  have hkm : x.k < m:=by
   have : ∀ (l : List fM),Uc m l = true → ∀ x ∈ l,x.i.makes = true → x.k < m:=by
    intro l
    induction l with
    | nil=>intro _ y hy;cases hy
    |
     cons z l ih =>
     intro h y hy hmk
     simp only [Uc,Bool.and_eq_true] at h
     rcases List.mem_cons.1 hy with rfl | hy
     ·have:=h.1
      rw [if_pos hmk] at this
      simp only [Bool.and_eq_true,decide_eq_true_eq] at this
      exact this.1
     ·exact ih h.2 y hy hmk
   exact this l hk x hx hmk
  simp only [List.length_append,List.length_replicate]
  exact ⟨by omega,hs.store.far _ (by omega)⟩
 |
  @aiD m l st st' hk h ih =>
  obtain ⟨_,i1,i2,i3,i4⟩:=ih
  refine ⟨⟨i2,?_⟩,fun x h=>by cases h⟩
  intro nt cc htr M w0 D0 D a w hs Q hQ
  obtain ⟨id,ops,rfl,hops⟩:=yK htr
  refine wp_region_any hm ?_
  have hsd : SR nt M w0 D0 st D a { w with drawn:=w.drawn + 1 }:=by
   have hE : Ext w D (XS M D) { w with drawn:=w.drawn + 1 } D (XS M D):=⟨Nat.le_refl _,fun _ _ _=>rfl,fun _ _ h=>h,fun _=>jF.refl _⟩
   refine ⟨fun t=>dD _ _ hE (hs.env t),hs.tm,hs.df,?_,⟨hs.gr.size,hs.gr.os,hs.gr.tape,hs.gr.output,hs.gr.block⟩,hs.fr,hs.kp⟩
   refine ⟨fun o d ho=>?_,hs.store.alive,hs.store.inj,hs.store.far,hs.store.mlt⟩
   obtain ⟨ob,c,e,g1,g2,g3,g4,g5,g6,g7,g8,g9,g10,g11⟩:=hs.store.live o d ho
   refine ⟨ob,c,e,g1,g2,g3,g4,g5,g6,g7,g8,g9,g10,fun i x hi=>?_⟩
   obtain ⟨k0,y,k1,k2⟩:=g11 i x hi
   exact ⟨k0,y,k1,dD _ _ hE k2⟩
  refine i4 ops nt m hops hk M w0 D0 D a _ ⟨hsd.env,hsd.tm,hsd.df,hsd.mem m,hsd.gr,hsd.fr,hsd.kp⟩ (fun i x hx _ hmk=>?_) Q (fun D' a' w' h=>hQ D' a' w' h) _ _ (by simp) (fun i=>?_) ?_
  ·have hkm : x.k < m:=YB l hk x (List.mem_of_getElem? hx) hmk
   simp only [List.length_append,List.length_replicate]
   exact ⟨by omega,hsd.store.far _ (by omega)⟩
  ·simp only [Array.getD_eq_getD_getElem?,Array.getElem?_replicate]
   split <;> simp
  ·simp
 |
  @amM l done st h =>
  refine ⟨rfl,rfl,rfl,Nat.le_refl _,?_⟩
  intro ops nt m htr hk M w0 D0 D a w hs hid Q hQ fuel listed h1 h2 h3
  refine wpAny_done ?_ (hQ D a w hs) fuel
  apply List.eq_nil_iff_forall_not_mem.2
  intro i hi
  rw [Ru htr h1 h2,h i] at hi
  cases hi
 |
  @amN l done st st' i0 h0 f h h' ih ih' =>
  obtain ⟨_,b1,b2,b3,_⟩:=ih' i0 h0
  obtain ⟨x0,hx0⟩ : ∃ x0,l[i0]? = some x0:=by
   unfold nO at h0
   split at h0 <;> first | (cases h0;done) | skip
   exact ⟨_,by assumption⟩
  obtain ⟨_,a1,a2,a3,_⟩:=ih i0 x0 hx0 h0
  refine ⟨rfl,b1.trans a1,b2.trans a2,Nat.le_trans a3 b3,?_⟩
  intro ops nt m htr hk M w0 D0 D a w hs hid Q hQ fuel listed h1 h2 h3
  have YE : ∀ i,i ∈ Region.ready .any ops listed ↔ nO l done i = true:=fun i=>Ru htr h1 h2
  have hpos : fuel ≠ 0:=by
   rintro rfl
   have hi:=(YE i0).2 h0
   have:=(mem_ready.1 hi).1
   obtain ⟨_,o,ho,_⟩:=mem_ready.1 hi
   have hlt:=(Array.getElem?_eq_some_iff.1 ho).1
   have hmem : false ∈ listed.toList:=by
    have : listed[i0]'(by omega) = false:=by
     rw [Array.getD_eq_getD_getElem?,Array.getElem?_eq_getElem (by omega)] at this
     simpa using this
    rw [← this];simp
   have:=List.count_pos_iff.2 hmem
   omega
  obtain ⟨fuel,rfl⟩:=Nat.exists_eq_succ_of_ne_zero hpos
  refine ⟨fun hnil=>?_,fun i hi=>?_⟩
  ·have:=(YE i0).2 h0
   rw [hnil] at this;cases this
  ·have hr:=(YE i).1 hi
   obtain ⟨e1,e2⟩:=Ll htr
   obtain ⟨_,o,ho,_⟩:=mem_ready.1 hi
   have hlt:=(Array.getElem?_eq_some_iff.1 ho).1
   have hil : i < l.length:=by rw [e1];simpa using hlt
   obtain ⟨o',k',ho',hx⟩:=e2 i l[i] (by simp [hil])
   have : o' = o:=by rw [Array.getElem?_toList] at ho';rw [ho] at ho';exact (Option.some.inj ho').symm
   subst this
   have hli : l[i]? = some l[i]:=by simp [hil]
   have hnd : i ∉ done:=by
    unfold nO at hr
    rw [hli] at hr
    simp only [Bool.and_eq_true,Bool.not_eq_true'] at hr
    simpa using hr.1
   obtain ⟨_,c1,c2,c3,c4⟩:=ih i l[i] hli hr
   obtain ⟨_,d1,d2,d3,d4⟩:=ih' i hr
   have key:=c4 ops true nt m k' o' hx M w0 D0 D a w hs (fun hmk=>hid i l[i] hli hnd hmk) (wpAny P .any ops Q fuel (listed.setIfInBounds i true)) Q (fun D' a' w' hs' hun=>by
    refine d4 ops nt m htr hk M w0 D0 D' a' w' hs' (fun j y hy hj hmk=>?_) Q hQ fuel _ (by simpa using h1) (fun j=>?_) ?_
    ·simp only [List.mem_cons,not_or] at hj
     rw [c1]
     obtain ⟨g1,g2⟩:=hid j y hy hj.2 hmk
     refine ⟨Nat.lt_of_lt_of_le g1 c3,hun _ (Nat.le_add_right _ _) g1 g2 ?_⟩
     intro he
     have hne:=ae3 l hk j i y l[i] hy hli hj.1 hmk
     omega
    ·rw [Array.getD_eq_getD_getElem?,Array.getElem?_setIfInBounds]
     by_cases hij : i = j
     ·subst hij
      simp [h1,hlt]
     ·rw [if_neg hij,← Array.getD_eq_getD_getElem?,h2 j]
      simp only [List.mem_cons]
      constructor
      ·exact .inr
      ·rintro (h | h)
       ·exact absurd h.symm hij
       ·exact h
    ·have hfi : listed[i]'(by omega) = false:=by
      have:=(mem_ready.1 hi).1
      rw [Array.getD_eq_getD_getElem?,Array.getElem?_eq_getElem (by omega)] at this
      simpa using this
     rw [Array.toList_setIfInBounds,List.count_set (by simpa using (by omega : i < listed.size))]
     have h4 : listed.toList[i]'(by simpa using (by omega : i < listed.size)) = false:=by simpa using hfi
     have h5 : 0 < listed.toList.count false:=List.count_pos_iff.2 (by rw [← h4];exact List.getElem_mem _)
     simp only [h4,beq_self_eq_true,if_true]
     have : (true == false) = false:=rfl
     simp only [this,Bool.false_eq_true,if_false]
     omega)
   unfold wpOp
   simp only [ho]
   split
   ·rename_i hw;rw [if_pos hw] at key;exact .inl key
   ·rename_i hw;rw [if_neg hw] at key;exact key
 |
  @amO a b st st1 o h h' ih ih' =>
  cases o with
  | fn r σ=>trivial
  | code e st2 =>
  obtain ⟨⟨i1,i2⟩,_⟩:=ih
  obtain ⟨⟨j1,j2⟩,_⟩:=ih'
  refine ⟨⟨j1.trans i1,?_⟩,fun x h=>by cases h⟩
  intro nt cc htr M w0 D0 D a w hs Q hQ
  obtain ⟨ca,cb,rfl,ha,hb⟩:=yK htr
  refine Go.wp_seq (i2 nt ca ha M w0 D0 D a w hs _ fun D' a' w' hs'=>?_)
  exact j2 nt cb hb M w0 D0 D' a' w' hs' Q hQ
 |
  @aiE a b st e st1 he h ih =>
  obtain ⟨⟨i1,i2⟩,_⟩:=ih
  refine ⟨⟨i1,?_⟩,fun x h=>by cases h⟩
  intro nt cc htr M w0 D0 D a w hs Q hQ
  obtain ⟨ca,cb,rfl,ha,hb⟩:=yK htr
  exact Go.wp_seq (i2 nt ca ha M w0 D0 D a w hs _ fun D' a' w' hs'=>ah1 he (hQ D' a' w' hs'))
 |
  @cond x a b st t o hx h ih =>
  cases o with
  | fn r σ=>trivial
  | code e st2 =>
  obtain ⟨⟨i1,i2⟩,_⟩:=ih
  refine ⟨⟨i1,?_⟩,fun x h=>by cases h⟩
  intro nt cc htr M w0 D0 D a w hs Q hQ
  obtain ⟨oc,ca,cb,rfl,h1,ha,hb⟩:=yK htr
  have hv:=dF hs.env h1
  rw [hx] at hv
  simp only [rd] at hv
  refine Go.wp_cond hv (i2 nt _ ?_ M w0 D0 D _ w hs Q hQ)
  cases t
  ·exact hb
  ·exact ha
 |
  @block id c st e st1 h ih =>
  obtain ⟨⟨i1,i2⟩,_⟩:=ih
  refine ⟨⟨i1,?_⟩,fun x h=>by cases h⟩
  intro nt cc htr M w0 D0 D a w hs Q hQ
  obtain ⟨ca,rfl,ha⟩:=yK htr
  refine Go.wp_block (i2 nt ca ha M w0 D0 D a w hs _ fun D' a' w' hs'=>?_)
  have:=hQ D' a' w' hs'
  cases e with
  | normal=>exact this
  | ret=>exact this
  |
   exit id' =>
   simp only [Us,Ui,Exit.inBlock] at this ⊢
   by_cases hid : id' = id
   ·simp only [hid,if_true] at this ⊢;exact this
   ·simp only [hid,if_false] at this ⊢;exact this
 |
  @aby c st st1 o h h' ih ih' =>
  cases o with
  | fn r σ=>trivial
  | code e st2 =>
  obtain ⟨⟨i1,i2⟩,_⟩:=ih
  obtain ⟨⟨j1,_⟩,j2⟩:=ih'
  have key : RI P ν c e st st2:=by
   intro nt cc htr M w0 D0 D a w hs Q hQ b k cs
   obtain ⟨x,a1,w1,⟨D1,hx,hs1⟩,harr⟩:=i2 nt cc htr M w0 D0 D a w hs (fun x a' w'=>∃ D',x = .normal ∧ SR nt M w0 D0 st1 D' a' w') (fun D' a' w' h=>⟨D',rfl,h⟩) b (.inLoop cc :: k) cs
   subst hx
   obtain ⟨x2,a2,w2,q2,aoL⟩:=j2 c rfl nt cc htr M w0 D0 D1 a1 w1 hs1 Q hQ b k cs
   exact ⟨x2,a2,w2,q2,.of_steps (Steps.trans harr (.one step_inLoop)) aoL⟩
  exact ⟨ZW (j1.trans i1) key,fun x hx=>by cases hx;exact key⟩
 |
  @Uj c st e st1 he h ih =>
  obtain ⟨⟨i1,i2⟩,_⟩:=ih
  have key : RI P ν c e st st1:=by
   intro nt cc htr M w0 D0 D a w hs Q hQ b k cs
   obtain ⟨x,a1,w1,⟨D1,hx,hs1⟩,harr⟩:=i2 nt cc htr M w0 D0 D a w hs (fun x a' w'=>∃ D',x = Us e ∧ SR nt M w0 D0 st1 D' a' w') (fun D' a' w' h=>⟨D',rfl,h⟩) b (.inLoop cc :: k) cs
   subst hx
   exact ⟨_,a1,w1,hQ D1 a1 w1 hs1,.pass (x:=.inLoop cc) rfl (fun _ _=>.inl (ah0 he)) harr⟩
  exact ⟨ZW i1 key,fun x hx=>by cases hx;exact key⟩
 |
  exit id st =>
  refine ⟨⟨rfl,?_⟩,fun x h=>by cases h⟩
  intro nt cc htr M w0 D0 D a w hs Q hQ
  have hc : cc = .exit id:=yK htr
  subst hc
  exact Go.wp_exit (hQ D a w hs)
 |
  ret st =>
  refine ⟨⟨rfl,?_⟩,fun x h=>by cases h⟩
  intro nt cc htr M w0 D0 D a w hs Q hQ
  have hc : cc = .ret:=yK htr
  subst hc
  exact Go.wp_ret (hQ D a w hs)
 |
  @gc c st o ρ hn hρ h ih =>
  cases o with
  | fn r σ=>trivial
  | code e st2 =>
  obtain ⟨⟨i1,i2⟩,i3⟩:=ih
  refine ⟨⟨i1,?_⟩,?_⟩
  ·intro nt cc htr M w0 D0 D a w hs Q hQ
   exact i2 nt cc htr M w0 D0 _ a w (hs.gc hn hρ) Q hQ
  ·intro x hx nt cc htr M w0 D0 D a w hs Q hQ
   exact i3 x hx nt cc htr M w0 D0 _ a w (hs.gc hn hρ) Q hQ
 |
  nil st =>
  refine ⟨rfl,rfl,rfl,Nat.le_refl _,?_⟩
  intro ops dr nt m k rest htr hk M w0 D0 D a w hs hid Q hQ
  cases rest with
  | nil=>exact hQ D a w hs
  |
   cons r rest =>
   simp only [Ei] at htr
   split at htr <;> first | (cases htr;done) | skip
   split at htr <;> first | (cases htr;done) | skip
 |
  @cons o l st st1 out h h' ih ih' =>
  cases out with
  | fn r σ=>trivial
  | code e st2=>exact ⟨ih'.1,YC ih.2 ih'.2⟩
 | off hg he=>exact ⟨rfl,abU hg he⟩
 | op hg h=>exact ⟨rfl,afz hg h⟩
 | Uk hg hi ha h hR ih=>exact ⟨rfl,Xc hg hi ha ih hR⟩
 | abz ρ hn hρ hg hi h ih=>exact ⟨rfl,Xd hn hρ hg hi ih⟩
 | abA hg hi ha h hR ih=>exact ⟨rfl,XP hg hi ha ih hR⟩
 | abB hg hi h hl hb ih=>exact ⟨rfl,XQ hg hi ih hl hb⟩
 | @fn f args σ F e st' rs hf hl h he hr ih=>exact ah2 hT hf hl (fun o e=>alb h o (St.enter args σ) (by rw [e])) ih.1 he hr
 | lib hf hb h=>exact ae4 hT hf hb h
 | WU h hr ih=>exact abY hr ih
 | gcF ρ hn hρ h ih=>exact abX hn hρ ih
 |
  @forget c st st2 o he ho hk h' ih =>
  cases o with
  | fn r σ=>trivial
  | code e st3 =>
  obtain ⟨⟨i1,i2⟩,i3⟩:=ih
  refine ⟨⟨i1.trans hk,?_⟩,?_⟩
  ·intro nt cc htr M w0 D0 D a w hs Q hQ
   exact i2 nt cc htr M w0 D0 _ a w (hs.forget he ho hk) Q hQ
  ·intro x hx nt cc htr M w0 D0 D a w hs Q hQ
   exact i3 x hx nt cc htr M w0 D0 _ a w (hs.forget he ho hk) Q hQ
 |
  @re c st st2 o W h h' ih =>
  cases o with
  | fn r σ=>trivial
  | code e st3 =>
  obtain ⟨⟨i1,i2⟩,i3⟩:=ih
  refine ⟨⟨i1.trans h.keep,?_⟩,?_⟩
  ·intro nt cc htr M w0 D0 D a w hs Q hQ
   exact i2 nt cc htr M w0 D0 _ a w (hs.re h) Q hQ
  ·intro x hx nt cc htr M w0 D0 D a w hs Q hQ
   exact i3 x hx nt cc htr M w0 D0 _ a w (hs.re h) Q hQ
 | reF W ha h hs hr ih=>exact adh ha hs hr ih
 | Z9 ha h hr ih=>exact aaQ ha hr ih
end
end Go.Ml
end
section
namespace Go.Ml
open Go.ChangeShapes Go.WideShapes Go.ChangeAt Go.RowKit
def MK : List (Nat × Nat × Fn) → Nat → Option Nat
 | [],_=>none
 | x :: l,i=>if x.1 = i then some x.2.1 else MK l i
def aW : List (Nat × Nat × Fn) → Tb
 | [],_=>none
 | x :: l,k=>if x.2.1 = k then some x.2.2 else aW l k
theorem WB : ∀ {l : List (Nat × Nat × Fn)} {i k : Nat},MK l i = some k → ∃ x ∈ l,x.1 = i ∧ x.2.1 = k
 | [],_,_,h=>by simp [MK] at h
 |
  x :: l,i,k,h=>by
  simp only [MK] at h
  split at h
  ·rename_i e;exact ⟨x,by simp,e,by simpa using h⟩
  ·obtain ⟨y,hy,e⟩:=WB h;exact ⟨y,by simp [hy],e⟩
theorem WC : ∀ {l : List (Nat × Nat × Fn)} {k : Nat} {F : Fn},aW l k = some F → ∃ x ∈ l,x.2.1 = k ∧ x.2.2 = F
 | [],_,_,h=>by simp [aW] at h
 |
  x :: l,i,k,h=>by
  simp only [aW] at h
  split at h
  ·rename_i e;exact ⟨x,by simp,e,by simpa using h⟩
  ·obtain ⟨y,hy,e⟩:=WC h;exact ⟨y,by simp [hy],e⟩
theorem ED {α β : Type} {f : α → β} : ∀ {l : List α},(l.map f).Nodup → ∀ {x y},x ∈ l → y ∈ l → f x = f y → x = y
 | [],_,_,_,h,_,_=>by cases h
 |
  a :: l,hn,x,y,hx,hy,e=>by
  simp only [List.map_cons,List.nodup_cons] at hn
  rcases List.mem_cons.1 hx with rfl | hx' <;> rcases List.mem_cons.1 hy with rfl | hy'
  ·rfl
  ·exact absurd (e ▸ List.mem_map_of_mem hy') hn.1
  ·exact absurd (e ▸ List.mem_map_of_mem hx') hn.1
  ·exact ED hn.2 hx' hy' e
theorem ah3 {P : Program} {l : List (Nat × Nat × Fn)} (hnd : (l.map (·.2.1)).Nodup) (h : ∀ x ∈ l,(∃ fn,P.funcs[x.1]? = some fn ∧ aaf P (MK l) fn = some x.2.2) ∨ ∃ o,x.2.2.body = .lib o ∧ ae1 P x.1 o) : Fits P (MK l) (aW l):=by
 intro fid f F h1 h2
 obtain ⟨x,hx,e1,e2⟩:=WB h1
 obtain ⟨y,hy,e3,e4⟩:=WC h2
 have : x = y:=ED hnd hx hy (e2.trans e3.symm)
 subst this
 rw [← e1,← e4]
 exact h x hx
theorem ae5 {P : Program} {l : List (Nat × Nat × Fn)} (hm : P.follows .mixedOrders = true) (hT : Fits P (MK l) (aW l)) {f fid : Nat} {args : List V} {r : V} (h : PF (aW l) f args r) (hf : MK l fid = some f)
  {w : World} {vals : Array Value} (hr : fD w DM.none (fun _=>False) args vals.toList) :
  Calls P fid vals w fun e w'=>(∃ v D X,e = .returned v ∧ rd w' D X r v) ∧ Below w.heap.size w w':=by
 have hs:=sound hm hT h
 have hX : XS (fun _=>False) DM.none = fun _=>False:=by
  funext b;simp [XS,DM.none]
 refine (hs fid hf w (fun _=>False) DM.none vals (by rw [hX];exact hr) ⟨?_,?_,?_,?_,?_⟩).mono fun e w' hp=>?_
 ·intro o d h;cases h
 ·intro o ob h;simp [aj] at h
 ·intro o o' d d' h;cases h
 ·intro o _;rfl
 ·intro b h;exact h.elim
 ·obtain ⟨v,D',e1,e2,e3,e4,_⟩:=hp
  refine ⟨⟨v,D',_,e1,e2⟩,⟨e4.os,e4.tape,e4.output,e4.size,fun k hk=>e4.block k hk ?_⟩⟩
  rintro ⟨o,d,h,_⟩;cases h
theorem YF {P : Program} {l : List (Nat × Nat × Fn)} (hm : P.follows .mixedOrders = true) (hT : Fits P (MK l) (aW l)) {f fid : Nat} {args : List V} (h : PF (aW l) f args (.bool true)) (hf : MK l fid = some f)
  {w : World} {vals : Array Value} (hr : fD w DM.none (fun _=>False) args vals.toList) :
  Calls P fid vals w fun e w'=>e = .returned (.bool true) ∧ Below w.heap.size w w' :=
 (ae5 hm hT h hf hr).mono fun e w' hp=>by
  obtain ⟨⟨v,D,X,rfl,e2⟩,hb⟩:=hp
  have : v = .bool true:=by simpa [rd] using e2
  exact ⟨by rw [this],hb⟩
end Go.Ml
end
