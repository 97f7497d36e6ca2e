/- Contracts of functions. -/
import Derived.Test.YtpcfblijjoomgaaGreatPart3
set_option linter.unusedSimpArgs false
set_option linter.unusedVariables false
set_option maxRecDepth 100000
set_option maxHeartbeats 16000000
section
namespace Go.Ml
theorem WH{σ:Store}:Fin σ (.oJ [.agg [iv 0,iv 0,.bool false,.jZ,.jZ,.bool false,.jZ,.jZ,.bool false,.jZ,.jZ],.agg [.bool false,.jZ,.jZ],.bool false]) (.oJ [RN Lk0,kW R0,.bool false]) :=
 ⟨.oJ [RN Lk0,kW R0,.bool false],[],Tq KQ uo,JO (qJ (o1:=[]) (qV (IG (IG (rM (qJ (o1:=[]) nP (qJ (o1:=[]) nP (rM (qJ (o1:=[]) nP (qJ (o1:=[]) nP (rM (qJ (o1:=[]) nP (qJ (o1:=[]) nP qB))))))))))))
  (qJ (o1:=[]) (qV (rM (qJ (o1:=[]) nP (qJ (o1:=[]) nP qB)))) (rM qB))),.nil⟩
theorem QA{T:Tb}(h:Eh T){k l:Lk}(hk:k.w.cn/\k.dx.cn/\k.dy.cn)(hl:l.w.cn/\l.dx.cn/\l.dy.cn):PO T 140 [RN k,RN l] (.oJ [RN (if Ou k l=true then Qz k l else Lk0),kW (if Ou k l=true then Ot k l else R0),.bool (Ou k l)]):=by
 obtain⟨k1,k2,k3⟩:=hk;obtain⟨l1,l2,l3⟩:=hl;refine lW (fun x d=>(x == 131&&d == 18)||(x == 156&&d == 35)||(x == 156&&d == 47)||(x == 156&&d == 53)||(x == 157&&d == 65)) h.hT ?_;simp only [zu,Lz,St.enter,ak,aG,aV];refine ew ?_;refine⟨by unfold rO;decide +kernel,?_⟩;refine ew ?_;refine nK (show PO T 131 [kW k.w,kW l.w] (kW (rD k l))from FM h.lN k1 l1) (by (refine ew ?_;try with_reducible exact aC)) ?_;intro r q1 o1 G;have hO:=G.ow;have gn:=G.nd;have gf:=G.fresh;have go:=G.old;have gl:=G.len;clear G;obtain⟨_,rfl,Yc⟩:=hO.lJ;obtain⟨x1,x2,rfl⟩:=Yc.rat
 have E:Ep [some ⟨11,[[iv k.a,iv k.b,.bool k.w.neg,ints k.w.mag,ints k.w.den,.bool k.dx.neg,ints k.dx.mag,ints k.dx.den,.bool k.dy.neg,ints k.dy.mag,ints k.dy.den]]⟩,some ⟨11,[[iv l.a,iv l.b,.bool l.w.neg,ints l.w.mag,ints l.w.den,.bool l.dx.neg,ints l.dx.mag,ints l.dx.den,.bool l.dy.neg,ints l.dy.mag,ints l.dy.den]]⟩,some ⟨11,[[iv 0,iv 0,.bool false,.jZ,.jZ,.bool false,.jZ,.jZ,.bool false,.jZ,.jZ]]⟩,some ⟨3,[[.bool false,.jZ,.jZ]]⟩,some ⟨3,[[.bool k.w.neg,ints k.w.mag,ints k.w.den]]⟩,some ⟨3,[[.bool l.w.neg,ints l.w.mag,ints l.w.den]]⟩] [] [] [] [(0,⟨11,[[iv k.a,iv k.b,.bool k.w.neg,ints k.w.mag,ints k.w.den,.bool k.dx.neg,ints k.dx.mag,ints k.dx.den,.bool k.dy.neg,ints k.dy.mag,ints k.dy.den]]⟩),(1,⟨11,[[iv l.a,iv l.b,.bool l.w.neg,ints l.w.mag,ints l.w.den,.bool l.dx.neg,ints l.dx.mag,ints l.dx.den,.bool l.dy.neg,ints l.dy.mag,ints l.dy.den]]⟩),(2,⟨11,[[iv 0,iv 0,.bool false,.jZ,.jZ,.bool false,.jZ,.jZ,.bool false,.jZ,.jZ]]⟩),(3,⟨3,[[.bool false,.jZ,.jZ]]⟩),(4,⟨3,[[.bool k.w.neg,ints k.w.mag,ints k.w.den]]⟩),(5,⟨3,[[.bool l.w.neg,ints l.w.mag,ints l.w.den]]⟩)]:=⟨aa0,by simp [jX]⟩
 have E2:=E.got (s1:=[some ⟨11,[[iv k.a,iv k.b,.bool k.w.neg,ints k.w.mag,ints k.w.den,.bool k.dx.neg,ints k.dx.mag,ints k.dx.den,.bool k.dy.neg,ints k.dy.mag,ints k.dy.den]]⟩,some ⟨11,[[iv l.a,iv l.b,.bool l.w.neg,ints l.w.mag,ints l.w.den,.bool l.dx.neg,ints l.dx.mag,ints l.dx.den,.bool l.dy.neg,ints l.dy.mag,ints l.dy.den]]⟩,some ⟨11,[[iv 0,iv 0,.bool false,.jZ,.jZ,.bool false,.jZ,.jZ,.bool false,.jZ,.jZ]]⟩,some ⟨3,[[.bool false,.jZ,.jZ]]⟩,some ⟨3,[[.bool k.w.neg,ints k.w.mag,ints k.w.den]]⟩,some ⟨3,[[.bool l.w.neg,ints l.w.mag,ints l.w.den]]⟩]++[none]) (fun q hq=>by first|exact pq hq|(simp only [cO];exact pq hq)) (by simp) (Yc) (by simpa using gn) (by simpa using gf) (by simpa using go);have F0:=E.free (s1:=[some ⟨11,[[iv k.a,iv k.b,.bool k.w.neg,ints k.w.mag,ints k.w.den,.bool k.dx.neg,ints k.dx.mag,ints k.dx.den,.bool k.dy.neg,ints k.dy.mag,ints k.dy.den]]⟩,some ⟨11,[[iv l.a,iv l.b,.bool l.w.neg,ints l.w.mag,ints l.w.den,.bool l.dx.neg,ints l.dx.mag,ints l.dx.den,.bool l.dy.neg,ints l.dy.mag,ints l.dy.den]]⟩,some ⟨11,[[iv 0,iv 0,.bool false,.jZ,.jZ,.bool false,.jZ,.jZ,.bool false,.jZ,.jZ]]⟩,some ⟨3,[[.bool false,.jZ,.jZ]]⟩,some ⟨3,[[.bool k.w.neg,ints k.w.mag,ints k.w.den]]⟩,some ⟨3,[[.bool l.w.neg,ints l.w.mag,ints l.w.den]]⟩]++[none]) (p:=6) (by simpa using gf) (by simp) (by simp);have hq:7<=q1.length:=by simpa using gl
 clear E gn gf go gl;have E:Ep q1 [.bool (rD k l).neg,x1,x2] [.bool (rD k l).neg,ints (rD k l).mag,ints (rD k l).den] _ [(0,⟨11,[[iv k.a,iv k.b,.bool k.w.neg,ints k.w.mag,ints k.w.den,.bool k.dx.neg,ints k.dx.mag,ints k.dx.den,.bool k.dy.neg,ints k.dy.mag,ints k.dy.den]]⟩),(1,⟨11,[[iv l.a,iv l.b,.bool l.w.neg,ints l.w.mag,ints l.w.den,.bool l.dx.neg,ints l.dx.mag,ints l.dx.den,.bool l.dy.neg,ints l.dy.mag,ints l.dy.den]]⟩),(2,⟨11,[[iv 0,iv 0,.bool false,.jZ,.jZ,.bool false,.jZ,.jZ,.bool false,.jZ,.jZ]]⟩),(3,⟨3,[[.bool false,.jZ,.jZ]]⟩),(4,⟨3,[[.bool k.w.neg,ints k.w.mag,ints k.w.den]]⟩),(5,⟨3,[[.bool l.w.neg,ints l.w.mag,ints l.w.den]]⟩)]:=E2;clear E2
 replace E:=E.SC (p:=6) (ob:=⟨3,[[.bool (rD k l).neg,x1,x2]]⟩) (L':=[(0,⟨11,[[iv k.a,iv k.b,.bool k.w.neg,ints k.w.mag,ints k.w.den,.bool k.dx.neg,ints k.dx.mag,ints k.dx.den,.bool k.dy.neg,ints k.dy.mag,ints k.dy.den]]⟩),(1,⟨11,[[iv l.a,iv l.b,.bool l.w.neg,ints l.w.mag,ints l.w.den,.bool l.dx.neg,ints l.dx.mag,ints l.dx.den,.bool l.dy.neg,ints l.dy.mag,ints l.dy.den]]⟩),(2,⟨11,[[iv 0,iv 0,.bool false,.jZ,.jZ,.bool false,.jZ,.jZ,.bool false,.jZ,.jZ]]⟩),(3,⟨3,[[.bool false,.jZ,.jZ]]⟩),(4,⟨3,[[.bool k.w.neg,ints k.w.mag,ints k.w.den]]⟩),(5,⟨3,[[.bool l.w.neg,ints l.w.mag,ints l.w.den]]⟩),(6,⟨3,[[.bool (rD k l).neg,x1,x2]]⟩)]) F0 (by omega) (by simp)
 have R:=ah (E.res1 1 rfl rfl (kJ _ _)) (ah (fun x=>(E.snoc (x:=x)).res1 1 rfl rfl (kJ _ _)) (ah (E.res1 2 rfl rfl (kJ _ _)) (fun x=>(E.snoc (x:=x)).res1 2 rfl rfl (kJ _ _))));have LF:=ah (E.leaf 1 rfl rfl) (E.leaf 2 rfl rfl);have LO:=ah (E.at0 (p:=0) (ob:=⟨11,[[iv k.a,iv k.b,.bool k.w.neg,ints k.w.mag,ints k.w.den,.bool k.dx.neg,ints k.dx.mag,ints k.dx.den,.bool k.dy.neg,ints k.dy.mag,ints k.dy.den]]⟩) (by simp)) (ah (E.at0 (p:=1) (ob:=⟨11,[[iv l.a,iv l.b,.bool l.w.neg,ints l.w.mag,ints l.w.den,.bool l.dx.neg,ints l.dx.mag,ints l.dx.den,.bool l.dy.neg,ints l.dy.mag,ints l.dy.den]]⟩) (by simp)) (ah (E.at0 (p:=2) (ob:=⟨11,[[iv 0,iv 0,.bool false,.jZ,.jZ,.bool false,.jZ,.jZ,.bool false,.jZ,.jZ]]⟩) (by simp)) (ah (E.at0 (p:=3) (ob:=⟨3,[[.bool false,.jZ,.jZ]]⟩) (by simp)) (ah (E.at0 (p:=4) (ob:=⟨3,[[.bool k.w.neg,ints k.w.mag,ints k.w.den]]⟩) (by simp)) (ah (E.at0 (p:=5) (ob:=⟨3,[[.bool l.w.neg,ints l.w.mag,ints l.w.den]]⟩) (by simp)) (E.at0 (p:=6) (ob:=⟨3,[[.bool (rD k l).neg,x1,x2]]⟩) (by simp)))))));refine Ia @R @LF @LO @kP @lH @List.set_set.{0} ?_;obtain⟨s1,hs⟩:∃s,(q1.set 6 (some ⟨3,[[.bool (rD k l).neg,x1,x2]]⟩))=s:=⟨_,rfl⟩;have hls:q1.length=s1.length:=by rw [<-hs];simp
 simp only [hs]at *;clear hs;simp only [hls]at *;clear hls R LF LO;have R:=ah (E.res1 1 rfl rfl (kJ _ _)) (ah (fun x=>(E.snoc (x:=x)).res1 1 rfl rfl (kJ _ _)) (ah (E.res1 2 rfl rfl (kJ _ _)) (fun x=>(E.snoc (x:=x)).res1 2 rfl rfl (kJ _ _))));have LF:=ah (E.leaf 1 rfl rfl) (E.leaf 2 rfl rfl);have LO:=ah (E.at0 (p:=0) (ob:=⟨11,[[iv k.a,iv k.b,.bool k.w.neg,ints k.w.mag,ints k.w.den,.bool k.dx.neg,ints k.dx.mag,ints k.dx.den,.bool k.dy.neg,ints k.dy.mag,ints k.dy.den]]⟩) (by simp)) (ah (E.at0 (p:=1) (ob:=⟨11,[[iv l.a,iv l.b,.bool l.w.neg,ints l.w.mag,ints l.w.den,.bool l.dx.neg,ints l.dx.mag,ints l.dx.den,.bool l.dy.neg,ints l.dy.mag,ints l.dy.den]]⟩) (by simp)) (ah (E.at0 (p:=2) (ob:=⟨11,[[iv 0,iv 0,.bool false,.jZ,.jZ,.bool false,.jZ,.jZ,.bool false,.jZ,.jZ]]⟩) (by simp)) (ah (E.at0 (p:=3) (ob:=⟨3,[[.bool false,.jZ,.jZ]]⟩) (by simp)) (ah (E.at0 (p:=4) (ob:=⟨3,[[.bool k.w.neg,ints k.w.mag,ints k.w.den]]⟩) (by simp)) (ah (E.at0 (p:=5) (ob:=⟨3,[[.bool l.w.neg,ints l.w.mag,ints l.w.den]]⟩) (by simp)) (E.at0 (p:=6) (ob:=⟨3,[[.bool (rD k l).neg,x1,x2]]⟩) (by simp)))))));refine Ia @R @LF @LO @kP @lH @List.set_set.{0} ?_;have E2:=E.push (ob:=⟨11,[[.int .i64 k.a,.int .i64 k.b,.bool (rD k l).neg,x1,x2,.bool false,.jZ,.jZ,.bool false,.jZ,.jZ]]⟩);clear E
 have E:Ep ((s1++[none]).set s1.length (some ⟨11,[[.int .i64 k.a,.int .i64 k.b,.bool (rD k l).neg,x1,x2,.bool false,.jZ,.jZ,.bool false,.jZ,.jZ]]⟩)) [.bool (rD k l).neg,x1,x2] [.bool (rD k l).neg,ints (rD k l).mag,ints (rD k l).den] ([]++o1) [(0,⟨11,[[iv k.a,iv k.b,.bool k.w.neg,ints k.w.mag,ints k.w.den,.bool k.dx.neg,ints k.dx.mag,ints k.dx.den,.bool k.dy.neg,ints k.dy.mag,ints k.dy.den]]⟩),(1,⟨11,[[iv l.a,iv l.b,.bool l.w.neg,ints l.w.mag,ints l.w.den,.bool l.dx.neg,ints l.dx.mag,ints l.dx.den,.bool l.dy.neg,ints l.dy.mag,ints l.dy.den]]⟩),(2,⟨11,[[iv 0,iv 0,.bool false,.jZ,.jZ,.bool false,.jZ,.jZ,.bool false,.jZ,.jZ]]⟩),(3,⟨3,[[.bool false,.jZ,.jZ]]⟩),(4,⟨3,[[.bool k.w.neg,ints k.w.mag,ints k.w.den]]⟩),(5,⟨3,[[.bool l.w.neg,ints l.w.mag,ints l.w.den]]⟩),(6,⟨3,[[.bool (rD k l).neg,x1,x2]]⟩),(s1.length,⟨11,[[.int .i64 k.a,.int .i64 k.b,.bool (rD k l).neg,x1,x2,.bool false,.jZ,.jZ,.bool false,.jZ,.jZ]]⟩)]:=by rw [XB];exact E2
 clear E2 R LF LO;obtain⟨p10,hp⟩:∃p,s1.length=p:=⟨_,rfl⟩;obtain⟨s2,hs⟩:∃s,((s1++[none]).set s1.length (some ⟨11,[[.int .i64 k.a,.int .i64 k.b,.bool (rD k l).neg,x1,x2,.bool false,.jZ,.jZ,.bool false,.jZ,.jZ]]⟩))=s:=⟨_,rfl⟩;have hls:s2.length=p10+1:=by rw [<-hs,<-hp];simp
 simp only [hs]at *;clear hs;simp only [hp]at *;clear hp;have R:=ah (E.res1 1 rfl rfl (kJ _ _)) (ah (fun x=>(E.snoc (x:=x)).res1 1 rfl rfl (kJ _ _)) (ah (E.res1 2 rfl rfl (kJ _ _)) (fun x=>(E.snoc (x:=x)).res1 2 rfl rfl (kJ _ _))));have LF:=ah (E.leaf 1 rfl rfl) (E.leaf 2 rfl rfl);have LO:=ah (E.at0 (p:=0) (ob:=⟨11,[[iv k.a,iv k.b,.bool k.w.neg,ints k.w.mag,ints k.w.den,.bool k.dx.neg,ints k.dx.mag,ints k.dx.den,.bool k.dy.neg,ints k.dy.mag,ints k.dy.den]]⟩) (by simp)) (ah (E.at0 (p:=1) (ob:=⟨11,[[iv l.a,iv l.b,.bool l.w.neg,ints l.w.mag,ints l.w.den,.bool l.dx.neg,ints l.dx.mag,ints l.dx.den,.bool l.dy.neg,ints l.dy.mag,ints l.dy.den]]⟩) (by simp)) (ah (E.at0 (p:=2) (ob:=⟨11,[[iv 0,iv 0,.bool false,.jZ,.jZ,.bool false,.jZ,.jZ,.bool false,.jZ,.jZ]]⟩) (by simp)) (ah (E.at0 (p:=3) (ob:=⟨3,[[.bool false,.jZ,.jZ]]⟩) (by simp)) (ah (E.at0 (p:=4) (ob:=⟨3,[[.bool k.w.neg,ints k.w.mag,ints k.w.den]]⟩) (by simp)) (ah (E.at0 (p:=5) (ob:=⟨3,[[.bool l.w.neg,ints l.w.mag,ints l.w.den]]⟩) (by simp)) (ah (E.at0 (p:=6) (ob:=⟨3,[[.bool (rD k l).neg,x1,x2]]⟩) (by simp)) (E.at0 (p:=p10) (ob:=⟨11,[[.int .i64 k.a,.int .i64 k.b,.bool (rD k l).neg,x1,x2,.bool false,.jZ,.jZ,.bool false,.jZ,.jZ]]⟩) (by simp))))))));refine jM (vN h.l9 k1 k2) ?_;refine Ia @R @LF @LO @kP @lH @List.set_set.{0} ?_;refine jM (vN h.l9 l1 l2) ?_;refine Ia @R @LF @LO @kP @lH @List.set_set.{0} ?_;refine jM (FH h.lN Qu Qu) ?_;refine Ia @R @LF @LO @kP @lH @List.set_set.{0} ?_
 refine xk (fun o=>o∈([]++o1)) (show PO T 156 [kW (qm (mulR k.w k.dx) (mulR l.w l.dx)),kW (rD k l)] (kW (IB k l))from Ns h.uN Qu (U1 k l)) (by (refine Ia @R @LF @LO @kP @lH @List.set_set.{0} ?_;try with_reducible exact aC)) ?_ ?_
 ·intro o ho;have ho:o∈reach s2 FD (kW (qm (mulR k.w k.dx) (mulR l.w l.dx)))++(reach s2 (11+1) (.agg [.bool (rD k l).neg,x1,x2])++[]):=ho;rw [show reach s2 FD (kW (qm (mulR k.w k.dx) (mulR l.w l.dx)))=[]from by (refine ew ?_;try with_reducible exact aC),iW,aW]at ho;obtain⟨c,hc,ho⟩:=Ag.1 ho;rcases aI.1 hc with e|hc
  ·rw [e]at ho;simp [reach]at ho
  rcases aI.1 hc with e|hc
  ·rw [e]at ho;exact E.reach 1 rfl rfl _ o ho
  rw [bD.1 hc]at ho;exact E.reach 2 rfl rfl _ o ho
 intro Rr r q3 o3 hRr G;have hO:=G.ow;have gn:=G.nd;have gf:=G.fresh;have go:=G.old;have gl:=G.len;clear G;obtain⟨_,rfl,hQ3⟩:=hO.lJ;obtain⟨x3,x4,rfl⟩:=hQ3.rat
 have E2:=E.got (s1:=s2) (fun q hq=>rfl) (aK _) hQ3 gn gf go;have F:p10∉([]++o1)++o3:=by
  intro hm;rcases aN.1 hm with hm|hm
  ·exact(E.l (p10,⟨11,[[.int .i64 k.a,.int .i64 k.b,.bool (rD k l).neg,x1,x2,.bool false,.jZ,.jZ,.bool false,.jZ,.jZ]]⟩) (by simp)).2 hm
  have:=gf _ hm;omega
 have hq3:p10+1<=q3.length:=by omega
 have hRn:∀o∈Rr,o≠p10:=fun o ho e=>(E.l (p10,⟨11,[[.int .i64 k.a,.int .i64 k.b,.bool (rD k l).neg,x1,x2,.bool false,.jZ,.jZ,.bool false,.jZ,.jZ]]⟩) (by simp)).2 (e▸hRr o ho);clear E gn gf go gl hO R LF LO hRr;have E:Ep q3 [.bool (rD k l).neg,x1,x2,.bool (IB k l).neg,x3,x4] [.bool (rD k l).neg,ints (rD k l).mag,ints (rD k l).den,.bool (IB k l).neg,ints (IB k l).mag,ints (IB k l).den] (([]++o1)++o3) [(0,⟨11,[[iv k.a,iv k.b,.bool k.w.neg,ints k.w.mag,ints k.w.den,.bool k.dx.neg,ints k.dx.mag,ints k.dx.den,.bool k.dy.neg,ints k.dy.mag,ints k.dy.den]]⟩),(1,⟨11,[[iv l.a,iv l.b,.bool l.w.neg,ints l.w.mag,ints l.w.den,.bool l.dx.neg,ints l.dx.mag,ints l.dx.den,.bool l.dy.neg,ints l.dy.mag,ints l.dy.den]]⟩),(2,⟨11,[[iv 0,iv 0,.bool false,.jZ,.jZ,.bool false,.jZ,.jZ,.bool false,.jZ,.jZ]]⟩),(3,⟨3,[[.bool false,.jZ,.jZ]]⟩),(4,⟨3,[[.bool k.w.neg,ints k.w.mag,ints k.w.den]]⟩),(5,⟨3,[[.bool l.w.neg,ints l.w.mag,ints l.w.den]]⟩),(6,⟨3,[[.bool (rD k l).neg,x1,x2]]⟩),(p10,⟨11,[[.int .i64 k.a,.int .i64 k.b,.bool (rD k l).neg,x1,x2,.bool false,.jZ,.jZ,.bool false,.jZ,.jZ]]⟩)]:=E2;clear E2;have R:=ah (E.res1 1 rfl rfl (kJ _ _)) (ah (fun x=>(E.snoc (x:=x)).res1 1 rfl rfl (kJ _ _)) (ah (E.res1 2 rfl rfl (kJ _ _)) (ah (fun x=>(E.snoc (x:=x)).res1 2 rfl rfl (kJ _ _)) (ah (E.res1 4 rfl rfl (kJ _ _)) (ah (fun x=>(E.snoc (x:=x)).res1 4 rfl rfl (kJ _ _)) (ah (E.res1 5 rfl rfl (kJ _ _)) (fun x=>(E.snoc (x:=x)).res1 5 rfl rfl (kJ _ _))))))))
 have LF:=ah (E.leaf 1 rfl rfl) (ah (E.leaf 2 rfl rfl) (ah (E.leaf 4 rfl rfl) (E.leaf 5 rfl rfl)));have LO:=ah (E.at0 (p:=0) (ob:=⟨11,[[iv k.a,iv k.b,.bool k.w.neg,ints k.w.mag,ints k.w.den,.bool k.dx.neg,ints k.dx.mag,ints k.dx.den,.bool k.dy.neg,ints k.dy.mag,ints k.dy.den]]⟩) (by simp)) (ah (E.at0 (p:=1) (ob:=⟨11,[[iv l.a,iv l.b,.bool l.w.neg,ints l.w.mag,ints l.w.den,.bool l.dx.neg,ints l.dx.mag,ints l.dx.den,.bool l.dy.neg,ints l.dy.mag,ints l.dy.den]]⟩) (by simp)) (ah (E.at0 (p:=2) (ob:=⟨11,[[iv 0,iv 0,.bool false,.jZ,.jZ,.bool false,.jZ,.jZ,.bool false,.jZ,.jZ]]⟩) (by simp)) (ah (E.at0 (p:=3) (ob:=⟨3,[[.bool false,.jZ,.jZ]]⟩) (by simp)) (ah (E.at0 (p:=4) (ob:=⟨3,[[.bool k.w.neg,ints k.w.mag,ints k.w.den]]⟩) (by simp)) (ah (E.at0 (p:=5) (ob:=⟨3,[[.bool l.w.neg,ints l.w.mag,ints l.w.den]]⟩) (by simp)) (ah (E.at0 (p:=6) (ob:=⟨3,[[.bool (rD k l).neg,x1,x2]]⟩) (by simp)) (E.at0 (p:=p10) (ob:=⟨11,[[.int .i64 k.a,.int .i64 k.b,.bool (rD k l).neg,x1,x2,.bool false,.jZ,.jZ,.bool false,.jZ,.jZ]]⟩) (by simp))))))));refine Ia @R @LF @LO @kP @lH @List.set_set.{0} ?_;refine⟨?_,?_⟩
 ·revert Rr
  refine Fv _ (fun R=>∀o∈R,o≠p10) 2 10 rfl (fun _=>rfl) ?_ ?_
  ·intro R hR b hb w hw hm;simp only [aI,dD,or_false]at hb;rcases hb with rfl|rfl|rfl|rfl|rfl|rfl|rfl|rfl|rfl|rfl|rfl|rfl|rfl
   all_goals first|(cases hw;done)|(rw [bD.1 hw]at hm;exact hR _ hm rfl)
  have hn0:7<=p10:=hq;generalize p10=m at hn0 ⊢
  revert m
  refine yA _ _ 7 (fun n hn=>?_) (fun n hn=>?_) ?_
  ·simp only [sh];split<;>omega
  ·simp [XG,sh];try omega
  unfold rO;decide +kernel
 clear hRn Rr
 replace E:=E.SC (p:=p10) (ob:=⟨11,[[.int .i64 k.a,.int .i64 k.b,.bool (rD k l).neg,x1,x2,.bool (IB k l).neg,x3,x4,.bool false,.jZ,.jZ]]⟩) (L':=[(0,⟨11,[[iv k.a,iv k.b,.bool k.w.neg,ints k.w.mag,ints k.w.den,.bool k.dx.neg,ints k.dx.mag,ints k.dx.den,.bool k.dy.neg,ints k.dy.mag,ints k.dy.den]]⟩),(1,⟨11,[[iv l.a,iv l.b,.bool l.w.neg,ints l.w.mag,ints l.w.den,.bool l.dx.neg,ints l.dx.mag,ints l.dx.den,.bool l.dy.neg,ints l.dy.mag,ints l.dy.den]]⟩),(2,⟨11,[[iv 0,iv 0,.bool false,.jZ,.jZ,.bool false,.jZ,.jZ,.bool false,.jZ,.jZ]]⟩),(3,⟨3,[[.bool false,.jZ,.jZ]]⟩),(4,⟨3,[[.bool k.w.neg,ints k.w.mag,ints k.w.den]]⟩),(5,⟨3,[[.bool l.w.neg,ints l.w.mag,ints l.w.den]]⟩),(6,⟨3,[[.bool (rD k l).neg,x1,x2]]⟩),(p10,⟨11,[[.int .i64 k.a,.int .i64 k.b,.bool (rD k l).neg,x1,x2,.bool (IB k l).neg,x3,x4,.bool false,.jZ,.jZ]]⟩)]) F (by omega) (by simp;try omega)
 clear R LF LO F;obtain⟨s3,hs⟩:∃s,(q3.set p10 (some ⟨11,[[.int .i64 k.a,.int .i64 k.b,.bool (rD k l).neg,x1,x2,.bool (IB k l).neg,x3,x4,.bool false,.jZ,.jZ]]⟩))=s:=⟨_,rfl⟩;have hls:q3.length=s3.length:=by rw [<-hs];simp
 simp only [hs]at *;clear hs;simp only [hls]at *;clear hls;have R:=ah (E.res1 1 rfl rfl (kJ _ _)) (ah (fun x=>(E.snoc (x:=x)).res1 1 rfl rfl (kJ _ _)) (ah (E.res1 2 rfl rfl (kJ _ _)) (ah (fun x=>(E.snoc (x:=x)).res1 2 rfl rfl (kJ _ _)) (ah (E.res1 4 rfl rfl (kJ _ _)) (ah (fun x=>(E.snoc (x:=x)).res1 4 rfl rfl (kJ _ _)) (ah (E.res1 5 rfl rfl (kJ _ _)) (fun x=>(E.snoc (x:=x)).res1 5 rfl rfl (kJ _ _))))))));have LF:=ah (E.leaf 1 rfl rfl) (ah (E.leaf 2 rfl rfl) (ah (E.leaf 4 rfl rfl) (E.leaf 5 rfl rfl)));have LO:=ah (E.at0 (p:=0) (ob:=⟨11,[[iv k.a,iv k.b,.bool k.w.neg,ints k.w.mag,ints k.w.den,.bool k.dx.neg,ints k.dx.mag,ints k.dx.den,.bool k.dy.neg,ints k.dy.mag,ints k.dy.den]]⟩) (by simp)) (ah (E.at0 (p:=1) (ob:=⟨11,[[iv l.a,iv l.b,.bool l.w.neg,ints l.w.mag,ints l.w.den,.bool l.dx.neg,ints l.dx.mag,ints l.dx.den,.bool l.dy.neg,ints l.dy.mag,ints l.dy.den]]⟩) (by simp)) (ah (E.at0 (p:=2) (ob:=⟨11,[[iv 0,iv 0,.bool false,.jZ,.jZ,.bool false,.jZ,.jZ,.bool false,.jZ,.jZ]]⟩) (by simp)) (ah (E.at0 (p:=3) (ob:=⟨3,[[.bool false,.jZ,.jZ]]⟩) (by simp)) (ah (E.at0 (p:=4) (ob:=⟨3,[[.bool k.w.neg,ints k.w.mag,ints k.w.den]]⟩) (by simp)) (ah (E.at0 (p:=5) (ob:=⟨3,[[.bool l.w.neg,ints l.w.mag,ints l.w.den]]⟩) (by simp)) (ah (E.at0 (p:=6) (ob:=⟨3,[[.bool (rD k l).neg,x1,x2]]⟩) (by simp)) (E.at0 (p:=p10) (ob:=⟨11,[[.int .i64 k.a,.int .i64 k.b,.bool (rD k l).neg,x1,x2,.bool (IB k l).neg,x3,x4,.bool false,.jZ,.jZ]]⟩) (by simp))))))))
 have aHm:p10+1<=s3.length:=by omega
 refine jM (vN h.l9 k1 k3) ?_;refine Ia @R @LF @LO @kP @lH @List.set_set.{0} ?_;refine jM (vN h.l9 l1 l3) ?_;refine Ia @R @LF @LO @kP @lH @List.set_set.{0} ?_;refine jM (FH h.lN Qu Qu) ?_;refine Ia @R @LF @LO @kP @lH @List.set_set.{0} ?_;refine xk (fun o=>o∈(([]++o1)++o3)) (show PO T 156 [kW (qm (mulR k.w k.dy) (mulR l.w l.dy)),kW (rD k l)] (kW (Ob k l))from Ns h.uN Qu (U1 k l)) (by (refine Ia @R @LF @LO @kP @lH @List.set_set.{0} ?_;try with_reducible exact aC)) ?_ ?_
 ·intro o ho;have ho:o∈reach s3 FD (kW (qm (mulR k.w k.dy) (mulR l.w l.dy)))++(reach s3 (11+1) (.agg [.bool (rD k l).neg,x1,x2])++[]):=ho;rw [show reach s3 FD (kW (qm (mulR k.w k.dy) (mulR l.w l.dy)))=[]from by (refine ew ?_;try with_reducible exact aC),iW,aW]at ho;obtain⟨c,hc,ho⟩:=Ag.1 ho;rcases aI.1 hc with e|hc
  ·rw [e]at ho;simp [reach]at ho
  rcases aI.1 hc with e|hc
  ·rw [e]at ho;exact E.reach 1 rfl rfl _ o ho
  rw [bD.1 hc]at ho;exact E.reach 2 rfl rfl _ o ho
 intro Rr r q5 o5 hRr G;have hO:=G.ow;have gn:=G.nd;have gf:=G.fresh;have go:=G.old;have gl:=G.len;clear G;obtain⟨_,rfl,hQ5⟩:=hO.lJ;obtain⟨x5,x6,rfl⟩:=hQ5.rat
 have E2:=E.got (s1:=s3) (fun q hq=>rfl) (aK _) hQ5 gn gf go;have F:p10∉(([]++o1)++o3)++o5:=by
  intro hm;rcases aN.1 hm with hm|hm
  ·exact(E.l (p10,⟨11,[[.int .i64 k.a,.int .i64 k.b,.bool (rD k l).neg,x1,x2,.bool (IB k l).neg,x3,x4,.bool false,.jZ,.jZ]]⟩) (by simp)).2 hm
  have:=gf _ hm;omega
 have hq5:p10+1<=q5.length:=by omega
 have hRn:∀o∈Rr,o≠p10:=fun o ho e=>(E.l (p10,⟨11,[[.int .i64 k.a,.int .i64 k.b,.bool (rD k l).neg,x1,x2,.bool (IB k l).neg,x3,x4,.bool false,.jZ,.jZ]]⟩) (by simp)).2 (e▸hRr o ho);clear E gn gf go gl hO R LF LO hRr;have E:Ep q5 [.bool (rD k l).neg,x1,x2,.bool (IB k l).neg,x3,x4,.bool (Ob k l).neg,x5,x6] [.bool (rD k l).neg,ints (rD k l).mag,ints (rD k l).den,.bool (IB k l).neg,ints (IB k l).mag,ints (IB k l).den,.bool (Ob k l).neg,ints (Ob k l).mag,ints (Ob k l).den] ((([]++o1)++o3)++o5) [(0,⟨11,[[iv k.a,iv k.b,.bool k.w.neg,ints k.w.mag,ints k.w.den,.bool k.dx.neg,ints k.dx.mag,ints k.dx.den,.bool k.dy.neg,ints k.dy.mag,ints k.dy.den]]⟩),(1,⟨11,[[iv l.a,iv l.b,.bool l.w.neg,ints l.w.mag,ints l.w.den,.bool l.dx.neg,ints l.dx.mag,ints l.dx.den,.bool l.dy.neg,ints l.dy.mag,ints l.dy.den]]⟩),(2,⟨11,[[iv 0,iv 0,.bool false,.jZ,.jZ,.bool false,.jZ,.jZ,.bool false,.jZ,.jZ]]⟩),(3,⟨3,[[.bool false,.jZ,.jZ]]⟩),(4,⟨3,[[.bool k.w.neg,ints k.w.mag,ints k.w.den]]⟩),(5,⟨3,[[.bool l.w.neg,ints l.w.mag,ints l.w.den]]⟩),(6,⟨3,[[.bool (rD k l).neg,x1,x2]]⟩),(p10,⟨11,[[.int .i64 k.a,.int .i64 k.b,.bool (rD k l).neg,x1,x2,.bool (IB k l).neg,x3,x4,.bool false,.jZ,.jZ]]⟩)]:=E2;clear E2
 have R:=ah (E.res1 1 rfl rfl (kJ _ _)) (ah (fun x=>(E.snoc (x:=x)).res1 1 rfl rfl (kJ _ _)) (ah (E.res1 2 rfl rfl (kJ _ _)) (ah (fun x=>(E.snoc (x:=x)).res1 2 rfl rfl (kJ _ _)) (ah (E.res1 4 rfl rfl (kJ _ _)) (ah (fun x=>(E.snoc (x:=x)).res1 4 rfl rfl (kJ _ _)) (ah (E.res1 5 rfl rfl (kJ _ _)) (ah (fun x=>(E.snoc (x:=x)).res1 5 rfl rfl (kJ _ _)) (ah (E.res1 7 rfl rfl (kJ _ _)) (ah (fun x=>(E.snoc (x:=x)).res1 7 rfl rfl (kJ _ _)) (ah (E.res1 8 rfl rfl (kJ _ _)) (fun x=>(E.snoc (x:=x)).res1 8 rfl rfl (kJ _ _))))))))))));have LF:=ah (E.leaf 1 rfl rfl) (ah (E.leaf 2 rfl rfl) (ah (E.leaf 4 rfl rfl) (ah (E.leaf 5 rfl rfl) (ah (E.leaf 7 rfl rfl) (E.leaf 8 rfl rfl)))))
 have LO:=ah (E.at0 (p:=0) (ob:=⟨11,[[iv k.a,iv k.b,.bool k.w.neg,ints k.w.mag,ints k.w.den,.bool k.dx.neg,ints k.dx.mag,ints k.dx.den,.bool k.dy.neg,ints k.dy.mag,ints k.dy.den]]⟩) (by simp)) (ah (E.at0 (p:=1) (ob:=⟨11,[[iv l.a,iv l.b,.bool l.w.neg,ints l.w.mag,ints l.w.den,.bool l.dx.neg,ints l.dx.mag,ints l.dx.den,.bool l.dy.neg,ints l.dy.mag,ints l.dy.den]]⟩) (by simp)) (ah (E.at0 (p:=2) (ob:=⟨11,[[iv 0,iv 0,.bool false,.jZ,.jZ,.bool false,.jZ,.jZ,.bool false,.jZ,.jZ]]⟩) (by simp)) (ah (E.at0 (p:=3) (ob:=⟨3,[[.bool false,.jZ,.jZ]]⟩) (by simp)) (ah (E.at0 (p:=4) (ob:=⟨3,[[.bool k.w.neg,ints k.w.mag,ints k.w.den]]⟩) (by simp)) (ah (E.at0 (p:=5) (ob:=⟨3,[[.bool l.w.neg,ints l.w.mag,ints l.w.den]]⟩) (by simp)) (ah (E.at0 (p:=6) (ob:=⟨3,[[.bool (rD k l).neg,x1,x2]]⟩) (by simp)) (E.at0 (p:=p10) (ob:=⟨11,[[.int .i64 k.a,.int .i64 k.b,.bool (rD k l).neg,x1,x2,.bool (IB k l).neg,x3,x4,.bool false,.jZ,.jZ]]⟩) (by simp))))))));refine Ia @R @LF @LO @kP @lH @List.set_set.{0} ?_;refine⟨?_,?_⟩
 ·revert Rr
  refine Fv _ (fun R=>∀o∈R,o≠p10) 2 10 rfl (fun _=>rfl) ?_ ?_
  ·intro R hR b hb w hw hm;simp only [aI,dD,or_false]at hb;rcases hb with rfl|rfl|rfl|rfl|rfl|rfl|rfl|rfl|rfl|rfl|rfl|rfl|rfl
   all_goals first|(cases hw;done)|(rw [bD.1 hw]at hm;exact hR _ hm rfl)
  refine Ji (L':=p10+1) (by omega) ?_;have hn0:7<=p10:=hq;generalize p10=m at hn0 ⊢
  revert m
  refine yA _ _ 7 (fun n hn=>?_) (fun n hn=>?_) ?_
  ·simp only [sh];split<;>omega
  ·simp [XG,sh];try omega
  unfold rO;decide +kernel
 clear hRn Rr
 replace E:=E.SC (p:=p10) (ob:=⟨11,[[.int .i64 k.a,.int .i64 k.b,.bool (rD k l).neg,x1,x2,.bool (IB k l).neg,x3,x4,.bool (Ob k l).neg,x5,x6]]⟩) (L':=[(0,⟨11,[[iv k.a,iv k.b,.bool k.w.neg,ints k.w.mag,ints k.w.den,.bool k.dx.neg,ints k.dx.mag,ints k.dx.den,.bool k.dy.neg,ints k.dy.mag,ints k.dy.den]]⟩),(1,⟨11,[[iv l.a,iv l.b,.bool l.w.neg,ints l.w.mag,ints l.w.den,.bool l.dx.neg,ints l.dx.mag,ints l.dx.den,.bool l.dy.neg,ints l.dy.mag,ints l.dy.den]]⟩),(2,⟨11,[[iv 0,iv 0,.bool false,.jZ,.jZ,.bool false,.jZ,.jZ,.bool false,.jZ,.jZ]]⟩),(3,⟨3,[[.bool false,.jZ,.jZ]]⟩),(4,⟨3,[[.bool k.w.neg,ints k.w.mag,ints k.w.den]]⟩),(5,⟨3,[[.bool l.w.neg,ints l.w.mag,ints l.w.den]]⟩),(6,⟨3,[[.bool (rD k l).neg,x1,x2]]⟩),(p10,⟨11,[[.int .i64 k.a,.int .i64 k.b,.bool (rD k l).neg,x1,x2,.bool (IB k l).neg,x3,x4,.bool (Ob k l).neg,x5,x6]]⟩)]) F (by omega) (by simp;try omega)
 clear R LF LO F;obtain⟨s5,hs⟩:∃s,(q5.set p10 (some ⟨11,[[.int .i64 k.a,.int .i64 k.b,.bool (rD k l).neg,x1,x2,.bool (IB k l).neg,x3,x4,.bool (Ob k l).neg,x5,x6]]⟩))=s:=⟨_,rfl⟩;have hls:q5.length=s5.length:=by rw [<-hs];simp
 simp only [hs]at *;clear hs;simp only [hls]at *;clear hls;have R:=ah (E.res1 1 rfl rfl (kJ _ _)) (ah (fun x=>(E.snoc (x:=x)).res1 1 rfl rfl (kJ _ _)) (ah (E.res1 2 rfl rfl (kJ _ _)) (ah (fun x=>(E.snoc (x:=x)).res1 2 rfl rfl (kJ _ _)) (ah (E.res1 4 rfl rfl (kJ _ _)) (ah (fun x=>(E.snoc (x:=x)).res1 4 rfl rfl (kJ _ _)) (ah (E.res1 5 rfl rfl (kJ _ _)) (ah (fun x=>(E.snoc (x:=x)).res1 5 rfl rfl (kJ _ _)) (ah (E.res1 7 rfl rfl (kJ _ _)) (ah (fun x=>(E.snoc (x:=x)).res1 7 rfl rfl (kJ _ _)) (ah (E.res1 8 rfl rfl (kJ _ _)) (fun x=>(E.snoc (x:=x)).res1 8 rfl rfl (kJ _ _))))))))))));have LF:=ah (E.leaf 1 rfl rfl) (ah (E.leaf 2 rfl rfl) (ah (E.leaf 4 rfl rfl) (ah (E.leaf 5 rfl rfl) (ah (E.leaf 7 rfl rfl) (E.leaf 8 rfl rfl)))))
 have LO:=ah (E.at0 (p:=0) (ob:=⟨11,[[iv k.a,iv k.b,.bool k.w.neg,ints k.w.mag,ints k.w.den,.bool k.dx.neg,ints k.dx.mag,ints k.dx.den,.bool k.dy.neg,ints k.dy.mag,ints k.dy.den]]⟩) (by simp)) (ah (E.at0 (p:=1) (ob:=⟨11,[[iv l.a,iv l.b,.bool l.w.neg,ints l.w.mag,ints l.w.den,.bool l.dx.neg,ints l.dx.mag,ints l.dx.den,.bool l.dy.neg,ints l.dy.mag,ints l.dy.den]]⟩) (by simp)) (ah (E.at0 (p:=2) (ob:=⟨11,[[iv 0,iv 0,.bool false,.jZ,.jZ,.bool false,.jZ,.jZ,.bool false,.jZ,.jZ]]⟩) (by simp)) (ah (E.at0 (p:=3) (ob:=⟨3,[[.bool false,.jZ,.jZ]]⟩) (by simp)) (ah (E.at0 (p:=4) (ob:=⟨3,[[.bool k.w.neg,ints k.w.mag,ints k.w.den]]⟩) (by simp)) (ah (E.at0 (p:=5) (ob:=⟨3,[[.bool l.w.neg,ints l.w.mag,ints l.w.den]]⟩) (by simp)) (ah (E.at0 (p:=6) (ob:=⟨3,[[.bool (rD k l).neg,x1,x2]]⟩) (by simp)) (E.at0 (p:=p10) (ob:=⟨11,[[.int .i64 k.a,.int .i64 k.b,.bool (rD k l).neg,x1,x2,.bool (IB k l).neg,x3,x4,.bool (Ob k l).neg,x5,x6]]⟩) (by simp))))))));have aHn:p10+1<=s5.length:=by omega
 refine jM (vN h.l9 k1 l1) ?_;refine Ia @R @LF @LO @kP @lH @List.set_set.{0} ?_;refine xk (fun o=>o∈((([]++o1)++o3)++o5)) (show PO T 156 [kW (mulR k.w l.w),kW (rD k l)] (kW (uZ (mulR k.w l.w) (rD k l)))from Ns h.uN Qu (U1 k l)) (by (refine Ia @R @LF @LO @kP @lH @List.set_set.{0} ?_;try with_reducible exact aC)) ?_ ?_
 ·intro o ho;have ho:o∈reach (s5++[none]) FD (kW (mulR k.w l.w))++(reach (s5++[none]) (11+1) (.agg [.bool (rD k l).neg,x1,x2])++[]):=ho;rw [show reach (s5++[none]) FD (kW (mulR k.w l.w))=[]from by (refine ew ?_;try with_reducible exact aC),iW,aW]at ho;obtain⟨c,hc,ho⟩:=Ag.1 ho;rcases aI.1 hc with e|hc
  ·rw [e]at ho;simp [reach]at ho
  rcases aI.1 hc with e|hc
  ·rw [e]at ho;exact E.snoc.reach 1 rfl rfl _ o ho
  rw [bD.1 hc]at ho;exact E.snoc.reach 2 rfl rfl _ o ho
 intro Ra r q7 o7 hRa G;have hO:=G.ow;have gn:=G.nd;have gf:=G.fresh;have go:=G.old;have gl:=G.len;clear G;obtain⟨_,rfl,hQ7⟩:=hO.lJ;obtain⟨x7,x8,rfl⟩:=hQ7.rat
 have E2:=E.got (s1:=s5++[none]) (fun q hq=>pq hq) (by simp) hQ7 gn gf go;have F:s5.length∉((([]++o1)++o3)++o5)++o7:=by
  intro hm;rcases aN.1 hm with hm|hm
  ·exact absurd (E.c.lt _ hm) (jr _)
  have:=gf _ hm;simp at this;omega
 have hq7:s5.length+1<=q7.length:=by simpa using gl
 have aC3:∀o∈Ra,o≠s5.length:=fun o ho e=>absurd (E.c.lt _ (e▸hRa o ho)) (jr _);have EL:=E.lt;clear E gn gf go gl hO R LF LO hRa;have E:Ep q7 [.bool (rD k l).neg,x1,x2,.bool (IB k l).neg,x3,x4,.bool (Ob k l).neg,x5,x6,.bool (uZ (mulR k.w l.w) (rD k l)).neg,x7,x8] [.bool (rD k l).neg,ints (rD k l).mag,ints (rD k l).den,.bool (IB k l).neg,ints (IB k l).mag,ints (IB k l).den,.bool (Ob k l).neg,ints (Ob k l).mag,ints (Ob k l).den,.bool (uZ (mulR k.w l.w) (rD k l)).neg,ints (uZ (mulR k.w l.w) (rD k l)).mag,ints (uZ (mulR k.w l.w) (rD k l)).den] (((([]++o1)++o3)++o5)++o7) [(0,⟨11,[[iv k.a,iv k.b,.bool k.w.neg,ints k.w.mag,ints k.w.den,.bool k.dx.neg,ints k.dx.mag,ints k.dx.den,.bool k.dy.neg,ints k.dy.mag,ints k.dy.den]]⟩),(1,⟨11,[[iv l.a,iv l.b,.bool l.w.neg,ints l.w.mag,ints l.w.den,.bool l.dx.neg,ints l.dx.mag,ints l.dx.den,.bool l.dy.neg,ints l.dy.mag,ints l.dy.den]]⟩),(2,⟨11,[[iv 0,iv 0,.bool false,.jZ,.jZ,.bool false,.jZ,.jZ,.bool false,.jZ,.jZ]]⟩),(3,⟨3,[[.bool false,.jZ,.jZ]]⟩),(4,⟨3,[[.bool k.w.neg,ints k.w.mag,ints k.w.den]]⟩),(5,⟨3,[[.bool l.w.neg,ints l.w.mag,ints l.w.den]]⟩),(6,⟨3,[[.bool (rD k l).neg,x1,x2]]⟩),(p10,⟨11,[[.int .i64 k.a,.int .i64 k.b,.bool (rD k l).neg,x1,x2,.bool (IB k l).neg,x3,x4,.bool (Ob k l).neg,x5,x6]]⟩)]:=E2;clear E2
 have R:=ah (E.res1 1 rfl rfl (kJ _ _)) (ah (fun x=>(E.snoc (x:=x)).res1 1 rfl rfl (kJ _ _)) (ah (E.res1 2 rfl rfl (kJ _ _)) (ah (fun x=>(E.snoc (x:=x)).res1 2 rfl rfl (kJ _ _)) (ah (E.res1 4 rfl rfl (kJ _ _)) (ah (fun x=>(E.snoc (x:=x)).res1 4 rfl rfl (kJ _ _)) (ah (E.res1 5 rfl rfl (kJ _ _)) (ah (fun x=>(E.snoc (x:=x)).res1 5 rfl rfl (kJ _ _)) (ah (E.res1 7 rfl rfl (kJ _ _)) (ah (fun x=>(E.snoc (x:=x)).res1 7 rfl rfl (kJ _ _)) (ah (E.res1 8 rfl rfl (kJ _ _)) (ah (fun x=>(E.snoc (x:=x)).res1 8 rfl rfl (kJ _ _)) (ah (E.res1 10 rfl rfl (kJ _ _)) (ah (fun x=>(E.snoc (x:=x)).res1 10 rfl rfl (kJ _ _)) (ah (E.res1 11 rfl rfl (kJ _ _)) (fun x=>(E.snoc (x:=x)).res1 11 rfl rfl (kJ _ _))))))))))))))));have LF:=ah (E.leaf 1 rfl rfl) (ah (E.leaf 2 rfl rfl) (ah (E.leaf 4 rfl rfl) (ah (E.leaf 5 rfl rfl) (ah (E.leaf 7 rfl rfl) (ah (E.leaf 8 rfl rfl) (ah (E.leaf 10 rfl rfl) (E.leaf 11 rfl rfl)))))))
 have LO:=ah (E.at0 (p:=0) (ob:=⟨11,[[iv k.a,iv k.b,.bool k.w.neg,ints k.w.mag,ints k.w.den,.bool k.dx.neg,ints k.dx.mag,ints k.dx.den,.bool k.dy.neg,ints k.dy.mag,ints k.dy.den]]⟩) (by simp)) (ah (E.at0 (p:=1) (ob:=⟨11,[[iv l.a,iv l.b,.bool l.w.neg,ints l.w.mag,ints l.w.den,.bool l.dx.neg,ints l.dx.mag,ints l.dx.den,.bool l.dy.neg,ints l.dy.mag,ints l.dy.den]]⟩) (by simp)) (ah (E.at0 (p:=2) (ob:=⟨11,[[iv 0,iv 0,.bool false,.jZ,.jZ,.bool false,.jZ,.jZ,.bool false,.jZ,.jZ]]⟩) (by simp)) (ah (E.at0 (p:=3) (ob:=⟨3,[[.bool false,.jZ,.jZ]]⟩) (by simp)) (ah (E.at0 (p:=4) (ob:=⟨3,[[.bool k.w.neg,ints k.w.mag,ints k.w.den]]⟩) (by simp)) (ah (E.at0 (p:=5) (ob:=⟨3,[[.bool l.w.neg,ints l.w.mag,ints l.w.den]]⟩) (by simp)) (ah (E.at0 (p:=6) (ob:=⟨3,[[.bool (rD k l).neg,x1,x2]]⟩) (by simp)) (E.at0 (p:=p10) (ob:=⟨11,[[.int .i64 k.a,.int .i64 k.b,.bool (rD k l).neg,x1,x2,.bool (IB k l).neg,x3,x4,.bool (Ob k l).neg,x5,x6]]⟩) (by simp))))))));refine Ia @R @LF @LO @kP @lH @List.set_set.{0} ?_;refine jM (PZ h.qO k2 l2) ?_;refine Ia @R @LF @LO @kP @lH @List.set_set.{0} ?_;refine jM (PZ h.qO k3 l3) ?_;refine Ia @R @LF @LO @kP @lH @List.set_set.{0} ?_;refine jM (Yb h.Qk Qu Qu) ?_;refine Ia @R @LF @LO @kP @lH @List.set_set.{0} ?_
 refine xk (fun o=>o∈(((([]++o1)++o3)++o5)++o7)) (show PO T 157 [kW (uZ (mulR k.w l.w) (rD k l)),kW (sqR (vS k.dx l.dx) (vS k.dy l.dy))] (kW (Ot k l))from Ya h.l9 Qu (alI _ _)) (by (refine Ia @R @LF @LO @kP @lH @List.set_set.{0} ?_;try with_reducible exact aC)) ?_ ?_
 ·intro o ho;have ho:o∈reach q7 (11+1) (.agg [.bool (uZ (mulR k.w l.w) (rD k l)).neg,x7,x8])++(reach q7 FD (kW (sqR (vS k.dx l.dx) (vS k.dy l.dy)))++[]):=ho;rw [show reach q7 FD (kW (sqR (vS k.dx l.dx) (vS k.dy l.dy)))=[]from by (refine ew ?_;try with_reducible exact aC),aW,aW]at ho;obtain⟨c,hc,ho⟩:=Ag.1 ho;rcases aI.1 hc with e|hc
  ·rw [e]at ho;simp [reach]at ho
  rcases aI.1 hc with e|hc
  ·rw [e]at ho;exact E.reach 10 rfl rfl _ o ho
  rw [bD.1 hc]at ho;exact E.reach 11 rfl rfl _ o ho
 intro Rb r q9 o9 hRb G;have hO:=G.ow;have gn:=G.nd;have gf:=G.fresh;have go:=G.old;have gl:=G.len;clear G;obtain⟨_,rfl,hQ9⟩:=hO.lJ;obtain⟨x9,x10,rfl⟩:=hQ9.rat
 have E2:=E.got (s1:=q7) (fun q hq=>rfl) (aK _) hQ9 gn gf go;have F9:s5.length∉(((([]++o1)++o3)++o5)++o7)++o9:=by
  intro hm;rcases aN.1 hm with hm|hm
  ·exact F hm
  have:=gf _ hm;omega
 have hq9:s5.length+1<=q9.length:=by omega
 have aC4:∀o∈Rb,o≠s5.length:=fun o ho e=>F (e▸hRb o ho);clear E F gn gf go gl hO R LF LO hRb;have E:Ep q9 [.bool (rD k l).neg,x1,x2,.bool (IB k l).neg,x3,x4,.bool (Ob k l).neg,x5,x6,.bool (uZ (mulR k.w l.w) (rD k l)).neg,x7,x8,.bool (Ot k l).neg,x9,x10] [.bool (rD k l).neg,ints (rD k l).mag,ints (rD k l).den,.bool (IB k l).neg,ints (IB k l).mag,ints (IB k l).den,.bool (Ob k l).neg,ints (Ob k l).mag,ints (Ob k l).den,.bool (uZ (mulR k.w l.w) (rD k l)).neg,ints (uZ (mulR k.w l.w) (rD k l)).mag,ints (uZ (mulR k.w l.w) (rD k l)).den,.bool (Ot k l).neg,ints (Ot k l).mag,ints (Ot k l).den] ((((([]++o1)++o3)++o5)++o7)++o9) [(0,⟨11,[[iv k.a,iv k.b,.bool k.w.neg,ints k.w.mag,ints k.w.den,.bool k.dx.neg,ints k.dx.mag,ints k.dx.den,.bool k.dy.neg,ints k.dy.mag,ints k.dy.den]]⟩),(1,⟨11,[[iv l.a,iv l.b,.bool l.w.neg,ints l.w.mag,ints l.w.den,.bool l.dx.neg,ints l.dx.mag,ints l.dx.den,.bool l.dy.neg,ints l.dy.mag,ints l.dy.den]]⟩),(2,⟨11,[[iv 0,iv 0,.bool false,.jZ,.jZ,.bool false,.jZ,.jZ,.bool false,.jZ,.jZ]]⟩),(3,⟨3,[[.bool false,.jZ,.jZ]]⟩),(4,⟨3,[[.bool k.w.neg,ints k.w.mag,ints k.w.den]]⟩),(5,⟨3,[[.bool l.w.neg,ints l.w.mag,ints l.w.den]]⟩),(6,⟨3,[[.bool (rD k l).neg,x1,x2]]⟩),(p10,⟨11,[[.int .i64 k.a,.int .i64 k.b,.bool (rD k l).neg,x1,x2,.bool (IB k l).neg,x3,x4,.bool (Ob k l).neg,x5,x6]]⟩)]:=E2;clear E2
 have R:=ah (E.res1 1 rfl rfl (kJ _ _)) (ah (fun x=>(E.snoc (x:=x)).res1 1 rfl rfl (kJ _ _)) (ah (E.res1 2 rfl rfl (kJ _ _)) (ah (fun x=>(E.snoc (x:=x)).res1 2 rfl rfl (kJ _ _)) (ah (E.res1 4 rfl rfl (kJ _ _)) (ah (fun x=>(E.snoc (x:=x)).res1 4 rfl rfl (kJ _ _)) (ah (E.res1 5 rfl rfl (kJ _ _)) (ah (fun x=>(E.snoc (x:=x)).res1 5 rfl rfl (kJ _ _)) (ah (E.res1 7 rfl rfl (kJ _ _)) (ah (fun x=>(E.snoc (x:=x)).res1 7 rfl rfl (kJ _ _)) (ah (E.res1 8 rfl rfl (kJ _ _)) (ah (fun x=>(E.snoc (x:=x)).res1 8 rfl rfl (kJ _ _)) (ah (E.res1 10 rfl rfl (kJ _ _)) (ah (fun x=>(E.snoc (x:=x)).res1 10 rfl rfl (kJ _ _)) (ah (E.res1 11 rfl rfl (kJ _ _)) (ah (fun x=>(E.snoc (x:=x)).res1 11 rfl rfl (kJ _ _)) (ah (E.res1 13 rfl rfl (kJ _ _)) (ah (fun x=>(E.snoc (x:=x)).res1 13 rfl rfl (kJ _ _)) (ah (E.res1 14 rfl rfl (kJ _ _)) (fun x=>(E.snoc (x:=x)).res1 14 rfl rfl (kJ _ _))))))))))))))))))));have LF:=ah (E.leaf 1 rfl rfl) (ah (E.leaf 2 rfl rfl) (ah (E.leaf 4 rfl rfl) (ah (E.leaf 5 rfl rfl) (ah (E.leaf 7 rfl rfl) (ah (E.leaf 8 rfl rfl) (ah (E.leaf 10 rfl rfl) (ah (E.leaf 11 rfl rfl) (ah (E.leaf 13 rfl rfl) (E.leaf 14 rfl rfl)))))))))
 have LO:=ah (E.at0 (p:=0) (ob:=⟨11,[[iv k.a,iv k.b,.bool k.w.neg,ints k.w.mag,ints k.w.den,.bool k.dx.neg,ints k.dx.mag,ints k.dx.den,.bool k.dy.neg,ints k.dy.mag,ints k.dy.den]]⟩) (by simp)) (ah (E.at0 (p:=1) (ob:=⟨11,[[iv l.a,iv l.b,.bool l.w.neg,ints l.w.mag,ints l.w.den,.bool l.dx.neg,ints l.dx.mag,ints l.dx.den,.bool l.dy.neg,ints l.dy.mag,ints l.dy.den]]⟩) (by simp)) (ah (E.at0 (p:=2) (ob:=⟨11,[[iv 0,iv 0,.bool false,.jZ,.jZ,.bool false,.jZ,.jZ,.bool false,.jZ,.jZ]]⟩) (by simp)) (ah (E.at0 (p:=3) (ob:=⟨3,[[.bool false,.jZ,.jZ]]⟩) (by simp)) (ah (E.at0 (p:=4) (ob:=⟨3,[[.bool k.w.neg,ints k.w.mag,ints k.w.den]]⟩) (by simp)) (ah (E.at0 (p:=5) (ob:=⟨3,[[.bool l.w.neg,ints l.w.mag,ints l.w.den]]⟩) (by simp)) (ah (E.at0 (p:=6) (ob:=⟨3,[[.bool (rD k l).neg,x1,x2]]⟩) (by simp)) (E.at0 (p:=p10) (ob:=⟨11,[[.int .i64 k.a,.int .i64 k.b,.bool (rD k l).neg,x1,x2,.bool (IB k l).neg,x3,x4,.bool (Ob k l).neg,x5,x6]]⟩) (by simp))))))));refine Ia @R @LF @LO @kP @lH @List.set_set.{0} ?_;refine⟨?_,?_⟩
 ·revert Rb
  refine Fv _ (fun R=>∀o∈R,o≠s5.length) 2 16 rfl (fun _=>rfl) ?_ ?_
  ·intro R hR b hb w hw hm;simp only [aI,dD,or_false]at hb;rcases hb with rfl|rfl|rfl|rfl|rfl|rfl|rfl|rfl|rfl|rfl|rfl|rfl|rfl|rfl|rfl|rfl|rfl|rfl|rfl
   all_goals first|(cases hw;done)|(rw [bD.1 hw]at hm;exact hR _ hm rfl)
  revert Ra
  refine Fv _ (fun R=>∀o∈R,o≠s5.length) 14 4 rfl (fun _=>rfl) ?_ ?_
  ·intro R hR b hb w hw hm;simp only [aI,dD,or_false]at hb;rcases hb with rfl|rfl|rfl|rfl|rfl|rfl|rfl|rfl|rfl|rfl|rfl|rfl|rfl|rfl|rfl|rfl|rfl|rfl|rfl
   all_goals first|(cases hw;done)|(rw [bD.1 hw]at hm;exact hR _ hm rfl)
  have hn0:7<=s5.length:=by omega
  clear EL E hls;generalize s5.length=m at hn0 ⊢
  revert m
  refine yA _ _ 7 (fun n hn=>?_) (fun n hn=>?_) ?_
  ·simp only [sh];split<;>omega
  ·simp [XG,sh];try omega
  unfold rO;decide +kernel
 clear aC3 aC4 Ra Rb
 replace E:=E.SC (p:=s5.length) (ob:=⟨3,[[.bool (Ot k l).neg,x9,x10]]⟩) (L':=[(0,⟨11,[[iv k.a,iv k.b,.bool k.w.neg,ints k.w.mag,ints k.w.den,.bool k.dx.neg,ints k.dx.mag,ints k.dx.den,.bool k.dy.neg,ints k.dy.mag,ints k.dy.den]]⟩),(1,⟨11,[[iv l.a,iv l.b,.bool l.w.neg,ints l.w.mag,ints l.w.den,.bool l.dx.neg,ints l.dx.mag,ints l.dx.den,.bool l.dy.neg,ints l.dy.mag,ints l.dy.den]]⟩),(2,⟨11,[[iv 0,iv 0,.bool false,.jZ,.jZ,.bool false,.jZ,.jZ,.bool false,.jZ,.jZ]]⟩),(3,⟨3,[[.bool false,.jZ,.jZ]]⟩),(4,⟨3,[[.bool k.w.neg,ints k.w.mag,ints k.w.den]]⟩),(5,⟨3,[[.bool l.w.neg,ints l.w.mag,ints l.w.den]]⟩),(6,⟨3,[[.bool (rD k l).neg,x1,x2]]⟩),(p10,⟨11,[[.int .i64 k.a,.int .i64 k.b,.bool (rD k l).neg,x1,x2,.bool (IB k l).neg,x3,x4,.bool (Ob k l).neg,x5,x6]]⟩),(s5.length,⟨3,[[.bool (Ot k l).neg,x9,x10]]⟩)]) F9 (by omega) (by simp;try omega)
 clear R LF LO F9 EL;obtain⟨p11,ayc⟩:∃p,s5.length=p:=⟨_,rfl⟩;simp only [ayc]at *;clear ayc;obtain⟨s11,hs⟩:∃s,(q9.set p11 (some ⟨3,[[.bool (Ot k l).neg,x9,x10]]⟩))=s:=⟨_,rfl⟩;have hls:q9.length=s11.length:=by rw [<-hs];simp
 simp only [hs]at *;clear hs;simp only [hls]at *;clear hls;have R:=ah (E.res1 1 rfl rfl (kJ _ _)) (ah (fun x=>(E.snoc (x:=x)).res1 1 rfl rfl (kJ _ _)) (ah (E.res1 2 rfl rfl (kJ _ _)) (ah (fun x=>(E.snoc (x:=x)).res1 2 rfl rfl (kJ _ _)) (ah (E.res1 4 rfl rfl (kJ _ _)) (ah (fun x=>(E.snoc (x:=x)).res1 4 rfl rfl (kJ _ _)) (ah (E.res1 5 rfl rfl (kJ _ _)) (ah (fun x=>(E.snoc (x:=x)).res1 5 rfl rfl (kJ _ _)) (ah (E.res1 7 rfl rfl (kJ _ _)) (ah (fun x=>(E.snoc (x:=x)).res1 7 rfl rfl (kJ _ _)) (ah (E.res1 8 rfl rfl (kJ _ _)) (ah (fun x=>(E.snoc (x:=x)).res1 8 rfl rfl (kJ _ _)) (ah (E.res1 10 rfl rfl (kJ _ _)) (ah (fun x=>(E.snoc (x:=x)).res1 10 rfl rfl (kJ _ _)) (ah (E.res1 11 rfl rfl (kJ _ _)) (ah (fun x=>(E.snoc (x:=x)).res1 11 rfl rfl (kJ _ _)) (ah (E.res1 13 rfl rfl (kJ _ _)) (ah (fun x=>(E.snoc (x:=x)).res1 13 rfl rfl (kJ _ _)) (ah (E.res1 14 rfl rfl (kJ _ _)) (fun x=>(E.snoc (x:=x)).res1 14 rfl rfl (kJ _ _))))))))))))))))))));have LF:=ah (E.leaf 1 rfl rfl) (ah (E.leaf 2 rfl rfl) (ah (E.leaf 4 rfl rfl) (ah (E.leaf 5 rfl rfl) (ah (E.leaf 7 rfl rfl) (ah (E.leaf 8 rfl rfl) (ah (E.leaf 10 rfl rfl) (ah (E.leaf 11 rfl rfl) (ah (E.leaf 13 rfl rfl) (E.leaf 14 rfl rfl)))))))))
 have LO:=ah (E.at0 (p:=0) (ob:=⟨11,[[iv k.a,iv k.b,.bool k.w.neg,ints k.w.mag,ints k.w.den,.bool k.dx.neg,ints k.dx.mag,ints k.dx.den,.bool k.dy.neg,ints k.dy.mag,ints k.dy.den]]⟩) (by simp)) (ah (E.at0 (p:=1) (ob:=⟨11,[[iv l.a,iv l.b,.bool l.w.neg,ints l.w.mag,ints l.w.den,.bool l.dx.neg,ints l.dx.mag,ints l.dx.den,.bool l.dy.neg,ints l.dy.mag,ints l.dy.den]]⟩) (by simp)) (ah (E.at0 (p:=2) (ob:=⟨11,[[iv 0,iv 0,.bool false,.jZ,.jZ,.bool false,.jZ,.jZ,.bool false,.jZ,.jZ]]⟩) (by simp)) (ah (E.at0 (p:=3) (ob:=⟨3,[[.bool false,.jZ,.jZ]]⟩) (by simp)) (ah (E.at0 (p:=4) (ob:=⟨3,[[.bool k.w.neg,ints k.w.mag,ints k.w.den]]⟩) (by simp)) (ah (E.at0 (p:=5) (ob:=⟨3,[[.bool l.w.neg,ints l.w.mag,ints l.w.den]]⟩) (by simp)) (ah (E.at0 (p:=6) (ob:=⟨3,[[.bool (rD k l).neg,x1,x2]]⟩) (by simp)) (ah (E.at0 (p:=p10) (ob:=⟨11,[[.int .i64 k.a,.int .i64 k.b,.bool (rD k l).neg,x1,x2,.bool (IB k l).neg,x3,x4,.bool (Ob k l).neg,x5,x6]]⟩) (by simp)) (E.at0 (p:=p11) (ob:=⟨3,[[.bool (Ot k l).neg,x9,x10]]⟩) (by simp)))))))));have gW:=P5 h.kU (U1 k l)
 cases hbW:(rD k l).ok
 ·rw [hbW]at gW;refine Ia @R @LF @LO @kP @lH @List.set_set.{0} ?_;refine jM gW ?_;refine Ia @R @LF @LO @kP @lH @List.set_set.{0} ?_;have hG:Ou k l=false:=by unfold Ou;rw [hbW];simp
  rw [hG];exact WH
 rw [hbW]at gW;refine Ia @R @LF @LO @kP @lH @List.set_set.{0} ?_;refine jM gW ?_;refine Ia @R @LF @LO @kP @lH @List.set_set.{0} ?_;have gX:=P5 h.kU (afO k l)
 cases hbX:(IB k l).ok
 ·rw [hbX]at gX
  skip
  refine jM gX ?_;refine Ia @R @LF @LO @kP @lH @List.set_set.{0} ?_;have hG:Ou k l=false:=by unfold Ou;rw [hbX];simp
  rw [hG];exact WH
 rw [hbX]at gX
 skip
 refine jM gX ?_;refine Ia @R @LF @LO @kP @lH @List.set_set.{0} ?_;have gY:=P5 h.kU (afP k l)
 cases hbY:(Ob k l).ok
 ·rw [hbY]at gY
  skip
  refine jM gY ?_;refine Ia @R @LF @LO @kP @lH @List.set_set.{0} ?_;have hG:Ou k l=false:=by unfold Ou;rw [hbY];simp
  rw [hG];exact WH
 rw [hbY]at gY
 skip
 refine jM gY ?_;refine Ia @R @LF @LO @kP @lH @List.set_set.{0} ?_;have gE:=P5 h.kU (afQ k l)
 cases hbE:(Ot k l).ok
 ·rw [hbE]at gE
  skip
  refine jM gE ?_;refine Ia @R @LF @LO @kP @lH @List.set_set.{0} ?_;have hG:Ou k l=false:=by unfold Ou;rw [hbE];simp
  rw [hG];exact WH
 rw [hbE]at gE
 skip
 refine jM gE ?_;refine Ia @R @LF @LO @kP @lH @List.set_set.{0} ?_;have hG:Ou k l=true:=by unfold Ou;rw [hbW,hbX,hbY,hbE];rfl
 rw [hG];refine⟨?_,?_⟩
 ·refine Ji (L':=p11+1) (by omega) ?_;have hn0:7<=p10:=by omega
  have hn1:p10+1<=p11:=by omega
  clear E R LF LO;obtain⟨d,hd⟩:∃d,p11=p10+(d+1):=⟨p11-p10-1,by omega⟩;rw [hd];clear hd hn1;generalize p10=m at hn0 ⊢
  revert m
  refine yA _ _ 7 (fun n hn=>?_) (fun n hn=>?_) ?_
  ·simp only [sh];split<;>omega
  ·simp [XG,sh];rw [aO (by omega)];omega
  have hn2:8<=7+(d+1):=by omega
  generalize 7+(d+1)=m at hn2 ⊢
  revert m
  refine yA _ _ 8 (fun n hn=>?_) (fun n hn=>?_) ?_
  ·simp only [sh];split<;>omega
  ·simp [XG,sh];try omega
  unfold rO;decide +kernel
 rw [aQ rfl,aQ rfl];have n2:=(E.l (2,⟨11,[[iv 0,iv 0,.bool false,.jZ,.jZ,.bool false,.jZ,.jZ,.bool false,.jZ,.jZ]]⟩) (by simp)).2;have n3:=(E.l (3,⟨3,[[.bool false,.jZ,.jZ]]⟩) (by simp)).2;have E3:=(E.c.set (o:=2) (x:=some ⟨11,[[.int .i64 k.a,.int .i64 k.b,.bool (rD k l).neg,x1,x2,.bool (IB k l).neg,x3,x4,.bool (Ob k l).neg,x5,x6]]⟩) n2).set (o:=3) (x:=some ⟨3,[[.bool (Ot k l).neg,x9,x10]]⟩) n3;exact atM (c9:=[.bool (rD k l).neg,x1,x2,.bool (IB k l).neg,x3,x4,.bool (Ob k l).neg,x5,x6]) (d3:=[.bool (uZ (mulR k.w l.w) (rD k l)).neg,x7,x8]) (e3:=[.bool (Ot k l).neg,x9,x10]) (t9:=[.bool (rD k l).neg,ints (rD k l).mag,ints (rD k l).den,.bool (IB k l).neg,ints (IB k l).mag,ints (IB k l).den,.bool (Ob k l).neg,ints (Ob k l).mag,ints (Ob k l).den]) (u3:=[.bool (uZ (mulR k.w l.w) (rD k l)).neg,ints (uZ (mulR k.w l.w) (rD k l)).mag,ints (uZ (mulR k.w l.w) (rD k l)).den]) (v3:=[.bool (Ot k l).neg,ints (Ot k l).mag,ints (Ot k l).den]) E3.ow rfl rfl E3.nd
def Ei:Fn:=⟨1,58,[.tmp 2],(sr [oN 2 (.qw (cI 0))] (sr [oW 4 0,oW 5 0,oN 6 (.chk (.t 5)),oN 7 (fd 2 6),oN 8 (lF 1 7),oN 9 (bc .mul 8 6364136223846793005),oN 10 (bc .add 9 1442695040888963407),oN 11 (.chk (.t 4)),oN 12 (fd 2 11),oS (.store 1 (.t 12) (.t 10))] (.seq (rt 0 [oW 13 0,oA 14 0 (.chk (.t 13)) [0],oA 15 0 (fd 2 14) [1],oA 16 0 (lF 1 15) [2],oA 17 0 (.bin .shr (.t 16) (.c (.int .u64 33))) [3],oW 18 0,oA 19 0 (.chk (.t 18)) [5],oA 20 0 (fd 2 19) [6],oA 21 0 (lF 1 20) [7],oA 22 0 (.bin .shr (.t 21) (.c (.int .u64 45))) [8],oA 23 0 (bt .xor 17 22) [4,9],oA 24 0 (bc .and 23 255) [10],oA 3 0 (oV 24) [11,0,1,2,3,4,5,6,7,8,9,10,11]]) (.seq (.seq (rt 0 [oW 25 0,oA 26 0 (.chk (.t 25)) [0],oA 27 0 (fd 1 26) [1],oA 28 0 (lF 1 27) [2],oW 29 0,oA 30 0 (.chk (.t 29)) [4],oA 31 0 (fd 0 30) [5],oA 32 0 (lF 1 31) [6],oA 33 0 (ln 32) [7],oA 34 0 (bt .lss 28 33) [3,8]]) (cd 34 (.seq (rt 0 [oW 35 3,oW 36 0,oA 37 0 (.chk (.t 36)) [1],oA 38 0 (fd 0 37) [2],oA 39 0 (lF 1 38) [3],oW 40 0,oA 41 0 (.chk (.t 40)) [5],oA 42 0 (fd 1 41) [6],oA 43 0 (lF 1 42) [7],oA 44 0 (ix 1 39 43) [4,8],oA 45 0 (lF 1 44) [9],oA 46 0 (.conv .i64 (.t 45)) [10],oA 47 0 (bt .add 35 46) [0,11],oA 48 0 (bc .and 47 255) [12],oA 3 0 (oV 48) [13,0,1,2,3,4,5,6,7,8,9,10,11,12,13]]) (rg [oW 49 0,oW 50 0,oN 51 (.chk (.t 50)),oN 52 (fd 1 51),oN 53 (lF 1 52),oN 54 (bc .add 53 1),oN 55 (.chk (.t 49)),oN 56 (fd 1 55),oS (.store 1 (.t 56) (.t 54))])) .skip)) (sr [oW 57 3,oW 2 57] .ret)))))⟩
structure xH (T:Tb):Prop where
 hT:T 129=some Ei
def G8:Fn:=⟨1,32,[.tmp 2],(sr [oN 2 (.qw (.c (.one)))] (sr [oW 5 0,oN 6 (ln 5),oN 7 (.bin .add (cI 1951) (.t 6)),oW 3 7] (.seq (sr [oN 4 (.qw (cI 0))] (.block 0 (.loop (.seq (sr [oW 8 4,oW 9 0,oN 10 (ln 9),oN 11 (bt .lss 8 10),oW 12 11,oG 12 true 13 (oV 4),oG 12 true 14 (bc .lss 13 4000),oN 15 (.pick (.t 12) (.t 14) (.c (.bool false)))] (cd 15 .skip (.exit 0))) (.seq (.block 1 (rg [oW 18 3,oN 19 (bc .mul 18 59),oW 20 0,oW 21 4,oN 22 (ix 1 20 21),oN 23 (lF 1 22),oN 24 (.conv .i64 (.t 23)),oN 25 (bt .add 19 24),oN 26 (bc .add 25 7),oN 27 (bc .and 26 1073741823),oW 3 27])) (rg [oW 16 4,oN 17 (bc .add 16 1),oW 4 17])))))) (.seq (rf 1 [oK 28 1 (oV 0),oK 29 1 (oV 3),oK 30 1 (.build [.jZ,.int .i64 0,.int .i64 0] [(0,1,(.t 28)),(2,1,(.t 29))]),oN 31 (.box (.t 30)),oK 2 1 (oV 31)]) .ret))))⟩
structure G9 (T:Tb):Prop where
 hT:T 105=some G8
def He:Fn:=⟨2,17,[.tmp 4],(sr [oN 4 (.qw (.c (.one)))] (sr [oW 7 0,oN 8 (cl 105 [7]),oW 5 8] (.seq (sr [oN 6 (.qw (cI 0))] (.block 0 (.loop (.seq (sr [oW 9 6,oW 10 1,oN 11 (bt .lss 9 10)] (cd 11 .skip (.exit 0))) (.seq (.block 1 (rg [oW 14 5,oN 15 (cl 129 [14])])) (rg [oW 12 6,oN 13 (bc .add 12 1),oW 6 13])))))) (sr [oW 16 5,oW 4 16] .ret))))⟩
structure KU (T:Tb):Prop where
 hT:T 181=some He
 KW:G9 T
 xI:xH T
def Ej:Fn:=⟨2,15,[.tmp 4],(sr [oN 4 (.qw (cI 0))] (sr [oW 6 0,oW 7 1,oN 8 (cl 181 [6,7]),oW 5 8] (sr [oW 9 5,oN 10 (cl 129 [9]),oN 11 (bc .mul 10 256),oW 12 5,oN 13 (cl 129 [12]),oN 14 (bt .add 11 13),oW 4 14] .ret)))⟩
structure Jt (T:Tb):Prop where
 hT:T 173=some Ej
 xI:xH T
 Zg:KU T
def CG:Fn:=⟨2,37,[.tmp 4],(sr [oN 4 (.qw (cI 0))] (.seq (sr [oW 9 1,oN 10 (bc .leq 9 0)] (cd 10 (sr [oN 4 (.qw (cI 0))] .ret) .skip)) (.seq (sr [oW 11 1,oN 12 (bc .leq 11 256)] (cd 12 (sr [oW 13 0,oN 14 (cl 129 [13]),oW 15 1,oN 16 (bt .rem 14 15),oW 4 16] .ret) .skip)) (sr [oW 17 0,oN 18 (cl 129 [17]),oW 5 18] (sr [oW 19 0,oN 20 (cl 129 [19]),oW 6 20] (sr [oW 21 0,oN 22 (cl 129 [21]),oW 7 22] (sr [oW 23 0,oN 24 (cl 129 [23]),oW 8 24] (sr [oW 25 5,oN 26 (bc .mul 25 16777216),oW 27 6,oN 28 (bc .mul 27 65536),oN 29 (bt .add 26 28),oW 30 7,oN 31 (bc .mul 30 256),oN 32 (bt .add 29 31),oW 33 8,oN 34 (bt .add 32 33),oW 35 1,oN 36 (bt .rem 34 35),oW 4 36] .ret))))))))⟩
structure yE (T:Tb):Prop where
 hT:T 107=some CG
 xI:xH T
def Em:Fn:=⟨2,39,[.cell 4 11 true],(.seq (rf 1 [oN 4 (.alloc Hr)]) (sr [oW 9 0,oW 10 1,oN 11 (cl 107 [9,10]),oW 5 11] (sr [oW 12 0,oW 13 1,oN 14 (cl 107 [12,13]),oW 6 14] (.seq (sr [oW 15 5,oW 16 6,oN 17 (bt .eql 15 16)] (cd 17 (rg [oW 18 5,oN 19 (bc .add 18 1),oW 20 1,oN 21 (bc .add 20 1),oN 22 (bt .rem 19 21),oW 6 22]) .skip)) (.seq (rf 1 [oK 24 1 (oV 5),oK 25 1 (oV 6),oK 26 1 (oV 0),oK 27 1 (.call 107 [(.t 26),(cI 9)]),oK 28 1 (.bin .add (cI 1) (.t 27)),oK 29 1 (oV 0),oK 30 1 (.call 107 [(.t 29),(cI 41)]),oK 31 1 (bc .sub 30 20),oK 32 1 (oV 0),oK 33 1 (.call 107 [(.t 32),(cI 41)]),oK 34 1 (bc .sub 33 20),oK 35 1 (cl 14 [24,25,28,31,34]),oK 23 1 (oV 35),oK 36 1 (ex 0 23),oK 37 1 (ex 1 23),oN 7 (.alloc Hr),⟨none,none,1,.store 11 (.t 7) (.t 36),[]⟩,oK 8 1 (oV 37)]) (sr [oN 38 (lT 11 7),oS (.store 11 (.t 4) (.t 38))] .ret))))))⟩
structure Ju (T:Tb):Prop where
 hT:T 128=some Em
 En:D8 T
 lV:yE T
abbrev bytesV(x:List UInt8):V:=.sl 1 (x.map fun b=>[.int .u8 b.toNat])
def cur(x:List UInt8)(i h:Int):Store:=[some ⟨3,[[bytesV x,iv i,iv h]]⟩]
theorem al6(a:Int):0<=JG .i64 a 255/\JG .i64 a 255<=255:=by
 have h:(BitVec.ofInt 64 a &&& BitVec.ofInt 64 255).toNat<=255:=by
  rw [BitVec.toNat_and];exact dw Nat.and_le_right (by decide)
 unfold JG;rw [show IntKind.i64.bits=64 from rfl,w64 ⟨by omega,by omega⟩];omega
theorem aji{T:Tb}(h:xH T){x:List UInt8}{i hh:Int}(hi:0<=i/\i<=x.length)(hx:x.length<=1048576) :
  ∃n i' h':Int,(0<=n/\n<=255)/\(0<=i'/\i'<=x.length)/\Run T (.fn 129 [.ptr 0 0 0] (cur x i hh)) (.fn (iv n) (cur x i' h')):=by
 have:∃r σ',Run T (.fn 129 [.ptr 0 0 0] (cur x i hh)) (.fn r σ')/\∃n i' h':Int,(r=iv n/\σ'=cur x i' h')/\(0<=n/\n<=255)/\(0<=i'/\i'<=x.length):=by
  unfold cur;refine run_end nR h.hT ?_;simp only [Ei,Lz,St.enter,ak,aG,aV];refine ew ?_;refine kY (fun hc=>?_) fun hc=>?_<;>(refine y8 @hc ?_;try with_reducible exact aC)
  ·have g1:(x.map fun b=>[V.int .u8 b.toNat]).getD i.toNat []=[.int .u8 (x.getD i.toNat default).toNat]:=mg (f:=fun b:UInt8=>[V.int .u8 b.toNat]) (by omega);have hb:(x.getD i.toNat default).toNat<256:=(x.getD i.toNat default).toBitVec.isLt;generalize (x.getD i.toNat default).toNat=b at g1 hb;refine y8 @g1 ?_
   trace_state
   exact⟨_,_,_,⟨rfl,rfl⟩,al6 _,by omega⟩
  refine ew ?_;exact⟨_,_,_,⟨rfl,rfl⟩,al6 _,hi⟩
 obtain⟨r,σ',h1,n,i',h',⟨rfl,rfl⟩,h2,h3⟩:=this;exact⟨n,i',h',h2,h3,h1⟩
def YT(x:List UInt8)(i h:Int):Obj:=⟨3,[[bytesV x,iv i,iv h]]⟩
def Rx(s:Store)(b:Nat)(x:List UInt8):Prop:=∃i h:Int,jX s b=some (YT x i h)/\0<=i/\i<=x.length
def al7(T:Tb)(f:Nat)(rest:List V)(x:List UInt8)(Q:V->Prop):Prop :=
 ∀i h:Int,0<=i/\i<=x.length->∃(r:V) (i' h':Int),(Q r/\∀g,lD g r=r)/\(0<=i'/\i'<=x.length)/\Run T (.fn f (.ptr 0 0 0::rest) (cur x i h)) (.fn r (cur x i' h'))
theorem LY(g:Nat->Option Nat)(x:List UInt8)(i h:Int):qK g (YT x i h)=YT x i h:=by
 simp [qK,YT,lD]
theorem ahq{T:Tb}{f:Nat}{rest:List V}{x:List UInt8}{Q:V->Prop}
  (h:∀i h:Int,0<=i/\i<=x.length->∃r σ',Run T (.fn f (.ptr 0 0 0::rest) (cur x i h)) (.fn r σ')/\(Q r/\∀g,lD g r=r)/\Rx σ' 0 x):al7 T f rest x Q:=by
 intro i hh hi;obtain⟨r,σ',h1,h2,i',h',h3,h4⟩:=h i hh hi;refine⟨r,i',h',h2,h4,?_⟩;have:=Run.gcF [0] (by simp) (fun k hk=>by
  have hk:k<1:=hk;have e:k=0:=by omega
  rw [e];rfl) h1
 rw [h2.2]at this;have e:Hl [0] σ'=cur x i' h':=by
  simp only [Hl,bV,iM,h3,dh,LY];rfl
 rwa [e]at this
theorem pO{T:Tb}{f:Nat}{as:List Src}{dst:Option Nat}{env:Nat->V}{σ:Store}{kp bs:Nat}{rs ms:List Nat}{k:St->Prop}{b:Nat}{x:List UInt8}{rest:List V}{Q:V->Prop}
  (hb:Rx σ b x) (hf:al7 T f rest x Q) (ha:(as.map fun s=>s.ev env)=.ptr b 0 0::rest) (hr:∀g,rest.map (lD g)=rest)
  (hk:∀(r:V) (i h:Int),Q r->0<=i/\i<=x.length->k ⟨oh env dst r,σ.set b (some (YT x i h)),kp,bs,rs,ms⟩):Qj T f as dst ⟨env,σ,kp,bs,rs,ms⟩ k:=by
 obtain⟨i,h,hob,hi⟩:=hb;obtain⟨r,i',h',⟨hq,hm⟩,hi',hrun⟩:=hf i h hi;have e:(as.map fun s=>lD (place [b]) (s.ev env))=.ptr 0 0 0::rest:=by
  have:(as.map fun s=>lD (place [b]) (s.ev env))=(as.map fun s=>s.ev env).map (lD (place [b])):=by rw [fG];rfl
  rw [this,ha,bV,hr];simp [lD,place]
 have e2:Hl [b] σ=cur x i h:=by
  simp only [Hl,bV,iM,hob,dh,LY];rfl
 have hlt:=kX hob;have e3:uw [b] σ (cur x i' h')=σ.set b (some (YT x i' h')):=by
  unfold uw;have:(cur x i' h').drop [b].length=[]:=rfl;rw [this,iM,aW]
  apply fP
  intro q;rw [jY,fB];by_cases hq:b=q
  ·subst hq;rw [aQ rfl,aQ hlt,au hlt];simp only [dh,place,if_true];show some ((jX (cur x i' h') 0).map _)=_;show some (some (qK _ (YT x i' h')))=_;rw [LY]
  rw [aO hq]
  cases hg:σ[q]? with
  |none=>rfl
  |some ob=>simp [place,hq]
 refine⟨_,.ref [b] (by simp) (fun o ho=>by rw [bD.1 ho,hob];rfl) (r:=r) (σ':=cur x i' h') (by rw [e,e2];exact hrun),?_⟩;have:=hk r i' h' hq hi';rw [<-e3]at this;have hm2:=hm (back [b] σ.length);show k ⟨oh env dst (lD (back [b] σ.length) r),_,_,_,_,_⟩;rw [hm2];exact this
theorem P9{T:Tb}(h:xH T){x:List UInt8}(hx:x.length<=1048576):al7 T 129 [] x fun r=>∃n:Int,r=iv n/\0<=n/\n<=255:=by
 intro i hh hi;obtain⟨n,i',h',h1,h2,h3⟩:=aji h (hh:=hh) hi hx;exact⟨iv n,i',h',⟨⟨n,rfl,h1⟩,fun g=>rfl⟩,h2,h3⟩
theorem qW{T:Tb}(h:yE T){x:List UInt8}{n:Int}(hn:0<n/\n<=256)(hx:x.length<=1048576):al7 T 107 [iv n] x fun r=>∃m:Int,r=iv m/\0<=m/\m<n:=by
 refine ahq fun i hh hi=>?_;have hP:Rx (cur x i hh) 0 x:=⟨i,hh,rfl,hi⟩;have h1:¬n<=0:=by omega
 have hl:(cur x i hh).length=1:=rfl;generalize cur x i hh=s0 at hP hl ⊢;refine run_end (fun x d=>x == 129) h.hT ?_;simp only [CG,Lz,St.enter,ak,aG,aV];refine ew ?_;refine kY (fun hc=>absurd hc h1) fun _=>?_;refine ew ?_;refine kY (fun _=>?_) fun hc=>absurd hn.2 hc;refine ew ?_;refine pO hP (P9 h.xI hx) rfl (fun _=>rfl) ?_;rintro _ i2 h2 ⟨m,rfl,hm⟩ hi2;refine ew ?_;exact⟨⟨⟨_,rfl,Int.tmod_nonneg _ hm.1,Int.tmod_lt_of_pos _ hn.1⟩,fun g=>rfl⟩,i2,h2,kT (by omega),hi2⟩
theorem adK{T:Tb}(h:G9 T){x:List UInt8}(hx:x.length<=1048576):∃hh:Int,Run T (.fn 105 [bytesV x] []) (.fn (.ptr 0 0 0) (cur x 0 hh)):=by
 have:∃r σ',Run T (.fn 105 [bytesV x] []) (.fn r σ')/\∃hh:Int,r=.ptr 0 0 0/\σ'=cur x 0 hh:=by
  refine run_end nR h.hT ?_;simp only [G8,Lz,St.enter,ak,aG,aV];refine ew ?_;refine kV (fun _ _=>false) (α:=Nat×Int) (fun q=>⟨mM [bytesV x,.any,.any,iv q.2,iv (q.1:Nat)],[],0,0,[],[]⟩) (fun q=>q.1<=x.length) (fun q=>x.length-q.1) rfl (0,1951+x.length) ?_ ?_ ?_
  ·omega
  ·(refine kN ?_;exact uT)
  rintro⟨k,hh⟩ hk;dsimp only at hk;by_cases hc:(k:Int)<(x.length:Nat)
  ·have hkl:k<x.length:=by omega
   by_cases hc2:(k:Int)<4000
   ·have g1:(x.map fun b=>[V.int .u8 b.toNat]).getD k []=[.int .u8 (x.getD k default).toNat]:=mg (f:=fun b:UInt8=>[V.int .u8 b.toNat]) hkl;have hb:(x.getD k default).toNat<256:=(x.getD k default).toBitVec.isLt;generalize (x.getD k default).toNat=b at g1 hb;refine EN @hc @hc2 @g1 ?_;exact⟨(k+1,JG IntKind.i64 (IntKind.i64.wrap (IntKind.i64.wrap (IntKind.i64.wrap (hh*59)+b)+7)) 1073741823),by dsimp only;omega,by dsimp only;omega,by (refine kN ?_;exact uT)⟩
   refine Af @hc @hc2 ?_;exact⟨_,rfl⟩
  refine y8 @hc ?_;exact⟨_,rfl⟩
 obtain⟨r,σ',h1,hh,rfl,rfl⟩:=this;exact⟨hh,h1⟩
theorem aae{x:List UInt8}{i h:Int}{s:Store}(hi:0<=i/\i<=x.length):Rx (yV s (cur x i h)) s.length x:=by
 refine⟨i,h,?_,hi⟩;rw [qU,aO (jr _),kH];show (some (YT x i h)).map _=_;rw [dh,LY]
theorem al8{T:Tb}(h:KU T){x:List UInt8}{n:Int}(hn:n<=1000)(hx:x.length<=1048576):∃i hh:Int,(0<=i/\i<=x.length)/\Run T (.fn 181 [bytesV x,iv n] []) (.fn (.ptr 0 0 0) (cur x i hh)):=by
 obtain⟨h0,rn⟩:=adK h.KW hx;have:∃r σ',Run T (.fn 181 [bytesV x,iv n] []) (.fn r σ')/\(r=.ptr 0 0 0/\Rx σ' 0 x):=by
  refine run_end (fun x d=>x == 105||x == 129) h.hT ?_;simp only [He,Lz,St.enter,ak,aG,aV];refine ew ?_;refine I7 rn (by (refine ew ?_;try with_reducible exact aC)) (by (refine ew ?_;try with_reducible exact aC)) ?_;have hP:=aae (x:=x) (i:=0) (h:=h0) (s:=[]) (by omega);rw [aG]at hP;rw [show lD (mD ([]:Store).length) (.ptr 0 0 0)=.ptr 0 0 0 from rfl];generalize yV [] (cur x 0 h0)=s0 at hP ⊢;refine ew ?_;refine kV (fun x d=>x == 105||x == 129) (α:=Nat×Store) (fun q=>⟨mM [.any,iv n,.any,.any,.any,.ptr 0 0 0,iv (q.1:Nat)],q.2,0,0,[],[]⟩) (fun q=>q.1<=1000/\Rx q.2 0 x) (fun q=>1000-q.1) rfl (0,s0) ?_ ?_ ?_
  ·exact⟨by omega,hP⟩
  ·(refine kN ?_;exact uT)
  clear hP;rintro⟨k,s⟩ ⟨hk,hP⟩;dsimp only at hk hP;refine ew ?_;refine kY (fun hc=>?_) fun hc=>?_<;>(refine y8 @hc ?_;try with_reducible exact aC)
  ·refine pO hP (P9 h.xI hx) rfl (fun _=>rfl) ?_;rintro _ i2 h2 ⟨m,rfl,hm⟩ hi2;refine ew ?_;have hlt:0<s.length:=by obtain⟨_,_,ho,_⟩:=hP;exact kX ho
   exact⟨(k+1,s.set 0 (some (YT x i2 h2))),by dsimp only;omega,⟨by dsimp only;omega,⟨i2,h2,kT hlt,hi2⟩⟩,by (refine kN ?_;exact uT)⟩
  exact hP
 obtain⟨r,σ',h1,rfl,i',h',h3,h4⟩:=this;refine⟨i',h',h4,?_⟩;have:=Run.gcF [0] (by simp) (fun k hk=>absurd hk (dA _)) h1;have e:Hl [0] σ'=cur x i' h':=by
  simp only [Hl,bV,iM,h3,dh,LY];rfl
 rwa [e]at this
theorem ajj{T:Tb}(h:Jt T){x:List UInt8}{n:Int}(hn:0<=n/\n<=100)(hx:x.length<=1048576):∃m:Int,(0<=m/\m<=65535)/\PF T 173 [bytesV x,iv n] (iv m):=by
 obtain⟨i0,h0,hi0,rn⟩:=al8 h.Zg (n:=n) (by omega) hx;have:∃r σ',Run T (.fn 173 [bytesV x,iv n] []) (.fn r σ')/\∃m:Int,(0<=m/\m<=65535)/\r=iv m:=by
  refine run_end (fun x d=>x == 181||x == 129) h.hT ?_;simp only [Ej,Lz,St.enter,ak,aG,aV];refine ew ?_;refine I7 rn (by (refine ew ?_;try with_reducible exact aC)) (by (refine ew ?_;try with_reducible exact aC)) ?_;have hP:=aae (x:=x) (i:=i0) (h:=h0) (s:=[]) hi0;rw [aG]at hP;rw [show lD (mD ([]:Store).length) (.ptr 0 0 0)=.ptr 0 0 0 from rfl];generalize yV [] (cur x i0 h0)=s0 at hP ⊢;have hlt:0<s0.length:=by obtain⟨_,_,ho,_⟩:=hP;exact kX ho
  refine ew ?_;refine pO hP (P9 h.xI hx) rfl (fun _=>rfl) ?_;rintro _ i2 h2 ⟨m,rfl,hm⟩ hi2;refine ew ?_;refine pO (b:=0) ⟨i2,h2,kT hlt,hi2⟩ (P9 h.xI hx) rfl (fun _=>rfl) ?_;rintro _ i3 h3 ⟨m2,rfl,hm2⟩ hi3;refine ew ?_;exact⟨_,by omega,rfl⟩
 obtain⟨r,σ',h1,m,h2,rfl⟩:=this;exact⟨m,h2,.Wn h1 rfl⟩
structure SmL (l:Lk):Prop where
 ab:0<=l.a/\l.a<l.b/\l.b<=3
 w:∃n:Int,(1<=n/\n<=9)/\l.w=kZ n
 dx:∃n:Int,(-20<=n/\n<=20)/\l.dx=kZ n
 dy:∃n:Int,(-20<=n/\n<=20)/\l.dy=kZ n
theorem ahr(g:Nat->Option Nat)(l:Lk):lD g (RN l)=RN l:=by simp [lD,lD.IC]
def Ht(a:Rat)(N:Nat):Prop:=a.num.natAbs<=N/\a.den<=N
theorem Ny{n:Int}{d N:Nat}(h:d≠0)(h1:n.natAbs<=N)(h2:d<=N):Ht (Rat.normalize n d h) N:=by
 rw [Rat.normalize_eq];refine⟨?_,dw (Nat.div_le_self _ _) h2⟩;show (n / (n.natAbs.gcd d:Nat)).natAbs<=N;refine dw ?_ h1;have hd:((n.natAbs.gcd d:Nat):Int)∣n:=Int.ofNat_dvd_left.2 (Nat.gcd_dvd_left _ _);rw [Int.natAbs_ediv_of_dvd hd];exact Nat.div_le_self _ _
theorem aui{a:Rat}{N:Nat}(h:Ht a N):1<=N:=by
 have:=a.den_pos;have:=h.2;omega
theorem al9{a b:Rat}{M N:Nat}(ha:Ht a M)(hb:Ht b N):Ht (a*b) (M*N):=by
 rw [Rat.mul_def];refine Ny _ ?_ (iK ha.2 hb.2);rw [iP];exact iK ha.1 hb.1
theorem ama{a b:Rat}{M N:Nat}(ha:Ht a M)(hb:Ht b N):Ht (a+b) (2*(M*N)):=by
 rw [Rat.add_def];have h1:(a.num*(b.den:Int)).natAbs<=M*N:=by
  rw [iP,dB];exact iK ha.1 hb.2
 have h2:(b.num*(a.den:Int)).natAbs<=M*N:=by
  rw [iP,dB,dP];exact iK ha.2 hb.1
 have h3:=iK ha.2 hb.2;refine Ny _ ?_ (by omega);have:=Int.natAbs_add_le (a.num*(b.den:Int)) (b.num*(a.den:Int));omega
theorem auj{a:Rat}{N:Nat}(h:Ht a N):Ht (-a) N:=by
 unfold Ht;rw [Rat.neg_num,Rat.neg_den,Int.natAbs_neg];exact h
theorem auk{a b:Rat}{M N:Nat}(ha:Ht a M)(hb:Ht b N):Ht (a-b) (2*(M*N)):=by
 rw [Rat.sub_eq_add_neg];exact ama ha (auj hb)
theorem aul{a:Rat}{N:Nat}(h:Ht a N):Ht a⁻¹ N:=by
 unfold Ht;rw [Rat.num_inv,Rat.den_inv];refine⟨?_,?_⟩
 ·rw [iP,dB];have hs:a.num.sign.natAbs<=1:=by
   rcases Int.lt_trichotomy a.num 0 with h|h|h
   ·rw [Int.sign_eq_neg_one_of_neg h];decide
   ·rw [h];decide
   rw [Int.sign_eq_one_of_pos h];decide
  have:=iK hs (aK a.den);have:=h.2;omega
 split
 ·exact aui h
 exact h.1
theorem aum{a b:Rat}{M N:Nat}(ha:Ht a M)(hb:Ht b N):Ht (a / b) (M*N):=by
 rw [fK];exact al9 ha (aul hb)
theorem amb{n:Int}{N:Nat}(h:n.natAbs<=N)(h1:1<=N):Ht (n:Rat) N:=by
 unfold Ht;rw [Rat.num_intCast,Rat.den_intCast];exact⟨h,h1⟩
theorem WI{a:Rat}{N:Nat}(h:Ht a N)(hN:N<1000000000 ^ 24):fits a=true:=by
 unfold fits;rw [aT (iC h.1 hN),aT (iC h.2 hN)];rfl
theorem Ht.mono{a:Rat}{M N:Nat}(h:Ht a M)(hl:M<=N):Ht a N:=⟨dw h.1 hl,dw h.2 hl⟩
structure Rv (r:R) (a:Rat) (N:Nat):Prop where
 q:r.q=some a
 h:Ht a N
theorem Rv.add{r s:R}{a b:Rat}{M N:Nat}(h1:Rv r a M)(h2:Rv s b N)(hN:2*(M*N)<1000000000 ^ 24:=by decide):Rv (qm r s) (a+b) (2*(M*N)):=by
 have h:=ama h1.h h2.h;refine⟨?_,h⟩;rw [UL,h1.q,h2.q];show norm (a+b)=_;exact yJ (WI h hN)
theorem Rv.sub{r s:R}{a b:Rat}{M N:Nat}(h1:Rv r a M)(h2:Rv s b N)(hN:2*(M*N)<1000000000 ^ 24:=by decide):Rv (vS r s) (a-b) (2*(M*N)):=by
 have h:=auk h1.h h2.h;refine⟨?_,h⟩;rw [XW,h1.q,h2.q];show norm (a + -b)=_;rw [<-Rat.sub_eq_add_neg];exact yJ (WI h hN)
theorem Rv.mul{r s:R}{a b:Rat}{M N:Nat}(h1:Rv r a M)(h2:Rv s b N)(hN:M*N<1000000000 ^ 24:=by decide):Rv (mulR r s) (a*b) (M*N):=by
 have h:=al9 h1.h h2.h;refine⟨?_,h⟩;rw [XY,h1.q,h2.q];show norm (a*b)=_;exact yJ (WI h hN)
theorem Rv.div{r s:R}{a b:Rat}{M N:Nat}(h1:Rv r a M)(h2:Rv s b N)(hb:b≠0)(hN:M*N<1000000000 ^ 24:=by decide):Rv (uZ r s) (a / b) (M*N):=by
 have h:=aum h1.h h2.h;refine⟨?_,h⟩;rw [XZ,h1.q,h2.q];show (if b=0 then none else norm (a / b))=_;rw [aO hb];exact yJ (WI h hN)
theorem Pm{n:Int}{N:Nat}(h:n.natAbs<=N)(h1:1<=N)(hN:N<1000000000 ^ 24:=by decide):Rv (kZ n) (n:Rat) N :=
 ⟨Jl (iC h hN),amb h h1⟩
theorem Rv.ok{r:R}{a:Rat}{N:Nat}(h:Rv r a N):r.ok=true:=by
 rw [wJ,h.q];simp
theorem Rv.eq{r s:R}{a b:Rat}{M N:Nat}(h1:Rv r a M)(h2:Rv s b N)(hr:r.cn)(hs:s.cn)(e:a=b):r=s:=by
 rw [<-hr,<-hs,h1.q,h2.q,e]
theorem Rv.of_eq{r s:R}{a:Rat}{N:Nat}(h:Rv s a N)(e:r=s):Rv r a N:=e▸h
theorem apX{l:Lk}{w:Rat}{N:Nat}(h:0<=l.a/\l.a<l.b/\l.b<=9)(hw:Rv l.w w N)(hp:0<w)(hx:l.dx.ok=true)(hy:l.dy.ok=true):pJ l=true:=by
 have hs:0<wQ l.w:=by
  unfold wQ;rw [hw.q];show 0<ZL w.num;have:0<w.num:=by
   rw [Rat.lt_iff,show (0:Rat).num=0 from rfl,show (0:Rat).den=1 from rfl,Int.zero_mul,Int.natCast_one,Int.mul_one]at hp;exact hp
  unfold ZL;rw [aO (by omega),aO (by omega)]
  decide
 unfold wQ at hs;unfold pJ nd;rw [aT hs,hx,hy,aT h.2.1,aT h.1,aT h.2.2,aT (show 0<=l.b by omega),aT (show l.a<=9 by omega)];rfl
abbrev MQ:=Nat->Nat->Rat
def AA(f:Nat->Rat):Nat->Rat
 |0=>0
 |n+1=>AA f n+f n
theorem Eo{f g:Nat->Rat}:∀{n:Nat},(∀i,i<n->f i=g i)->AA f n=AA g n
 |0,_=>rfl
 |
  n+1,h=>by
  show AA f n+f n=AA g n+g n;rw [Eo fun i hi=>h i (by omega),h n (by omega)]
theorem adL(f g:Nat->Rat)(c:Rat):∀n,AA (fun j=>f j-g j*c) n=AA f n-AA g n*c
 |0=>by show (0:Rat)=0-0*c;grind
 |
  n+1=>by
  show AA (fun j=>f j-g j*c) n+(f n-g n*c)=AA f n+f n-(AA g n+g n)*c;rw [adL f g c n];grind
theorem adM(f:Nat->Rat)(c:Rat):∀n,AA (fun j=>f j / c) n=AA f n / c
 |0=>by show (0:Rat)=0 / c;grind
 |
  n+1=>by
  show AA (fun j=>f j / c) n+f n / c=(AA f n+f n) / c;rw [adM f c n];grind
theorem Nz(f:Nat->Rat)(i:Nat):∀n,AA (fun j=>(if i=j then(1:Rat)else 0)*f j) n=if i<n then f i else 0
 |0=>rfl
 |
  n+1=>by
  show AA (fun j=>(if i=j then(1:Rat)else 0)*f j) n+(if i=n then(1:Rat)else 0)*f n=_;rw [Nz f i n];by_cases h:i=n
  ·subst h;rw [aO (jr _),aQ rfl,aQ (Nat.lt_succ_self _)];grind
  rw [aO h];by_cases h2:i<n
  ·rw [aQ h2,aQ (by omega)];grind
  rw [aO h2,aO (by omega)];grind
def EI(A:MQ)(k p:Nat):MQ:=fun i=>if i=p then A k else if i=k then A p else A i
def Ov(A:MQ)(k:Nat):MQ:=fun i j=>if i=k then A k j / A k k else A i j
def V3(A:MQ)(k:Nat):MQ:=fun i j=>if i=k then A k j else A i j-A k j*A i k
def IW(A:MQ)(k p:Nat):MQ:=V3 (Ov (EI A k p) k) k
def mqP(A:MQ)(k:Nat):Nat->Nat->Nat
 |0,p=>p
 |f+1,p=>if A p k=0 then mqP A k f (p+1)else p
theorem afT(A:MQ)(k:Nat):∀f p,(p<=mqP A k f p/\mqP A k f p<=p+f)/\(mqP A k f p<p+f->A (mqP A k f p) k≠0)
 |0,p=>⟨⟨aK _,aK _⟩,fun h=>absurd h (jr _)⟩
 |
  f+1,p=>by
  unfold mqP;have:=afT A k f (p+1);split
  ·exact⟨by omega,fun h=>this.2 (by omega)⟩
  rename_i h0;exact⟨by omega,fun _=>h0⟩
def yF(n:Nat)(A:MQ)(k:Nat):Nat:=mqP A k (n-k) k
theorem abt{n:Nat}{A:MQ}{k:Nat}(hk:k<n)(h:yF n A k<n):k<=yF n A k/\A (yF n A k) k≠0:=by
 have:=afT A k (n-k) k;unfold yF at *;exact⟨this.1.1,this.2 (by omega)⟩
def Iw(n:Nat)(A:MQ):Nat->Option MQ
 |0=>some A
 |k+1=>(Iw n A k).bind fun B=>if yF n B k<n then some (IW B k (yF n B k))else none
def MqE(n:Nat)(A B:MQ):Prop:=∀i,i<n->∀j,j<n->A i j=B i j
theorem amd{n k:Nat}{A B:MQ}(h:MqE n A B)(hk:k<n):∀f p,p+f<=n->mqP A k f p=mqP B k f p
 |0,_,_=>rfl
 |
  f+1,p,hp=>by
  unfold mqP;rw [h p (by omega) k hk,amd h hk f (p+1) (by omega)]
theorem apY{n k:Nat}{A B:MQ}(h:MqE n A B)(hk:k<n):yF n A k=yF n B k:=amd h hk _ _ (by omega)
theorem apZ{n k p:Nat}{A B:MQ}(h:MqE n A B)(hk:k<n)(hp:p<n):MqE n (IW A k p) (IW B k p):=by
 have h1:MqE n (EI A k p) (EI B k p):=fun i hi j hj=>by
  unfold EI;by_cases e1:i=p
  ·rw [aQ e1,aQ e1];exact h k hk j hj
  rw [aO e1,aO e1];by_cases e2:i=k
  ·rw [aQ e2,aQ e2];exact h p hp j hj
  rw [aO e2,aO e2];exact h i hi j hj
 have h2:MqE n (Ov (EI A k p) k) (Ov (EI B k p) k):=fun i hi j hj=>by
  unfold Ov;rw [h1 k hk j hj,h1 k hk k hk,h1 i hi j hj]
 intro i hi j hj;unfold IW V3;rw [h2 k hk j hj,h2 i hi j hj,h2 i hi k hk]
theorem abu{n:Nat}{A B:MQ}(h:MqE n A B):∀k,k<=n->(Iw n A k=none/\Iw n B k=none)\/∃A' B',Iw n A k=some A'/\Iw n B k=some B'/\MqE n A' B'
 |0,_=>.inr ⟨A,B,rfl,rfl,h⟩
 |
  k+1,hk=>by
  unfold Iw;rcases abu h k (by omega)with ⟨e1,e2⟩|⟨A',B',e1,e2,h'⟩
  ·rw [e1,e2];exact .inl ⟨rfl,rfl⟩
  rw [e1,e2];show ((if yF n A' k<n then some (IW A' k (yF n A' k))else none)=none/\(if yF n B' k<n then some (IW B' k (yF n B' k))else none)=none)\/∃X Y,(if yF n A' k<n then some (IW A' k (yF n A' k))else none)=some X/\(if yF n B' k<n then some (IW B' k (yF n B' k))else none)=some Y/\MqE n X Y;rw [apY h' (by omega)];by_cases hp:yF n B' k<n
  ·rw [aQ hp,aQ hp];exact .inr ⟨_,_,rfl,rfl,apZ h' (by omega) hp⟩
  rw [aO hp,aO hp];exact .inl ⟨rfl,rfl⟩
def xQ(A:MQ)(n:Nat)(y:Nat->Rat)(c i:Nat):Rat:=AA (fun j=>A i j*y j) n-A i c
theorem ame{A:MQ}{n k p:Nat}{y:Nat->Rat}{c:Nat}(hk:k<n)(hp:p<n)(h0:A p k≠0)(h:∀i,i<n->xQ (IW A k p) n y c i=0):∀i,i<n->xQ A n y c i=0:=by
 have hd:EI A k p k k≠0:=by
  unfold EI;by_cases e:k=p
  ·subst e;rw [aQ rfl];exact h0
  rw [aO e,aQ rfl];exact h0
 generalize hS:EI A k p=S at hd;have hT:IW A k p=V3 (Ov S k) k:=by unfold IW;rw [hS]
 have rk:xQ (Ov S k) n y c k=xQ S n y c k / S k k:=by
  unfold xQ Ov;simp only [if_true];rw [Eo (g:=fun j=>S k j*y j / S k k) fun j _=>by grind,adM]
  grind
 have tk:xQ (IW A k p) n y c k=xQ (Ov S k) n y c k:=by
  rw [hT];unfold xQ V3;simp only [if_true]
 have zk:xQ (Ov S k) n y c k=0:=by rw [<-tk];exact h k hk
 have sk:xQ S n y c k=0:=by
  rw [rk]at zk;generalize xQ S n y c k=a at zk ⊢;generalize S k k=b at zk hd
  grind
 have si:∀i,i<n->xQ S n y c i=0:=by
  intro i hi;by_cases e:i=k
  ·rw [e];exact sk
  have ti:xQ (IW A k p) n y c i=xQ S n y c i-xQ (Ov S k) n y c k*S i k:=by
   rw [hT];unfold xQ V3 Ov;simp only [if_true,aO e];rw [Eo (g:=fun j=>S i j*y j-S k j / S k k*y j*S i k) fun j _=>by grind,adL]
   grind
  have:=h i hi;rw [ti,zk]at this
  grind
 intro i hi;by_cases e1:i=k
 ·subst e1;have:=si p hp;rw [<-hS]at this;unfold xQ EI at this;simp only [if_true]at this;exact this
 by_cases e2:i=p
 ·subst e2;have:=si k hk;rw [<-hS]at this;unfold xQ EI at this;simp only [aO (fun e=>e1 (Eq.symm e)),if_true]at this;exact this
 have:=si i hi;rw [<-hS]at this;unfold xQ EI at this;simp only [aO e1,aO e2]at this;exact this
theorem Yk{n:Nat}{A:MQ}{y:Nat->Rat}{c:Nat}:∀k {B:MQ},k<=n->Iw n A k=some B->(∀i,i<n->xQ B n y c i=0)->∀i,i<n->xQ A n y c i=0
 |0,B,_,e,h=>by cases e;exact h
 |
  k+1,B,hk,e,h=>by
  unfold Iw at e
  cases e1:Iw n A k with
  |none=>rw [e1]at e;cases e
  |
   some C =>
   rw [e1]at e;have e:(if yF n C k<n then some (IW C k (yF n C k))else none)=some B:=e;split at e
   ·rename_i hp
    cases e
    exact Yk k (by omega) e1 (ame (by omega) hp (abt (by omega) hp).2 h)
   cases e
def MqU(n k:Nat)(A:MQ):Prop:=∀i,i<n->∀j,j<k->A i j=if i=j then 1 else 0
theorem aun{A:MQ}{n k p:Nat}(hk:k<n)(hp:p<n)(hkp:k<=p)(h0:A p k≠0)(h:MqU n k A):MqU n (k+1) (IW A k p):=by
 have hd:EI A k p k k≠0:=by
  unfold EI;by_cases e:k=p
  ·subst e;rw [aQ rfl];exact h0
  rw [aO e,aQ rfl];exact h0
 have hS:MqU n k (EI A k p):=fun i hi j hj=>by
  unfold EI;by_cases e1:i=p
  ·rw [aQ e1,h k hk j hj,aO (by omega),aO (by omega)]
  rw [aO e1];by_cases e2:i=k
  ·rw [aQ e2,h p hp j hj,aO (by omega),aO (by omega)]
  rw [aO e2];exact h i hi j hj
 unfold IW;generalize EI A k p=S at hd hS;intro i hi j hj;unfold V3 Ov;simp only [if_true];by_cases ek:i=k
 ·subst ek;rw [aQ rfl];by_cases ej:j=i
  ·subst ej;rw [aQ rfl];grind
  rw [hS i hi j (by omega),aO (show ¬i=j by omega)];grind
 rw [aO ek,aO ek,aO ek];by_cases ej:j=k
 ·subst ej;rw [aO ek];grind
 rw [hS k hk j (by omega),aO (by omega),hS i hi j (by omega)];grind
theorem afU{n:Nat}{A:MQ}:∀k {B:MQ},k<=n->Iw n A k=some B->MqU n k B
 |0,_,_,_=>fun _ _ _ hj=>absurd hj (dA _)
 |
  k+1,B,hk,e=>by
  unfold Iw at e
  cases e1:Iw n A k with
  |none=>rw [e1]at e;cases e
  |
   some C =>
   rw [e1]at e;have e:(if yF n C k<n then some (IW C k (yF n C k))else none)=some B:=e;split at e
   ·rename_i hp
    cases e
    have:=abt (by omega) hp;exact aun (by omega) hp this.1 this.2 (afU k (by omega) e1)
   cases e
theorem amf{n:Nat}{A B:MQ}(h:Iw n A n=some B)(c i:Nat)(hi:i<n):AA (fun j=>A i j*B j c) n=A i c:=by
 have hU:=afU n (aK _) h;have:=Yk (y:=fun j=>B j c) (c:=c) n (aK _) h (fun i hi=>by
  unfold xQ;rw [Eo (g:=fun j=>(if i=j then(1:Rat)else 0)*B j c) fun j hj=>by rw [hU i hi j hj],Nz,aQ hi]
  grind) i hi
 unfold xQ at this
 grind
structure RvM (n c:Nat) (M:MF) (A:MQ) (N:Nat):Prop where
 len:∀i,i<n->(M i).length=c
 rv:∀i,i<n->∀j,j<c->Rv (KR M i j) (A i j) N
theorem Rv.mono{r:R}{a:Rat}{M N:Nat}(h:Rv r a M)(hl:M<=N):Rv r a N:=⟨h.q,h.h.mono hl⟩
theorem RvM.sw{n c k p N:Nat}{M:MF}{A:MQ}(h:RvM n c M A N)(hk:k<n)(hp:p<n):RvM n c (AX M k p) (EI A k p) N:=by
 refine⟨fun i hi=>?_,fun i hi j hj=>?_⟩
 ·unfold AX;split
  ·exact h.len k hk
  split
  ·exact h.len p hp
  exact h.len i hi
 unfold KR AX EI;by_cases e1:i=p
 ·rw [aQ e1,aQ e1];exact h.rv k hk j hj
 rw [aO e1,aO e1];by_cases e2:i=k
 ·rw [aQ e2,aQ e2];exact h.rv p hp j hj
 rw [aO e2,aO e2];exact h.rv i hi j hj
theorem RvM.O9{n c N:Nat}{M:MF}{A:MQ}(h:RvM n c M A N):O9 n M=true:=by
 refine U0.2 fun i hi=>aX.2 fun x hx=>?_;obtain⟨j,hj⟩:=bQ.1 hx;have hl:=(aP.1 hj).1;rw [h.len i hi]at hl;have:=(h.rv i hi j hl).ok;unfold KR at this
 rwa [aj,hj]at this
structure aye (n:Nat) (m:List (List R)) (a:MQ):Prop where
 len:m.length=n
 row:∀i,i<n->(m.getD i default).length=n
 rv:∀i,i<n->∀j,j<n->Rv (mEl m i j) (a i j) 10
theorem amg{n c N:Nat}{w:List (List R)}{A:MQ}{ci:Int}(hl:w.length=n)(hr:∀i,i<n->(w.getD i default).length=c)(hv:∀i,i<n->∀j,j<c->Rv (mEl w i j) (A i j) N)(hn:n<=10)(hci:ci=c):BA w ci=true:=by
 rw [abf,aT (by omega)];intro i hi;unfold Qv;rw [aT (by rw [hr i (by omega)];omega),cZ];exact Q7 fun j hj=>(hv i (by omega) j (by rw [<-hr i (by omega)];exact hj)).ok
theorem aye.ok{n:Nat}{m:List (List R)}{a:MQ}(h:aye n m a)(hn:n<=10):BA m m.length=true:=amg h.len h.row h.rv hn (by rw [h.len])
theorem afV{α:Type}{a b:List α}{d:α}{j:Nat}(h:j<a.length):(a++b).getD j d=a.getD j d:=by
 rw [aj,aj,bJ h]
theorem afW{α:Type}{a b:List α}{d:α}{j:Nat}(h:a.length<=j):(a++b).getD j d=b.getD (j-a.length) d:=by
 rw [aj,aj,bW h]
theorem U2{α:Type}{f:Nat->α}{d:α}{n j:Nat}(h:j<n):((List.range n).map f).getD j d=f j:=by
 rw [aj,bM,dJ h];rfl
def Hf:Fn:=⟨1,20,[.tmp 2],(sr [oN 2 mN] (.seq (rf 1 [oN 6 (.nM 11 Hr 0 []),oK 3 1 (oV 6)]) (.seq (sr [oW 7 0,oN 8 (ln 7),oN 9 (.qw (cI 0))] (.block 0 (.loop (sr [oN 10 (bt .lss 9 8)] (.seq (cd 10 .skip (.exit 0)) (.seq (.block 1 (.seq (rf 1 [oK 11 1 (ix 11 7 9),oK 12 1 (lT 11 11),oN 5 (.alloc Hr),⟨none,none,1,.store 11 (.t 5) (.t 12),[]⟩]) (rf 2 [oK 13 2 (oV 3),oK 14 2 (lT 11 5),oK 15 2 (cl 197 [14]),oN 16 (.nM 11 Hr 1 [(0,(.t 15))]),oK 17 1 (.app 11 184 (.t 13) (.t 16)),oK 3 2 (oV 17)]))) (rg [oN 18 (bc .add 9 1),oW 9 18]))))))) (sr [oW 19 3,oW 2 19] .ret))))⟩
structure KX (T:Tb):Prop where
 hT:T 194=some Hf
 zV:D6 T
def vF:Fn:=⟨2,86,[.tmp 4,.cell 5 3 true,.tmp 6],(.seq (rf 2 [oN 3 (.box (.t 1)),oK 4 2 mN,oK 5 1 (.alloc uz),oK 6 2 mF]) (.seq (sr [oW 13 0,oN 14 (cl 193 [13]),oN 15 (nt 14),oW 16 15,oG 16 false 17 (lT 11 3),oG 16 false 18 (cl 83 [17]),oG 16 false 19 (nt 18),oN 20 (.pick (.t 16) (.c (.bool true)) (.t 19))] (cd 20 (sr [oN 21 (.build uz []),oN 4 mN,oS (.store 3 (.t 5) (.t 21)),oN 6 mF] .ret) .skip)) (sr [oW 22 0,oN 23 (cl 194 [22]),oW 7 23] (sr [oN 8 (.qw (cI 0))] (.seq (.block 0 (.loop (.seq (.seq (rt 0 [oW 24 8,oW 25 7,oA 26 0 (ln 25) [1],oA 27 0 (bt .lss 24 26) [0,2],oA 28 0 (oV 27) [3],oH 28 true 29 0 (oV 7) [4],oH 28 true 30 0 (oV 8) [4],oH 28 true 31 0 (ix 11 29 30) [5,6,4],oH 28 true 32 0 (lT 11 31) [7,4],oH 28 true 33 0 (lT 11 3) [4],oH 28 true 34 0 (cl 195 [32,33]) [8,9,4,4],oA 35 0 (.pick (.t 28) (.t 34) (.c (.bool false))) [4,10]]) (cd 35 .skip (.exit 0))) (.block 1 (rg [oW 36 8,oN 37 (bc .add 36 1),oW 8 37]))))) (.seq (.seq (rt 0 [oW 38 8,oW 39 7,oA 40 0 (ln 39) [1],oA 41 0 (bt .lss 38 40) [0,2],oA 42 0 (oV 41) [3],oH 42 true 43 0 (lT 11 3) [4],oH 42 true 44 0 (oV 7) [4],oH 42 true 45 0 (oV 8) [4],oH 42 true 46 0 (ix 11 44 45) [6,7,4],oH 42 true 47 0 (lT 11 46) [8,4],oH 42 true 48 0 (cl 195 [43,47]) [5,9,4,4],oH 42 true 49 0 (nt 48) [10,4],oA 50 0 (.pick (.t 42) (.t 49) (.c (.bool false))) [4,11]]) (cd 50 (.seq (rt 2 [oK 52 2 (oV 7),oK 53 2 (oV 8),oA 54 2 (ix 11 52 53) [0,1],oA 55 2 (lT 11 54) [2],oK 56 2 (lT 11 3),oA 57 2 (cl 196 [55,56]) [3,4],oA 51 2 (oV 57) [5],oA 58 2 (ex 0 51) [6],oA 59 2 (ex 1 51) [6],oA 60 2 (ex 2 51) [6],oN 9 (.alloc Hr),oK 10 1 (.alloc uz),⟨none,none,2,.store 11 (.t 9) (.t 58),[10,7,5,0,1,2,3,4,5,6,7,10,11]⟩,⟨none,none,2,.store 3 (.t 10) (.t 59),[11,8,12,0,1,2,3,4,5,6,7,8,10,11,12]⟩,oA 11 2 (oV 60) [9,13,0,1,2,3,4,5,6,7,8,9,10,11,12,13]]) (.seq (sr [oW 61 11,oN 62 (nt 61)] (cd 62 (sr [oN 63 (.build uz []),oN 4 mN,oS (.store 3 (.t 5) (.t 63)),oN 6 mF] .ret) .skip)) (sr [oW 64 7,oW 65 8,oN 66 (lT 11 9),oN 67 (ix 11 64 65),oS (.store 11 (.t 67) (.t 66))] (.seq (rt 0 [oW 68 7,oN 69 (lT 3 10),oA 4 0 (oV 68) [0,0],⟨none,none,0,.store 3 (.t 5) (.t 69),[1,2,0,1,2]⟩,oA 6 0 mT [3,0,1,2,3]]) .ret)))) .skip)) (.seq (rf 2 [oN 70 (.nM 11 Hr 0 []),oK 71 2 (oV 7),oK 72 2 (oV 8),oK 73 2 (.slice 11 (.t 71) none (some (.t 72))),oK 74 1 (.app 11 184 (.t 70) (.t 73)),oK 12 2 (oV 74)]) (.seq (rf 2 [oK 75 2 (oV 12),oK 76 2 (lT 11 3),oK 77 2 (cl 197 [76]),oN 78 (.nM 11 Hr 1 [(0,(.t 77))]),oK 79 1 (.app 11 184 (.t 75) (.t 78)),oK 12 2 (oV 79)]) (.seq (rf 1 [oK 80 1 (oV 12),oK 81 1 (oV 7),oK 82 1 (oV 8),oK 83 1 (.slice 11 (.t 81) (some (.t 82)) none),oN 84 (.app 11 184 (.t 80) (.t 83)),oK 85 1 (.call 36 [(cI 0)]),oK 4 1 (oV 84),⟨none,none,1,.store 3 (.t 5) (.t 85),[]⟩,oK 6 1 mT]) .ret)))))))))⟩
structure Jv (T:Tb):Prop where
 hT:T 188=some vF
 mO:vT T
 qG:vg T
 U3:FI T
 Zh:KX T
 DW:DV T
 Tt:Ef T
 zV:D6 T
def Et:Fn:=⟨2,77,[.tmp 4,.cell 5 3 true,.tmp 6],(.seq (rf 2 [oN 3 (.box (.t 1)),oK 4 2 mN,oK 5 1 (.alloc uz),oK 6 2 mF]) (sr [oN 7 (.qw (cI 0))] (.seq (.block 0 (.loop (.seq (.seq (rt 0 [oW 12 7,oW 13 0,oA 14 0 (ln 13) [1],oA 15 0 (bt .lss 12 14) [0,2],oA 16 0 (oV 15) [3],oH 16 true 17 0 (oV 0) [4],oH 16 true 18 0 (oV 7) [4],oH 16 true 19 0 (ix 11 17 18) [5,6,4],oH 16 true 20 0 (lT 11 19) [7,4],oH 16 true 21 0 (lT 11 3) [4],oH 16 true 22 0 (cl 111 [20,21]) [8,9,4,4],oA 23 0 (.pick (.t 16) (.t 22) (.c (.bool false))) [4,10]]) (cd 23 .skip (.exit 0))) (.block 1 (rg [oW 24 7,oN 25 (bc .add 24 1),oW 7 25]))))) (.seq (rf 2 [oN 26 (.nM 11 Hr 0 []),oK 27 2 (oV 0),oK 28 2 (oV 7),oK 29 2 (.slice 11 (.t 27) none (some (.t 28))),oK 30 1 (.app 11 184 (.t 26) (.t 29)),oK 8 2 (oV 30)]) (.seq (.seq (rt 0 [oW 31 7,oW 32 0,oA 33 0 (ln 32) [1],oA 34 0 (bt .eql 31 33) [0,2],oA 35 0 (oV 34) [3],oH 35 false 36 0 (lT 11 3) [4],oH 35 false 37 0 (oV 0) [4],oH 35 false 38 0 (oV 7) [4],oH 35 false 39 0 (ix 11 37 38) [6,7,4],oH 35 false 40 0 (lT 11 39) [8,4],oH 35 false 41 0 (cl 111 [36,40]) [5,9,4,4],oA 42 0 (.pick (.t 35) (.c (.bool true)) (.t 41)) [4,10]]) (cd 42 (.seq (rf 2 [oK 43 2 (oV 8),oK 44 2 (lT 11 3),oN 45 (.nM 11 Hr 1 [(0,(.t 44))]),oK 46 1 (.app 11 184 (.t 43) (.t 45)),oK 8 2 (oV 46)]) (.seq (rf 1 [oK 47 1 (oV 8),oK 48 1 (oV 0),oK 49 1 (oV 7),oK 50 1 (.slice 11 (.t 48) (some (.t 49)) none),oN 51 (.app 11 184 (.t 47) (.t 50)),oK 52 1 (.call 39 [(cI 0)]),oK 4 1 (oV 51),⟨none,none,1,.store 3 (.t 5) (.t 52),[]⟩,oK 6 1 mT]) .ret)) .skip)) (.seq (rt 2 [oK 54 2 (oV 0),oK 55 2 (oV 7),oA 56 2 (ix 11 54 55) [0,1],oA 57 2 (lT 11 56) [2],oK 58 2 (lT 11 3),oA 59 2 (cl 140 [57,58]) [3,4],oA 53 2 (oV 59) [5],oA 60 2 (ex 0 53) [6],oA 61 2 (ex 1 53) [6],oA 62 2 (ex 2 53) [6],oN 9 (.alloc Hr),oK 10 1 (.alloc uz),⟨none,none,2,.store 11 (.t 9) (.t 60),[10,7,5,0,1,2,3,4,5,6,7,10,11]⟩,⟨none,none,2,.store 3 (.t 10) (.t 61),[11,8,12,0,1,2,3,4,5,6,7,8,10,11,12]⟩,oA 11 2 (oV 62) [9,13,0,1,2,3,4,5,6,7,8,9,10,11,12,13]]) (.seq (sr [oW 63 11,oN 64 (nt 63)] (cd 64 (sr [oN 65 (.build uz []),oN 4 mN,oS (.store 3 (.t 5) (.t 65)),oN 6 mF] .ret) .skip)) (.seq (rf 2 [oK 66 2 (oV 8),oK 67 2 (lT 11 9),oN 68 (.nM 11 Hr 1 [(0,(.t 67))]),oK 69 1 (.app 11 184 (.t 66) (.t 68)),oK 8 2 (oV 69)]) (.seq (rt 1 [oK 70 1 (oV 8),oK 71 1 (oV 0),oK 72 1 (oV 7),oA 73 1 (bc .add 72 1) [2],oA 74 1 (.slice 11 (.t 71) (some (.t 73)) none) [1,3],oA 75 0 (.app 11 184 (.t 70) (.t 74)) [0,4],oK 76 1 (lT 3 10),oA 4 1 (oV 75) [5,5,0,1,2,3,4,5],⟨none,none,1,.store 3 (.t 5) (.t 76),[6,7,0,1,2,3,4,5,6,7]⟩,oA 6 1 mT [8,0,1,2,3,4,5,6,7,8]]) .ret)))))))))⟩
structure Jw (T:Tb):Prop where
 hT:T 130=some Et
 lC:nX T
 yc:xZ T
 J4:Eh T
def EJ(l:Lk):List Lk->Nat
 | []=>0
 |x::xs=>if lK x l=true then EJ l xs+1 else 0
theorem J5(l:Lk):∀s:List Lk,EJ l s<=s.length
 | []=>aK _
 |
  x::xs=>by
  have:=J5 l xs;unfold EJ;split<;>simp<;>omega
theorem abv{l:Lk}:∀{s:List Lk} {i:Nat},i<=EJ l s->i<s.length->lK (s.getD i default) l=decide (i<EJ l s)
 | [],i,_,h=>absurd h (dA _)
 |
  x::xs,0,h,_=>by
  unfold EJ
  cases hx:lK x l
  ·simp [hx]
  simp [hx]
 |
  x::xs,i+1,h,hi=>by
  unfold EJ at h ⊢;split at h
  ·rename_i hx;have:=abv (s:=xs) (i:=i) (l:=l) (by omega) (by simpa using hi);rw [List.getD_cons_succ,this,aQ hx];simp
  omega
def NC(s:List Lk)(l:Lk):Option (List Lk×R) :=
 let i:=EJ l s
 if i=s.length\/lK l (s.getD i default)=true then some (s.take i++l::s.drop i,kZ 0)
 else if Ou (s.getD i default) l=true then some (s.take i++Qz (s.getD i default) l::s.drop (i+1),Ot (s.getD i default) l)else none
def Tv(s:List Lk)(l:Lk):Bool:=lI s&&pJ l&&(NC s l).isSome
def adV(s:List Lk)(l:Lk):List Lk:=if lI s=true/\pJ l=true then((NC s l).map (·.1)).getD []else []
def adE(s:List Lk)(l:Lk):R:=if lI s=true/\pJ l=true then((NC s l).map (·.2)).getD R0 else R0
theorem afY{s:List Lk}{l:Lk}(h:¬(lI s=true/\pJ l=true)):adV s l=[]/\adE s l=R0/\Tv s l=false:=by
 refine⟨aO h,aO h,?_⟩;unfold Tv
 cases h1:lI s
 ·rfl
 cases h2:pJ l
 ·rfl
 exact absurd ⟨h1,h2⟩ h
theorem J6{s:List Lk}{l:Lk}(h1:lI s=true)(h2:pJ l=true):adV s l=((NC s l).map (·.1)).getD []/\adE s l=((NC s l).map (·.2)).getD R0/\Tv s l=(NC s l).isSome :=
 ⟨aQ ⟨h1,h2⟩,aQ ⟨h1,h2⟩,by unfold Tv;rw [h1,h2];rfl⟩
theorem amh{T:Tb}(h:KX T){l:List Lk}(hz:PS Lk.sz l<=1048576):Run T (.fn 194 [nY l] []) (.fn (slV l.length) (slS 11 (l.map Lk.cells))):=by
 have hl:l.length<=1048576:=by have:=QU Lk.sz l;omega
 have:∃r σ',Run T (.fn 194 [nY l] []) (.fn r σ')/\(r=slV l.length/\σ'=slS 11 (l.map Lk.cells)):=by
  refine run_end nR h.hT ?_;simp only [Hf,Lz,St.enter,ak,aG,aV];refine ew ?_;refine kV (fun _ _=>false) (α:=Nat×List Lk) (fun q=>⟨mM [.any,.any,.any,slV q.2.length,.any,.any,.any,nY l,iv (l.length:Nat),iv (q.1:Nat)],slS 11 (q.2.map Lk.cells),0,0,[],[]⟩) (fun q=>q.1<=l.length/\q.2=l.take q.1) (fun q=>l.length-q.1) rfl (0,[]) ?_ ?_ ?_
  ·exact⟨by omega,by simp⟩
  ·exact apH
  rintro⟨i,xs⟩ ⟨hi,hx0⟩;dsimp only at hi hx0;have hx:xs.length<=1048576:=by rw [hx0];simp;omega
  by_cases hc:(i:Int)<(l.length:Nat)
  ·have hil:i<l.length:=by omega
   have es:l.take (i+1)=l.take i++[l.getD i default]:=by
    rw [jf,au hil,aj,au hil];rfl
   rw [<-hx0]at es;have hys:=SI (f:=Lk.sz) hz (getD_mem hil);obtain⟨y,hy⟩:∃y,l.getD i default=y:=⟨_,rfl⟩;rw [hy]at es hys;have cc:=P7 h.zV hys
   (rcases xs with _|⟨x,xs⟩<;>simp only [aG,ak,wY,vO,iM,bV,aq7,ak0]at hx ⊢)
   ·refine EN @hc @mg @hy ?_;refine jM cc ?_;refine ew ?_;exact⟨by omega,(i+1,([])++[y]),by dsimp only;omega,⟨by dsimp only;omega,es.symm⟩,by (simp only [List.map_append,List.map_cons,List.map_nil];refine MX (k:=2) (by simp only [ag0,acR,agZ,and_true,true_and];(repeat' (first|exact Hq _|exact alc _|refine⟨?_,?_⟩))) rfl ?_;(try (refine ew ?_;try with_reducible exact True.intro));(repeat' (first|exact True.intro|omega|exact Fh (by simp) (by simp) (by simp)|refine⟨?_,?_⟩|exact qR rfl (by simp))))⟩
   refine EN @hc @mg @hy ?_;refine jM cc ?_;refine ew ?_;exact⟨by omega,(i+1,(x::xs)++[y]),by dsimp only;omega,⟨by dsimp only;omega,es.symm⟩,by (simp only [List.map_append,List.map_cons,List.map_nil];refine MX (k:=3) (by simp only [ag0,acR,agZ,and_true,true_and];(repeat' (first|exact Hq _|exact alc _|refine⟨?_,?_⟩))) rfl ?_;(try (refine ew ?_;try with_reducible exact True.intro));(repeat' (first|exact True.intro|omega|exact Fh (by simp) (by simp) (by simp)|refine⟨?_,?_⟩|exact qR rfl (by simp))))⟩
  have hie:i=l.length:=by omega
  rw [hie,bK]at hx0;have hx1:l=xs:=hx0.symm;subst hx1;clear hx0 hie;rcases l with _|⟨x,xs⟩<;>simp only [aG,ak,wY,vO,iM,bV,aq7,ak0]at hc ⊢
  ·(refine y8 @hc ?_;try with_reducible exact aC)
  (refine y8 @hc ?_;try with_reducible exact aC)
 obtain⟨r,σ',h1,rfl,rfl⟩:=this;exact h1
theorem Qa:mP (.oJ [nY [],kW R0,.bool false]) (.oJ [.jZ,.agg [.bool false,.jZ,.jZ],.bool false]):=by
 simp only [mP,wS];exact⟨_,rfl,_,_,rfl,.inl ⟨rfl,.inl rfl⟩,_,_,rfl,uo,_,_,rfl,rfl,rfl⟩
theorem ap0{n m:Nat}{s:Store}{rows:List (List V)}(h:nN rows)(hs:s.length=m):yV s [some ⟨n,rows⟩]=s++[some ⟨n,rows⟩]:=by
 unfold yV;simp only [bV,iM,dh,qK]
 congr 4
 have:∀r∈rows,r.map (lD (mD s.length))=r:=fun r hr=>by
  conv=>rhs;rw [<-List.map_id r]
  apply fZ
  intro v hv;exact XH (h r hr v hv)
 conv=>rhs;rw [<-List.map_id rows]
 apply fZ
 intro r hr;exact this r hr
theorem abw{σ:Store}{rows:List (List V)}{L:List Lk}{n:Nat}{r:R}{b:Bool}{t:V}(hrow:rows=L.map Lk.cells)(hn:n=L.length)(ht:t=.oJ [nY L,kW r,.bool b]) :
  oC (Option.map V.oJ (match Qq σ 0 n (some ⟨11,rows⟩)with
   |
    some d=>(match (match resolve σ 11 (.agg r.cells)with
    |some d=>some [d,V.bool b]
    |none=>none)with
    |some ds=>some (d::ds)
    |none=>none)
   |none=>none)) (mP t):=by
 subst hrow hn ht;have h1:Qq σ 0 L.length (some ⟨11,L.map Lk.cells⟩)=some (.sl 11 (L.map Lk.cells)):=by
  rw [Xx (Hq L) (by simp),bZ,bH (by simp)]
 have h2:resolve σ 11 (.agg r.cells)=some (.agg r.cells):=by
  show resolve σ (10+1) (.agg r.cells)=_;rw [resolve,Fa (n:=9) (fun v hv=>afc [r] _ (by simp) v hv)];rfl
 rw [h1,h2];exact kM _
theorem afZ{T:Tb}(h:Jv T){s:List Lk}{l:Lk}(hw:Iz Lk.wf s:=by exact tX)(hl:l.wf:=by exact Z8)(hz:PS Lk.sz s<=1048576:=by exact tX)(hz2:l.sz<=1048576:=by exact tX):PF T 188 [nY s,RN l] (.oJ [nY (adV s l),kW (adE s l),.bool (Tv s l)]):=by
 have hll:s.length<=1048576:=by have:=QU Lk.sz s;omega
 have ci:=abe h.U3 hw;have cl:=zQ h.qG hl
 cases h1:lI s
 ·rw [h1]at ci;obtain⟨e1,e2,e3⟩:=afY (s:=s) (l:=l) (by rw [h1];simp);rw [e1,e2,e3];refine kS nR h.hT ?_;simp only [vF,Lz];refine ev ?_;refine jM ci ?_;refine ev ?_;exact Qa
 rw [h1]at ci
 cases h2:pJ l
 ·rw [h2]at cl;obtain⟨e1,e2,e3⟩:=afY (s:=s) (l:=l) (by rw [h2];simp);rw [e1,e2,e3];refine kS nR h.hT ?_;simp only [vF,Lz];refine ev ?_;refine jM ci ?_;refine ev ?_;refine jM cl ?_;refine ev ?_;exact Qa
 rw [h2]at cl;have ra:=amh h.Zh hz;obtain⟨e1,e2,e3⟩:=J6 h1 h2;rw [e1,e2,e3];clear e1 e2 e3;have hst:=Hq s;rcases s with _|⟨s0,s⟩
 ·have ra:Run T (.fn 194 [nY []] []) (.fn .jZ []):=ra;have c6:=P7 h.zV hz2;have c0:=qM h.mO (n:=0) (by omega);refine kS (fun x d=>x == 194) h.hT ?_;simp only [vF,Lz];refine ew ?_;refine jM ci ?_;refine ew ?_;refine jM cl ?_;refine ew ?_;refine I7 ra (by (refine ew ?_;try with_reducible exact aC)) (by (refine ew ?_;try with_reducible exact aC)) ?_;rw [show ∀s:Store,yV s []=s from fun s=>by simp [yV]];rw [show ∀g,lD g .jZ=.jZ from fun g=>rfl];refine ew ?_;refine aiY (fun x d=>x == 194) rfl ?_;have h00:((0:Int)<((0:Nat):Int))=False:=by simp
  refine y8 @h00 ?_;refine jM c6 ?_;refine ew ?_;refine⟨by omega,?_⟩;refine jM c0 ?_;refine ew ?_;have adN:NC [] l=some ([l],kZ 0):=by
   unfold NC EJ;exact aQ (.inl rfl)
  rw [adN];exact kM _
 simp only [ak,vO,bV,ak0]at ra;generalize hS:s0::s=S at *;have hSl:S.length=s.length+1:=by rw [<-hS];rfl
 have hSm:s0.cells::s.map Lk.cells=S.map Lk.cells:=by rw [<-hS];rfl
 rw [hSm,<-hSl]at ra;refine kS (fun x d=>x == 194) h.hT ?_;simp only [vF,Lz];refine ew ?_;refine jM ci ?_;refine ew ?_;refine jM cl ?_;refine ew ?_;refine I7 ra (by (refine ew ?_;try with_reducible exact aC)) (by (refine ew ?_;try with_reducible exact aC)) ?_;rw [ap0 hst (m:=2) rfl];rw [show lD (mD ([some ⟨11,[l.cells]⟩,some ⟨3,[[.bool false,.jZ,.jZ]]⟩]:Store).length) (.lG 0 0 S.length)=.lG 2 0 S.length from rfl];refine ew ?_;have hpl:=J5 l S;refine kV (fun x d=>x == 194) (α:=Nat) (fun i=>⟨mM [.any,.any,.any,.ptr 0 0 0,.any,.ptr 1 0 0,.any,.lG 2 0 S.length,iv (i:Nat)],[some ⟨11,[l.cells]⟩,some ⟨3,[[.bool false,.jZ,.jZ]]⟩,some ⟨11,S.map Lk.cells⟩],0,0,[],[]⟩) (fun i=>i<=EJ l S) (fun i=>EJ l S-i) rfl 0 ?_ ?_ ?_
 ·omega
 ·(refine kN ?_;exact uT)
 intro i hi;have hT:∀k,List.take k (S.map Lk.cells)=(S.take k).map Lk.cells:=fun k=>List.map_take.symm;have hD:∀k,List.drop k (S.map Lk.cells)=(S.drop k).map Lk.cells:=fun k=>kL.symm;have hap:(∀A,A.map Lk.cells++[l.cells]=(A++[l]).map Lk.cells)/\∀A B:List Lk,A.map Lk.cells++B.map Lk.cells=(A++B).map Lk.cells:=⟨fun A=>by simp,fun A B=>by simp⟩;by_cases hc:(i:Int)<(S.length:Nat)
 ·have hil:i<S.length:=by omega
  have hpa:=abv hi hil;have hrow:=mg? (f:=Lk.cells) hil;generalize hx:S.getD i default=x at hpa hrow;have cl1:=UN h.DW (k:=x) (l:=l);rw [hpa]at cl1;refine Af @hc @hrow ?_;refine jM cl1 ?_;by_cases hip:i<EJ l S
  ·rw [aT hip];refine ew ?_;exact⟨i+1,by omega,by omega,by (refine kN ?_;exact uT)⟩
  rw [bI hip];have hie:i=EJ l S:=by omega
  have cl2:=UN h.DW (k:=l) (l:=x);refine Af @hc @hrow ?_;refine jM cl2 ?_;have c6:=P7 h.zV hz2;have c0:=qM h.mO (n:=0) (by omega);have adN:lK l x=true->NC S l=some (S.take i++l::S.drop i,kZ 0):=fun h=>by
   unfold NC;dsimp only;rw [<-hie,hx];exact aQ (.inr h)
  cases hlx:lK l x
  ·refine Af @hc @hrow ?_;have hxo:pJ x=true:=hx▸yD h1 hil;have hxw:x.wf:=by
    have:=hw.2 x (by rw [<-hx,aj,au hil];exact jO hil);exact this
   have hab:x.a=l.a/\x.b=l.b:=by
    rw [bI hip]at hpa;unfold lK at hpa hlx;simp at hpa hlx;omega
   have hP:mgP x l=true:=by unfold mgP;rw [hxo,h2,aT hab.1,aT hab.2];rfl
   have ami:NC S l=if Ou x l=true then some (S.take i++Qz x l::S.drop (i+1),Ot x l)else none:=by
    unfold NC;dsimp only;rw [<-hie,hx,aO (by rw [hlx];simp;omega)]
   have cm:=Zf h.Tt hxw hl;have e1:Yj x l=Ou x l:=by unfold Yj;rw [hP,cZ]
   have e2:afR x l=if Ou x l=true then Qz x l else Lk0:=by unfold afR;rw [e1]
   have e3:afS x l=if Ou x l=true then Ot x l else R0:=by unfold afS;rw [e1]
   rw [e1,e2,e3]at cm;rw [ami]
   cases hg:Ou x l
   ·rw [hg,aO (by simp),aO (by simp)]at cm;refine jM cm ?_;refine ew ?_;refine⟨by unfold rO;decide +kernel,?_⟩;exact Qa
   rw [hg,aQ rfl,aQ rfl]at cm;generalize Qz x l=mm at cm ⊢;generalize Ot x l=me at cm ⊢;refine jM cm ?_;refine ew ?_;have hset:(List.map Lk.cells S).set i mm.cells=List.map Lk.cells (S.take i++mm::S.drop (i+1)):=by
    rw [List.set_eq_take_append_cons_drop,aQ (by simpa using hil),bT,bV,List.map_take,kL]
   refine⟨by unfold rO;decide +kernel,?_⟩;have hLl:(S.take i++mm::S.drop (i+1)).length=S.length:=by simp;omega
   generalize S.take i++mm::S.drop (i+1)=L' at hset hLl ⊢;have htk:List.take S.length L'=L':=bH (by omega);refine EN @hrow @hset @htk ?_;refine⟨by unfold rO;decide +kernel,?_⟩;refine y8 @htk ?_;exact abw rfl hLl.symm rfl
  rw [adN hlx];have hd:(List.map Lk.cells (List.drop i S)=[])=False:=iy (by intro e;have:=congrArg List.length e;rw [aU,iQ]at this;have h9:([]:List (List V)).length=0:=rfl;omega);have hl1:(List.drop i S).length<=1048576:=by rw [iQ];omega
  have hl2:(List.take i S).length<=1048576:=by rw [fD];omega
  rcases gU i with h0|h0
  ·have hn:(List.map Lk.cells (List.take i S)=[])=True:=gZ (by rw [h0];rfl);refine Ia @hc @hrow @hT @hD @hn @hd ?_;refine jM c6 ?_;refine Du @hT @hD @hn @hd ?_;refine⟨by omega,?_⟩;refine⟨by omega,?_⟩;refine jM c0 ?_;refine Du @hT @hD @hn @hd ?_;exact abw (L:=S.take i++l::S.drop i) (by rw [h0];simp) (by rw [h0];simp;omega) rfl
  have hn:(List.map Lk.cells (List.take i S)=[])=False:=iy (by intro e;have:=congrArg List.length e;rw [aU,fD]at this;have h9:([]:List (List V)).length=0:=rfl;omega);refine Ia @hc @hrow @hT @hD @hn @hd ?_;refine⟨by omega,?_⟩;refine jM c6 ?_;refine Jg @hT @hD @hn @hd @hap ?_;refine⟨by omega,?_⟩;refine⟨by simp only [aS,ak,aG];omega,?_⟩;refine jM c0 ?_;refine Jg @hT @hD @hn @hd @hap ?_;exact abw (L:=S.take i++l::S.drop i) (by simp) (by simp;omega) rfl
 have hie:i=S.length:=by omega
 have c6:=P7 h.zV hz2;have c0:=qM h.mO (n:=0) (by omega);have adN:NC S l=some (S++[l],kZ 0):=by
  unfold NC;dsimp only;have hpe:EJ l S=S.length:=by omega
  rw [hpe,aQ (.inl rfl),bK,jB]
 rw [adN];have hS1:(List.map Lk.cells S=[])=False:=iy (by intro e;have:=congrArg List.length e;rw [aU]at this;have h9:([]:List (List V)).length=0:=rfl;omega);refine Du @hc @hT @hD @hS1 ?_;refine⟨by omega,?_⟩;refine jM c6 ?_;have hd:(List.map Lk.cells (List.drop i S)=[])=True:=gZ (by rw [fC (by omega)];rfl);refine Jg @hT @hD @hS1 @hap @hd ?_;refine⟨by omega,?_⟩;refine jM c0 ?_;refine Jg @hT @hD @hS1 @hap @hd ?_;exact abw (L:=S++[l]) (by simp) (by simp) rfl
theorem WJ{σ:Store}{p n:Nat}{L:List Lk}(h:jX σ p=some ⟨11,L.map Lk.cells⟩)(hn:n=L.length):resolve σ FD (.lG p 0 n)=some (nY L):=by
 have:=SG (n:=10) h (Hq L);rw [aU]at this;rw [hn];exact this
theorem aaf(env:Nat->V)(n:Nat)(x:Src)(lo hi:Option Src):I.reads env (.slice n x lo hi)=rH (x.ev env):=by simp [I.reads,I.xJ]
theorem aag{σ:Store}{v u e t:V}{b:Bool}{os:List Nat}(hr:resolve σ FD v=some u)(h:mJ σ e t os)(hn:os.Nodup):afl σ (.oJ [v,e,.bool b]) [(false,u),(true,t),(false,.bool b)]:=by
 refine⟨[v,e,.bool b],os,kM _,?_,hn⟩;simp only [VQ,if_true,bG,if_false];exact⟨v,[e,.bool b],[],os,rfl,rfl,⟨hr,rfl⟩,e,[.bool b],os,[],rfl,by simp,h,.bool b,[],[],[],rfl,rfl,⟨rfl,rfl⟩,rfl,rfl⟩
theorem abx{σ:Store}:afl σ (.oJ [.jZ,.agg [.bool false,.jZ,.jZ],.bool false]) [(false,nY []),(true,kW R0),(false,.bool false)]:=by
 refine⟨[.sl 11 [],kW R0,.bool false],[],?_,?_,.nil⟩
 ·exact Qa
 simp only [VQ,if_true,bG,if_false];refine⟨_,_,[],[],rfl,rfl,⟨rfl,rfl⟩,_,_,[],[],rfl,rfl,?_,_,[],[],[],rfl,rfl,⟨rfl,rfl⟩,rfl,rfl⟩;exact qV (rM (qJ (o1:=[]) nP (qJ (o1:=[]) nP qB)))
theorem aby{σ:Store}{p n:Nat}{A B:List Lk}{m:Lk}{y:R}{c3 c4 c6 c7 c9 c10 e1 e2:V}{os:List Nat}(C:Cs σ [iv m.a,iv m.b,.bool m.w.neg,c3,c4,.bool m.dx.neg,c6,c7,.bool m.dy.neg,c9,c10,.bool y.neg,e1,e2] (m.cells++y.cells) os)
  (h:jX σ p=some ⟨11,A.map Lk.cells++([iv m.a,iv m.b,.bool m.w.neg,c3,c4,.bool m.dx.neg,c6,c7,.bool m.dy.neg,c9,c10]::B.map Lk.cells)⟩) (hn:n=A.length+(B.length+1)) :
  afl σ (.oJ [.lG p 0 n,.agg [.bool y.neg,e1,e2],.bool true]) [(false,nY (A++m::B)),(true,kW y),(false,.bool true)]:=by
 obtain⟨a1,a2,o1,o2,e,rfl,k1,k2⟩:=pF C.ow;obtain⟨rfl,rfl⟩:=fJ (show [iv m.a,iv m.b,.bool m.w.neg,c3,c4,.bool m.dx.neg,c6,c7,.bool m.dy.neg,c9,c10]++[.bool y.neg,e1,e2]=a1++a2 from e) k1.len.symm;have nd:=(bF.1 C.nd);refine aag ?_ (qV k2) nd.2.1;have hm:resolve σ 12 (.agg [iv m.a,iv m.b,.bool m.w.neg,c3,c4,.bool m.dx.neg,c6,c7,.bool m.dy.neg,c9,c10])=some (.agg m.cells):=OW 12 (qV k1) (atK 9 m);rw [resolve]at hm;have hr:[iv m.a,iv m.b,.bool m.w.neg,c3,c4,.bool m.dx.neg,c6,c7,.bool m.dy.neg,c9,c10].mapM (resolve σ 11)=some m.cells:=by
  obtain⟨w,hw,e⟩:=aJ.1 hm;rw [hw];exact congrArg some (V.agg.inj e)
 show resolve σ (11+1) _=_;rw [resolve];have hl:(A.map Lk.cells++([iv m.a,iv m.b,.bool m.w.neg,c3,c4,.bool m.dx.neg,c6,c7,.bool m.dy.neg,c9,c10]::B.map Lk.cells)).length=n:=by simp;omega
 simp only [h,aV,hl,aK,if_true,bZ];rw [bH (by omega),List.mapM_append,bU,hr,xK (Hq A),xK (Hq B)];simp
def adT(s:List Lk)(l:Lk):List (Bool×V):=[(false,nY (((NC s l).map (·.1)).getD [])),(true,kW (((NC s l).map (·.2)).getD R0)),(false,.bool (NC s l).isSome)]
theorem af0{T:Tb}(h:Jw T){S:List Lk}{l:Lk}(hw:Iz Lk.wf S)(h1:lI S=true)(h2:pJ l=true)(hz:S.length<=1048576):PX T 130 [nY S,RN l] (adT S l):=by
 unfold adT;have hpl:=J5 l S;refine SE (fun x d=>(x == 39&&d == 52)||(x == 140&&d == 59)) h.hT ?_;simp only [Et,Lz,St.enter,ak,aG,aV];refine ew ?_;refine kV (fun x d=>(x == 39&&d == 52)||(x == 140&&d == 59)) (α:=Nat) (fun i=>⟨mM [nY S,.any,.any,.ptr 0 0 0,.any,.ptr 1 0 0,.any,iv (i:Nat)],[some ⟨11,[l.cells]⟩,some ⟨3,[[.bool false,.jZ,.jZ]]⟩],0,0,[],[]⟩) (fun i=>i<=EJ l S) (fun i=>EJ l S-i) rfl 0 ?_ ?_ ?_
 ·omega
 ·(refine kN ?_;exact uT)
 intro i hi;have hT:∀k,List.take k (S.map Lk.cells)=(S.take k).map Lk.cells:=fun k=>List.map_take.symm;have hD:∀k,List.drop k (S.map Lk.cells)=(S.drop k).map Lk.cells:=fun k=>kL.symm;have hap:(∀A,A.map Lk.cells++[l.cells]=(A++[l]).map Lk.cells)/\∀A B:List Lk,A.map Lk.cells++B.map Lk.cells=(A++B).map Lk.cells:=⟨fun A=>by simp,fun A B=>by simp⟩;have hl2:(List.take i S).length<=1048576:=by rw [fD];omega
 have hl1:(List.drop i S).length<=1048576:=by rw [iQ];omega
 have hnT:i=0->(List.map Lk.cells (List.take i S)=[])=True:=fun h0=>gZ (by rw [h0];rfl);have hnF:0<i->(List.map Lk.cells (List.take i S)=[])=False:=fun h0=>iy (by intro e;have:=congrArg List.length e;rw [aU,fD]at this;have h9:([]:List (List V)).length=0:=rfl;omega);by_cases hc:(i:Int)<(S.length:Nat)
 ·have hil:i<S.length:=by omega
  have hne:¬(i:Int)=(S.length:Nat):=by omega
  have hpa:=abv hi hil;have hrow:=mg (f:=Lk.cells) hil;have hdF:(List.map Lk.cells (List.drop i S)=[])=False:=iy (by intro e;have:=congrArg List.length e;rw [aU,iQ]at this;have h9:([]:List (List V)).length=0:=rfl;omega);generalize hx:S.getD i default=x at hpa hrow;have cl1:=KP h.yc (k:=x) (l:=l);rw [hpa]at cl1;refine Af @hc @hrow ?_;refine jM cl1 ?_;by_cases hip:i<EJ l S
  ·rw [aT hip];refine ew ?_;exact⟨i+1,by omega,by omega,by (refine kN ?_;exact uT)⟩
  rw [bI hip];have hie:i=EJ l S:=by omega
  have cl2:=KP h.yc (k:=l) (l:=x);have adN:lK l x=true->NC S l=some (S.take i++l::S.drop i,kZ 0):=fun h=>by
   unfold NC;dsimp only;rw [<-hie,hx];exact aQ (.inr h)
  rcases gU i with h0|h0
  ·have hn:=hnT h0;refine Jg @hc @hrow @hT @hn @hne ?_;refine jM cl2 ?_
   cases hlx:lK l x
   ·refine Jg @hc @hrow @hT @hn @hne ?_;have hxo:pJ x=true:=hx▸yD h1 hil;have hab:x.a=l.a/\x.b=l.b:=by
     rw [bI hip]at hpa;unfold lK at hpa hlx;simp at hpa hlx;omega
    have ami:NC S l=if Ou x l=true then some (S.take i++Qz x l::S.drop (i+1),Ot x l)else none:=by
     unfold NC;dsimp only;rw [<-hie,hx,aO (by rw [hlx];simp;omega)]
    rw [ami];have po:=QA h.J4 (Nu hxo) (Nu h2);refine qj po (by (refine ew ?_;try with_reducible exact aC)) (by (refine ew ?_;try with_reducible exact aC)) ?_
    cases hg:Ou x l
    ·intro r q os G;obtain⟨c3,c4,c6,c7,c9,c10,e1,e2,rfl,hO⟩:=G.ag3;rw [aO (by decide),aO (by decide)]at hO ⊢;have L3:=hO.leaf (by rfl);simp only [dF,dS,dI,aH]at L3;have gl:6<=q.length:=by have:=G.len;simp at this;omega
     have O0:=(G.old 1 (by simp)).trans rfl;refine Af @L3 @O0 ?_;refine⟨by unfold rO;decide +kernel,?_⟩;exact .inl abx
    intro r q os G;obtain⟨c3,c4,c6,c7,c9,c10,e1,e2,rfl,hO⟩:=G.ag3;rw [aQ rfl,aQ rfl]at hO ⊢;have L3:=hO.leaf (by rfl);simp only [dF,dS,dI,aH]at L3;have gl:6<=q.length:=by have:=G.len;simp at this;omega
    have O0:=(G.old 1 (by simp)).trans rfl;refine Af @L3 @O0 ?_;refine⟨by unfold rO;decide +kernel,?_⟩;have hl3:(List.drop (i+1) S).length<=1048576:=by rw [iQ];omega
    have hln:(List.drop (i+1) S).length=S.length-(i+1):=by rw [iQ]
    have hb1:((i:Int)+1<=(S.length:Nat))=True:=gZ (by omega);have hb0:(0<=(i:Int)+1)=True:=gZ (by omega);have ht1:((i:Int)+1).toNat=i+1:=by omega
    have TD:=ah @aaf (ah (ah hT hD) (ah hb1 (ah hb0 ht1)));have hti:(List.take i S).length=i:=by rw [fD];omega
    by_cases hde:List.map Lk.cells (List.drop (i+1) S)=[]
    ·have hdz:(List.drop (i+1) S).length=0:=by have:=congrArg List.length hde;rw [aU]at this;exact this
     refine EN @hde @O0 @TD ?_;refine⟨by (try simp only [aS,aU,ak,aG]);omega,?_⟩;refine EN @hde @O0 @TD ?_;rw [aQ (by rw [L3.2.2.2.2.2.2.2.2.2.2.2.2.1,L3.2.2.2.2.2.2.2.2.2.2.2.2.2];rfl)];refine⟨?_,?_⟩
     ·have hn0:6<=List.length q:=gl;generalize List.length q=m at hn0 ⊢
      revert m
      refine yA _ _ 6 (fun n hn=>?_) (fun n hn=>?_) ?_
      ·simp only [sh];split<;>omega
      ·simp [XG,sh];try omega
      unfold rO;decide +kernel
     have hlt:=hO.lt;have hfr:=G.fresh;refine .inl (aby (A:=S.take i) (B:=S.drop (i+1)) (Cs.frame (⟨hO,G.nd⟩:Cs q _ _ os) fun o ho=>?_) ?_ ?_)
     ·have k1:=hlt o ho;have k2:=hfr o ho;simp only [ak,aG]at k2;simp (disch:=first|omega|(simp;done)|(simp;omega)) only [kK,kQ]
     ·simp (disch:=first|omega|(simp;done)|(simp;omega)) only [kK,kT,kQ];rw [show List.map Lk.cells (List.take i S)=[]from iV hn];first|rfl|(rw [hde];rfl)|simp
     (try simp only [aS,aU,ak,aG]);omega
    refine EN @hde @O0 @TD ?_;refine⟨by (try simp only [aS,aU,ak,aG]);omega,?_⟩;refine EN @hde @O0 @TD ?_;refine⟨by (try simp only [aS,aU,ak,aG]);omega,?_⟩;rw [aQ (by rw [L3.2.2.2.2.2.2.2.2.2.2.2.2.1,L3.2.2.2.2.2.2.2.2.2.2.2.2.2];rfl)];refine⟨?_,?_⟩
    ·have hn0:6<=List.length q:=gl;generalize List.length q=m at hn0 ⊢
     revert m
     refine yA _ _ 6 (fun n hn=>?_) (fun n hn=>?_) ?_
     ·simp only [sh];split<;>omega
     ·simp [XG,sh];try omega
     unfold rO;decide +kernel
    have hlt:=hO.lt;have hfr:=G.fresh;refine .inl (aby (A:=S.take i) (B:=S.drop (i+1)) (Cs.frame (⟨hO,G.nd⟩:Cs q _ _ os) fun o ho=>?_) ?_ ?_)
    ·have k1:=hlt o ho;have k2:=hfr o ho;simp only [ak,aG]at k2;simp (disch:=first|omega|(simp;done)|(simp;omega)) only [kK,kQ]
    ·simp (disch:=first|omega|(simp;done)|(simp;omega)) only [kK,kT,kQ];rw [show List.map Lk.cells (List.take i S)=[]from iV hn];first|rfl|(rw [hde];rfl)|simp
    (try simp only [aS,aU,ak,aG]);omega
   rw [adN hlx];refine Ia @hrow @hT @hD @hn @hdF @hap ?_;refine⟨by omega,by omega,?_⟩;refine nK (qN h.lC (n:=0)) (by (refine ew ?_;try with_reducible exact aC)) ?_;intro r q os G;have gl:7<=q.length:=by have:=G.len;simp at this;omega
   have hop:jX q 6=some ⟨11,l.cells::List.map Lk.cells (List.drop i S)⟩:=(G.old 6 (by simp)).trans rfl;have ho1:=(G.old 1 (by simp)).trans rfl;have n1:1∉os:=fun hm=>by have:=G.fresh 1 hm;simp at this
   obtain⟨_,rfl,hQ⟩:=G.ow.lJ;obtain⟨y1,y2,rfl⟩:=hQ.rat
   have E:Ep q [.bool (kZ 0).neg,y1,y2] [.bool (kZ 0).neg,ints (kZ 0).mag,ints (kZ 0).den] os []:=⟨⟨hQ,G.nd⟩,by simp⟩;have LF:=ah (E.leaf 1 rfl rfl) (E.leaf 2 rfl rfl);have C:=E.c.set (o:=1) (x:=some ⟨3,[[.bool (kZ 0).neg,y1,y2]]⟩) n1;refine Af @LF @ho1 ?_;refine .inl (aag (WJ (L:=S.take i++l::S.drop i) ?_ ?_) (qV C.ow) C.nd)
   ·rw [kK (by decide)];refine hop.trans ?_;rw [h0];simp
   rw [h0];simp;omega
  have hn:=hnF h0;refine Jg @hc @hrow @hT @hn @hne ?_;refine Ia @hrow @hT @hD @hn @hdF @hap ?_;refine⟨by omega,?_⟩;refine jM cl2 ?_
  cases hlx:lK l x
  ·refine y8 @hrow ?_;have hxo:pJ x=true:=hx▸yD h1 hil;have hab:x.a=l.a/\x.b=l.b:=by
    rw [bI hip]at hpa;unfold lK at hpa hlx;simp at hpa hlx;omega
   have ami:NC S l=if Ou x l=true then some (S.take i++Qz x l::S.drop (i+1),Ot x l)else none:=by
    unfold NC;dsimp only;rw [<-hie,hx,aO (by rw [hlx];simp;omega)]
   rw [ami];have po:=QA h.J4 (Nu hxo) (Nu h2);refine qj po (by (refine ew ?_;try with_reducible exact aC)) (by (refine ew ?_;try with_reducible exact aC)) ?_
   cases hg:Ou x l
   ·intro r q os G;obtain⟨c3,c4,c6,c7,c9,c10,e1,e2,rfl,hO⟩:=G.ag3;rw [aO (by decide),aO (by decide)]at hO ⊢;have L3:=hO.leaf (by rfl);simp only [dF,dS,dI,aH]at L3;have gl:6<=q.length:=by have:=G.len;simp at this;omega
    have O0:=(G.old 1 (by simp)).trans rfl;have O3:jX q 3=some ⟨11,List.map Lk.cells (List.take i S)⟩:=(G.old 3 (by simp)).trans rfl;refine Af @L3 @O0 ?_;refine⟨by unfold rO;decide +kernel,?_⟩;exact .inl abx
   intro r q os G;obtain⟨c3,c4,c6,c7,c9,c10,e1,e2,rfl,hO⟩:=G.ag3;rw [aQ rfl,aQ rfl]at hO ⊢;have L3:=hO.leaf (by rfl);simp only [dF,dS,dI,aH]at L3;have gl:6<=q.length:=by have:=G.len;simp at this;omega
   have O0:=(G.old 1 (by simp)).trans rfl;have O3:jX q 3=some ⟨11,List.map Lk.cells (List.take i S)⟩:=(G.old 3 (by simp)).trans rfl;refine Af @L3 @O0 ?_;refine⟨by unfold rO;decide +kernel,?_⟩;have hl3:(List.drop (i+1) S).length<=1048576:=by rw [iQ];omega
   have hln:(List.drop (i+1) S).length=S.length-(i+1):=by rw [iQ]
   have hb1:((i:Int)+1<=(S.length:Nat))=True:=gZ (by omega);have hb0:(0<=(i:Int)+1)=True:=gZ (by omega);have ht1:((i:Int)+1).toNat=i+1:=by omega
   have TD:=ah @aaf (ah (ah hT hD) (ah hb1 (ah hb0 ht1)));have hti:(List.take i S).length=i:=by rw [fD];omega
   by_cases hde:List.map Lk.cells (List.drop (i+1) S)=[]
   ·have hdz:(List.drop (i+1) S).length=0:=by have:=congrArg List.length hde;rw [aU]at this;exact this
    refine EN @hde ((ah O0 O3)) @TD ?_;refine⟨by (try simp only [aS,aU,ak,aG]);omega,?_⟩;refine EN @hde ((ah O0 O3)) @TD ?_;rw [aQ (by rw [L3.2.2.2.2.2.2.2.2.2.2.2.2.1,L3.2.2.2.2.2.2.2.2.2.2.2.2.2];rfl)];refine⟨?_,?_⟩
    ·have hn0:6<=List.length q:=gl;generalize List.length q=m at hn0 ⊢
     revert m
     refine yA _ _ 6 (fun n hn=>?_) (fun n hn=>?_) ?_
     ·simp only [sh];split<;>omega
     ·simp [XG,sh];try omega
     unfold rO;decide +kernel
    have hlt:=hO.lt;have hfr:=G.fresh;refine .inl (aby (A:=S.take i) (B:=S.drop (i+1)) (Cs.frame (⟨hO,G.nd⟩:Cs q _ _ os) fun o ho=>?_) ?_ ?_)
    ·have k1:=hlt o ho;have k2:=hfr o ho;simp only [ak,aG]at k2;simp (disch:=first|omega|(simp;done)|(simp;omega)) only [kK,kQ]
    ·simp (disch:=first|omega|(simp;done)|(simp;omega)) only [kK,kT,kQ]
     first|rfl|(rw [hde];rfl)|(simp;done)|(simp;omega)
    (try simp only [aS,aU,ak,aG]);omega
   refine EN @hde ((ah O0 O3)) @TD ?_;refine⟨by (try simp only [aS,aU,ak,aG]);omega,?_⟩;refine EN @hde ((ah O0 O3)) @TD ?_;refine⟨by (try simp only [aS,aU,ak,aG]);omega,?_⟩;rw [aQ (by rw [L3.2.2.2.2.2.2.2.2.2.2.2.2.1,L3.2.2.2.2.2.2.2.2.2.2.2.2.2];rfl)];refine⟨?_,?_⟩
   ·have hn0:6<=List.length q:=gl;generalize List.length q=m at hn0 ⊢
    revert m
    refine yA _ _ 6 (fun n hn=>?_) (fun n hn=>?_) ?_
    ·simp only [sh];split<;>omega
    ·simp [XG,sh];try omega
    unfold rO;decide +kernel
   have hlt:=hO.lt;have hfr:=G.fresh;refine .inl (aby (A:=S.take i) (B:=S.drop (i+1)) (Cs.frame (⟨hO,G.nd⟩:Cs q _ _ os) fun o ho=>?_) ?_ ?_)
   ·have k1:=hlt o ho;have k2:=hfr o ho;simp only [ak,aG]at k2;simp (disch:=first|omega|(simp;done)|(simp;omega)) only [kK,kQ]
   ·simp (disch:=first|omega|(simp;done)|(simp;omega)) only [kK,kT,kQ]
    first|rfl|(rw [hde];rfl)|(simp;done)|(simp;omega)
   (try simp only [aS,aU,ak,aG]);omega
  rw [adN hlx];refine Ia @hrow @hT @hD @hn @hdF @hap ?_;refine⟨by omega,by simp only [aS,ak,aG];omega,?_⟩;refine nK (qN h.lC (n:=0)) (by (refine ew ?_;try with_reducible exact aC)) ?_;intro r q os G;have gl:7<=q.length:=by have:=G.len;simp at this;omega
  have hop:jX q 6=some ⟨11,List.map Lk.cells (List.take i S++[l]++List.drop i S)⟩:=(G.old 6 (by simp)).trans rfl;have ho1:=(G.old 1 (by simp)).trans rfl;have n1:1∉os:=fun hm=>by have:=G.fresh 1 hm;simp at this
  obtain⟨_,rfl,hQ⟩:=G.ow.lJ;obtain⟨y1,y2,rfl⟩:=hQ.rat
  have E:Ep q [.bool (kZ 0).neg,y1,y2] [.bool (kZ 0).neg,ints (kZ 0).mag,ints (kZ 0).den] os []:=⟨⟨hQ,G.nd⟩,by simp⟩;have LF:=ah (E.leaf 1 rfl rfl) (E.leaf 2 rfl rfl);have C:=E.c.set (o:=1) (x:=some ⟨3,[[.bool (kZ 0).neg,y1,y2]]⟩) n1;refine Af @LF @ho1 ?_;refine .inl (aag (WJ (L:=S.take i++l::S.drop i) ?_ ?_) (qV C.ow) C.nd)
  ·rw [kK (by decide)];refine hop.trans ?_;simp
  simp;omega
 have hie:i=S.length:=by omega
 have hpe:EJ l S=S.length:=by omega
 have aC7:NC S l=some (S++[l],kZ 0):=by
  unfold NC;dsimp only;rw [hpe,aQ (.inl rfl),bK,jB]
 have hde:List.map Lk.cells (List.drop i S)=[]:=by rw [fC (by omega)];rfl
 have htk:List.take i S=S:=bH (by omega);have hci:((i:Int)=(S.length:Nat))=True:=gZ (by omega);rw [aC7];have hd0:(List.drop i (List.map Lk.cells S)=[])=True:=gZ (by rw [fC (by simp;omega)]);rcases gU i with h0|h0
 ·have hn:(List.map Lk.cells S=[])=True:=gZ (by have:=iV (hnT h0);rw [htk]at this;exact this);refine Du @hc @hci @hn @hd0 ?_;refine⟨by omega,?_⟩;refine Du @hc @hci @hn @hd0 ?_;refine nK (qN h.lC (n:=0)) (by (refine ew ?_;try with_reducible exact aC)) ?_;intro r q os G;have gl:6<=q.length:=by have:=G.len;simp at this;omega
  have hop:jX q 5=some ⟨11,[l.cells]⟩:=(G.old 5 (by simp)).trans rfl;have ho1:=(G.old 1 (by simp)).trans rfl;have n1:1∉os:=fun hm=>by have:=G.fresh 1 hm;simp at this
  obtain⟨_,rfl,hQ⟩:=G.ow.lJ;obtain⟨y1,y2,rfl⟩:=hQ.rat
  have E:Ep q [.bool (kZ 0).neg,y1,y2] [.bool (kZ 0).neg,ints (kZ 0).mag,ints (kZ 0).den] os []:=⟨⟨hQ,G.nd⟩,by simp⟩;have LF:=ah (E.leaf 1 rfl rfl) (E.leaf 2 rfl rfl);have C:=E.c.set (o:=1) (x:=some ⟨3,[[.bool (kZ 0).neg,y1,y2]]⟩) n1;refine Af @LF @ho1 ?_;refine .inl (aag (WJ (L:=S++[l]) ?_ ?_) (qV C.ow) C.nd)
  ·rw [kK (by decide)];refine hop.trans ?_;rw [bT,iV hn];rfl
  have:=congrArg List.length (iV hn);simp at this ⊢;simp [this]
 have hn:(List.map Lk.cells S=[])=False:=iy (by have:=of_eq_false (hnF h0);rw [htk]at this;exact this);refine Du @hc @hci @hn @hd0 ?_;refine⟨by omega,?_⟩;refine Du @hc @hci @hn @hd0 ?_;refine⟨by (try simp only [aS,aU,ak,aG]);omega,?_⟩;refine nK (qN h.lC (n:=0)) (by (refine ew ?_;try with_reducible exact aC)) ?_;intro r q os G;have gl:6<=q.length:=by have:=G.len;simp at this;omega
 have hop:jX q 5=some ⟨11,List.map Lk.cells S++[l.cells]⟩:=(G.old 5 (by simp)).trans rfl;have ho1:=(G.old 1 (by simp)).trans rfl;have n1:1∉os:=fun hm=>by have:=G.fresh 1 hm;simp at this
 obtain⟨_,rfl,hQ⟩:=G.ow.lJ;obtain⟨y1,y2,rfl⟩:=hQ.rat
 have E:Ep q [.bool (kZ 0).neg,y1,y2] [.bool (kZ 0).neg,ints (kZ 0).mag,ints (kZ 0).den] os []:=⟨⟨hQ,G.nd⟩,by simp⟩;have LF:=ah (E.leaf 1 rfl rfl) (E.leaf 2 rfl rfl);have C:=E.c.set (o:=1) (x:=some ⟨3,[[.bool (kZ 0).neg,y1,y2]]⟩) n1;refine Af @LF @ho1 ?_;refine .inl (aag (WJ (L:=S++[l]) ?_ ?_) (qV C.ow) C.nd)
 ·rw [kK (by decide)];refine hop.trans ?_;rw [bT];rfl
 simp
theorem aah{l:List Lk}(h:lI l=true):∀i,i<l.length->(i:Int)<=10*(l.getD i default).a+(l.getD i default).b
 |
  0,hi=>by
  have:=qF (yD h hi);omega
 |
  i+1,hi=>by
  have k1:=aah h i (by omega);have k2:=Z4 h hi;have k3:=qF (yD h hi);have k4:=qF (yD h (show i<l.length by omega));unfold lK at k2;simp only [dQ,aH,bf]at k2;omega
theorem U4{l:List Lk}(h:lI l=true):l.length<=100:=by
 rcases dV 100 l.length with hl|hl
 ·have k1:=aah h (l.length-1) (by omega);have k3:=qF (yD h (show l.length-1<l.length by omega));omega
 exact hl
theorem ap1{s:List Lk}{l:Lk}{t:List Lk}{e:R}(h:NC s l=some (t,e))(h1:lI s=true)(h2:pJ l=true):(∀x∈t,x.w.cn/\x.dx.cn/\x.dy.cn)/\e.cn/\t.length<=s.length+1:=by
 unfold NC at h;dsimp only at h;have hp:=J5 l s;have hs:∀x∈s,x.w.cn/\x.dx.cn/\x.dy.cn:=fun x hx=>Nu (nZ h1 hx);split at h
 ·cases h
  refine⟨fun x hx=>?_,zl (by decide),by simp;omega⟩;simp only [aN,aI]at hx;rcases hx with hx|rfl|hx
  ·exact hs x (dM hx)
  ·exact Nu h2
  exact hs x (gq hx)
 rename_i hc;split at h
 ·cases h
  refine⟨fun x hx=>?_,afQ _ _,by simp;omega⟩;simp only [aN,aI]at hx;rcases hx with hx|rfl|hx
  ·exact hs x (dM hx)
  ·exact⟨U1 _ _,afO _ _,afP _ _⟩
  exact hs x (gq hx)
 cases h
theorem amj{x:Lk}(h:x.w.cn/\x.dx.cn/\x.dy.cn):x.sz<=144:=by
 have a:=OZ h.1;have b:=OZ h.2.1;have c:=OZ h.2.2;unfold Lk.sz R.sz;omega
theorem af2(s:List Lk)(l:Lk):(∀x∈adV s l,x.w.cn/\x.dx.cn/\x.dy.cn)/\(adE s l).cn/\(adV s l).length<=101:=by
 by_cases h:lI s=true/\pJ l=true
 ·obtain⟨e1,e2,_⟩:=J6 h.1 h.2;have hl:=U4 h.1;rw [e1,e2]
  cases hr:NC s l with
  |none=>exact⟨by simp,afu,by simp⟩
  |
   some p =>
   obtain⟨k1,k2,k3⟩:=ap1 (t:=p.1) (e:=p.2) hr h.1 h.2;exact⟨k1,k2,by simp only [dh,jA];omega⟩
 obtain⟨e1,e2,_⟩:=afY h;rw [e1,e2];exact⟨by simp,afu,by simp⟩
theorem mapM_mono{σ σ2:Store}{n:Nat}(ih:∀v t:V,resolve σ n v=some t->resolve σ2 n v=some t):∀(l l':List V),l.mapM (resolve σ n)=some l'->l.mapM (resolve σ2 n)=some l'
 | [],l',h=>h
 |
  x::l,l',h=>by
  rw [bU]at h ⊢
  cases hx:resolve σ n x with
  |none=>rw [hx]at h;cases h
  |
   some y =>
   rw [hx]at h;rw [ih _ _ hx]
   cases hl:l.mapM (resolve σ n)with
   |none=>rw [hl]at h;cases h
   |some ys=>rw [hl]at h;rw [mapM_mono ih _ _ hl];exact h
theorem Yl{σ σ2:Store}{n:Nat}(ih:∀v t:V,resolve σ n v=some t->resolve σ2 n v=some t):∀(l:List (List V)) (l':List (List V)),(l.mapM fun (r:List V)=>r.mapM (resolve σ n))=some l'->(l.mapM fun (r:List V)=>r.mapM (resolve σ2 n))=some l'
 | [],l',h=>h
 |
  x::l,l',h=>by
  rw [bU]at h ⊢
  cases hx:x.mapM (resolve σ n)with
  |none=>rw [hx]at h;cases h
  |
   some y =>
   rw [hx]at h;rw [mapM_mono ih _ _ hx]
   cases hl:l.mapM fun (r:List V)=>r.mapM (resolve σ n)with
   |none=>rw [hl]at h;cases h
   |some ys=>rw [hl]at h;rw [Yl ih _ _ hl];exact h
theorem Tz{σ σ2:Store}(hs:∀o ob,jX σ o=some ob->jX σ2 o=some ob):∀(n:Nat) (v t:V),resolve σ n v=some t->resolve σ2 n v=some t
 |0,_,_,h=>by simp [resolve]at h
 |
  n+1,v,t,h=>by
  have ih:=Tz hs n
  cases v with
  |
   lG o s l =>
   simp only [resolve]at h ⊢
   cases ho:jX σ o with
   |none=>rw [ho]at h;cases h
   |
    some ob =>
    rw [ho]at h;rw [hs _ _ ho];dsimp only at h ⊢;split at h
    ·rename_i hl;rw [aQ hl];obtain⟨rows,h1,rfl⟩:=aJ.1 h;rw [Yl ih _ _ h1];rfl
    cases h
  |
   ptr o r off =>
   simp only [resolve]at h ⊢
   cases ho:jX σ o with
   |none=>rw [ho]at h;cases h
   |
    some ob =>
    rw [ho]at h;rw [hs _ _ ho];dsimp only at h ⊢
    cases hr:ob.rows[r]? with
    |none=>rw [hr]at h;cases h
    |
     some row =>
     rw [hr]at h;dsimp only at h ⊢;obtain⟨rows,h1,rfl⟩:=aJ.1 h;rw [mapM_mono ih _ _ h1];rfl
  |
   agg cs =>
   simp only [resolve]at h ⊢;obtain⟨rows,h1,rfl⟩:=aJ.1 h;rw [mapM_mono ih _ _ h1];rfl
  |
   oJ cs =>
   simp only [resolve]at h ⊢;obtain⟨rows,h1,rfl⟩:=aJ.1 h;rw [mapM_mono ih _ _ h1];rfl
  |_=>simpa only [resolve]using h
theorem Hz{σ:Store}{n k:Nat}{w:V}{rows:List (List V)}(h:resolve σ (n+1) w=some (.sl k rows)):w.leaf=true:=by
 cases w with
 |lG=>rfl
 |sl=>rfl
 |ptr o r off=>obtain⟨_,_,e⟩:=Wq h;cases e
 |agg cs=>simp only [resolve]at h;obtain⟨_,_,e⟩:=aJ.1 h;cases e
 |oJ cs=>simp only [resolve]at h;obtain⟨_,_,e⟩:=aJ.1 h;cases e
 |_=>simp only [resolve]at h;cases h
def AB:Fn:=⟨1,41,[.tmp 2,.cell 3 3 true,.tmp 4],(.seq (rf 1 [oK 2 1 mN,oN 3 (.alloc uz),oK 4 1 mF]) (.seq (rf 1 [oN 12 (.nM 11 Hr 0 []),oK 5 1 (oV 12)]) (.seq (rf 1 [oK 13 1 (.call 36 [(cI 0)]),oN 6 (.alloc uz),⟨none,none,1,.store 3 (.t 6) (.t 13),[]⟩]) (.seq (sr [oW 14 0,oN 15 (ln 14),oN 16 (.qw (cI 0))] (.block 0 (.loop (sr [oN 17 (bt .lss 16 15)] (.seq (cd 17 .skip (.exit 0)) (.seq (.block 1 (.seq (rf 1 [oK 18 1 (ix 11 14 16),oK 19 1 (lT 11 18),oN 8 (.alloc Hr),⟨none,none,1,.store 11 (.t 8) (.t 19),[]⟩]) (.seq (rf 1 [oK 21 1 (oV 5),oK 22 1 (lT 11 8),oK 23 1 (cl 188 [21,22]),oK 20 1 (oV 23),oK 24 1 (ex 0 20),oK 25 1 (ex 1 20),oK 26 1 (ex 2 20),oN 10 (.alloc uz),oK 9 1 (oV 24),⟨none,none,1,.store 3 (.t 10) (.t 25),[]⟩,oK 11 1 (oV 26)]) (.seq (sr [oW 27 11,oN 28 (nt 27)] (cd 28 (sr [oN 29 (.build uz []),oN 2 mN,oS (.store 3 (.t 3) (.t 29)),oN 4 mF] .ret) .skip)) (sr [oW 30 9,oW 5 30] (rg [oN 31 (lT 3 6),oN 32 (lT 3 10),oN 33 (cl 189 [31,32]),oS (.store 3 (.t 6) (.t 33))])))))) (rg [oN 34 (bc .add 16 1),oW 16 34]))))))) (.seq (sr [oN 35 (lT 3 6),oN 36 (cl 100 [35]),oN 37 (nt 36)] (cd 37 (sr [oN 38 (.build uz []),oN 2 mN,oS (.store 3 (.t 3) (.t 38)),oN 4 mF] .ret) .skip)) (.seq (rt 0 [oW 39 5,oN 40 (lT 3 6),oA 2 0 (oV 39) [0,0],⟨none,none,0,.store 3 (.t 3) (.t 40),[1,2,0,1,2]⟩,oA 4 0 mT [3,0,1,2,3]]) .ret))))))⟩
structure FP (T:Tb):Prop where
 hT:T 179=some AB
 mO:vT T
 l7:sN T
 Ym:Jv T
 wL:Bz T
def AL:Fn:=⟨1,42,[.tmp 2,.cell 3 3 true,.tmp 4],(.seq (rf 1 [oK 2 1 mN,oN 3 (.alloc uz),oK 4 1 mF]) (.seq (rf 1 [oN 12 (.nM 11 Hr 0 []),oK 5 1 (oV 12)]) (.seq (rf 1 [oK 13 1 (.call 39 [(cI 0)]),oN 6 (.alloc uz),⟨none,none,1,.store 3 (.t 6) (.t 13),[]⟩]) (.seq (sr [oW 14 0,oN 15 (ln 14),oN 16 (.qw (cI 0))] (.block 0 (.loop (sr [oN 17 (bt .lss 16 15)] (.seq (cd 17 .skip (.exit 0)) (.seq (.block 1 (.seq (rf 1 [oK 18 1 (ix 11 14 16),oK 19 1 (lT 11 18),oN 8 (.alloc Hr),⟨none,none,1,.store 11 (.t 8) (.t 19),[]⟩]) (.seq (rf 1 [oK 21 1 (oV 5),oK 22 1 (lT 11 8),oK 23 1 (cl 130 [21,22]),oK 20 1 (oV 23),oK 24 1 (ex 0 20),oK 25 1 (ex 1 20),oK 26 1 (ex 2 20),oN 10 (.alloc uz),oK 9 1 (oV 24),⟨none,none,1,.store 3 (.t 10) (.t 25),[]⟩,oK 11 1 (oV 26)]) (sr [oN 27 (lT 3 6),oN 28 (lT 3 10),oN 29 (cl 131 [27,28]),oS (.store 3 (.t 6) (.t 29))] (.seq (sr [oW 30 11,oN 31 (nt 30),oW 32 31,oG 32 false 33 (lT 3 6),oG 32 false 34 (cl 132 [33]),oG 32 false 35 (nt 34),oN 36 (.pick (.t 32) (.c (.bool true)) (.t 35))] (cd 36 (sr [oN 37 (.build uz []),oN 2 mN,oS (.store 3 (.t 3) (.t 37)),oN 4 mF] .ret) .skip)) (rg [oW 38 9,oW 5 38])))))) (rg [oN 39 (bc .add 16 1),oW 16 39]))))))) (.seq (rt 0 [oW 40 5,oN 41 (lT 3 6),oA 2 0 (oV 40) [0,0],⟨none,none,0,.store 3 (.t 3) (.t 41),[1,2,0,1,2]⟩,oA 4 0 mT [3,0,1,2,3]]) .ret)))))⟩
structure FQ (T:Tb):Prop where
 hT:T 109=some AL
 lC:nX T
 Yn:Jw T
 lN:oO T
 kU:pW T
theorem ru{l:List Lk}:lI l=true↔(∀x∈l,pJ x=true)/\l.Pairwise fun k l=>lK k l=true:=by
 constructor
 ·intro h;exact⟨fun x hx=>nZ h hx,(adq h).imp fun h=>h.1⟩
 rintro⟨h1,h2⟩;unfold lI;refine Q7 fun i hi=>?_;have a:=h1 (l.getD i default) (getD_mem hi);unfold JY;rw [fO]at h2;rcases gU i with h0|h0
 ·subst h0;rw [a,aT rfl];rfl
 have:=h2 (i-1) i (by omega) hi (by omega);have e1:l.getD (i-1) default=l[i-1]:=by rw [aj,au];rfl
 have e2:l.getD i default=l[i]:=by rw [aj,au];rfl
 rw [<-e1,<-e2]at this;rw [a,this,Bool.or_true];rfl
theorem Ry(k:Lk):lK k k=false:=by simp [lK]
theorem ND{k l:Lk}(h1:lK k l=false)(h2:lK l k=false):k.a=l.a/\k.b=l.b:=by
 unfold lK at h1 h2;simp at h1 h2;omega
theorem abz{k l m:Lk}(ha:l.a=m.a)(hb:l.b=m.b):lK k l=lK k m/\lK l k=lK m k:=by
 unfold lK;rw [ha,hb];exact⟨rfl,rfl⟩
theorem adO{l:Lk}:∀{s:List Lk} {x:Lk},x∈s.take (EJ l s)->lK x l=true
 | [],x,h=>by simp [EJ]at h
 |
  y::s,x,h=>by
  unfold EJ at h;split at h
  ·rename_i hy;rw [jK]at h;rcases aI.1 h with rfl|h
   ·exact hy
   exact adO h
  simp at h
theorem Qb{l:Lk}{s:List Lk}(h:s.Pairwise fun k l=>lK k l=true):∀x∈s.drop (EJ l s),lK x l=false:=by
 induction s with
 |nil=>intro x hx;simp at hx
 |
  cons y s ih =>
  rw [dZ]at h;intro x hx;unfold EJ at hx;split at hx
  ·rw [List.drop_succ_cons]at hx;exact ih h.2 x hx
  rename_i hy;rw [bZ]at hx;have hy:lK y l=false:=by simpa using hy
  rcases aI.1 hx with rfl|hx
  ·exact hy
  cases hxl:lK x l
  ·rfl
  have:=IV (h.1 x hx) hxl;rw [this]at hy;cases hy
theorem amk{A B:List Lk}{m:Lk}(h:(A++B).Pairwise fun k l=>lK k l=true)(h1:∀x∈A,lK x m=true)(h2:∀x∈B,lK m x=true):(A++m::B).Pairwise fun k l=>lK k l=true:=by
 rw [jC]at h ⊢;refine⟨h.1,dZ.2 ⟨h2,h.2.1⟩,fun x hx y hy=>?_⟩;rcases aI.1 hy with rfl|hy
 ·exact h1 x hx
 exact h.2.2 x hx y hy
theorem auo{s:List Lk}{l:Lk}{t:List Lk}{e:R}(h:NC s l=some (t,e))(h1:lI s=true)(h2:pJ l=true):lI t=true:=by
 obtain⟨hv,hp⟩:=ru.1 h1;have hpl:=J5 l s;have hpre:=@adO l s;have hpost:=Qb (l:=l) hp;unfold NC at h;dsimp only at h;generalize EJ l s=i at *;have hsp:s.take i++s.drop i=s:=iD i s;split at h
 ·rename_i hc
  cases h
  refine ru.2 ⟨fun x hx=>?_,amk (by rw [hsp];exact hp) (fun x hx=>hpre hx) fun x hx=>?_⟩
  ·simp only [aN,aI]at hx;rcases hx with hx|rfl|hx
   ·exact hv x (dM hx)
   ·exact h2
   exact hv x (gq hx)
  rcases hc with hc|hc
  ·rw [hc,jB]at hx;cases hx
  by_cases hi:i<s.length
  ·have hd:s.drop i=s.getD i default::s.drop (i+1):=by
    rw [dH hi,aj,au hi];rfl
   rw [hd]at hx;rcases aI.1 hx with rfl|hx
   ·exact hc
   have hpd:=hp.drop (i:=i);rw [hd,dZ]at hpd;exact IV hc (hpd.1 x hx)
  rw [fC (by omega)]at hx;cases hx
 rename_i hc;split at h
 ·rename_i hg
  cases h
  have hi:i<s.length:=by
   rcases dV i s.length with k|k
   ·exact k
   exact absurd (.inl (by omega)) hc
  have hd:s.drop i=s.getD i default::s.drop (i+1):=by
   rw [dH hi,aj,au hi];rfl
  have hx0:=hpost (s.getD i default) (by rw [hd];simp);have hxl:lK l (s.getD i default)=false:=by
   cases hq:lK l (s.getD i default)
   ·rfl
   exact absurd (.inr hq) hc
  have hsm:=getD_mem (l:=s) hi;generalize s.getD i default=x at *;obtain⟨ea,eb⟩:=ND hx0 hxl;have hP:mgP x l=true:=by unfold mgP;rw [hv x hsm,h2,aT ea,aT eb];rfl
  have hm:pJ (Qz x l)=true:=by
   rw [adJ hP];unfold Ou at hg;simp only [aH]at hg ⊢;exact hg.1
  have hcg:=fun k=>abz (k:=k) (l:=Qz x l) (m:=x) rfl rfl;have hp2:(s.take i++x::s.drop (i+1)).Pairwise fun k l=>lK k l=true:=by rw [<-hd,hsp];exact hp
  rw [jC]at hp2;refine ru.2 ⟨fun y hy=>?_,amk ?_ (fun y hy=>?_) fun y hy=>?_⟩
  ·simp only [aN,aI]at hy;rcases hy with hy|rfl|hy
   ·exact hv y (dM hy)
   ·exact hm
   exact hv y (gq hy)
  ·rw [jC];exact⟨hp2.1,(dZ.1 hp2.2.1).2,fun a ha b hb=>hp2.2.2 a ha b (fH _ hb)⟩
  ·rw [(hcg y).1];exact hp2.2.2 y hy x (by simp)
  rw [(hcg y).2];exact(dZ.1 hp2.2.1).1 y hy
 cases h
theorem af4{s:List Lk}{l:Lk}(h:Tv s l=true):lI (adV s l)=true/\lI s=true/\pJ l=true:=by
 unfold Tv at h;simp only [aH]at h;obtain⟨⟨h1,h2⟩,h3⟩:=h;refine⟨?_,h1,h2⟩;rw [(J6 h1 h2).1]
 cases hr:NC s l with
 |none=>rw [hr]at h3;cases h3
 |some p=>exact auo (t:=p.1) (e:=p.2) hr h1 h2
def Oc(l:List Lk):Nat->Option (List Lk×R)
 |0=>some ([],kZ 0)
 |
  k+1=>match Oc l k with
  |none=>none
  |some p=>if Tv p.1 (l.getD k default)=true then some (adV p.1 (l.getD k default),qm p.2 (adE p.1 (l.getD k default)))else none
def Ud(l:List Lk):Option (List Lk×R):=match Oc l l.length with
 |none=>none
 |some p=>if p.2.ok=true then some p else none
def FT(l:List Lk):Bool:=(Ud l).isSome
def Ox(l:List Lk):List Lk:=((Ud l).map (·.1)).getD []
def U5(l:List Lk):R:=((Ud l).map (·.2)).getD R0
theorem adP{l:List Lk}{k:Nat}(h:Oc l k=none):∀n,k<=n->Oc l n=none
 |0,hn=>by rw [Nat.le_zero.1 hn]at h;exact h
 |
  n+1,hn=>by
  rcases dV k (n+1)with hk|hk
  ·simp only [Oc,adP h n (by omega)]
  rw [show n+1=k by omega];exact h
theorem Yo{r s:R}(h:r.ok=false):(qm r s).ok=false:=by
 rw [DL,UL,DL.1 h,ade]
theorem aht{l:List Lk}{k:Nat}{p:List Lk×R}(h:Oc l k=some p)(hb:p.2.ok=false):∀n,k<=n->∀q,Oc l n=some q->q.2.ok=false
 |0,hn,q,hq=>by rw [Nat.le_zero.1 hn]at h;rw [h]at hq;cases hq;exact hb
 |
  n+1,hn,q,hq=>by
  rcases dV k (n+1)with hk|hk
  ·simp only [Oc]at hq
   cases hf:Oc l n with
   |none=>rw [hf]at hq;cases hq
   |
    some r =>
    rw [hf]at hq;dsimp only at hq;split at hq
    ·cases hq
     exact Yo (aht h hb n (by omega) r hf)
    cases hq
  rw [show n+1=k by omega]at hq;rw [h]at hq;cases hq;exact hb
theorem TA{l:List Lk}:∀{k:Nat} {p:List Lk×R},Oc l k=some p->lI p.1=true/\p.2.cn/\(∀x∈p.1,x.w.cn/\x.dx.cn/\x.dy.cn)/\p.1.length<=101
 |0,p,h=>by cases h;exact⟨by decide,zl (by decide),by simp,by simp⟩
 |
  k+1,p,h=>by
  simp only [Oc]at h
  cases hf:Oc l k with
  |none=>rw [hf]at h;cases h
  |
   some r =>
   rw [hf]at h;dsimp only at h;split at h
   ·rename_i hk
    cases h
    have:=af2 r.1 (l.getD k default);exact⟨(af4 hk).1,DK _ _,this.1,this.2.2⟩
   cases h
theorem Jy{l:List Lk}(h:Ud l=none):Ox l=[]/\U5 l=R0/\FT l=false:=by
 unfold Ox U5 FT;rw [h];exact⟨rfl,rfl,rfl⟩
theorem VH{l:List Lk}{k:Nat}(h:Oc l k=none)(hk:k<=l.length):Ud l=none:=by
 unfold Ud;rw [adP h l.length hk]
theorem af5{l:List Lk}{k:Nat}{p:List Lk×R}(h:Oc l k=some p)(hb:p.2.ok=false)(hk:k<=l.length):Ud l=none:=by
 unfold Ud
 cases hf:Oc l l.length with
 |none=>rfl
 |some q=>dsimp only;rw [if_neg (by rw [aht h hb _ hk q hf];simp)]
theorem U6{l:List Lk}:(∀x∈Ox l,x.w.cn/\x.dx.cn/\x.dy.cn)/\(U5 l).cn/\(Ox l).length<=101/\lI (Ox l)=true:=by
 cases hg:Ud l with
 |
  none =>
  obtain⟨e1,e2,_⟩:=Jy hg;rw [e1,e2];exact⟨by simp,afu,by simp,by decide⟩
 |
  some p =>
  have e1:Ox l=p.1:=by unfold Ox;rw [hg];rfl
  have e2:U5 l=p.2:=by unfold U5;rw [hg];rfl
  rw [e1,e2];unfold Ud at hg
  cases hf:Oc l l.length with
  |none=>rw [hf]at hg;cases hg
  |
   some q =>
   rw [hf]at hg;dsimp only at hg;split at hg
   ·cases hg
    obtain⟨a,b,c,d⟩:=TA hf;exact⟨c,b,d,a⟩
   cases hg
theorem Yp{s:List Lk}(h:∀x∈s,x.w.cn/\x.dx.cn/\x.dy.cn)(hl:s.length<=101):PS Lk.sz s<=20000:=by
 have:=Uz (f:=Lk.sz) (k:=144) fun x hx=>amj (h x hx);omega
theorem U7{s:List Lk}(h:∀x∈s,x.w.cn/\x.dx.cn/\x.dy.cn)(hl:s.length<=101):Iz Lk.wf s :=
 ⟨by omega,fun x hx=>⟨uq (h x hx).1,uq (h x hx).2.1,uq (h x hx).2.2⟩⟩
theorem aup(σ:Store)(r:R):resolve σ 11 (.agg r.cells)=some (.agg r.cells):=by
 show resolve σ (10+1) (.agg r.cells)=_;rw [resolve,Fa (n:=9) (fun v hv=>afc [r] _ (by simp) v hv)];rfl
theorem abA{T:Tb}(h:FP T){l:List Lk}(hw:Iz Lk.wf l:=by exact tX)(hz:PS Lk.sz l<=1048576:=by exact tX):PF T 179 [nY l] (.oJ [nY (Ox l),kW (U5 l),.bool (FT l)]):=by
 have hl:l.length<=1048576:=by have:=QU Lk.sz l;omega
 refine kS nR h.hT ?_;simp only [AB,Lz];refine ev ?_;refine jM (qM h.mO (n:=0)) ?_;refine ev ?_;refine kV (fun _ _=>false) (α:=Nat×List Lk×R) (fun q=>⟨mM [nY l,.any,.any,.ptr 0 0 0,.any,nY q.2.1,.ptr 1 0 0,.any,.any,.any,.any,.any,.any,.any,nY l,iv (l.length:Nat),iv (q.1:Nat)],[some ⟨3,[[.bool false,.jZ,.jZ]]⟩,some ⟨3,[q.2.2.cells]⟩],0,0,[],[]⟩) (fun q=>q.1<=l.length/\Oc l q.1=some (q.2.1,q.2.2)) (fun q=>l.length-q.1) rfl (0,[],kZ 0) ?_ ?_ ?_
 ·exact⟨by omega,rfl⟩
 ·(refine Sm [(0,_),(2,_)] (by simp) (by intro p hp;simp only [aI,dD,or_false]at hp;rcases hp with rfl|rfl<;>refine⟨rfl,?_⟩<;>first|exact wX _|simp [nN,V.still]) rfl ?_)<;>(try (refine ev ?_;try with_reducible exact aC))<;>(repeat' (first|exact aC|omega|exact Ba rfl (by simp)|refine⟨?_,?_⟩|exact iV (Dn _ _ _)|exact qR rfl (by simp;done)|exact qR rfl rfl|(refine rJ rfl ?_ rfl;simp [kR];done)|(refine rJ rfl ?_ rfl;simp [kR];omega)|(refine Ho ?_ ?_;(focus ((refine ev ?_;try with_reducible exact aC);done));(intro q hq k s0 l0;simp;done))))
 rintro⟨k,S,e⟩ ⟨hk,hf⟩;dsimp only at hk hf;obtain⟨i1,i2,i3,i4⟩:=TA hf;dsimp only at i1 i2 i3 i4;by_cases hc:(k:Int)<(l.length:Nat)
 ·have hkl:k<l.length:=by omega
  have hxw:=alJ hw hkl;have hxz:=SI (f:=Lk.sz) hz (getD_mem hkl);have hs:Oc l (k+1)=if Tv S (l.getD k default)=true then some (adV S (l.getD k default),qm e (adE S (l.getD k default)))else none:=by simp only [Oc,hf]
  have hmx:(l.map Lk.cells).getD k []=(l.getD k default).cells:=mg hkl;have hbad:Oc l (k+1)=none->Ud l=none:=fun h=>VH h (by omega);generalize l.getD k default=x at hs hxw hxz hmx;have ca:=afZ h.Ym (s:=S) (l:=x) (U7 i3 i4) hxw (by have:=Yp i3 i4;omega) hxz;have hac:=af2 S x
  cases ho:Tv S x
  ·rw [ho]at hs ca;obtain⟨e1,e2,e3⟩:=Jy (hbad hs);rw [e1,e2,e3];refine zf @hc @hmx ?_;refine jM ca ?_;refine ev ?_;exact Qa
  rw [ho,aQ rfl]at hs;rw [ho]at ca;generalize adV S x=S' at hs ca hac;generalize adE S x=e' at hs ca hac;refine zf @hc @hmx ?_;refine jM ca ?_;refine ev ?_;refine jM (LP h.wL (uq i2) (uq hac.2.1)) ?_;refine ev ?_;exact⟨(k+1,S',qm e e'),by dsimp only;omega,⟨by dsimp only;omega,hs⟩,by exact atV⟩
 have hie:k=l.length:=by omega
 have hg:Ud l=if e.ok=true then some (S,e)else none:=by unfold Ud;rw [<-hie,hf]
 have co:=xA h.l7 (uq i2)
 cases hb:e.ok
 ·rw [hb]at co hg;obtain⟨e1,e2,e3⟩:=Jy hg;rw [e1,e2,e3];refine ev1 @hc ?_;refine jM co ?_;refine ev ?_;exact Qa
 rw [hb,aQ rfl]at hg;have e1:Ox l=S:=by unfold Ox;rw [hg];rfl
 have e2:U5 l=e:=by unfold U5;rw [hg];rfl
 have e3:FT l=true:=by unfold FT;rw [hg];rfl
 rw [e1,e2,e3];rw [hb]at co;refine ev1 @hc ?_;refine jM co ?_;refine ev ?_;refine⟨by unfold rO;decide +kernel,?_⟩;rw [aup];exact kM _
def BG:Nat->V->Prop
 |0,_=>False
 |n+1,.sl _ rows=>∀r∈rows,∀c∈r,BG n c
 |n+1,.agg cs=>∀c∈cs,BG n c
 |n+1,.oJ cs=>∀c∈cs,BG n c
 |_+1,.pU _ _=>False
 |_+1,_=>True
theorem BG.le:∀{n:Nat} {v:V},BG n v->nO n v
 |0,_,h=>h
 |
  n+1,v,h=>by
  cases v with
  |sl k rows=>simp only [BG,nO]at h ⊢;exact fun r hr c hc=>(h r hr c hc).le
  |agg cs=>simp only [BG,nO]at h ⊢;exact fun c hc=>(h c hc).le
  |oJ cs=>simp only [BG,nO]at h ⊢;exact fun c hc=>(h c hc).le
  |_=>simp [nO]
theorem aml(n:Nat)(q:IntKind)(k:Int):BG (n+1) (.int q k):=by simp [BG]
theorem TF(n:Nat)(b:Bool):BG (n+1) (.bool b):=by simp [BG]
theorem J7(n:Nat)(l:List Int):BG (n+2) (ints l):=by
 simp only [BG];intro r hr c hc;simp only [kR,bC]at hr;obtain⟨x,_,rfl⟩:=hr;simp only [aI,dD,or_false]at hc;subst hc;simp [BG]
theorem auq{n:Nat}{cs:List V}(h:∀c∈cs,BG n c):BG (n+1) (.agg cs):=by simpa only [BG]using h
theorem aur(n:Nat)(x:R):BG (n+3) (kW x):=by
 refine auq ?_;simp only [iq];exact⟨TF _ _,J7 _ _,J7 _ _,by simp⟩
theorem aus(n:Nat)(l:List Lk):BG (n+3) (nY l):=by
 simp only [BG];intro r hr c hc;obtain⟨x,_,rfl⟩:=bC.1 hr
 revert c
 simp only [iq];exact⟨aml _ _ _,aml _ _ _,TF _ _,J7 _ _,J7 _ _,TF _ _,J7 _ _,J7 _ _,TF _ _,J7 _ _,J7 _ _,by simp⟩
theorem ahu{σ:Store}:∀(n:Nat) {v t:V},resolve σ (n+1) v=some t->BG n t->resolve σ n v=some t
 |0,v,t,_,hd=>by simp [BG]at hd
 |
  n+1,v,t,h,hd=>by
  have ih:=@ahu σ n;have hl:∀(l l':List V),l.mapM (resolve σ (n+1))=some l'->(∀c∈l',BG n c)->l.mapM (resolve σ n)=some l':=by
   intro l
   induction l with
   |nil=>intro l' h _;exact h
   |
    cons x l ihl =>
    intro l' h hd;rw [bU]at h ⊢
    cases hx:resolve σ (n+1) x with
    |none=>rw [hx]at h;cases h
    |
     some y =>
     rw [hx]at h
     cases hl:l.mapM (resolve σ (n+1))with
     |none=>rw [hl]at h;cases h
     |
      some ys =>
      rw [hl]at h
      cases h
      rw [ih hx (hd y (by simp)),ihl ys hl fun c hc=>hd c (by simp [hc])];rfl
  have hr:∀(l:List (List V)) (l':List (List V)),(l.mapM fun (r:List V)=>r.mapM (resolve σ (n+1)))=some l'->(∀r∈l',∀c∈r,BG n c)->(l.mapM fun (r:List V)=>r.mapM (resolve σ n))=some l':=by
   intro l
   induction l with
   |nil=>intro l' h _;exact h
   |
    cons x l ihl =>
    intro l' h hd;rw [bU]at h ⊢
    cases hx:x.mapM (resolve σ (n+1))with
    |none=>rw [hx]at h;cases h
    |
     some y =>
     rw [hx]at h
     cases hl':l.mapM fun (r:List V)=>r.mapM (resolve σ (n+1))with
     |none=>rw [hl']at h;cases h
     |
      some ys =>
      rw [hl']at h
      cases h
      rw [hl x y hx (hd y (by simp)),ihl ys hl' fun c hc=>hd c (by simp [hc])];rfl
  cases v with
  |
   lG o s l =>
   simp only [resolve]at h ⊢
   cases ho:jX σ o with
   |none=>rw [ho]at h;cases h
   |
    some ob =>
    rw [ho]at h;dsimp only at h ⊢;split at h
    ·rename_i hle;rw [aQ hle];obtain⟨rows,h1,rfl⟩:=aJ.1 h;rw [hr _ _ h1 (by simpa only [BG]using hd)];rfl
    cases h
  |
   ptr o r off =>
   simp only [resolve]at h ⊢
   cases ho:jX σ o with
   |none=>rw [ho]at h;cases h
   |
    some ob =>
    rw [ho]at h;dsimp only at h ⊢
    cases hro:ob.rows[r]? with
    |none=>rw [hro]at h;cases h
    |
     some row =>
     rw [hro]at h;dsimp only at h ⊢;obtain⟨rows,h1,rfl⟩:=aJ.1 h;simp [BG]at hd
  |
   agg cs =>
   simp only [resolve]at h ⊢;obtain⟨rows,h1,rfl⟩:=aJ.1 h;rw [hl _ _ h1 (by simpa only [BG]using hd)];rfl
  |
   oJ cs =>
   simp only [resolve]at h ⊢;obtain⟨rows,h1,rfl⟩:=aJ.1 h;rw [hl _ _ h1 (by simpa only [BG]using hd)];rfl
  |_=>simpa only [resolve]using h
theorem ahv{σ:Store}:∀{ts:List (Bool×V)} {vs:List V} {os:List Nat},VQ σ vs ts os->(∀p∈ts,BG 11 p.2)->vs.mapM (resolve σ 11)=some (ts.map (·.2))
 |
  [],vs,os,h,_=>by
  simp only [VQ]at h;obtain⟨rfl,rfl⟩:=h;rfl
 |
  (b,t)::ts,vs,os,h,hd=>by
  simp only [VQ]at h;obtain⟨v,vs',o1,o2,rfl,rfl,h1,h2⟩:=h;have e2:=ahv h2 fun p hp=>hd p (by simp [hp]);have hdt:BG 11 t:=hd (b,t) (by simp);have e1:resolve σ 11 v=some t:=by
   cases b with
   |true=>exact OW 11 (by simpa using h1) hdt.le
   |
    false =>
    have h1:resolve σ FD v=some t/\o1=[]:=by simpa using h1
    exact ahu 11 h1.1 hdt
  rw [bU,e1,e2];rfl
theorem PX.Wn{T:Tb}{f:Nat}{args:List V}{ts:List (Bool×V)}(h:PX T f args ts)(hd:∀p∈ts,BG 11 p.2):PF T f args (.oJ (ts.map (·.2))):=by
 obtain⟨vs,σ',os,h1,h2,h3⟩:=h;refine .Wn h1 ?_;show resolve σ' (11+1) _=_;rw [resolve,ahv h2 hd];rfl
def joT(l:List Lk):List (Bool×V):=[(false,nY (Ox l)),(true,kW (U5 l)),(false,.bool (FT l))]
theorem Ep.fr{s S1:Store}{cs ts:List V}{os:List Nat}{L:List (Nat×Obj)}(E:Ep s cs ts os L)(h1:∀o,o<s.length->jX S1 o=jX s o):Ep S1 cs ts os L :=
 ⟨E.c.frame fun o ho=>h1 o (E.c.lt o ho),fun q hq=>⟨(h1 _ (E.lt q hq)).trans (E.l q hq).1,(E.l q hq).2⟩⟩
theorem amm(sz:Nat):EvV (.sl sz []) .jZ=True:=gZ (JM sz)
theorem abB{T:Tb}(h:FQ T){l:List Lk}(hw:Iz Lk.wf l)(ha:l.all pJ=true)(hl:l.length<=1048576):PX T 109 [nY l] (joT l):=by
 unfold joT;refine SE (fun x d=>(x == 39&&d == 13)||(x == 131&&d == 29)) h.hT ?_;simp only [AL,Lz,St.enter,ak,aG,aV];refine ew ?_;refine nK (qN h.lC (n:=0)) (by (refine ew ?_;try with_reducible exact aC)) ?_;intro r q1 o1 G;obtain⟨_,rfl,Yc⟩:=G.ow.lJ;obtain⟨x1,x2,rfl⟩:=Yc.rat
 have E:Ep [some ⟨3,[[.bool false,.jZ,.jZ]]⟩] [] [] [] [(0,⟨3,[[.bool false,.jZ,.jZ]]⟩)]:=⟨aa0,by simp [jX]⟩;have E2:=E.got (s1:=[some ⟨3,[[.bool false,.jZ,.jZ]]⟩]++[none,none]) (fun q hq=>by first|exact pq hq|(simp only [cO];exact pq hq)) (by simp) Yc G.nd G.fresh G.old;have F0:=E.free (s1:=[some ⟨3,[[.bool false,.jZ,.jZ]]⟩]++[none,none]) (p:=2) G.fresh (by simp) (by simp);have hq:3<=q1.length:=by simpa using G.len
 clear E G;have E:Ep q1 [.bool (kZ 0).neg,x1,x2] [.bool (kZ 0).neg,ints (kZ 0).mag,ints (kZ 0).den] _ [(0,⟨3,[[.bool false,.jZ,.jZ]]⟩)]:=E2;clear E2
 replace E:=E.SC (p:=2) (ob:=⟨3,[[.bool (kZ 0).neg,x1,x2]]⟩) (L':=[(0,⟨3,[[.bool false,.jZ,.jZ]]⟩),(2,⟨3,[[.bool (kZ 0).neg,x1,x2]]⟩)]) F0 (by omega) (by simp)
 have LF:=ah (E.leaf 1 rfl rfl) (E.leaf 2 rfl rfl);refine Du @LF @kP @lH @List.set_set.{0} ?_;clear LF;refine kV (fun x d=>(x == 39&&d == 13)||(x == 131&&d == 29)) (α:=Nat×Store×List Lk×R×V×V×List Nat) (fun q=>⟨mM [nY l,.any,.any,.ptr 0 0 0,.any,nY q.2.2.1,.ptr 2 0 0,.any,.any,.any,.any,.any,.any,.any,nY l,iv (l.length:Nat),iv (q.1:Nat)],q.2.1,0,0,[],[]⟩) (fun q=>(q.1<=l.length/\Oc l q.1=some (q.2.2.1,q.2.2.2.1)/\q.2.2.2.1.ok=true)/\Ep q.2.1 [.bool q.2.2.2.1.neg,q.2.2.2.2.1,q.2.2.2.2.2.1] [.bool q.2.2.2.1.neg,ints q.2.2.2.1.mag,ints q.2.2.2.1.den] q.2.2.2.2.2.2 [(0,⟨3,[[.bool false,.jZ,.jZ]]⟩),(2,⟨3,[[.bool q.2.2.2.1.neg,q.2.2.2.2.1,q.2.2.2.2.2.1]]⟩)]) (fun q=>l.length-q.1) rfl (0,(q1.set 2 (some ⟨3,[[.bool (kZ 0).neg,x1,x2]]⟩)),[],kZ 0,x1,x2,[]++o1) ?_ ?_ ?_
 ·exact⟨⟨by omega,rfl,show (kZ 0).ok=true by decide +kernel⟩,E⟩
 ·dsimp only;rw [show nY []=.sl 11 []from rfl]
  (refine kN ?_)<;>(try (refine y8 @amm ?_;try with_reducible exact aC))<;>(repeat' (first|refine⟨?_,?_⟩|exact MO (by omega)|exact OT (by simp)|exact JM _))
 clear E;rintro⟨k,s,S,e,x1,x2,os⟩ ⟨⟨hk,hf,he⟩,E⟩;dsimp only at hk hf he E;obtain⟨i1,i2,i3,i4⟩:=TA hf;dsimp only at i1 i2 i3 i4;have L0:=E.at0 (p:=0) (ob:=⟨3,[[.bool false,.jZ,.jZ]]⟩) (by simp);have L1:=E.at0 (p:=2) (ob:=⟨3,[[.bool e.neg,x1,x2]]⟩) (by simp);have LFx:=ah (E.leaf 1 rfl rfl) (E.leaf 2 rfl rfl);by_cases hc:(k:Int)<(l.length:Nat)
 ·have hkl:k<l.length:=by omega
  have hxw:=alJ hw hkl;have hxo:pJ (l.getD k default)=true:=aX.1 ha _ (getD_mem hkl);have hs:Oc l (k+1)=if Tv S (l.getD k default)=true then some (adV S (l.getD k default),qm e (adE S (l.getD k default)))else none:=by simp only [Oc,hf]
  have hmx:(l.map Lk.cells).getD k []=(l.getD k default).cells:=mg hkl;have hbad:Oc l (k+1)=none->Ud l=none:=fun h=>VH h (by omega);have hbd2:∀p,Oc l (k+1)=some p->p.2.ok=false->Ud l=none:=fun p h h2=>af5 h h2 (by omega);generalize l.getD k default=x at hs hxw hxo hmx;have ca:=(af0 h.Yn (S:=S) (l:=x) (U7 i3 i4) i1 hxo (by omega)).Wn (by
   intro p hp;simp only [adT,aI,dD,or_false]at hp;rcases hp with rfl|rfl|rfl
   ·exact aus _ _
   ·exact aur _ _
   exact TF _ _)
  have hac:=af2 S x;obtain⟨g1,g2,g3⟩:=J6 i1 hxo;simp only [adT,bV,iM]at ca;rw [<-g1,<-g2,<-g3]at ca;clear g1 g2 g3;generalize hS':adV S x=S' at hs ca hac;generalize he':adE S x=e' at hs ca hac;generalize ho:Tv S x=ok at hs ca;refine Af @hc @hmx ?_;refine jM ca ?_;have hp2:¬(s.length+1=s.length):=by omega
  refine Jg @L0 @L1 @LFx @kP @lH ?_;obtain⟨S1,hS1⟩:∃S1,(List.set (s++[some ⟨11,[x.cells]⟩]++[none]) (s.length+1) (some ⟨3,[[.bool false,.jZ,.jZ]]⟩)).set (s.length+1) (some ⟨3,[e'.cells]⟩)=S1:=⟨_,rfl⟩;have h1:∀o,o<s.length->jX S1 o=jX s o:=fun o ho=>by
   rw [<-hS1,kK (by omega),kK (by omega),cO,pq ho]
  have hl1:S1.length=s.length+2:=by rw [<-hS1];simp
  rw [hS1];clear hS1;have E1:=E.fr h1;have R:=ah (E1.res1 1 rfl rfl (kJ _ _)) (E1.res1 2 rfl rfl (kJ _ _));refine nK (FM h.lN i2 hac.2.1) (by (refine EN @R @kP @lH ?_;try with_reducible exact aC)) ?_;intro r q2 o2 G;have gl:s.length+2<=q2.length:=by have:=G.len;omega
  obtain⟨_,rfl,hQ⟩:=G.ow.lJ;obtain⟨y1,y2,rfl⟩:=hQ.rat
  have F1:2∉o2:=fun hm=>by have h1:=G.fresh 2 hm;have:=L1.2;omega
  have E2:=E1.renew (fun q hq=>rfl) (aK _) hQ G.nd G.fresh G.old;have aC9:=DK e e';have hbd2:=fun (hs:Oc l (k+1)=some (S',qm e e'))=>hbd2 (S',qm e e') hs;dsimp only at hbd2;generalize qm e e'=e2 at *;have LF:=ah (E2.leaf 1 rfl rfl) (E2.leaf 2 rfl rfl);have M0:=E2.at0 (p:=0) (ob:=⟨3,[[.bool false,.jZ,.jZ]]⟩) (by simp);have M1:=E2.at0 (p:=2) (ob:=⟨3,[[.bool e.neg,x1,x2]]⟩) (by simp);refine Jg @LF @M0 @M1 @kP @lH ?_;have E3:=E2.SC (p:=2) (ob:=⟨3,[[.bool e2.neg,y1,y2]]⟩) (L':=[(0,⟨3,[[.bool false,.jZ,.jZ]]⟩),(2,⟨3,[[.bool e2.neg,y1,y2]]⟩)]) F1 M1.2 (by simp);generalize hq3:q2.set 2 (some ⟨3,[[.bool e2.neg,y1,y2]]⟩)=q3 at *;have N0:=E3.at0 (p:=0) (ob:=⟨3,[[.bool false,.jZ,.jZ]]⟩) (by simp);have N1:=E3.at0 (p:=2) (ob:=⟨3,[[.bool e2.neg,y1,y2]]⟩) (by simp);have R3:=ah (E3.res1 1 rfl rfl (kJ _ _)) (E3.res1 2 rfl rfl (kJ _ _))
  cases ok
  ·obtain⟨e1,e2,e3⟩:=Jy (hbad (by rw [hs];rfl));rw [e1,e2,e3];refine Jg @N0 @N1 @LF @kP @lH ?_;exact .inl abx
  have cg:=P5 h.kU aC9;refine Ia @N0 @N1 @LF @R3 @kP @lH ?_;refine jM cg ?_
  cases hb:e2.ok
  ·obtain⟨e1,e2,e3⟩:=Jy (hbd2 (by rw [hs];rfl) hb);rw [e1,e2,e3];refine Jg @N0 @N1 @LF @kP @lH ?_;exact .inl abx
  refine Jg @N0 @N1 @LF @kP @lH ?_;refine⟨(k+1,q3,S',e2,y1,y2,o2),by dsimp only;omega,⟨⟨by dsimp only;omega,by dsimp only;rw [hs];rfl,hb⟩,E3⟩,?_⟩;dsimp only
  (refine kN ?_;exact uT)
 have hie:k=l.length:=by omega
 have hg:Ud l=some (S,e):=by unfold Ud;rw [<-hie,hf];exact aQ he
 have e1:Ox l=S:=by unfold Ox;rw [hg];rfl
 have e2:U5 l=e:=by unfold U5;rw [hg];rfl
 have e3:FT l=true:=by unfold FT;rw [hg];rfl
 rw [e1,e2,e3];refine Ia @hc @L0 @L1 @LFx @kP @lH ?_;refine⟨by unfold rO;rfl,.inl (aag rfl ?_ E.c.nd)⟩;have n0:=(E.l (0,⟨3,[[.bool false,.jZ,.jZ]]⟩) (by simp)).2;exact qV (E.c.set (o:=0) (x:=some ⟨3,[[.bool e.neg,x1,x2]]⟩) n0).ow
def Eu:Fn:=⟨2,51,[.tmp 4],(sr [oN 4 mN] (.seq (rf 1 [oN 10 (.nM 11 Hr 0 []),oK 5 1 (oV 10)]) (.seq (sr [oN 6 (.qw (cI 1))] (.block 0 (.loop (.seq (sr [oW 11 6,oW 12 1,oN 13 (bt .leq 11 12)] (cd 13 .skip (.exit 0))) (.seq (.block 1 (.seq (rf 1 [oK 17 1 (oV 0),oK 18 1 (oV 6),oK 19 1 (cl 107 [17,18]),oK 20 1 (oV 6),oK 21 1 (oV 0),oK 22 1 (.call 107 [(.t 21),(cI 9)]),oK 23 1 (.bin .add (cI 1) (.t 22)),oK 24 1 (oV 0),oK 25 1 (.call 107 [(.t 24),(cI 41)]),oK 26 1 (bc .sub 25 20),oK 27 1 (oV 0),oK 28 1 (.call 107 [(.t 27),(cI 41)]),oK 29 1 (bc .sub 28 20),oK 30 1 (cl 14 [19,20,23,26,29]),oK 16 1 (oV 30),oK 31 1 (ex 0 16),oK 32 1 (ex 1 16),oN 7 (.alloc Hr),⟨none,none,1,.store 11 (.t 7) (.t 31),[]⟩,oK 8 1 (oV 32)]) (rf 2 [oK 33 2 (oV 5),oK 34 2 (lT 11 7),oN 35 (.nM 11 Hr 1 [(0,(.t 34))]),oK 36 1 (.app 11 184 (.t 33) (.t 35)),oK 5 2 (oV 36)]))) (rg [oW 14 6,oN 15 (bc .add 14 1),oW 6 15])))))) (.seq (sr [oW 37 0,oN 38 (.call 107 [(.t 37),(cI 4)]),oW 9 38] (.block 2 (.loop (.seq (sr [oW 39 9,oN 40 (bc .gtr 39 0)] (cd 40 .skip (.exit 2))) (.seq (.block 3 (rf 2 [oK 43 2 (oV 5),oK 44 2 (oV 0),oK 45 2 (oV 1),oK 46 2 (bc .add 45 1),oK 47 2 (cl 128 [44,46]),oN 48 (.nM 11 Hr 1 [(0,(.t 47))]),oK 49 1 (.app 11 184 (.t 43) (.t 48)),oK 5 2 (oV 49)])) (rg [oW 41 9,oN 42 (bc .sub 41 1),oW 9 42])))))) (sr [oW 50 5,oW 4 50] .ret)))))⟩
structure Jz (T:Tb):Prop where
 hT:T 106=some Eu
 En:D8 T
 lV:yE T
 Yq:Ju T
def AO:Fn:=⟨1,11,[.tmp 2],(sr [oN 2 mN] (sr [oW 4 0,oN 5 (cl 105 [4]),oW 3 5] (sr [oW 6 3,oW 7 3,oN 8 (.call 107 [(.t 7),(cI 4)]),oN 9 (.bin .add (cI 1) (.t 8)),oN 10 (cl 106 [6,9]),oW 2 10] .ret)))⟩
structure FU (T:Tb):Prop where
 hT:T 87=some AO
 KW:G9 T
 Yr:Jz T
 lV:yE T
structure SmN (n:Int) (l:Lk):Prop where
 ab:0<=l.a/\l.a<l.b/\l.b<=n
 w:∃n:Int,(1<=n/\n<=9)/\l.w=kZ n
 dx:∃n:Int,(-20<=n/\n<=20)/\l.dx=kZ n
 dy:∃n:Int,(-20<=n/\n<=20)/\l.dy=kZ n
theorem SmN.mono{n m:Int}{l:Lk}(h:SmN n l)(hm:n<=m):SmN m l:=⟨⟨h.ab.1,h.ab.2.1,by have:=h.ab.2.2;omega⟩,h.w,h.dx,h.dy⟩
theorem af6{n a b w x y:Int}(hn:n<=9)(ha:0<=a/\a<=n)(hb:0<=b/\b<=n)(hne:a≠b)(hw:1<=w/\w<=9)(hx : -20<=x/\x<=20)(hy : -20<=y/\y<=20):SmN n (nlV a b w x y)/\(a<b->(nlV a b w x y).b=b):=by
 have hok:ajg a b w x y=true:=by
  unfold ajg nd inC wtC;simp;omega
 unfold nlV;rw [aQ hok];split
 ·exact⟨⟨⟨by dsimp only;omega,by dsimp only;omega,by dsimp only;omega⟩,⟨w,hw,rfl⟩,⟨-x,by omega,rfl⟩,⟨-y,by omega,rfl⟩⟩,fun h=>by omega⟩
 exact⟨⟨⟨by dsimp only;omega,by dsimp only;omega,by dsimp only;omega⟩,⟨w,hw,rfl⟩,⟨x,hx,rfl⟩,⟨y,hy,rfl⟩⟩,fun _=>rfl⟩
theorem af7{T:Tb}(h:Ju T){x:List UInt8}{n:Int}(hn:1<=n/\n<=5)(hx:x.length<=1048576):al7 T 128 [iv n] x fun r=>∃l:Lk,r=RN l/\SmN n l:=by
 refine ahq fun i hh hi=>?_;unfold cur;refine run_end (fun x d=>x == 107) h.hT ?_;simp only [Em,Lz,St.enter,ak,aG,aV];refine ew ?_;refine pO (b:=0) (rest:=[iv n]) ⟨i,hh,rfl,hi⟩ (qW h.lV (n:=n) (by omega) hx) rfl (fun _=>rfl) ?_;rintro _ i2 h2 ⟨a,rfl,ha⟩ hi2;refine ew ?_;refine pO (b:=0) (rest:=[iv n]) ⟨i2,h2,rfl,hi2⟩ (qW h.lV (n:=n) (by omega) hx) rfl (fun _=>rfl) ?_;rintro _ i3 h3 ⟨b,rfl,hb⟩ hi3;refine ew ?_;refine kY (fun hc=>?_) fun hc=>?_
 ·have hw1:IntKind.i64.wrap (n+1)=n+1:=w64 (by omega);have hr:(a+1).tmod (n+1)=a+1:=Int.tmod_eq_of_lt (by omega) (by omega);refine y8 @hr ?_;refine pO (b:=0) (rest:=[iv 9]) ⟨i3,h3,rfl,hi3⟩ (qW h.lV (n:=9) (by omega) hx) rfl (fun _=>rfl) ?_;rintro _ i4 h4 ⟨w,rfl,hw⟩ hi4;refine ew ?_;refine pO (b:=0) (rest:=[iv 41]) ⟨i4,h4,rfl,hi4⟩ (qW h.lV (n:=41) (by omega) hx) rfl (fun _=>rfl) ?_;rintro _ i5 h5 ⟨dx,rfl,hdx⟩ hi5;refine ew ?_;refine pO (b:=0) (rest:=[iv 41]) ⟨i5,h5,rfl,hi5⟩ (qW h.lV (n:=41) (by omega) hx) rfl (fun _=>rfl) ?_;rintro _ i6 h6 ⟨dy,rfl,hdy⟩ hi6;refine ew ?_;have hS:=af6 (n:=n) (a:=a) (b:=a+1) (w:=1+w) (x:=dx-20) (y:=dy-20) (by omega) (by omega) (by omega) (by omega) (by omega) (by omega) (by omega);refine jM (Ru h.En (a:=a) (b:=a+1) (w:=1+w) (x:=dx-20) (y:=dy-20)) ?_;generalize nlV a (a+1) (1+w) (dx-20) (dy-20)=l at hS ⊢;refine ew ?_;exact⟨⟨⟨l,rfl,hS.1⟩,fun g=>ahr g _⟩,i6,h6,rfl,hi6⟩
 refine ew ?_;refine pO (b:=0) (rest:=[iv 9]) ⟨i3,h3,rfl,hi3⟩ (qW h.lV (n:=9) (by omega) hx) rfl (fun _=>rfl) ?_;rintro _ i4 h4 ⟨w,rfl,hw⟩ hi4;refine ew ?_;refine pO (b:=0) (rest:=[iv 41]) ⟨i4,h4,rfl,hi4⟩ (qW h.lV (n:=41) (by omega) hx) rfl (fun _=>rfl) ?_;rintro _ i5 h5 ⟨dx,rfl,hdx⟩ hi5;refine ew ?_;refine pO (b:=0) (rest:=[iv 41]) ⟨i5,h5,rfl,hi5⟩ (qW h.lV (n:=41) (by omega) hx) rfl (fun _=>rfl) ?_;rintro _ i6 h6 ⟨dy,rfl,hdy⟩ hi6;refine ew ?_;have hS:=af6 (n:=n) (a:=a) (b:=b) (w:=1+w) (x:=dx-20) (y:=dy-20) (by omega) (by omega) (by omega) (by omega) (by omega) (by omega) (by omega);refine jM (Ru h.En (a:=a) (b:=b) (w:=1+w) (x:=dx-20) (y:=dy-20)) ?_;generalize nlV a (b) (1+w) (dx-20) (dy-20)=l at hS ⊢;refine ew ?_;exact⟨⟨⟨l,rfl,hS.1⟩,fun g=>ahr g _⟩,i6,h6,rfl,hi6⟩
structure aai (n:Nat) (L:List Lk):Prop where
 rn:1<=n/\n<=4
 len:n<=L.length/\L.length<=n+3
 sm:∀l∈L,SmN ((n:Int)+1) l
 base:∀k,k<n->(L.getD k default).b=(k:Int)+1
theorem aaj{xs:List Lk}{l:Lk}{k:Nat}:(xs++[l]).getD k default=if k<xs.length then xs.getD k default else if k=xs.length then l else default:=by
 rw [aj,aj];split
 ·rename_i h;rw [bJ h]
 rename_i h;split
 ·rename_i e;subst e;simp
 rw [aZ (by simp<;>omega)];rfl
def ajl(s:Store)(v:V)(xs:List Lk):Prop:=(xs=[]/\v=.jZ)\/∃p,v=.lG p 0 xs.length/\jX s p=some ⟨11,xs.map Lk.cells⟩/\p≠0
theorem ajl.fr{s s2:Store}{v:V}{xs:List Lk}(h:ajl s v xs)(hf:∀p,p≠0->p<s.length->jX s2 p=jX s p):ajl s2 v xs:=by
 rcases h with h|⟨p,h1,h2,h3⟩
 ·exact .inl h
 exact .inr ⟨p,h1,(hf p h3 (kX h2)).trans h2,h3⟩
theorem Rx.fr{s s2:Store}{x:List UInt8}(h:Rx s 0 x)(hf:jX s2 0=jX s 0):Rx s2 0 x:=by
 obtain⟨i,hh,h1,h2⟩:=h;exact⟨i,hh,hf.trans h1,h2⟩
theorem Rx.lt{s:Store}{x:List UInt8}(h:Rx s 0 x):0<s.length:=by obtain⟨i,hh,h1,h2⟩:=h;exact kX h1
theorem ajm{T:Tb}(h:Jz T){x:List UInt8}(hx:x.length<=1048576){n:Nat}(hn:1<=n/\n<=4){i hh:Int}(hi:0<=i/\i<=x.length) :
  ∃r σ',Run T (.fn 106 [.ptr 0 0 0,iv n] (cur x i hh)) (.fn r σ')/\(∃L,aai n L/\resolve σ' FD r=some (nY L))/\1<=σ'.length:=by
 have hP:Rx (cur x i hh) 0 x:=⟨i,hh,rfl,hi⟩;generalize cur x i hh=s0 at hP ⊢;have hP0:=hP.lt;refine run_end (fun x d=>x == 107||x == 128) h.hT ?_;simp only [Eu,Lz,St.enter,ak,aG,aV];refine ew ?_;refine kV (fun x d=>x == 107||x == 128) (α:=Nat×Store×V×List Lk) (fun q=>⟨mM [.ptr 0 0 0,iv n,.any,.any,.any,q.2.2.1,iv ((q.1:Nat)+1)],q.2.1,s0.length,0,[],[]⟩) (fun q=>(q.1<=n/\Rx q.2.1 0 x)/\ajl q.2.1 q.2.2.1 q.2.2.2/\q.2.2.2.length=q.1/\(∀l∈q.2.2.2,SmN ((n:Int)+1) l)/\∀j,j<q.1->(q.2.2.2.getD j default).b=(j:Int)+1) (fun q=>n-q.1) rfl (0,s0++[none],.jZ,[]) ?_ ?_ ?_
 ·exact⟨⟨by omega,hP.fr (kQ hP0)⟩,.inl ⟨rfl,rfl⟩,rfl,by simp,by intro q hq;omega⟩
 ·(refine kN ?_;exact uT)
 generalize s0.length=kp;clear hP hP0;rintro⟨k,s,v,xs⟩ ⟨⟨hk,hP⟩,hLs,hxl,hsm,hb⟩;dsimp only at hk hP hLs hxl hsm hb;by_cases hc:(k:Int)+1<=(n:Int)
 ·refine y8 @hc ?_;refine pO (b:=0) (rest:=[iv (k+1)]) (hP.fr (kQ hP.lt)) (qW h.lV (n:=(k:Int)+1) (by omega) hx) rfl (fun _=>rfl) ?_;rintro _ i1 h1 ⟨a,rfl,ha⟩ hi1;refine ew ?_;refine pO (b:=0) (rest:=[iv 9]) ⟨_,_,kT (by simp),hi1⟩ (qW h.lV (n:=9) (by omega) hx) rfl (fun _=>rfl) ?_;rintro _ i2 h2 ⟨w,rfl,hw⟩ hi2;refine ew ?_;refine pO (b:=0) (rest:=[iv 41]) ⟨_,_,kT (by simp),hi2⟩ (qW h.lV (n:=41) (by omega) hx) rfl (fun _=>rfl) ?_;rintro _ i3 h3 ⟨dx,rfl,hdx⟩ hi3;refine ew ?_;refine pO (b:=0) (rest:=[iv 41]) ⟨_,_,kT (by simp),hi3⟩ (qW h.lV (n:=41) (by omega) hx) rfl (fun _=>rfl) ?_;rintro _ i4 h4 ⟨dy,rfl,hdy⟩ hi4;have hS:=af6 (n:=(n:Int)+1) (a:=a) (b:=(k:Int)+1) (w:=1+w) (x:=dx-20) (y:=dy-20) (by omega) (by omega) (by omega) (by omega) (by omega) (by omega) (by omega);have cn:=Ru h.En (a:=a) (b:=(k:Int)+1) (w:=1+w) (x:=dx-20) (y:=dy-20);generalize nlV a ((k:Int)+1) (1+w) (dx-20) (dy-20)=l at hS cn;generalize ajg a ((k:Int)+1) (1+w) (dx-20) (dy-20)=ok at cn;refine ew ?_;refine jM cn ?_;obtain⟨S,hSe⟩:∃S,((((s++[none]).set 0 (some (YT x i1 h1))).set 0 (some (YT x i2 h2))).set 0 (some (YT x i3 h3))).set 0 (some (YT x i4 h4))=S:=⟨_,rfl⟩;rw [hSe];have hSl:S.length=s.length+1:=by rw [<-hSe];simp
  have hS0:jX S 0=some (YT x i4 h4):=by rw [<-hSe];exact kT (by simp)
  have hSo:∀p,p≠0->p<s.length->jX S p=jX s p:=fun p h0 hp=>by
   rw [<-hSe,kK h0,kK h0,kK h0,kK h0,kQ hp]
  have hSm:jX S s.length=none:=by
   rw [<-hSe];have h0:=hP.lt;rw [kK (by omega),kK (by omega),kK (by omega),kK (by omega),tZ]
  have hm0:=hP.lt;have hLs:=hLs.fr hSo;clear hSe hSo hP;have hs0:s.length<S.length:=by omega
  generalize s.length=m at *;have hxs:xs.length<=1048576:=by omega
  have ap2:∀l'∈xs++[l],SmN ((n:Int)+1) l':=fun l' hl'=>by
   rcases aN.1 hl' with hl'|hl'
   ·exact hsm l' hl'
   rw [bD.1 hl'];exact hS.1
  have hb2:∀j,j<k+1->((xs++[l]).getD j default).b=(j:Int)+1:=fun j hj=>by
   rw [aaj];split
   ·exact hb j (by omega)
   rw [aQ (by omega),hS.2 (by omega)];omega
  rcases hLs with ⟨rfl,rfl⟩|⟨p,rfl,hp,hp0⟩
  ·refine Af @hS0 @hSl ?_;refine⟨by omega,?_⟩;generalize hB:List.set (_++[none]) (m+1+1) (some (⟨11,[l.cells]⟩:Obj))=B;have hB0:jX B 0=some (YT x i4 h4):=by
    rw [<-hB,kK (by omega),kQ (by simp [hSl]<;>omega),kK (by omega),kQ (by simp [hSl]<;>omega),kK (by omega),kK (by omega),hS0]
   have hBp:jX B (m+1+1)=some ⟨11,[l.cells]⟩:=by rw [<-hB];exact kT (by simp [hSl]<;>omega)
   refine⟨(k+1,B,.lG (m+1+1) 0 1,[]++[l]),by dsimp only;omega,⟨⟨by dsimp only;omega,i4,h4,hB0,hi4⟩,.inr ⟨m+1+1,rfl,(by dsimp only [List.nil_append,List.map_cons,List.map_nil];exact hBp),by omega⟩,by dsimp only;simp;simp at hxl;omega,ap2,hb2⟩,?_⟩;dsimp only
   (refine kN ?_;exact uT)
  have hpl:=kX hp;have hpm:p≠m:=fun e=>by rw [e,hSm]at hp;cases hp
  refine EN @hS0 @hp @hSl ?_;refine⟨by omega,?_⟩;generalize hB:List.set _ (m+1+1) (some (⟨11,List.map Lk.cells xs++[l.cells]⟩:Obj))=B;have hB0:jX B 0=some (YT x i4 h4):=by
   rw [<-hB,kK (by omega),kQ (by simp<;>omega),kK (by omega),kK (by omega),kQ (by simp [hSl]<;>omega),kK (by omega),kK (by omega),hS0]
  have hBp:jX B (m+1+1)=some ⟨11,List.map Lk.cells xs++[l.cells]⟩:=by rw [<-hB];exact kT (by simp [hSl]<;>omega)
  refine⟨(k+1,B,.lG (m+1+1) 0 (xs.length+1),xs++[l]),by dsimp only;omega,⟨⟨by dsimp only;omega,i4,h4,hB0,hi4⟩,.inr ⟨m+1+1,by dsimp only;simp,(by dsimp only;rw [List.map_append];exact hBp),by omega⟩,by dsimp only;simp;omega,ap2,hb2⟩,?_⟩;dsimp only
  (refine kN ?_;exact uT)
 have hkn:k=n:=by omega
 subst hkn;have hP0:=hP.lt;refine y8 @hc ?_;refine pO (b:=0) (rest:=[iv 4]) hP (qW h.lV (n:=4) (by omega) hx) rfl (fun _=>rfl) ?_;rintro _ i1 h1 ⟨mm,rfl,hmm⟩ hi1;obtain⟨S,hSe⟩:∃S,s.set 0 (some (YT x i1 h1))=S:=⟨_,rfl⟩;have hPS:Rx S 0 x:=⟨i1,h1,by rw [<-hSe];exact kT hP0,hi1⟩;have hLS:ajl S v xs:=hLs.fr fun p h0 hp=>by rw [<-hSe];exact kK h0
 rw [hSe];clear hSe hP hLs hP0;have hlen:xs.length+mm.toNat<=k+3:=by omega
 refine ew ?_;refine kV (fun x d=>x == 107||x == 128) (α:=Nat×Store×V×List Lk) (fun q=>⟨mM [.ptr 0 0 0,iv k,.any,.any,.any,q.2.2.1,.any,.any,.any,iv (q.1:Nat)],q.2.1,kp,0,[],[]⟩) (fun q=>Rx q.2.1 0 x/\ajl q.2.1 q.2.2.1 q.2.2.2/\(k<=q.2.2.2.length/\q.2.2.2.length+q.1<=k+3)/\(∀l∈q.2.2.2,SmN ((k:Int)+1) l)/\∀j,j<k->(q.2.2.2.getD j default).b=(j:Int)+1) (fun q=>q.1) rfl (mm.toNat,S,v,xs) ?_ ?_ ?_
 ·exact⟨hPS,hLS,⟨by dsimp only;omega,hlen⟩,hsm,hb⟩
 ·(refine kN ?_;exact uT)
 clear hPS hLS hsm hb hlen hxl;rintro⟨r,s,v,xs⟩ ⟨hP,hLs,⟨hxl,hxr⟩,hsm,hb⟩;dsimp only at hP hLs hxl hxr hsm hb;by_cases hc2:(r:Int)>0
 ·refine y8 @hc2 ?_;refine pO (b:=0) (rest:=[iv ((k:Int)+1)]) (hP.fr (by have:=hP.lt;rw [cO,pq this])) (af7 h.Yq (n:=(k:Int)+1) (by omega) hx) rfl (fun _=>rfl) ?_;rintro _ i4 h4 ⟨l,rfl,hS⟩ hi4;obtain⟨S,hSe⟩:∃S,List.set (s++[none]++[none]) 0 (some (YT x i4 h4))=S:=⟨_,rfl⟩;rw [hSe];have hm0:=hP.lt;have hSl:S.length=s.length+2:=by rw [<-hSe];simp
  have hS0:jX S 0=some (YT x i4 h4):=by rw [<-hSe];exact kT (by simp)
  have hSo:∀p,p≠0->p<s.length->jX S p=jX s p:=fun p h0 hp=>by
   rw [<-hSe,kK h0,cO,pq hp]
  have hpl:∀p,p≠0->jX s p≠none->p<s.length:=fun p _ h=>by
   rcases dV p s.length with k|k
   ·exact k
   exact absurd (by unfold jX;rw [aZ k];rfl) h
  have hLs:(xs=[]/\v=.jZ)\/∃p,v=.lG p 0 xs.length/\jX S p=some ⟨11,xs.map Lk.cells⟩/\p≠0/\p<s.length:=by
   rcases hLs with h|⟨p,h1,h2,h3⟩
   ·exact .inl h
   exact .inr ⟨p,h1,(hSo p h3 (kX h2)).trans h2,h3,kX h2⟩
  clear hSe hSo hP hpl;generalize s.length=m at *;have ap2:∀l'∈xs++[l],SmN ((k:Int)+1) l':=fun l' hl'=>by
   rcases aN.1 hl' with hl'|hl'
   ·exact hsm l' hl'
   rw [bD.1 hl'];exact hS
  have hb2:∀j,j<k->((xs++[l]).getD j default).b=(j:Int)+1:=fun j hj=>by
   rw [aaj,aQ (by omega)];exact hb j hj
  rcases hLs with ⟨rfl,rfl⟩|⟨p,rfl,hp,hp0,hpm⟩
  ·simp at hxl;omega
  refine EN @hS0 @hp @hSl ?_;refine⟨by omega,?_⟩;generalize hB:List.set _ (m+1) (some (⟨11,List.map Lk.cells xs++[l.cells]⟩:Obj))=B;have hB0:jX B 0=some (YT x i4 h4):=by
   rw [<-hB,kK (by omega),kK (by omega),kK (by omega),hS0]
  have hBp:jX B (m+1)=some ⟨11,List.map Lk.cells xs++[l.cells]⟩:=by rw [<-hB];exact kT (by simp [hSl])
  refine⟨(r-1,B,.lG (m+1) 0 (xs.length+1),xs++[l]),by dsimp only;omega,⟨⟨i4,h4,hB0,hi4⟩,.inr ⟨m+1,by dsimp only;simp,(by dsimp only;rw [List.map_append];exact hBp),by omega⟩,by dsimp only;simp;omega,ap2,hb2⟩,?_⟩;dsimp only
  (refine kN ?_;exact uT)
 refine y8 @hc2 ?_;rcases hLs with ⟨rfl,rfl⟩|⟨p,rfl,hp,hp0⟩
 ·simp at hxl;omega
 exact⟨⟨xs,⟨hn,⟨hxl,by omega⟩,hsm,hb⟩,atl (fun x hx=>Hq xs _ (iZ hx)) hp⟩,hP.lt⟩
theorem amn(x:List UInt8)(i h:Int):yV [] (cur x i h)=cur x i h:=by
 show []++[some (qK (mD 0) (YT x i h))]=_;rw [LY];rfl
theorem adS{T:Tb}(h:FU T){x:List UInt8}(hx:x.length<=1048576):∃n L,aai n L/\PF T 87 [bytesV x] (nY L):=by
 obtain⟨h0,rn⟩:=adK h.KW hx;have:∃r σ',Run T (.fn 87 [bytesV x] []) (.fn r σ')/\∃n L,aai n L/\resolve σ' FD r=some (nY L):=by
  refine run_end (fun x d=>x == 105||x == 107||x == 106) h.hT ?_;simp only [AO,Lz,St.enter,ak,aG,aV];refine ew ?_;refine I7 rn (by (refine ew ?_;try with_reducible exact aC)) (by (refine ew ?_;try with_reducible exact aC)) ?_;rw [show lD (mD ([]:Store).length) (.ptr 0 0 0)=.ptr 0 0 0 from rfl,amn];refine ew ?_;refine pO (b:=0) (rest:=[iv 4]) ⟨0,h0,rfl,by omega⟩ (qW h.lV (n:=4) (by omega) hx) rfl (fun _=>rfl) ?_;rintro _ i1 h1 ⟨m,rfl,hm⟩ hi1;rw [show (cur x 0 h0).set 0 (some (YT x i1 h1))=cur x i1 h1 from rfl];obtain⟨r,σ',h2,⟨L,h3,h4⟩,h5⟩:=ajm h.Yr hx (n:=(1+m).toNat) (by omega) (hh:=h1) hi1;rw [show (((1+m).toNat:Nat):Int)=1+m by omega]at h2;refine ew ?_;refine Wv h2 rfl h5 (aK _) ?_;refine ew ?_;exact⟨_,L,h3,h4⟩
 obtain⟨r,σ',h1,n,L,h2,h3⟩:=this;exact⟨n,L,h2,.Wn h1 h3⟩
theorem WL{a b:Rat}(h:norm a=some b):a=b:=by
 unfold norm at h;split at h
 ·cases h;rfl
 cases h
theorem TG{r:R}(h:r.ok=true):∃a,r.q=some a:=by
 cases hq:r.q with
 |none=>exact absurd hq (wJ.1 h)
 |some a=>exact⟨a,rfl⟩
theorem Rz{r s:R}{a b:Rat}(hr:r.q=some a)(hs:s.q=some b)(ho:(qm r s).ok=true):(qm r s).q=some (a+b):=by
 obtain⟨c,hc⟩:=TG ho;rw [hc];rw [UL,hr,hs]at hc;rw [WL hc]
theorem abC{r s:R}{a b:Rat}(hr:r.q=some a)(hs:s.q=some b)(ho:(vS r s).ok=true):(vS r s).q=some (a-b):=by
 obtain⟨c,hc⟩:=TG ho;rw [hc];rw [XW,hr,hs]at hc;have:norm (a + -b)=some c:=hc;rw [Rat.sub_eq_add_neg,WL this]
theorem NG{r s:R}{a b:Rat}(hr:r.q=some a)(hs:s.q=some b)(ho:(mulR r s).ok=true):(mulR r s).q=some (a*b):=by
 obtain⟨c,hc⟩:=TG ho;rw [hc];rw [XY,hr,hs]at hc;rw [WL hc]
theorem abD{r s:R}{a b:Rat}(hr:r.q=some a)(hs:s.q=some b)(ho:(uZ r s).ok=true):(uZ r s).q=some (a / b)/\b≠0:=by
 obtain⟨c,hc⟩:=TG ho;rw [hc];rw [XZ,hr,hs]at hc;have:(if b=0 then none else norm (a / b))=some c:=hc;split at this
 ·cases this
 rename_i h0;rw [WL this];exact⟨rfl,h0⟩
theorem LZ{r s:R}(h:(qm r s).ok=true):r.ok=true/\s.ok=true:=by
 constructor
 ·cases hr:r.ok
  ·rw [Yo hr]at h;cases h
  rfl
 cases hr:s.ok
 ·rw [ai3,Yo hr]at h;cases h
 rfl
theorem TI{r s:R}(h:(mulR r s).ok=true):r.ok=true/\s.ok=true:=by
 rw [wJ,XY]at h;constructor
 ·rw [wJ];intro e;rw [e]at h;exact h rfl
 rw [wJ];intro e;rw [e,VD]at h;exact h rfl
theorem TJ{r s:R}(h:(uZ r s).ok=true):r.ok=true/\s.ok=true:=by
 rw [wJ,XZ]at h;constructor
 ·rw [wJ];intro e;rw [e]at h;exact h rfl
 rw [wJ];intro e;rw [e,VE]at h;exact h rfl
theorem adU{r s:R}(h:(vS r s).ok=true):r.ok=true/\s.ok=true:=by
 rw [wJ,XW]at h;constructor
 ·rw [wJ];intro e;rw [e]at h;exact h rfl
 rw [wJ];intro e;rw [e,VF]at h;exact h rfl
def R.v(r:R):Rat:=r.q.getD 0
theorem R.FV{r:R}{a:Rat}(h:r.q=some a):r.v=a:=by unfold R.v;rw [h];rfl
theorem R.IX{r:R}(h:r.ok=true):r.q=some r.v:=by obtain⟨a,ha⟩:=TG h;rw [ha,R.FV ha]
def mW(l:Lk):Rat:=l.w.v
def mX(l:Lk):Rat:=l.w.v*l.dx.v
def mY(l:Lk):Rat:=l.w.v*l.dy.v
def mZ(l:Lk):Rat:=l.w.v*(l.dx.v*l.dx.v+l.dy.v*l.dy.v)
theorem ahw{n:Int}(h:0<ZL n):0<n:=by
 unfold ZL at h;split at h
 ·omega
 split at h<;>omega
theorem TK{l:Lk}(h:pJ l=true):0<l.w.v:=by
 have hk:=Aw h;have hs:=hk.2.2.2;unfold wQ at hs;rw [R.IX hk.1]at hs;have:0<ZL l.w.v.num:=hs;rw [Rat.lt_iff,show (0:Rat).num=0 from rfl,show (0:Rat).den=1 from rfl,Int.zero_mul,Int.natCast_one,Int.mul_one];exact ahw this
theorem aut(v w a b c d:Rat)(h:v+w≠0):(v+w)*((v*a+w*b) / (v+w)*((v*a+w*b) / (v+w))+(v*c+w*d) / (v+w)*((v*c+w*d) / (v+w)))+v*w / (v+w)*((a-b)*(a-b)+(c-d)*(c-d))=v*(a*a+c*c)+w*(b*b+d*d):=by
 grind
theorem amo(s t:Rat)(h:t≠0):t*(s / t)=s:=by grind
theorem amq{k l:Lk}(h1:pJ k=true)(h2:pJ l=true)(hg:Ou k l=true) :
  mW (Qz k l)=mW k+mW l/\mX (Qz k l)=mX k+mX l/\mY (Qz k l)=mY k+mY l/\mZ (Qz k l)+(Ot k l).v=mZ k+mZ l:=by
 have k1:=Aw h1;have k2:=Aw h2;have kw:=R.IX k1.1;have kx:=R.IX k1.2.1;have ky:=R.IX k1.2.2.1;have lw:=R.IX k2.1;have lx:=R.IX k2.2.1;have ly:=R.IX k2.2.2.1;unfold Ou at hg;simp only [aH]at hg;obtain⟨⟨⟨gW,gX⟩,gY⟩,gE⟩:=hg;have eW:=Rz kw lw gW;obtain⟨gX1,_⟩:=TJ gX;obtain⟨gX2,gX3⟩:=LZ gX1;obtain⟨eX,hne⟩:=abD (Rz (NG kw kx gX2) (NG lw lx gX3) gX1) eW gX;obtain⟨gY1,_⟩:=TJ gY;obtain⟨gY2,gY3⟩:=LZ gY1;obtain⟨eY,_⟩:=abD (Rz (NG kw ky gY2) (NG lw ly gY3) gY1) eW gY;obtain⟨gE1,gE2⟩:=TI gE;obtain⟨gE3,_⟩:=TJ gE1;obtain⟨gE4,gE5⟩:=LZ gE2;obtain⟨gE6,_⟩:=TI gE4;obtain⟨gE7,_⟩:=TI gE5;have sx:=abC kx lx gE6;have sy:=abC ky ly gE7;have eE:=NG (abD (NG kw lw gE3) eW gE1).1 (Rz (NG sx sx gE4) (NG sy sy gE5) gE2) gE;have vW:(Qz k l).w.v=k.w.v+l.w.v:=R.FV eW;have vX:(Qz k l).dx.v=(k.w.v*k.dx.v+l.w.v*l.dx.v) / (k.w.v+l.w.v):=R.FV eX;have vY:(Qz k l).dy.v=(k.w.v*k.dy.v+l.w.v*l.dy.v) / (k.w.v+l.w.v):=R.FV eY;have vE:(Ot k l).v=k.w.v*l.w.v / (k.w.v+l.w.v)*((k.dx.v-l.dx.v)*(k.dx.v-l.dx.v)+(k.dy.v-l.dy.v)*(k.dy.v-l.dy.v)):=R.FV eE;unfold mW mX mY mZ;rw [vW,vX,vY,vE];exact⟨rfl,amo _ _ hne,amo _ _ hne,aut _ _ _ _ _ _ hne⟩
def RD(f:Lk->Rat)(i j:Int):List Lk->Rat
 | []=>0
 |x::L=>(if x.a=i/\x.b=j then f x else 0)+RD f i j L
def tot(f:Lk->Rat):List Lk->Rat
 | []=>0
 |x::L=>f x+tot f L
theorem TL(f:Lk->Rat)(i j:Int):∀A B:List Lk,RD f i j (A++B)=RD f i j A+RD f i j B
 | [],B=>by simp [RD,iO]
 |x::A,B=>by simp only [dL,RD,TL f i j A B,Rat.add_assoc]
theorem CJ(f:Lk->Rat):∀A B:List Lk,tot f (A++B)=tot f A+tot f B
 | [],B=>by simp [tot,iO]
 |x::A,B=>by simp only [dL,tot,CJ f A B,Rat.add_assoc]
theorem ahx(f:Lk->Rat)(i j:Int):∀A:List Lk,RD f i j A.reverse=RD f i j A
 | []=>rfl
 |x::A=>by rw [List.reverse_cons,TL,ahx f i j A];simp only [RD,dU];rw [Rat.add_comm]
theorem ahy(f:Lk->Rat):∀A:List Lk,tot f A.reverse=tot f A
 | []=>rfl
 |x::A=>by rw [List.reverse_cons,CJ,ahy f A];simp only [tot,dU];rw [Rat.add_comm]
theorem ap3{s:List Lk}{l:Lk}{t:List Lk}{e:R}(h:NC s l=some (t,e))(h1:lI s=true)(h2:pJ l=true) :
  (∀f,(f=mW\/f=mX\/f=mY)->∀i j,RD f i j t=RD f i j s+RD f i j [l])/\tot mZ t+e.v=tot mZ s+mZ l:=by
 obtain⟨hv,hp⟩:=ru.1 h1;have hpost:=Qb (l:=l) hp;have hpl:=J5 l s;unfold NC at h;dsimp only at h;generalize EJ l s=i at *;have hsp:s.take i++s.drop i=s:=iD i s;split at h
 ·cases h
  have e0:(kZ 0).v=0:=R.FV (a:=((0:Int):Rat)) (Jl (by decide));refine⟨fun f _ a b=>?_,?_⟩
  ·conv=>rhs;rw [<-hsp]
   simp only [TL,RD,dU]
   grind
  rw [e0]
  conv=>rhs;rw [<-hsp]
  simp only [CJ,tot]
  grind
 rename_i hc;split at h
 ·rename_i hg
  cases h
  have hi:i<s.length:=by
   rcases dV i s.length with k|k
   ·exact k
   exact absurd (.inl (by omega)) hc
  have hd:s.drop i=s.getD i default::s.drop (i+1):=by
   rw [dH hi,aj,au hi];rfl
  have hx0:=hpost (s.getD i default) (by rw [hd];simp);have hxl:lK l (s.getD i default)=false:=by
   cases hq:lK l (s.getD i default)
   ·rfl
   exact absurd (.inr hq) hc
  have hsm:=getD_mem (l:=s) hi;generalize s.getD i default=x at *;obtain⟨ea,eb⟩:=ND hx0 hxl;obtain⟨m1,m2,m3,m4⟩:=amq (hv x hsm) h2 hg;have hpa:(Qz x l).a=x.a:=rfl;have hpb:(Qz x l).b=x.b:=rfl;refine⟨fun f hf a b=>?_,?_⟩
  ·have hm:f (Qz x l)=f x+f l:=by rcases hf with rfl|rfl|rfl<;>assumption
   conv=>rhs;rw [<-hsp,hd]
   simp only [TL,RD,dU,hpa,hpb,<-ea,<-eb];split
   ·rw [hm];grind
   grind
  conv=>rhs;rw [<-hsp,hd]
  simp only [CJ,tot]
  grind
 cases h
theorem Pn{f:Lk->Rat}{i j:Int}:∀{S:List Lk},(∀y∈S,¬(y.a=i/\y.b=j))->RD f i j S=0
 | [],_=>rfl
 |
  y::S,h=>by
  simp only [RD];rw [aO (h y (by simp)),Pn fun z hz=>h z (by simp [hz]),iO]
theorem abE{f:Lk->Rat}{x:Lk}:∀{S:List Lk},(S.Pairwise fun k l=>lK k l=true)->x∈S->RD f x.a x.b S=f x
 | [],_,h=>by cases h
 |
  y::S,hp,h=>by
  rw [dZ]at hp;simp only [RD];rcases aI.1 h with rfl|h
  ·rw [aQ ⟨rfl,rfl⟩,Pn fun z hz hh=>?_,dU];have:=hp.1 z hz;rw [wK]at this;omega
  have:=hp.1 x h;rw [wK]at this;rw [aO (by omega),abE hp.2 h,iO]
theorem amr:∀{l m:List Lk},(l.Pairwise fun k l=>lK k l=true)->(m.Pairwise fun k l=>lK k l=true)->(∀a,a∈l↔a∈m)->l=m
 | [],[],_,_,_=>rfl
 | [],y::m,_,_,h=>absurd ((h y).2 (by simp)) (by simp)
 |x::l,[],_,_,h=>absurd ((h x).1 (by simp)) (by simp)
 |
  x::l,y::m,hl,hm,h=>by
  rw [dZ]at hl hm;have e:x=y:=by
   rcases aI.1 ((h x).1 (by simp))with h1|h1
   ·exact h1
   rcases aI.1 ((h y).2 (by simp))with h2|h2
   ·exact h2.symm
   have a1:=hl.1 y h2;have a2:=hm.1 x h1;have:=IV a1 a2;rw [Ry]at this;cases this
  subst e
  congr 1
  refine amr hl.2 hm.2 fun a=>?_;constructor
  ·intro ha;rcases aI.1 ((h a).1 (by simp [ha]))with h1|h1
   ·have:=hl.1 a ha;rw [h1,Ry]at this;cases this
   exact h1
  intro ha;rcases aI.1 ((h a).2 (by simp [ha]))with h1|h1
  ·have:=hm.1 a ha;rw [h1,Ry]at this;cases this
  exact h1
theorem R.adW{r s:R}(hr:r.ok=true)(hs:s.ok=true)(h:r.v=s.v):r=s:=atS (EO hr) (EO hs) (by rw [R.IX hr,R.IX hs,h])
theorem ahz{S S':List Lk}(h:lI S=true)(h':lI S'=true)(hm:∀f,(f=mW\/f=mX\/f=mY)->∀i j,RD f i j S=RD f i j S'):∀x∈S,x∈S':=by
 obtain⟨hv,hp⟩:=ru.1 h;obtain⟨hv',hp'⟩:=ru.1 h';intro x hx;have hpos:=TK (hv x hx);have w1:=hm mW (.inl rfl) x.a x.b;rw [abE hp hx]at w1;have:∃y∈S',y.a=x.a/\y.b=x.b:=by
  refine ig fun hne=>?_;rw [Pn fun y hy hh=>hne ⟨y,hy,hh⟩]at w1;unfold mW at w1;rw [w1]at hpos;exact absurd hpos (Rat.lt_irrefl)
 obtain⟨y,hy,ha,hb⟩:=this;have aDb:=hv' y hy;have at':=fun f=>abE (f:=f) hp' hy;rw [ha,hb]at at';rw [at']at w1;have w2:=hm mX (.inr (.inl rfl)) x.a x.b;have w3:=hm mY (.inr (.inr rfl)) x.a x.b;rw [abE hp hx,at']at w2 w3;unfold mW at w1;unfold mX at w2;unfold mY at w3;have k1:=Aw (hv x hx);have k2:=Aw aDb;rw [<-w1]at w2 w3;have hne:x.w.v≠0:=fun e=>by rw [e]at hpos;exact absurd hpos Rat.lt_irrefl
 have c2:x.dx.v=y.dx.v:=by grind
 have c3:x.dy.v=y.dy.v:=by grind
 have e:x=y:=Lk.ext' ha.symm hb.symm (R.adW k1.1 k2.1 w1) (R.adW k1.2.1 k2.2.1 c2) (R.adW k1.2.2.1 k2.2.2.1 c3);rw [e];exact hy
theorem ap4{S S':List Lk}(h:lI S=true)(h':lI S'=true)(hm:∀f,(f=mW\/f=mX\/f=mY)->∀i j,RD f i j S=RD f i j S'):S=S' :=
 amr (ru.1 h).2 (ru.1 h').2 fun a=>⟨ahz h h' hm a,ahz h' h (fun f hf i j=>(hm f hf i j).symm) a⟩
theorem ahA{l:List Lk}:∀{k:Nat} {S:List Lk} {e:R},k<=l.length->Oc l k=some (S,e)->e.ok=true ->
  (∀f,(f=mW\/f=mX\/f=mY)->∀i j,RD f i j S=RD f i j (l.take k))/\tot mZ S+e.v=tot mZ (l.take k)
 |
  0,S,e,_,h,_=>by
  cases h
  have e0:(kZ 0).v=0:=R.FV (a:=((0:Int):Rat)) (Jl (by decide));rw [e0];exact⟨fun f _ i j=>by simp,by simp [tot,iO]⟩
 |
  k+1,S,e,hk,h,he=>by
  simp only [Oc]at h
  cases hf:Oc l k with
  |none=>rw [hf]at h;cases h
  |
   some p =>
   rw [hf]at h;dsimp only at h;split at h
   ·rename_i ho
    cases h
    obtain⟨o1,o2⟩:=LZ he;obtain⟨m1,m2⟩:=ahA (k:=k) (S:=p.1) (e:=p.2) (by omega) hf o1;obtain⟨a1,a2,a3⟩:=af4 ho;obtain⟨g1,g2,g3⟩:=J6 a2 a3;have es:=take_snoc (l:=l) (i:=k) (by omega);generalize l.getD k default=x at *
    cases hr:NC p.1 x with
    |none=>rw [hr]at g3;rw [g3]at ho;cases ho
    |
     some t =>
     rw [hr]at g1 g2;have g1:adV p.1 x=t.1:=g1;have g2:adE p.1 x=t.2:=g2;obtain⟨n1,n2⟩:=ap3 (t:=t.1) (e:=t.2) hr a2 a3;rw [g2]at o2 he ⊢;rw [g1,es];have ev:=R.FV (Rz (R.IX o1) (R.IX o2) he);refine⟨fun f hf i j=>?_,?_⟩
     ·rw [n1 f hf,TL,m1 f hf]
     rw [ev,CJ,<-m2];simp only [tot,dU]
     grind
   cases h
theorem abG{l:List Lk}(h:FT l=true):(∀f,(f=mW\/f=mX\/f=mY)->∀i j,RD f i j (Ox l)=RD f i j l)/\tot mZ (Ox l)+(U5 l).v=tot mZ l/\(U5 l).ok=true:=by
 unfold FT at h
 cases hg:Ud l with
 |none=>rw [hg]at h;cases h
 |
  some p =>
  have e1:Ox l=p.1:=by unfold Ox;rw [hg];rfl
  have e2:U5 l=p.2:=by unfold U5;rw [hg];rfl
  rw [e1,e2];unfold Ud at hg
  cases hf:Oc l l.length with
  |none=>rw [hf]at hg;cases hg
  |
   some q =>
   rw [hf]at hg;dsimp only at hg;split at hg
   ·rename_i ho
    cases hg
    have:=ahA (S:=p.1) (e:=p.2) (aK _) hf ho;rw [bK]at this;exact⟨this.1,this.2,ho⟩
   cases hg
theorem auu{l:List Lk}(h:FT l=true)(h':FT l.reverse=true):Ox l=Ox l.reverse/\U5 l=U5 l.reverse:=by
 obtain⟨a1,a2,a3⟩:=abG h;obtain⟨b1,b2,b3⟩:=abG h';have e:=ap4 (U6 (l:=l)).2.2.2 (U6 (l:=l.reverse)).2.2.2 fun f hf i j=>by rw [a1 f hf,b1 f hf,ahx]
 refine⟨e,R.adW a3 b3 ?_⟩;rw [ahy,<-a2,<-e]at b2
 grind
theorem ahB{s:List Lk}{l:Lk}(h1:lI s=true)(h2:pJ l=true)(hm:∀x∈s,x.a=l.a->x.b=l.b->Ou x l=true) :
  ∃t e,NC s l=some (t,e)/\(((∀y∈t,y∈s\/y=l)/\e=kZ 0)\/∃x∈s,x.a=l.a/\x.b=l.b/\(∀y∈t,y∈s\/y=Qz x l)/\e=Ot x l):=by
 obtain⟨hv,hp⟩:=ru.1 h1;have hpost:=Qb (l:=l) hp;have hpl:=J5 l s;unfold NC;dsimp only;generalize EJ l s=i at *;by_cases hc:i=s.length\/lK l (s.getD i default)=true
 ·rw [aQ hc];refine⟨_,_,rfl,.inl ⟨fun y hy=>?_,rfl⟩⟩;simp only [aN,aI]at hy;rcases hy with hy|rfl|hy
  ·exact .inl (dM hy)
  ·exact .inr rfl
  exact .inl (gq hy)
 rw [aO hc];have hi:i<s.length:=by
  rcases dV i s.length with k|k
  ·exact k
  exact absurd (.inl (by omega)) hc
 have hd:s.drop i=s.getD i default::s.drop (i+1):=by
  rw [dH hi,aj,au hi];rfl
 have hx0:=hpost (s.getD i default) (by rw [hd];simp);have hxl:lK l (s.getD i default)=false:=by
  cases hq:lK l (s.getD i default)
  ·rfl
  exact absurd (.inr hq) hc
 have hsm:=getD_mem (l:=s) hi;generalize s.getD i default=x at *;obtain⟨ea,eb⟩:=ND hx0 hxl;rw [aQ (hm x hsm ea eb)];refine⟨_,_,rfl,.inr ⟨x,hsm,ea,eb,fun y hy=>?_,rfl⟩⟩;simp only [aN,aI]at hy;rcases hy with hy|rfl|hy
 ·exact .inl (dM hy)
 ·exact .inr rfl
 exact .inl (gq hy)
structure Jn (B:Int) (x:Lk):Prop where
 ex:∃n p q:Int,(1<=n/\n<=9*B)/\(-(180*B)<=p/\p<=180*B)/\(-(180*B)<=q/\q<=180*B)/\x.w.q=some (n:Rat)/\x.dx.q=some ((p:Rat) / (n:Rat))/\x.dy.q=some ((q:Rat) / (n:Rat))
theorem Jn.mono{B C:Int}{x:Lk}(h:Jn B x)(hl:B<=C):Jn C x:=by
 obtain⟨n,p,q,h1,h2,h3,h4⟩:=h.ex;exact⟨n,p,q,by omega,by omega,by omega,h4⟩
theorem ahC{p n:Int}{N:Nat}(hp:p.natAbs<=N)(hn:1<=n)(h:n<=N):Ht ((p:Rat) / (n:Rat)) N:=by
 obtain⟨e,rfl⟩:∃e:Nat,n=(e:Int):=⟨n.toNat,by omega⟩;rw [<-Rat.divInt_eq_div];show Ht (mkRat p e) N;unfold mkRat
 rw [dif_neg (by omega)];exact Ny _ hp (by omega)
theorem abH{r:R}{n:Int}(e:r=kZ n)(h:n.natAbs<1000000000 ^ 24):r.q=some (n:Rat):=by rw [e];exact Jl h
theorem Jn.of{n:Int}{l:Lk}(h:SmN n l):Jn 1 l:=by
 obtain⟨w,hw,ew⟩:=h.w;obtain⟨x,hx,ex⟩:=h.dx;obtain⟨y,hy,ey⟩:=h.dy;have hne:(w:Rat)≠0:=fun e=>by have:=Rat.intCast_eq_zero_iff.1 e;omega
 have b1 : -180<=w*x/\w*x<=180:=by
  constructor
  ·have:w*(-20)<=w*x:=fF hx.1 (by omega);omega
  have:w*x<=w*20:=fF hx.2 (by omega);omega
 have b2 : -180<=w*y/\w*y<=180:=by
  constructor
  ·have:w*(-20)<=w*y:=fF hy.1 (by omega);omega
  have:w*y<=w*20:=fF hy.2 (by omega);omega
 refine⟨w,w*x,w*y,by omega,by omega,by omega,abH ew (by omega),?_,?_⟩
 ·rw [abH ex (by omega),fA];congr 1;grind
 rw [abH ey (by omega),fA];congr 1;grind
theorem ahD{n:Int}{l:Lk}(hn:n<=9)(h:SmN n l):pJ l=true:=by
 obtain⟨w,hw,ew⟩:=h.w;obtain⟨x,hx,ex⟩:=h.dx;obtain⟨y,hy,ey⟩:=h.dy;have kw:Rv l.w (w:Rat) 9:=(Pm (by omega) (by omega)).of_eq ew;have kx:Rv l.dx (x:Rat) 20:=(Pm (by omega) (by omega)).of_eq ex;have ky:Rv l.dy (y:Rat) 20:=(Pm (by omega) (by omega)).of_eq ey;exact apX ⟨h.ab.1,h.ab.2.1,by have:=h.ab.2.2;omega⟩ kw (Rat.intCast_pos.2 (by omega)) kx.ok ky.ok
theorem ams(n p m d:Rat)(h0:n≠0)(h:n+m≠0):(n*(p / n)+m*d) / (n+m)=(p+m*d) / (n+m):=by grind
theorem amu{B N:Int}{x l:Lk}(hB:B<=6)(hx:Jn B x)(hl:SmN N l):Ou x l=true/\Jn (B+1) (Qz x l)/\∃a,Rv (Ot x l) a (10 ^ 26):=by
 obtain⟨n,p,q,hn,hp,hq,en,ep,eq⟩:=hx.ex;obtain⟨m,hm,em⟩:=hl.w;obtain⟨d,hd,ed⟩:=hl.dx;obtain⟨c,hc,ec⟩:=hl.dy;have kw:Rv x.w (n:Rat) 63:=⟨en,amb (by omega) (by omega)⟩;have kx:Rv x.dx ((p:Rat) / (n:Rat)) 1260:=⟨ep,ahC (by omega) hn.1 (by omega)⟩;have ky:Rv x.dy ((q:Rat) / (n:Rat)) 1260:=⟨eq,ahC (by omega) hn.1 (by omega)⟩;have lw:Rv l.w (m:Rat) 9:=(Pm (by omega) (by omega)).of_eq em;have lx:Rv l.dx (d:Rat) 20:=(Pm (by omega) (by omega)).of_eq ed;have ly:Rv l.dy (c:Rat) 20:=(Pm (by omega) (by omega)).of_eq ec;have hn0:(n:Rat)≠0:=fun e=>by have:=Rat.intCast_eq_zero_iff.1 e;omega
 have h0:(n:Rat)+(m:Rat)≠0:=by
  rw [<-Rat.intCast_add];intro e;have:=Rat.intCast_eq_zero_iff.1 e;omega
 have rW:Rv (rD x l) _ _:=kw.add lw;have rX:Rv (IB x l) _ _:=((kw.mul kx).add (lw.mul lx)).div rW h0;have rY:Rv (Ob x l) _ _:=((kw.mul ky).add (lw.mul ly)).div rW h0;have sx:=kx.sub lx;have sy:=ky.sub ly;have rE:Rv (Ot x l) _ _:=((kw.mul lw).div rW h0).mul ((sx.mul sx).add (sy.mul sy));have b1 : -180<=m*d/\m*d<=180:=by
  constructor
  ·have:m*(-20)<=m*d:=fF hd.1 (by omega);omega
  have:m*d<=m*20:=fF hd.2 (by omega);omega
 have b2 : -180<=m*c/\m*c<=180:=by
  constructor
  ·have:m*(-20)<=m*c:=fF hc.1 (by omega);omega
  have:m*c<=m*20:=fF hc.2 (by omega);omega
 refine⟨by unfold Ou;rw [rW.ok,rX.ok,rY.ok,rE.ok];rfl,⟨n+m,p+m*d,q+m*c,by omega,by omega,by omega,?_,?_,?_⟩,_,rE.q,rE.h.mono (by decide)⟩
 ·show (rD x l).q=_;rw [rW.q,Rat.intCast_add]
 ·show (IB x l).q=_;rw [rX.q,Rat.intCast_add,Rat.intCast_add,fA,ams _ _ _ _ hn0 h0]
 show (Ob x l).q=_;rw [rY.q,Rat.intCast_add,Rat.intCast_add,fA,ams _ _ _ _ hn0 h0]
def Eb:Nat->Nat
 |0=>1
 |k+1=>2*(Eb k*10 ^ 26)
theorem ayg:∀k,k<=7->Eb k<1000000000 ^ 24:=by decide +kernel
theorem Yt{N:Int}{L:List Lk}(hN:N<=9)(hl:L.length<=7)(hs:∀l∈L,SmN N l):∀k,k<=L.length->∃S e a,Oc L k=some (S,e)/\(∀x∈S,Jn k x)/\Rv e a (Eb k)
 |0,_=>⟨[],kZ 0,((0:Int):Rat),rfl,by simp,Pm (by decide) (by decide)⟩
 |
  k+1,hk=>by
  obtain⟨S,e,a,hf,hj,he⟩:=Yt hN hl hs k (by omega);have hx:=hs _ (getD_mem (l:=L) (i:=k) (by omega));have i1:=(TA hf).1;dsimp only at i1;generalize hxe:L.getD k default=x at hx;have hxo:=ahD hN hx;have hmg:=fun y (hy:y∈S)=>amu (by omega:(k:Int)<=6) (hj y hy) hx;obtain⟨t,e',hr,hc⟩:=ahB i1 hxo fun y hy _ _=>(hmg y hy).1;obtain⟨g1,g2,g3⟩:=J6 i1 hxo;rw [hr]at g1 g2 g3;have g1:adV S x=t:=g1;have g2:adE S x=e':=g2;have g3:Tv S x=true:=g3;have hE:=ayg (k+1) (by omega);refine⟨t,qm e e',?_⟩;have hb:∃b,Rv e' b (10 ^ 26):=by
   rcases hc with ⟨_,rfl⟩|⟨y,hy,_,_,_,rfl⟩
   ·exact⟨((0:Int):Rat),Pm (by decide) (by decide)⟩
   exact(hmg y hy).2.2
  obtain⟨b,hb⟩:=hb;refine⟨a+b,by simp only [Oc,hf,hxe,g3,if_true,g1,g2],fun y hy=>?_,he.add hb hE⟩;have ec:((k+1:Nat):Int)=(k:Int)+1:=by omega
  rw [ec];rcases hc with ⟨h,_⟩|⟨z,hz,_,_,h,_⟩
  ·rcases h y hy with h|rfl
   ·exact(hj y h).mono (by omega)
   exact(Jn.of hx).mono (by omega)
  rcases h y hy with h|rfl
  ·exact(hj y h).mono (by omega)
  exact(hmg z hz).2.1
theorem aak{N:Int}{L:List Lk}(hN:N<=9)(hl:L.length<=7)(hs:∀l∈L,SmN N l):FT L=true:=by
 obtain⟨S,e,a,hf,_,he⟩:=Yt hN hl hs L.length (aK _);unfold FT Ud;rw [hf];dsimp only;rw [aQ he.ok];rfl
theorem af8{n:Nat}{L:List Lk}(h:aai n L):FT L=true/\FT L.reverse=true/\Ox L=Ox L.reverse/\U5 L=U5 L.reverse:=by
 have h1:=h.rn;have h2:=h.len;have o1:=aak (N:=(n:Int)+1) (by omega) (by omega) h.sm;have o2:=aak (N:=(n:Int)+1) (L:=L.reverse) (by omega) (by simp;omega) fun l hl=>h.sm l (List.mem_reverse.1 hl);exact⟨o1,o2,auu o1 o2⟩
abbrev nbA(s:List Lk)(x:Int):List Int:=nbI s x s.length
inductive Rch (s:List Lk) (v:Int):Int->Prop
 |base:Rch s v v
 |step {a b:Int}:Rch s v a->b∈nbA s a->Rch s v b
theorem ap6{s:List Lk}{x b:Int}:b∈nbA s x↔∃l∈s,afB x l=some b:=by
 unfold nbA nbI;rw [bK,List.mem_filterMap]
theorem auv{s:List Lk}(h:lI s=true){x b:Int}(hb:b∈nbA s x):0<=b/\b<10/\0<=x/\x<10:=by
 obtain⟨l,hl,e⟩:=ap6.1 hb;have:=qF (nZ h hl);unfold afB at e;split at e
 ·cases e;omega
 split at e
 ·cases e;omega
 cases e
theorem amv{s:List Lk}(h:lI s=true){v b:Int}(hr:Rch s v b):b=v\/(0<=b/\b<10/\0<=v/\v<10):=by
 induction hr with
 |base=>exact .inl rfl
 |
  step ha hb ih =>
  have:=auv h hb;rcases ih with rfl|ih
  ·exact .inr ⟨this.1,this.2.1,this.2.2⟩
  exact .inr ⟨this.1,this.2.1,ih.2.2⟩
theorem ahE{s:List Lk}(h:lI s=true){v:Int}{l:List Int}(hn:l.Nodup)(hl:∀a∈l,Rch s v a):l.length<=10:=by
 by_cases hv:0<=v/\v<10
 ·have:=zS (a:=l) (b:=[0,1,2,3,4,5,6,7,8,9]) hn fun a ha=>by
   have hb:0<=a/\a<10:=by
    rcases amv h (hl a ha)with rfl|k
    ·exact hv
    exact⟨k.1,k.2.1⟩
   simp only [aI,dD,or_false];omega
  simpa using this
 have:=zS (a:=l) (b:=[v]) hn fun a ha=>by
  rcases amv h (hl a ha)with rfl|k
  ·simp
  exact absurd k.2.2 hv
 simp at this;omega
def ahF(s:List Lk)(out:List Int)(x:Int):List Int:=(nbA s x).foldl UO out
def ap7(s:List Lk)(out:List Int):List Int:=out.foldl (ahF s) out
def Zi(s:List Lk)(v:Int):Nat->List Int
 |0=>[v]
 |n+1=>ap7 s (Zi s v n)
theorem adX:∀(l out:List Int) (a:Int),a∈l.foldl UO out↔a∈out\/a∈l
 | [],out,a=>by simp
 |
  x::l,out,a=>by
  rw [iH,adX l,X6,aI];constructor
  ·rintro((h|h)|h)
   ·exact .inr (.inl h)
   ·exact .inl h
   exact .inr (.inr h)
  rintro(h|h|h)
  ·exact .inl (.inr h)
  ·exact .inl (.inl h)
  exact .inr h
theorem adY:∀(l out:List Int),Asc out->Asc (l.foldl UO out)
 | [],out,h=>h
 |x::l,out,h=>adY l _ (SX h)
theorem Qc{s:List Lk}:∀(l out:List Int) (a:Int),a∈l.foldl (ahF s) out↔a∈out\/∃x∈l,a∈nbA s x
 | [],out,a=>by simp
 |
  x::l,out,a=>by
  rw [iH,Qc l];unfold ahF;rw [adX,or_assoc];simp only [aI,exists_eq_or_imp]
theorem ahG{s:List Lk}:∀(l out:List Int),Asc out->Asc (l.foldl (ahF s) out)
 | [],out,h=>h
 |x::l,out,h=>ahG l _ (adY _ _ h)
theorem WM(s:List Lk)(v:Int):∀n,Asc (Zi s v n)
 |0=>by unfold Asc Zi;simp
 |n+1=>ahG _ _ (WM s v n)
theorem WO(s:List Lk)(v:Int):∀n,∀a∈Zi s v n,Rch s v a
 |0,a,h=>by simp [Zi]at h;subst h;exact .base
 |
  n+1,a,h=>by
  rcases(Qc _ _ _).1 h with h|⟨x,hx,h⟩
  ·exact WO s v n a h
  exact .step (WO s v n x hx) h
theorem adZ(s:List Lk)(v:Int):∀n,v∈Zi s v n
 |0=>by simp [Zi]
 |n+1=>(Qc _ _ _).2 (.inl (adZ s v n))
theorem ap8{s:List Lk}(h:lI s=true)(v:Int)(n:Nat):(Zi s v n).length<=10:=ahE h (FK (WM s v n)) (WO s v n)
def Closed(s:List Lk)(l:List Int):Prop:=∀a∈l,∀b∈nbA s a,b∈l
theorem ad1{s:List Lk}(v:Int):∀n,Closed s (Zi s v n)\/n+1<=(Zi s v n).length
 |0=>.inr (by simp [Zi])
 |
  n+1=>by
  have hsub:∀a∈Zi s v n,a∈Zi s v (n+1):=fun a ha=>(Qc _ _ _).2 (.inl ha);rcases Classical.em (Closed s (Zi s v n))with hc|hc
  ·left;intro a ha b hb;have ha':a∈Zi s v n:=by
    rcases(Qc _ _ _).1 ha with h|⟨x,hx,h⟩
    ·exact h
    exact hc x hx a h
   exact hsub b (hc a ha' b hb)
  right;have hl:=(ad1 v n).resolve_left hc;have:∃a∈Zi s v n,∃b∈nbA s a,b∉Zi s v n:=by
   refine ig fun hne=>hc fun a ha b hb=>ig fun hnb=>hne ⟨a,ha,b,hb,hnb⟩
  obtain⟨a,ha,b,hb,hnb⟩:=this;have:=zS (a:=b::Zi s v n) (b:=Zi s v (n+1)) (dX.2 ⟨hnb,FK (WM s v n)⟩) fun x hx=>by
   rcases aI.1 hx with rfl|hx
   ·exact(Qc _ _ _).2 (.inr ⟨a,ha,hb⟩)
   exact hsub x hx
  simp only [ak]at this;omega
theorem af9{s:List Lk}(h:lI s=true)(v:Int):Closed s (Zi s v 10):=by
 rcases ad1 (s:=s) v 10 with hc|hc
 ·exact hc
 have:=ap8 h v 10;omega
def cpV(s:List Lk)(v:Int):List Int:=Zi s v 10
theorem ap9{s:List Lk}(h:lI s=true){v a:Int}:a∈cpV s v↔Rch s v a:=by
 constructor
 ·exact WO s v 10 a
 intro hr
 induction hr with
 |base=>exact adZ s v 10
 |step _ hb ih=>exact af9 h v _ ih _ hb
theorem ajo{l:List Int}(hn:l.Nodup):Asc (Vo l):=by
 have h1:(Vo l).Pairwise fun a b=>(decide (a<=b))=true:=by
  unfold Vo;exact List.pairwise_mergeSort (fun a b c h1 h2=>by simp at *;omega) (fun a b=>by simp;omega) l
 have h2:(Vo l).Nodup:=(List.mergeSort_perm l _).nodup_iff.2 hn;unfold Asc;refine(h1.and h2).imp fun ⟨h,hne⟩=>?_;have:_<=_:=of_decide_eq_true h;omega
theorem ajp{l:List Int}{a:Int}:a∈Vo l↔a∈l:=(List.mergeSort_perm l _).mem_iff
theorem aqa{s:List Lk}(h:lI s=true){v:Int}{l:List Int}(hn:l.Nodup)(hv:v∈l)(hr:∀a∈l,Rch s v a)(hc:Closed s l):Vo l=cpV s v:=by
 refine abg (ajo hn) (WM s v 10) fun a=>?_;rw [ajp,ap9 h];constructor
 ·exact hr a
 intro hra
 induction hra with
 |base=>exact hv
 |step _ hb ih=>exact hc _ ih _ hb
def addN(l:List Int)(u:Int):List Int:=if u∈l then l else l++[u]
theorem amw{l:List Int}{u a:Int}:a∈addN l u↔a∈l\/a=u:=by
 unfold addN;split
 ·rename_i h;constructor
  ·exact .inl
  rintro(k|rfl)
  ·exact k
  exact h
 simp
theorem aqb{l:List Int}{u:Int}(h:l.Nodup):(addN l u).Nodup:=by
 unfold addN;split
 ·exact h
 rename_i hu;rw [bF];exact⟨h,by simp,fun a ha b hb e=>by simp at hb;subst hb;exact hu (e▸ha)⟩
theorem ad2:∀(us l:List Int) (a:Int),a∈us.foldl addN l↔a∈l\/a∈us
 | [],l,a=>by simp
 |
  u::us,l,a=>by
  rw [iH,ad2 us,amw,aI,or_assoc]
theorem ahH:∀(us l:List Int),l.Nodup->(us.foldl addN l).Nodup
 | [],l,h=>h
 |u::us,l,h=>ahH us _ (aqb h)
theorem ad3:∀(us l:List Int),∃r,us.foldl addN l=l++r
 | [],l=>⟨[],by simp⟩
 |
  u::us,l=>by
  obtain⟨r,e⟩:=ad3 us (addN l u);rw [iH,e];unfold addN;split
  ·exact⟨r,rfl⟩
  exact⟨u::r,by simp⟩
structure Bfs (s:List Lk) (v:Int) (i:Nat) (l:List Int):Prop where
 nd:l.Nodup
 mem:v∈l
 rch:∀a∈l,Rch s v a
 le:i<=l.length
 cl:∀j,j<i->∀b∈nbA s (l.getD j 0),b∈l
theorem Bfs.start(s:List Lk)(v:Int):Bfs s v 0 [v]:=⟨by simp,by simp,fun a h=>by simp at h;subst h;exact .base,by simp,fun j h=>absurd h (dA _)⟩
theorem Bfs.next{s:List Lk}{v:Int}{i:Nat}{l:List Int}(h:Bfs s v i l)(hi:i<l.length):Bfs s v (i+1) ((nbA s (l.getD i 0)).foldl addN l):=by
 obtain⟨r,e⟩:=ad3 (nbA s (l.getD i 0)) l;have hm:=ad2 (nbA s (l.getD i 0)) l;have hli:l.getD i 0∈l:=by rw [aj,au hi];exact jO hi
 refine⟨ahH _ _ h.nd,(hm v).2 (.inl h.mem),fun a ha=>?_,by rw [e,aS];omega,fun j hj b hb=>?_⟩
 ·rcases(hm a).1 ha with ha|ha
  ·exact h.rch a ha
  exact .step (h.rch _ hli) ha
 have hjl:j<l.length:=by omega
 have ej:((nbA s (l.getD i 0)).foldl addN l).getD j 0=l.getD j 0:=by
  rw [e,aj,aj,bJ hjl]
 rw [ej]at hb;by_cases hji:j=i
 ·subst hji;exact(hm b).2 (.inr hb)
 exact(hm b).2 (.inl (h.cl j (by omega) b hb))
theorem Bfs.len{s:List Lk}(hk:lI s=true){v:Int}{i:Nat}{l:List Int}(h:Bfs s v i l):l.length<=10:=ahE hk h.nd h.rch
theorem Bfs.fin{s:List Lk}(hk:lI s=true){v:Int}{l:List Int}(h:Bfs s v l.length l):Vo l=cpV s v :=
 aqa hk h.nd h.mem h.rch fun a ha b hb=>by
  obtain⟨j,hj⟩:=bQ.1 ha;have hjl:=(aP.1 hj).1;exact h.cl j hjl b (by rw [aj,hj];exact hb)
def Ew:Fn:=⟨1,14,[.tmp 2],(sr [oN 2 mN] (.seq (rf 1 [oK 7 1 (oV 0),oK 8 1 (cl 87 [7]),oK 9 1 (cl 179 [8]),oK 6 1 (oV 9),oK 10 1 (ex 0 6),oK 11 1 (ex 1 6),oK 12 1 (ex 2 6),oN 4 (.alloc uz),oK 3 1 (oV 10),⟨none,none,1,.store 3 (.t 4) (.t 11),[]⟩,oK 5 1 (oV 12)]) (sr [oW 13 3,oW 2 13] .ret)))⟩
structure JA (T:Tb):Prop where
 hT:T 171=some Ew
 U8:FU T
 U9:FP T
theorem aga{i j:Int}:∀{L:List Lk},(∀x∈L,pJ x=true)->0<=RD mW i j L/\((∃x∈L,x.a=i/\x.b=j)->0<RD mW i j L)
 | [],_=>⟨by simp [RD],fun ⟨x,hx,_⟩=>by cases hx⟩
 |
  y::L,h=>by
  have ih:=aga (i:=i) (j:=j) (L:=L) fun x hx=>h x (by simp [hx]);have hy:0<mW y:=TK (h y (by simp));simp only [RD];by_cases e:y.a=i/\y.b=j
  ·rw [aQ e];have h1:=ih.1;have:0<mW y+RD mW i j L:=by grind
   exact⟨by grind,fun _=>this⟩
  rw [aO e,iO];refine⟨ih.1,fun ⟨x,hx,hh⟩=>ih.2 ⟨x,?_,hh⟩⟩;rcases aI.1 hx with rfl|hx
  ·exact absurd hh e
  exact hx
theorem abI{L:List Lk}(hok:FT L=true)(hL:∀x∈L,pJ x=true)(i j:Int):(∃x∈Ox L,x.a=i/\x.b=j)↔∃x∈L,x.a=i/\x.b=j:=by
 have hm:=(abG hok).1 mW (.inl rfl) i j;have hS:=ru.1 (U6 (l:=L)).2.2.2;have p1:=aga (i:=i) (j:=j) hS.1;have p2:=aga (i:=i) (j:=j) hL;constructor
 ·intro h;refine ig fun hne=>?_;have e:=Pn (f:=mW) (i:=i) (j:=j) (S:=L) fun y hy hh=>hne ⟨y,hy,hh⟩;have:=p1.2 h;rw [hm,e]at this;exact absurd this Rat.lt_irrefl
 intro h;refine ig fun hne=>?_;have e:=Pn (f:=mW) (i:=i) (j:=j) (S:=Ox L) fun y hy hh=>hne ⟨y,hy,hh⟩;have:=p2.2 h;rw [<-hm,e]at this;exact absurd this Rat.lt_irrefl
theorem auw{n:Int}{l:Lk}(h:SmN n l):(l.w.cn/\l.dx.cn/\l.dy.cn)/\l.wf:=by
 obtain⟨_,⟨a,ha,e1⟩,⟨b,hb,e2⟩,⟨c,hc,e3⟩⟩:=h;unfold Lk.wf;rw [e1,e2,e3];have h1:=zl (n:=a) (by omega);have h2:=zl (n:=b) (by omega);have h3:=zl (n:=c) (by omega);exact⟨⟨h1,h2,h3⟩,uq h1,uq h2,uq h3⟩
structure Oe (n:Nat) (S:List Lk):Prop where
 L:∃L,aai n L/\S=Ox L
 ok:lI S=true
 cn:∀x∈S,x.w.cn/\x.dx.cn/\x.dy.cn
 len:S.length<=101
 ab:∀x∈S,0<=x.a/\x.a<x.b/\x.b<=(n:Int)+1
 base:∀k,k<n->∃x∈S,x.a<=(k:Int)/\x.b=(k:Int)+1
 rn:1<=n/\n<=4
theorem Oe.wf{n:Nat}{S:List Lk}(h:Oe n S):Iz Lk.wf S:=U7 h.cn h.len
theorem Oe.sz{n:Nat}{S:List Lk}(h:Oe n S):PS Lk.sz S<=20000:=Yp h.cn h.len
theorem ayh{n:Nat}{L:List Lk}(h:aai n L):Oe n (Ox L):=by
 obtain⟨hok,_⟩:=af8 h;have hc:=U6 (l:=L);have hrn:=h.rn;have ayi:∀x∈L,pJ x=true:=fun x hx=>ahD (n:=(n:Int)+1) (by omega) (h.sm x hx);refine⟨⟨L,h,rfl⟩,hc.2.2.2,hc.1,hc.2.2.1,fun x hx=>?_,fun k hk=>?_,h.rn⟩
 ·obtain⟨y,hy,h1,h2⟩:=(abI hok ayi x.a x.b).1 ⟨x,hx,rfl,rfl⟩;have:=(h.sm y hy).ab;omega
 have hl:=h.len;have hm:=getD_mem (l:=L) (i:=k) (by omega);have hb:=h.base k hk;generalize L.getD k default=y at hm hb;obtain⟨x,hx,h1,h2⟩:=(abI hok ayi y.a y.b).2 ⟨y,hm,rfl,rfl⟩;have:=(h.sm y hm).ab;exact⟨x,hx,by omega,by omega⟩
theorem ajq{T:Tb}(h:JA T){x:List UInt8}(hx:x.length<=1048576):∃n S,Oe n S/\PF T 171 [bytesV x] (nY S):=by
 obtain⟨n,L,hL,cm⟩:=adS h.U8 hx;have hrn:=hL.rn;have hl:=hL.len;have cL:∀x∈L,x.w.cn/\x.dx.cn/\x.dy.cn:=fun x hx=>(auw (hL.sm x hx)).1;have cj:=abA h.U9 (l:=L) (U7 cL (by omega)) (by have:=Yp cL (by omega);omega);refine⟨n,Ox L,ayh hL,?_⟩;clear hL hrn hl cL;generalize Ox L=S at cj;generalize U5 L=e at cj;generalize FT L=b at cj;refine lQ nR h.hT ?_;simp only [Ew,Lz];refine ev ?_;refine jM cm ?_;refine ev ?_;refine jM cj ?_
 (refine ev ?_;try with_reducible exact aC)
def H2(a:Rat)(P N:Nat):Prop:=a.num.natAbs<=P/\a.den<=N
theorem NH{n:Int}{d P N:Nat}(h:d≠0)(h1:n.natAbs<=P)(h2:d<=N):H2 (Rat.normalize n d h) P N:=by
 rw [Rat.normalize_eq];refine⟨?_,dw (Nat.div_le_self _ _) h2⟩;show (n / (n.natAbs.gcd d:Nat)).natAbs<=P;refine dw ?_ h1;have hd:((n.natAbs.gcd d:Nat):Int)∣n:=Int.ofNat_dvd_left.2 (Nat.gcd_dvd_left _ _);rw [Int.natAbs_ediv_of_dvd hd];exact Nat.div_le_self _ _
theorem auy{a b:Rat}{P Q M N:Nat}(ha:H2 a P N)(hb:H2 b Q M):H2 (a*b) (P*Q) (N*M):=by
 rw [Rat.mul_def];refine NH _ ?_ (iK ha.2 hb.2);rw [iP];exact iK ha.1 hb.1
theorem amx{a b:Rat}{P Q M N:Nat}(ha:H2 a P N)(hb:H2 b Q M):H2 (a+b) (P*M+Q*N) (N*M):=by
 rw [Rat.add_def];have h1:(a.num*(b.den:Int)).natAbs<=P*M:=by
  rw [iP,dB];exact iK ha.1 hb.2
 have h2:(b.num*(a.den:Int)).natAbs<=Q*N:=by
  rw [iP,dB];exact iK hb.1 ha.2
 refine NH _ ?_ (iK ha.2 hb.2);have:=Int.natAbs_add_le (a.num*(b.den:Int)) (b.num*(a.den:Int));omega
theorem amy{a:Rat}{P N:Nat}(h:H2 a P N):H2 (-a) P N:=by
 unfold H2;rw [Rat.neg_num,Rat.neg_den,Int.natAbs_neg];exact h
theorem auz{a b:Rat}{P Q M N:Nat}(ha:H2 a P N)(hb:H2 b Q M):H2 (a-b) (P*M+Q*N) (N*M):=by
 rw [Rat.sub_eq_add_neg];exact amx ha (amy hb)
theorem aqd{p n:Int}{P N:Nat}(hp:p.natAbs<=P)(hn:1<=n)(h:n<=N):H2 ((p:Rat) / (n:Rat)) P N:=by
 obtain⟨e,rfl⟩:∃e:Nat,n=(e:Int):=⟨n.toNat,by omega⟩;rw [<-Rat.divInt_eq_div];show H2 (mkRat p e) P N;unfold mkRat
 rw [dif_neg (by omega)];exact NH _ hp (by omega)
theorem WQ{a:Rat}{P N:Nat}(h:H2 a P N)(hP:P<1000000000 ^ 24)(hN:N<1000000000 ^ 24):fits a=true:=by
 unfold fits;rw [aT (iC h.1 hP),aT (iC h.2 hN)];rfl
theorem H2.mono{a:Rat}{P N P' N':Nat}(h:H2 a P N)(hP:P<=P')(hN:N<=N'):H2 a P' N':=⟨dw h.1 hP,dw h.2 hN⟩
def Ft(P N:Nat):Bool:=decide (P<1000000000 ^ 24)&&decide (N<1000000000 ^ 24)
theorem abJ{P N:Nat}(h:Ft P N=true):P<1000000000 ^ 24/\N<1000000000 ^ 24:=by
 unfold Ft at h;simp only [aH,bf]at h;exact h
structure Rw (r:R) (a:Rat) (P N:Nat):Prop where
 q:r.q=some a
 h:H2 a P N
theorem Rw.add{r s:R}{a b:Rat}{P Q M N:Nat}(h1:Rw r a P N)(h2:Rw s b Q M)(hN:Ft (P*M+Q*N) (N*M)=true:=by decide +kernel):Rw (qm r s) (a+b) (P*M+Q*N) (N*M):=by
 have h:=amx h1.h h2.h;refine⟨?_,h⟩;rw [UL,h1.q,h2.q];exact yJ (WQ h (abJ hN).1 (abJ hN).2)
theorem Rw.sub{r s:R}{a b:Rat}{P Q M N:Nat}(h1:Rw r a P N)(h2:Rw s b Q M)(hN:Ft (P*M+Q*N) (N*M)=true:=by decide +kernel):Rw (vS r s) (a-b) (P*M+Q*N) (N*M):=by
 have h:=auz h1.h h2.h;refine⟨?_,h⟩;rw [XW,h1.q,h2.q];show norm (a + -b)=_;rw [<-Rat.sub_eq_add_neg];exact yJ (WQ h (abJ hN).1 (abJ hN).2)
theorem Rw.mul{r s:R}{a b:Rat}{P Q M N:Nat}(h1:Rw r a P N)(h2:Rw s b Q M)(hN:Ft (P*Q) (N*M)=true:=by decide +kernel):Rw (mulR r s) (a*b) (P*Q) (N*M):=by
 have h:=auy h1.h h2.h;refine⟨?_,h⟩;rw [XY,h1.q,h2.q];exact yJ (WQ h (abJ hN).1 (abJ hN).2)
theorem Rw.neg{r:R}{a:Rat}{P N:Nat}(h:Rw r a P N)(hN:Ft P N=true:=by decide +kernel):Rw (negR r) (-a) P N:=by
 refine⟨?_,amy h.h⟩;rw [afv,h.q];rfl
theorem Rw.ok{r:R}{a:Rat}{P N:Nat}(h:Rw r a P N):r.ok=true:=by
 rw [wJ,h.q];simp
theorem Rw.v{r:R}{a:Rat}{P N:Nat}(h:Rw r a P N):r.v=a:=R.FV h.q
theorem Rw.mono{r:R}{a:Rat}{P N P' N':Nat}(h:Rw r a P N)(hP:P<=P':=by decide +kernel)(hN:N<=N':=by decide +kernel):Rw r a P' N':=⟨h.q,h.h.mono hP hN⟩
theorem Rw.rv{r:R}{a:Rat}{P N M:Nat}(h:Rw r a P N)(hP:P<=M:=by decide +kernel)(hN:N<=M:=by decide +kernel):Rv r a M:=⟨h.q,dw h.h.1 hP,dw h.h.2 hN⟩
theorem Rw.val{r:R}{a b:Rat}{P N:Nat}(h:Rw r a P N)(e:a=b):Rw r b P N:=e▸h
theorem Rw.re{r:R}{a:Rat}{P N P' N':Nat}(h:Rw r a P N)(k:H2 a P' N'):Rw r a P' N':=⟨h.q,k⟩
theorem Rw.eq{r s:R}{a b:Rat}{P Q M N:Nat}(h1:Rw r a P N)(h2:Rw s b Q M)(hr:r.cn)(hs:s.cn)(e:a=b):r=s:=by
 rw [<-hr,<-hs,h1.q,h2.q,e]
def hb(P N:Nat):Nat->Nat×Nat
 |0=>(0,1)
 |k+1=>((hb P N k).1*N+P*(hb P N k).2,(hb P N k).2*N)
def enV(l:Lk)(p q:Pt):Rat:=l.w.v*((q.x.v-p.x.v-l.dx.v)*(q.x.v-p.x.v-l.dx.v)+(q.y.v-p.y.v-l.dy.v)*(q.y.v-p.y.v-l.dy.v))
theorem Yu(f:Lk->Rat){l:List Lk}{k:Nat}(h:k<l.length):tot f (l.take (k+1))=tot f (l.take k)+f (l.getD k default):=by
 rw [take_snoc h,CJ];show _+(f _+0)=_;rw [dU]
def Yv(l:List Lk)(a b:Int):Lk:=if lI l=true then(apI l a b).getD Lk0 else Lk0
def QB(v:Int)(l:Lk):Option Pa:=if l.a=v then some ⟨l.b,l.w,negR l.dx,negR l.dy⟩else if l.b=v then some ⟨l.a,l.w,l.dx,l.dy⟩else none
def KY(S:List Lk)(v:Int)(k:Nat):List Pa:=(S.take k).filterMap (QB v)
def oP(S:List Lk)(v:Int):List Pa:=KY S v S.length
theorem auA(S:List Lk)(v:Int):KY S v 0=[]:=by simp [KY]
theorem auB(S:List Lk)(v:Int){i:Nat}(h:i<S.length):KY S v (i+1)=KY S v i++(match QB v (S.getD i default)with|some n=>[n]|none=>[]):=by
 unfold KY;rw [take_snoc h,List.filterMap_append,List.filterMap_cons]
 cases QB v (S.getD i default)<;>rfl
theorem amz(S:List Lk)(v:Int)(k:Nat):(KY S v k).length<=k:=by
 unfold KY;exact dw (List.length_filterMap_le _ _) (by simp;omega)
def qZ(A:List Pa):R:=Nl A A.length
def JE(t:R)(a:Pa):Pa:=⟨a.node,uZ a.share t,a.dx,a.dy⟩
def oQ(v:Int)(A:List Pa):Cd:=⟨v,qZ A,A.map (JE (qZ A))⟩
def KZ(t:R)(a b:Pa):Lk:=⟨a.node,b.node,uZ (mulR a.share b.share) t,vS a.dx b.dx,vS a.dy b.dy⟩
def wP(A:List Pa)(i j:Nat):List Lk:=((A.drop (i+1)).take j).map (KZ (qZ A) (A.getD i default))
def tK(A:List Pa):Nat->List Lk
 |0=>[]
 |i+1=>tK A i++wP A i (A.length-(i+1))
def NI(A:List Pa):List Lk:=tK A A.length
theorem ad4(A:List Pa):(qZ A).cn:=SY _ _
theorem ahI(t:R)(a b:Pa):(KZ t a b).w.cn/\(KZ t a b).dx.cn/\(KZ t a b).dy.cn:=⟨Nk _ _,JW _ _,JW _ _⟩
theorem WR(A:List Pa)(i:Nat):wP A i 0=[]:=by simp [wP]
theorem abK(A:List Pa){i j:Nat}(h:i+1+j<A.length):wP A i (j+1)=wP A i j++[KZ (qZ A) (A.getD i default) (A.getD (i+1+j) default)]:=by
 unfold wP;rw [jf,bT]
 congr 1
 rw [dY,au (by omega),aj (i:=i+1+j),au (by omega)];rfl
theorem aal(A:List Pa)(i j:Nat):(wP A i j).length<=j:=by unfold wP;simp;omega
theorem RF(A:List Pa):∀i,(tK A i).length<=i*A.length
 |0=>fV _
 |
  i+1=>by
  have h1:=RF A i;have h2:=aal A i (A.length-(i+1));show (tK A i++wP A i (A.length-(i+1))).length<=(i+1)*A.length;rw [aS,eH];omega
theorem aam{A:List Pa}{i j:Nat}{x:Lk}(h:x∈wP A i j):∃k,i<k/\k<A.length/\x=KZ (qZ A) (A.getD i default) (A.getD k default):=by
 unfold wP at h;obtain⟨b,hb,rfl⟩:=bC.1 h;have hb:=dM hb;obtain⟨q,hq⟩:=bQ.1 hb;rw [dY]at hq;have hl:=(aP.1 hq).1;exact⟨i+1+q,by omega,hl,by rw [aj (i:=i+1+q),hq];rfl⟩
theorem JB{A:List Pa}{x:Lk}:∀{i:Nat},x∈tK A i->∃p k,p<i/\p<k/\k<A.length/\x=KZ (qZ A) (A.getD p default) (A.getD k default)
 |0,h=>by cases h
 |
  i+1,h=>by
  rcases aN.1 h with h|h
  ·obtain⟨p,k,h1,h2⟩:=JB h;exact⟨p,k,by omega,h2⟩
  obtain⟨k,h1,h2,h3⟩:=aam h;exact⟨i,k,by omega,h1,h2,h3⟩
theorem aqe{A:List Pa}:∀x∈NI A,x.w.cn/\x.dx.cn/\x.dy.cn:=fun x hx=>by
 obtain⟨p,k,_,_,_,rfl⟩:=JB hx;exact ahI _ _ _
def ajr(A:List Pa):Prop:=∀i j,i<j->j<A.length->(A.getD i default).node<(A.getD j default).node
theorem ahJ{A:List Pa}(h:∀i,i+1<A.length->(A.getD i default).node<(A.getD (i+1) default).node):ajr A
 |i,0,hij,_=>absurd hij (dA _)
 |
  i,j+1,hij,hj=>by
  by_cases e:i=j
  ·subst e;exact h i hj
  exact Int.lt_trans (ahJ h i j (by omega) (by omega)) (h j hj)
theorem ad5{A:List Pa}(h:ajr A){i:Nat}:∀j,i+1+j<=A.length->(wP A i j).Pairwise fun k l=>lK k l=true
 |0,_=>by rw [WR];exact .nil
 |
  j+1,hj=>by
  rw [abK A (by omega),jC];refine⟨ad5 h j (by omega),by simp,fun x hx y hy=>?_⟩;rw [bD.1 hy];unfold wP at hx;obtain⟨b,hb,rfl⟩:=bC.1 hx;obtain⟨q,hq⟩:=bQ.1 hb;rw [List.getElem?_take]at hq;split at hq
  ·rw [dY]at hq;have e:b=A.getD (i+1+q) default:=by rw [aj,hq];rfl
   rw [wK];refine .inr ⟨rfl,?_⟩;rw [e];exact h _ _ (by omega) (by omega)
  cases hq
theorem aan{A:List Pa}(h:ajr A):∀i,i<=A.length->(tK A i).Pairwise fun k l=>lK k l=true
 |0,_=>.nil
 |
  i+1,hi=>by
  show (tK A i++wP A i (A.length-(i+1))).Pairwise _;rw [jC];refine⟨aan h i (by omega),ad5 h _ (by omega),fun x hx y hy=>?_⟩;obtain⟨p,k,h1,_,_,rfl⟩:=JB hx;obtain⟨q,_,_,rfl⟩:=aam hy;rw [wK];exact .inl (h _ _ h1 (by omega))
theorem Ey{v:Int}{A:List Pa}{i:Nat}(h:i<A.length):(oQ v A).ps.getD i default=JE (qZ A) (A.getD i default):=by
 show (A.map _).getD i default=_;rw [aj,bM,au h,aj,au h];rfl
theorem auC{v:Int}{A:List Pa}(h:zB (oQ v A)=true):ajr A:=by
 have hl:(oQ v A).ps.length=A.length:=aU ..;unfold zB at h;simp only [aH,bf]at h;refine ahJ fun i hi=>?_;have:=h.1.1.1.1 (i+1) (by rw [hl];exact hi);unfold O6 at this;rw [Ey hi,Nat.add_sub_cancel,Ey (by omega)]at this;simp only [aH,dQ,bf]at this;rcases this.1.1.1.2 with e|e
 ·omega
 exact e
def V4(S:List Lk)(v:Int):Bool:=lI S&&inB v 1 9&&zB (oQ v (oP S v))&&(NI (oP S v)).all pJ
def elC(S:List Lk)(v:Int):Cd:=if V4 S v=true then oQ v (oP S v)else⟨0,R0,[]⟩
def elM(S:List Lk)(v:Int):List Lk:=if V4 S v=true then NI (oP S v)else []
theorem amA{S:List Lk}{v:Int}(h:V4 S v=false):elC S v=⟨0,R0,[]⟩/\elM S v=[]:=by
 unfold elC elM;rw [h];exact⟨rfl,rfl⟩
theorem ad6{S:List Lk}{v:Int}(h:V4 S v=true):elC S v=oQ v (oP S v)/\elM S v=NI (oP S v):=by
 unfold elC elM;rw [h];exact⟨rfl,rfl⟩
theorem amB{S:List Lk}(h:lI S=true){v:Int}{a:Pa}{k:Nat}(ha:a∈KY S v k):a.share.ok=true/\a.dx.cn/\a.dy.cn/\0<=a.node/\a.node<=9:=by
 unfold KY at ha;obtain⟨l,hl,e⟩:=List.mem_filterMap.1 ha;have hk:=nZ h (dM hl);have h1:=Aw hk;have h2:=qF hk;unfold QB at e;split at e
 ·cases e;exact⟨h1.1,Wy _,Wy _,by dsimp only;omega,by dsimp only;omega⟩
 split at e
 ·cases e;exact⟨h1.1,EO h1.2.1,EO h1.2.2.1,by dsimp only;omega,by dsimp only;omega⟩
 cases e
def Yw(S:List Lk)(v n:Int):Pa:=if (Yv S n v).a=v then⟨n,(Yv S n v).w,negR (Yv S n v).dx,negR (Yv S n v).dy⟩else⟨n,(Yv S n v).w,(Yv S n v).dx,(Yv S n v).dy⟩
theorem aqf{S:List Lk}(h:lI S=true){x y:Lk}(hx:x∈S)(hy:y∈S)(ha:x.a=y.a)(hb:x.b=y.b):x=y:=by
 have hp:=(ru.1 h).2;rw [fO]at hp;obtain⟨i,hi⟩:=bQ.1 hx;obtain⟨j,hj⟩:=bQ.1 hy;obtain⟨hil,hie⟩:=aP.1 hi;obtain⟨hjl,hje⟩:=aP.1 hj;rcases Nat.lt_trichotomy i j with k|k|k
 ·have:=hp i j hil hjl k;rw [hie,hje,wK]at this;omega
 ·subst k;rw [<-hie,<-hje]
 have:=hp j i hjl hil k;rw [hie,hje,wK]at this;omega
theorem ahK{S:List Lk}(h:lI S=true){x:Lk}(hx:x∈S){a b:Int}(hp:lkP a b x=true):apI S a b=some x:=by
 cases hf:apI S a b with
 |
  none =>
  have:=List.find?_eq_none.1 hf x hx;exact absurd hp this
 |
  some y =>
  have hy:=alG hf;have hq:lkP a b y=true:=List.find?_some hf;have n1:=qF (nZ h hx);have n2:=qF (nZ h hy);unfold lkP at hp hq;simp only [dQ,aH,bf]at hp hq;rw [aqf h hy hx (by omega) (by omega)]
theorem ad7{α β:Type}{f g:α->Option β}:∀{l:List α},(∀x∈l,f x=g x)->l.filterMap f=l.filterMap g
 | [],_=>rfl
 |x::l,h=>by rw [List.filterMap_cons,List.filterMap_cons,h x (by simp),ad7 fun y hy=>h y (by simp [hy])]
theorem ahL{S:List Lk}(h:lI S=true)(v:Int):((nbI S v S.length).map (Yw S v))=oP S v:=by
 unfold nbI oP KY;rw [bK,List.map_filterMap];refine ad7 fun l hl=>?_;have n1:=qF (nZ h hl);unfold afB QB;by_cases e1:l.a=v
 ·have hf:Yv S l.b v=l:=by
   unfold Yv;rw [aQ h,ahK h hl (by unfold lkP;simp only [dQ,aH,bf];exact .inr ⟨e1,trivial⟩)];rfl
  rw [aQ e1,aQ e1];show some (Yw S v l.b)=_;unfold Yw;rw [hf,aQ e1]
 rw [aO e1,aO e1];by_cases e2:l.b=v
 ·have hf:Yv S l.a v=l:=by
   unfold Yv;rw [aQ h,ahK h hl (by unfold lkP;simp only [dQ,aH,bf];exact .inl ⟨trivial,e2⟩)];rfl
  rw [aQ e2,aQ e2];show some (Yw S v l.a)=_;unfold Yw;rw [hf,aO e1]
 rw [aO e2,aO e2];rfl
def LnA(s:Store)(v:V)(L:List Lk):Prop:=(L=[]/\v=.jZ)\/∃p,v=.lG p 0 L.length/\jX s p=some ⟨11,L.map Lk.cells⟩
theorem LnA.fr{s s2:Store}{v:V}{L:List Lk}(h:LnA s v L)(hf:∀p,p<s.length->jX s2 p=jX s p):LnA s2 v L :=
 h.imp id fun ⟨q,e,hq⟩=>⟨q,e,(hf q (kX hq)).trans hq⟩
theorem rrE{m:List (List R)}{c:Int}(h0:m.length=0)(hc:0<=c):rrM m c=[]/\rrB m c=true:=by
 have em:m=[]:=aY h0;subst em;have hC:rrC [] c=true:=by
  unfold rrC;rw [aT (by simpa using hc),dI];rfl
 obtain⟨e1,e2⟩:=Pg hC (M:=xG []) rfl;exact⟨e1,e2⟩
theorem WS{ops:List ql}{L:Nat}{acc:List Acc}(l:List Nat)(l0:List Acc)(hn:l.Nodup)(hl:∀o∈l,o<L)(he:acc=l0.map (VY (gN l L)))(h:rO l.length ops l0):rO L ops acc:=ahl (alX hl hn) (ahm hl) he h
theorem Og{T:Tb}(h:C9 T){m:List (List R)}{b:List R}(wm:Iz (Iz R.wf) m)(wb:Iz R.wf b):PO T 231 [rG m,oZ b] (.oJ [oZ (Qx m b),.bool (Yi m b)]):=by
 have lm:=wm.1;have lb:=wb.1;have c1:=VG h.Iu (m:=m) (cols:=(m.length:Nat)) wm (by omega)
 cases hc:ssC m b
 ·obtain⟨e1,e2⟩:=aya hc;rw [e1,e2];unfold ssC at hc;generalize BA m (m.length:Nat)=x at c1 hc;have hx:x=false\/x=true:=by cases x<;>simp
  refine lW nR h.hT ?_;simp only [rV,Lz,St.enter,ak,aG,aV];refine ew ?_;refine jM c1 ?_;rcases hx with hx|hx
  ·refine y8 @hx ?_;exact(qC (sz:=3)).Ic
  have hlt:(((b.length:Nat):Int)=(m.length:Nat))=False:=iy fun e=>by
   rw [hx,cZ,decide_eq_false_iff_not]at hc;omega
  refine Af @hx @hlt ?_;exact(qC (sz:=3)).Ic
 obtain⟨h10,hbl,hmo,hml⟩:=al2 hc;rw [hmo]at c1;have hlt:(((b.length:Nat):Int)=(m.length:Nat))=True:=gZ (by omega);have wW:=aug wm wb hml hbl h10;have hWl:(Yh m b).length=m.length:=LX _ _;have PR:=Ye h.Tj (m:=Yh m b) (c:=(m.length:Nat)+1) wW (fun hc=>auf (by omega) hc) (by omega);clear lm lb wm wb;rcases gU m.length with h0|h0
 ·obtain⟨e1,e2⟩:=rrE (m:=Yh m b) (c:=(m.length:Nat)+1) (by omega) (by omega);obtain⟨e3,e4⟩:=adH hc e2;rw [e3,e4,e1];rw [e1,e2]at PR;have PR0:=auh (as':=[.jZ,iv ((m.length:Nat)+1)]) PR (by
   rw [show Yh m b=[]from aY (by omega)];simp only [wS,mP];exact⟨_,_,rfl,.inl ⟨rfl,.inl rfl⟩,_,_,rfl,rfl,rfl⟩)
  refine lW (fun x d=>x == 243) h.hT ?_;simp only [rV,Lz,St.enter,ak,aG,aV];refine ew ?_;refine jM c1 ?_;refine y8 @hlt ?_;refine kV (fun x d=>x == 243) (α:=Nat) (fun i=>⟨mM [.any,.any,.any,.any,.any,.any,iv (m.length:Nat),.jZ,.any,.any,.any,.any,.any,.any,.any,.any,.any,.any,.any,.any,.any,.any,.any,.any,.any,.any,.any,.any,rG m,iv (m.length:Nat),iv (i:Nat)],[none],0,0,[],[]⟩) (fun i=>i=0) (fun i=>i) rfl 0 ?_ ?_ ?_
  ·rfl
  ·(refine kN ?_;exact uT)
  rintro i hi;have hcc:¬((i:Int)<(m.length:Nat)):=by omega
  refine y8 @hcc ?_;refine nK PR0 (by (refine ew ?_;try with_reducible exact aC)) ?_;intro r s1 o1 G;obtain⟨v,rfl,G1⟩:=G.Ic;have hv:=G1.ow;rcases hv.XE with ⟨_,rfl,_⟩|⟨p,R0,os,rfl,hp,_⟩
  ·refine ew ?_;refine kV (fun x d=>x == 243) (α:=Nat) (fun k=>⟨mM [.any,.any,.any,.any,.any,.any,.any,.any,.any,.any,.any,.any,.jZ,.any,.any,.any,.any,.any,.any,.any,.any,.any,.any,.any,.any,.any,.any,.any,.any,.any,.any,.any,.any,.any,.any,.any,.any,.any,.any,.any,.any,.any,.any,.any,.any,.any,.any,.any,.any,.any,.any,.any,.any,.any,.any,.any,.any,.any,.sl 1 [],iv 0,iv (k:Nat)],s1++[none],0,0,[],[]⟩) (fun k=>k=0) (fun k=>k) rfl 0 ?_ ?_ ?_
   ·rfl
   ·(refine kN ?_;exact uT)
   rintro k hk;have hcc:¬((k:Int)<0):=by omega
   refine y8 @hcc ?_;exact(qC (sz:=3)).Ic
  refine y8 @hp ?_;refine kV (fun x d=>x == 243) (α:=Nat) (fun k=>⟨mM [.any,.any,.any,.any,.any,.any,.any,.any,.any,.any,.any,.any,.jZ,.any,.any,.any,.any,.any,.any,.any,.any,.any,.any,.any,.any,.any,.any,.any,.any,.any,.any,.any,.any,.any,.any,.any,.any,.any,.any,.any,.any,.any,.any,.any,.any,.any,.any,.any,.any,.any,.any,.any,.any,.any,.any,.any,.any,.any,.lG p 0 0,iv 0,iv (k:Nat)],s1++[none],0,0,[],[]⟩) (fun k=>k=0) (fun k=>k) rfl 0 ?_ ?_ ?_
  ·rfl
  ·(refine kN ?_;exact uT)
  rintro k hk;have hcc:¬((k:Int)<0):=by omega
  refine y8 @hcc ?_;exact(qC (sz:=3)).Ic
 refine lW (fun x d=>x == 243) h.hT ?_;simp only [rV,Lz,St.enter,ak,aG,aV];refine ew ?_;refine jM c1 ?_;refine y8 @hlt ?_;refine kV (fun x d=>x == 243) (α:=Nat×Store×V×Nat×(Nat->Nat)) (fun q=>⟨mM [.any,oZ b,.any,.any,.any,.any,iv (m.length:Nat),q.2.2.1,.any,.any,.any,.any,.any,.any,.any,.any,.any,.any,.any,.any,.any,.any,.any,.any,.any,.any,.any,.any,rG m,iv (m.length:Nat),iv (q.1:Nat)],q.2.1,0,0,[],[]⟩) (fun q=>q.1<=m.length/\((q.1=0/\q.2.2.1=.jZ)\/(0<q.1/\q.2.2.1=.lG q.2.2.2.1 0 q.1/\MH q.2.1 q.2.2.2.1 q.1 (m.length+1) q.2.2.2.2 (fun x=>(ssW m b x).map R.cells) (ssW m b)))) (fun q=>m.length-q.1) rfl (0,[none],.jZ,0,fun _=>0) ?_ ?_ ?_
 ·exact⟨by omega,.inl ⟨rfl,rfl⟩⟩
 ·(refine kN ?_;exact uT)
 rintro⟨i,s,v7,qo,rp⟩ ⟨hi,hM⟩;dsimp only at hi hM;by_cases hcc:(i:Int)<(m.length:Nat)
 ·have hil:i<m.length:=by omega
  have hib:(i:Int)<(b.length:Nat):=by omega
  have hai:(m.map fun r=>[oZ r]).getD i []=[oZ (m.getD i default)]:=mg (f:=fun r:List R=>[oZ r]) hil;have hbi:(b.map R.cells).getD i []=(b.getD i default).cells:=mg (by omega);have hri:=hml i hil;have emf:(ssW m b i).map R.cells=(m.getD i default).map R.cells++[(b.getD i default).cells]:=by unfold ssW;rw [bT];rfl
  generalize m.getD i default=r at *;generalize b.getD i default=y at *;have hne:(r.map R.cells=[])=False:=iy fun e=>by
   have:=congrArg List.length e;simp at this;subst this;simp at hri;omega
  rcases hM with ⟨rfl,rfl⟩|⟨hi0,rfl,hM⟩
  ·refine EN @hcc (ah hai hbi) @hne ?_;refine⟨⟨by omega,by omega⟩,⟨by omega,by omega⟩,by decide,?_,?_⟩
   ·have hn0:0<=List.length s:=fV _;generalize List.length s=z at hn0 ⊢
    revert z
    refine yA _ _ 0 (fun n hn=>?_) (fun n hn=>?_) ?_
    ·simp only [sh];split<;>omega
    ·simp [XG,sh];try omega
    unfold rO;decide +kernel
   refine⟨(0+1,?st,.lG (s.length+5) 0 1,s.length+5,fun x=>if x=0 then s.length+3 else rp x),?c1,⟨?c2,.inr ⟨by omega,rfl,?c4⟩⟩,?c3⟩
   case c3=>dsimp only;(refine kN ?_;exact uT)
   case c1=>dsimp only;omega
   case c2=>dsimp only;omega
   case c4 =>
    dsimp only;refine P8 (s:=s) (q:=0) (.inl rfl) ?_ ?_ (by omega) (fun o ho _=>?_)
    ·rw [kT (by simp)];rw [hri];rfl
    ·rw [emf];exact Ib
    exact Ib
  have hq:=hM.out;have hql:=hM.lt.1;have hoc:=LV i (m.length+1) rp;refine Jg @hcc (ah hai hbi) @hne @hq @hoc ?_;refine⟨⟨by omega,by omega⟩,⟨by omega,by omega⟩,⟨by omega,by omega⟩,?_,?_⟩
  ·refine WS [qo,s.length+1,s.length+2,s.length+3,s.length+4,s.length+5] [⟨12,[],[],false⟩,⟨11,[0,4],[0,5],false⟩,⟨10,[],[4],false⟩,⟨9,[1,2],[1,3],false⟩,⟨8,[],[2],false⟩,⟨7,[],[],false⟩,⟨6,[],[],false⟩,⟨5,[],[],false⟩,⟨4,[],[],false⟩,⟨3,[],[1],false⟩,⟨2,[],[],false⟩,⟨1,[],[],false⟩,⟨0,[],[],false⟩] ?_ ?_ rfl ?_
   ·simp;omega
   ·simp;omega
   show rO 6 _ _;unfold rO;decide +kernel
  refine⟨(i+1,?st2,.lG (s.length+5) 0 (i+1),s.length+5,fun x=>if x=i then s.length+3 else rp x),?c1,⟨?c2,.inr ⟨by omega,rfl,?c4⟩⟩,?c3⟩
  case c3=>dsimp only;(refine kN ?_;exact uT)
  case c1=>dsimp only;omega
  case c2=>dsimp only;omega
  case c4 =>
   dsimp only;refine P8 (s:=s) (q:=qo) (.inr hM) ?_ ?_ (by omega) (fun o ho hne=>?_)
   ·rw [kT (by simp)];rw [hri]
   ·rw [emf];have:s.length+3≠qo:=by omega
    exact Ib
   exact Ib
 have hie:i=m.length:=by omega
 subst hie;rcases hM with ⟨h1,_⟩|⟨_,rfl,hM⟩
 ·omega
 have Rf:=hM.res fun i hi=>by unfold ssW;rw [aS,hml i hi];rfl
 have Rf:resolve s FD (.lG qo 0 m.length)=some (rG (Yh m b)):=Rf;refine Af @hcc @Rf ?_;refine nK PR (by (refine y8 @Rf ?_;try with_reducible exact aC)) ?_;intro r s1 o1 G
 cases hb:rrB (Yh m b) ((m.length:Nat)+1)
 ·obtain⟨e1,e2⟩:=ayb hb;rw [e1,e2];rw [hb]at G;obtain⟨v,rfl,G1⟩:=G.Ic;refine ew ?_;exact(qC (sz:=3)).Ic
 obtain⟨e1,e2⟩:=adH hc hb;rw [e1,e2];rw [hb]at G;obtain⟨v,rfl,G1⟩:=G.Ic;obtain⟨M,eM,hOM,_⟩:=afN hb;rw [hWl]at eM hOM;have hlM:∀i,i<m.length->(M i).length=m.length+1:=fun i hi=>by have:=(hOM i hi).1;omega
 have hRl:(rrM (Yh m b) ((m.length:Nat)+1)).length=m.length:=by rw [eM];simp
 obtain⟨q2,rp2,A,f,rfl,hM2,hO,hfo⟩:=apU (c:=m.length+1) (by omega) G1.ow G1.nd (fun r hr=>by
  rw [eM]at hr;obtain⟨i,hi,rfl⟩:=bC.1 hr;exact hlM i (eG.1 hi)) (by omega)
 rw [hRl]at hM2 hO hfo ⊢;have hmf:∀i,i<m.length->xG (rrM (Yh m b) ((m.length:Nat)+1)) i=M i:=fun i hi=>by rw [eM];exact Yg hi
 have hM2:=hM2.ext hmf;have hO:=hO.ext (M2:=M) (S2:=fun i=>i<m.length) fun i hi=>⟨hi,hmf i hi⟩;have hq2:=hM2.out;have aue:=hM2.lt.1;rw [eM,fG];clear hM Rf eM hmf PR;refine y8 @hq2 ?_;refine kV (fun x d=>x == 243) (α:=Nat×Store×V×Nat) (fun q=>⟨mM [.any,.any,.any,.any,.any,.any,iv (m.length:Nat),.any,.any,.any,.any,.any,q.2.2.1,.any,.any,.any,.any,.any,.any,.any,.any,.any,.any,.any,.any,.any,.any,.any,.any,.any,.any,.any,.any,.any,.any,.any,.any,.any,.any,.any,.any,.any,.any,.any,.any,.any,.any,.any,.any,.any,.any,.any,.any,.any,.any,.any,.any,.any,.lG q2 0 m.length,iv (m.length:Nat),iv (q.1:Nat)],q.2.1,0,0,[],[]⟩) (fun q=>q.1<=m.length/\((q.1=0/\q.2.2.1=.jZ)\/(0<q.1/\q.2.2.1=.lG q.2.2.2 0 q.1/\jX q.2.1 q.2.2.2=some ⟨3,(List.range q.1).map fun x=>(A x).getD m.length []⟩/\s1.length<=q.2.2.2))/\(∀o,o<s1.length->jX q.2.1 o=jX s1 o)/\s1.length<=q.2.1.length) (fun q=>m.length-q.1) rfl (0,s1++[none],.jZ,0) ?_ ?_ ?_
 ·exact⟨fV _,.inl ⟨rfl,rfl⟩,fun o ho=>kQ ho,by simp⟩
 ·(refine kN ?_;exact uT)
 rintro⟨i,u,v12,p⟩ ⟨hi,hL,huo,hul⟩;dsimp only at hi hL huo hul;by_cases hci:(i:Int)<(m.length:Nat)
 ·have hil:i<m.length:=by omega
  obtain⟨a1,a2,gA,ka1,ka2⟩:=hM2.cell hlM hil (j:=m.length) (by omega);have gA2:(A i)[m.length]? = some ((A i).getD m.length []):=al0 (by rw [(hM2.cel i hil).1,hlM i hil];omega);have eA:(A i).getD m.length []=[.bool (KR M i m.length).neg,a1,a2]:=by
   rw [gA]at gA2;exact(Option.some.inj gA2).symm
  have hqu:=(huo q2 aue).trans hq2;have hru:=(huo _ (hM2.lt.2 i hil)).trans (hM2.row i hil);have gi:=J3 (c:=m.length+1) (rp:=rp2) hil;have lx:=ah ka1.leaf ka2.leaf;have es:((List.range (i+1)).map fun x=>(A x).getD m.length [])=((List.range i).map fun x=>(A x).getD m.length [])++[[.bool (KR M i m.length).neg,a1,a2]]:=by
   rw [iY,bT,bV,iM,eA]
  generalize KR M i m.length=x at *;have hnn:(m.length:Int)<(m.length:Nat)+1:=by omega
  rcases hL with ⟨rfl,rfl⟩|⟨hi0,rfl,hp,hpl⟩
  ·refine Du @hci (ah hqu hru) (ah gi gA) @lx ?_;refine⟨by omega,?_⟩;refine⟨(0+1,?st3,.lG (u.length+1) 0 1,u.length+1),?c1,⟨?c2,.inr ⟨by omega,rfl,?c4,?c5⟩,?c6,?c7⟩,?c3⟩
   case c3=>dsimp only;(refine kN ?_;exact uT)
   case c1=>dsimp only;omega
   case c2=>dsimp only;omega
   case c4 =>
    dsimp only;rw [es];exact kT (by simp<;>omega)
   case c5=>dsimp only;omega
   case c6 =>
    dsimp only;intro o ho;rw [<-huo o ho];exact Ib
   case c7=>simp;omega
  have hpu:=kX hp;have hrl:((List.range i).map fun x=>(A x).getD m.length []).length=i:=by simp
  refine Ia @hci (ah hqu hru) (ah gi gA) @lx @hp @hrl ?_;refine⟨by omega,?_⟩;refine⟨(i+1,?st4,.lG (u.length+1) 0 (i+1),u.length+1),?c1,⟨?c2,.inr ⟨by omega,rfl,?c4,?c5⟩,?c6,?c7⟩,?c3⟩
  case c3=>dsimp only;(refine kN ?_;exact uT)
  case c1=>dsimp only;omega
  case c2=>dsimp only;omega
  case c4 =>
   dsimp only;rw [es];exact kT (by simp<;>omega)
  case c5=>dsimp only;omega
  case c6 =>
   dsimp only;intro o ho;have:o≠p:=by omega
   rw [<-huo o ho];exact Ib
  case c7=>simp;omega
 have hie:i=m.length:=by omega
 rcases hL with ⟨h1,_⟩|⟨_,rfl,hp,hpl⟩
 ·omega
 obtain⟨os,k1,k2,k3⟩:=hO.col hlM (j:=m.length) (by omega) m.length (aK _);have hlt:∀o∈os,o<s1.length:=fun o ho=>k1.lt o ho;subst hie;refine y8 @hci ?_;refine Fin.Ic (wZ (os:=p::os) ?_ (dX.2 ⟨fun hm=>by have:=hlt p hm;omega,k2⟩));unfold oZ;simp only [mJ];refine .inr ⟨p,_,os,by simp,hp,rfl,?_⟩;exact k1.frame fun o ho=>huo o (hlt o ho)
def svC(l:List Cd)(k:Nat):Cd:=l.getD (l.length-1-k) default
def svM(l:List Cd):Nat->Nat
 |0=>0
 |k+1=>max (svM l k) (l.getD k default).node.toNat
def svP(m:Nat):List Pt:=(List.replicate (m+1) ⟨R0,R0⟩).set 0 ⟨kZ 0,kZ 0⟩
def Ql(l:List Cd):Nat->List Pt
 |0=>svP (svM l l.length)
 |k+1=>(Ql l k).set (svC l k).node.toNat (acV (svC l k) (Ql l k))
noncomputable def svG(l:List Cd):Bool:=ahc l&&(List.range l.length).all fun k=>adt (svC l k) (Ql l k)
noncomputable def svV(l:List Cd):List Pt:=if svG l=true then Ql l l.length else []
theorem TM{l:List Cd}(h:svG l=true):svV l=Ql l l.length:=by unfold svV;rw [aQ h]
theorem aqg{l:List Cd}(hn:ahc l=true)(h:∀k,k<l.length->adt (svC l k) (Ql l k)=true):svG l=true:=by
 unfold svG;rw [hn,cZ,aX];intro k hk;exact h k (eG.1 hk)
theorem agd{l:List Cd}:∀k,∀i,i<k->(l.getD i default).node.toNat<=svM l k
 |0,i,hi=>by omega
 |
  k+1,i,hi=>by
  unfold svM;by_cases e:i=k
  ·subst e;omega
  have:=agd (l:=l) k i (by omega);omega
theorem WT(l:List Cd):∀k,(Ql l k).length=svM l l.length+1
 |0=>by unfold Ql svP;simp
 |k+1=>by unfold Ql;rw [bY,WT l k]
def ptz:List V:=[.bool false,.jZ,.jZ,.bool false,.jZ,.jZ]
def J8(σ:Store)(p:Nat)(ob:Obj)(os:List Nat):Store:=(List.range σ.length).map fun k=>if k=p then some ob else if k∈os then jX σ k else none
def keepW(σ:Store)(p n:Nat)(os:List Nat):PD:=(List.range σ.length).map fun k=>if k=p then some (p,0,n)else if k∈os then(jX σ k).map (fun ob=>(k,0,ob.rows.length))else none
theorem zW{σ:Store}{p:Nat}{ob:Obj}{os:List Nat}{k:Nat}(hk:k<σ.length):jX (J8 σ p ob os) k=if k=p then some ob else if k∈os then jX σ k else none:=by
 simp only [jX,J8,bM,dJ hk];rfl
theorem HY{σ:Store}{p n:Nat}{os:List Nat}{k:Nat}(hk:k<σ.length):(keepW σ p n os)[k]? = some (if k=p then some (p,0,n)else if k∈os then(jX σ k).map (fun ob=>(k,0,ob.rows.length))else none):=by
 unfold keepW;rw [bM,dJ hk];rfl
theorem FW{σ:Store}{p n:Nat}{os:List Nat}{k o s l:Nat}(h:(keepW σ p n os)[k]? = some (some (o,s,l))):k<σ.length/\o=k/\s=0/\((k=p/\l=n)\/(k≠p/\k∈os/\∃ob,jX σ k=some ob/\l=ob.rows.length)):=by
 have hk:k<σ.length:=by
  have:=(aP.1 h).1;unfold keepW at this;simpa using this
 rw [HY hk]at h;refine⟨hk,?_⟩;by_cases e:k=p
 ·rw [aQ e]at h;simp only [aB,Prod.mk.injEq]at h;exact⟨by omega,h.2.1.symm,.inl ⟨e,h.2.2.symm⟩⟩
 rw [aO e]at h;by_cases m:k∈os
 ·rw [aQ m]at h;simp only [aB,aJ]at h;obtain⟨ob,h1,h2⟩:=h;simp only [Prod.mk.injEq]at h2;exact⟨h2.1.symm,h2.2.1.symm,.inr ⟨e,m,ob,h1,h2.2.2.symm⟩⟩
 rw [aO m]at h
 cases h
theorem auD{p n:Nat}{vs:List V}{env:Nat->V}{σ:Store}{b1 b2:Nat}{r1 r2 m1 m2:List Nat}{A A':List (List V)}{os:List Nat}(h:jX σ p=some ⟨n,A⟩)(hl:A'.length=A.length)
  (hs:∀o∈os,∀ob,jX σ o=some ob->nN ob.rows)
  (hr:∀(i:Nat) (r r2:List V),A[i]? = some r->A'[i]? = some r2->Ad (keepW σ p A.length os) σ r r2) (he:Kr (keepW σ p A.length os) σ vs 0 env) :
  Fg ⟨mM vs,J8 σ p ⟨n,A'⟩ os,0,b1,r1,m1⟩ ⟨env,σ,0,b2,r2,m2⟩:=by
 refine .re (keepW σ p A.length os) ⟨⟨by unfold J8 keepW;simp,?_,?_,?_⟩,rfl,fun i hi=>absurd hi (dA _),fun t=>by have:=he.at_ t;rwa [aV]at this⟩
 ·intro i j o s l s' l' hi hj;rw [<-(FW hi).2.1,<-(FW hj).2.1]
 ·intro k o s l hk;obtain⟨hlt,rfl,rfl,hk2⟩:=FW hk;rcases hk2 with ⟨rfl,rfl⟩|⟨e,m,ob,h1,rfl⟩
  ·refine⟨_,⟨n,A'⟩,h,by simp,by show jX (J8 _ _ _ _) _=_;rw [zW hlt,aQ rfl],rfl,hl,fun i r r2 h1 h2=>hr i r r2 (by simpa using h1) h2⟩
  refine⟨ob,ob,h1,by simp,by show jX (J8 _ _ _ _) _=_;rw [zW hlt,aO e,aQ m,h1],rfl,rfl,fun i r r2 h2 h3=>?_⟩;rw [aV,h3]at h2;simp only [aB]at h2;subst h2;exact Jf fun v hv=>hs o m ob h1 r2 (bg h3) v hv
 intro k hk;have hlt:k<σ.length:=by
  have:=(aP.1 hk).1;unfold keepW at this;simpa using this
 rw [HY hlt]at hk;show jX (J8 _ _ _ _) _=_;rw [zW hlt];by_cases e:k=p
 ·rw [aQ e]at hk;cases hk
 rw [aO e]at hk ⊢;by_cases m:k∈os
 ·rw [aQ m]at hk ⊢
  cases ho:jX σ k
  ·rfl
  rw [ho]at hk;cases hk
 rw [aO m]
theorem TN{σ:Store}{v:V}{l:List Int}{os os2:List Nat}{p n:Nat}(h:mJ σ v (ints l) os)(hm:∀o∈os,o∈os2/\o≠p):yu (keepW σ p n os2) σ v v:=by
 rcases h.zG with ⟨_,rfl,_⟩|⟨o,rfl,h1,rfl⟩
 ·exact Je rfl
 obtain⟨m1,m2⟩:=hm o (by simp);simp only [yu];refine .inl ⟨o,0,l.length,?_,fV _,by omega,by rw [Nat.sub_zero]⟩;rw [HY (kX h1),aO m2,aQ m1,h1];simp [Fb]
theorem auE{σ:Store}:ni σ (⟨R0,R0⟩:Pt).cells (⟨R0,R0⟩:Pt).cells [] :=
 rM (qJ (o1:=[]) nP (qJ (o1:=[]) nP (rM (qJ (o1:=[]) nP (qJ (o1:=[]) nP qB)))))
def GnA(n:Nat)(s:Store)(v:V)(A:List (List V)):Prop:=(A=[]/\v=.jZ)\/∃p,v=.lG p 0 A.length/\jX s p=some ⟨n,A⟩/\3<=p/\0<A.length
theorem GnA.fr{n:Nat}{s s2:Store}{v:V}{A:List (List V)}(h:GnA n s v A)(hf:∀p,3<=p->p<s.length->jX s2 p=jX s p):GnA n s2 v A:=by
 rcases h with h|⟨p,h1,h2,h3⟩
 ·exact .inl h
 exact .inr ⟨p,h1,(hf p h3.1 (kX h2)).trans h2,h3⟩
def paZ(a:Pa):List V:=[iv a.node,.bool false,.jZ,.jZ]++a.dx.cells++a.dy.cells
def Pa.wc(a:Pa):List V:=a.share.cells
structure ElI (s:Store) (v:Int) (X:R) (pv wv:V) (P:List (List V)) (W:List (List V)):Prop where
 a0:jX s 0=some ⟨5,[[iv 0,.bool false,.jZ,.jZ,.jZ]]⟩
 a1:jX s 1=some ⟨5,[[iv v,.bool X.neg,ints X.mag,ints X.den,pv]]⟩
 p:GnA 10 s pv P
 w:GnA 3 s wv W
theorem ElI.lt{s:Store}{v:Int}{X:R}{pv wv:V}{P W:List (List V)}(h:ElI s v X pv wv P W):2<=s.length:=kX h.a1
theorem Qd{σ:Store}:oC (Option.map V.oJ (match resolve σ 11 (V.agg [V.int .i64 0,V.bool false,V.jZ,V.jZ,V.jZ])with|some d=>some [d,V.jZ,V.bool false]|none=>none)) (mP (V.oJ [Y6 ⟨0,R0,[]⟩,nY [],V.bool false])):=by
 have e:resolve σ 11 (V.agg [V.int .i64 0,V.bool false,V.jZ,V.jZ,V.jZ])=some (V.agg [V.int .i64 0,V.bool false,V.jZ,V.jZ,V.jZ]):=by simp [resolve]
 rw [e];show mP _ _;simp only [mP,wS];exact⟨_,rfl,_,_,rfl,⟨_,rfl,_,_,rfl,rfl,_,_,rfl,rfl,_,_,rfl,.inl ⟨rfl,.inl rfl⟩,_,_,rfl,.inl ⟨rfl,.inl rfl⟩,_,_,rfl,.inl ⟨rfl,.inl rfl⟩,rfl⟩,_,_,rfl,.inl ⟨rfl,.inl rfl⟩,_,_,rfl,rfl,rfl⟩
theorem NJ{σ:Store}{q n l:Nat}{rows:List (List V)}(h:jX σ q=some ⟨n,rows⟩)(hs:nN rows):∀p∈reach σ FD (.lG q 0 l),p=q:=fun p hp=>by
 have hp:p∈reach σ (11+1) (.lG q 0 l):=hp;unfold reach at hp;rcases aI.1 hp with e|hp
 ·exact e
 exfalso;dsimp only at hp;rw [h]at hp;obtain⟨r,hr,hp⟩:=fU.1 hp;obtain⟨v,hv,hp⟩:=fU.1 hp;rw [show reach σ 11 v=[]from JL (hs r hr v hv)]at hp
 cases hp
theorem Yx{A:List Pa}{i:Nat}:∀{m:Nat},i<=m->∀x∈tK A i,x∈tK A m
 |0,h,x,hx=>by
           have:i=0:=by omega
           subst this;exact hx
 |
  m+1,h,x,hx=>by
  by_cases e:i=m+1
  ·subst e;exact hx
  exact aN.2 (.inl (Yx (m:=m) (by omega) x hx))
theorem amC{A:List Pa}{i k:Nat}(hi:i<k)(hk:k<A.length):KZ (qZ A) (A.getD i default) (A.getD k default)∈NI A:=by
 refine Yx (i:=i+1) (by omega) _ (aN.2 (.inr ?_));unfold wP;rw [bH (by simp)];refine bC.2 ⟨A.getD k default,bQ.2 ⟨k-(i+1),?_⟩,rfl⟩;rw [dY,show i+1+(k-(i+1))=k by omega,au hk,aj,au hk];rfl
theorem amD{A:List Pa}{i k:Nat}(hi:i<k)(hk:k<A.length)(h:pJ (KZ (qZ A) (A.getD i default) (A.getD k default))=false):(NI A).all pJ=false :=
 List.all_eq_false.2 ⟨_,amC hi hk,by rw [h];simp⟩
theorem auF{s σ:Store}{c:Cd}{cs:List V}{mv:V}{M:List Lk}{o1:Obj}(he:c.cells=cs)(hst:∀v∈c.cells,v.still=true)(hL:LnA s mv M)(h1:jX σ 1=jX s 1)(hx:jX s 1=some o1)(hf:∀p,p≠0->jX σ p=jX s p)(h0:∃z,jX s 0=some ⟨5,z⟩) :
  oC (Option.map V.oJ (match resolve σ 11 (V.agg cs)with|some d=>(match (match resolve σ 11 mv with|some d=>some [d,V.bool true]|none=>none)with|some ds=>some (d::ds)|none=>none)|none=>none)) (mP (V.oJ [Y6 c,nY M,V.bool true])):=by
 subst he;have e1:resolve σ 11 (V.agg c.cells)=some (Y6 c):=by
  show (c.cells.mapM (resolve σ (9+1))).map _=_;rw [Fa hst];rfl
 have e2:∃u,resolve σ 11 mv=some u/\mP (nY M) u:=by
  rcases hL with ⟨rfl,rfl⟩|⟨p,rfl,hp⟩
  ·exact⟨.jZ,rfl,iV (sV 11)⟩
  have hp0:p≠0:=fun e=>by
   obtain⟨z,hz⟩:=h0;rw [e,hz]at hp;cases hp
  have:=SG (n:=9) ((hf p hp0).trans hp) (Hq M);rw [aU]at this;exact⟨_,this,kM _⟩
 obtain⟨u,e2,e3⟩:=e2;rw [e1,e2];have k:∀x y z:V,mP y z->mP (V.oJ [x,y,V.bool true]) (V.oJ [x,z,V.bool true]):=fun x y z h=>by
  simp only [mP,wS];exact⟨_,rfl,_,_,rfl,kM _,_,_,rfl,h,_,_,rfl,rfl,rfl⟩
 exact k _ _ _ e3
theorem NK(A:List Pa)(a:Pa):qZ (A++[a])=qm (qZ A) a.share:=by
 unfold qZ Nl;rw [bK,bK,List.foldl_append];rfl
end Go.Ml
end
