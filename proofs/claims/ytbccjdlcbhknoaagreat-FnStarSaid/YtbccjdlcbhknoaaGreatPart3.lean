/- A small language for the functions of this claim, its soundness, contracts. -/
import Derived.Test.YtbccjdlcbhknoaaGreatPart2
set_option linter.unusedSimpArgs false
set_option linter.unusedVariables false
set_option maxRecDepth 100000
set_option maxHeartbeats 16000000
section
namespace Go.Ml
def uK : Fn:=⟨1,15,[.cell 2 3 true],(.seq (rf 2 [oN 1 (.box (.t 0)),oK 2 1 (.alloc mV)]) (.seq (rt 0 [oN 3 (fd 0 1),oA 4 0 (fd 0 3) [0],oA 5 0 (lF 1 4) [1],oN 6 (fd 0 1),oA 7 0 (fd 1 6) [3],oA 8 0 (lF 1 7) [4],oA 9 0 (cl 139 [8]) [5],oA 10 0 (.build QM [(0,1,(.t 5)),(1,1,(.t 9))]) [2,6],oN 11 (fd 2 1),oA 12 0 (lF 1 11) [8],oA 13 0 (cl 139 [12]) [9,6],oA 14 0 (.build mV [(0,2,(.t 10)),(2,1,(.t 13))]) [7,10],⟨none,none,0,.store 3 (.t 2) (.t 14),[11,10,0,1,2,3,4,5,6,7,8,9,10,11]⟩]) .ret))⟩
structure uM (T : Tb) : Prop where
 hT : T 145 = some uK
 jf : jY T
def sF : Fn:=⟨1,17,[.cell 2 11 true],(.seq (rf 2 [oN 1 (.box (.t 0)),oK 2 1 (.alloc CP)]) (.seq (rt 0 [oN 3 (fd 0 1),oA 4 0 (lF 1 3) [0],oN 5 (fd 1 1),oA 6 0 (lF 1 5) [2],oN 7 (fd 2 1),oA 8 0 (lT 3 7) [4],oA 9 0 (cl 145 [8]) [5],oN 10 (fd 5 1),oA 11 0 (lT 3 10) [7],oA 12 0 (cl 145 [11]) [8,6],oN 13 (fd 8 1),oA 14 0 (lT 3 13) [10],oA 15 0 (cl 145 [14]) [11,9],oA 16 0 (.build CP [(0,1,(.t 4)),(1,1,(.t 6)),(2,3,(.t 9)),(5,3,(.t 12)),(8,3,(.t 15))]) [1,3,6,9,12],⟨none,none,0,.store 11 (.t 2) (.t 16),[13,12,0,1,2,3,4,5,6,7,8,9,10,11,12,13]⟩]) .ret))⟩
structure zo (T : Tb) : Prop where
 hT : T 133 = some sF
 iV : uM T
def pR : Fn:=⟨1,20,[.tmp 2],(sr [oN 2 mN] (.seq (rf 1 [oN 6 (.fE 11 CP 0 []),oK 3 1 (oV 6)]) (.seq (sr [oW 7 0,oN 8 (ln 7),oN 9 (.iw (cI 0))] (.block 0 (.loop (sr [oN 10 (bt .lss 9 8)] (.seq (cd 10 .skip (.exit 0)) (.seq (.block 1 (.seq (rf 1 [oK 11 1 (ix 11 7 9),oK 12 1 (lT 11 11),oN 5 (.alloc CP),⟨none,none,1,.store 11 (.t 5) (.t 12),[]⟩]) (rf 2 [oK 13 2 (oV 3),oK 14 2 (lT 11 5),oK 15 2 (cl 133 [14]),oN 16 (.fE 11 CP 1 [(0,(.t 15))]),oK 17 1 (.app 11 184 (.t 13) (.t 16)),oK 3 2 (oV 17)]))) (rg [oN 18 (bc .add 9 1),oW 9 18]))))))) (sr [oW 19 3,oW 2 19] .ret))))⟩
structure wJ (T : Tb) : Prop where
 hT : T 110 = some pR
 EC : zo T
def jw : Fn:=⟨1,40,[.cell 2 5 true],(.seq (rf 2 [oN 1 (.box (.t 0)),oK 2 1 (.alloc XF)]) (.seq (rt 1 [oK 7 1 (fd 0 1),oA 8 1 (lF 1 7) [0],oK 9 1 (fd 1 1),oA 10 1 (lT 3 9) [2],oA 11 1 (cl 145 [10]) [3],oA 12 1 (.build XF [(0,1,(.t 8)),(1,3,(.t 11))]) [1,4],oN 3 (.alloc XF),⟨none,none,1,.store 5 (.t 3) (.t 12),[6,5,4,0,1,2,3,4,5,6]⟩]) (.seq (sr [oN 13 (fd 4 1),oN 14 (lF 1 13),oN 15 (ln 14),oN 16 (.iw (cI 0))] (.block 0 (.loop (sr [oN 17 (bt .lss 16 15)] (.seq (cd 17 .skip (.exit 0)) (.seq (.block 1 (.seq (rf 1 [oK 18 1 (ix 10 14 16),oK 19 1 (lT 10 18),oN 5 (.alloc zz5),⟨none,none,1,.store 10 (.t 5) (.t 19),[]⟩]) (.seq (rt 1 [oK 20 1 (fd 0 5),oA 21 1 (lF 1 20) [0],oK 22 1 (fd 1 5),oA 23 1 (lT 3 22) [2],oA 24 1 (cl 145 [23]) [3],oK 25 1 (fd 4 5),oA 26 1 (lT 3 25) [5],oA 27 1 (cl 145 [26]) [6,4],oK 28 1 (fd 7 5),oA 29 1 (lT 3 28) [8],oA 30 1 (cl 145 [29]) [9,7],oA 31 1 (.build zz5 [(0,1,(.t 21)),(1,3,(.t 24)),(4,3,(.t 27)),(7,3,(.t 30))]) [1,4,7,10],oN 6 (.alloc zz5),⟨none,none,1,.store 10 (.t 6) (.t 31),[12,11,10,0,1,2,3,4,5,6,7,8,9,10,11,12]⟩]) (rf 2 [oK 32 2 (fd 4 3),oK 33 2 (lF 1 32),oK 34 2 (lT 10 6),oN 35 (.fE 10 zz5 1 [(0,(.t 34))]),oK 36 1 (.app 10 176 (.t 33) (.t 35)),oK 37 2 (fd 4 3),⟨none,none,2,.store 1 (.t 37) (.t 36),[]⟩])))) (rg [oN 38 (bc .add 16 1),oW 16 38]))))))) (sr [oN 39 (lT 5 3),oS (.store 5 (.t 2) (.t 39))] .ret))))⟩
structure lZ (T : Tb) : Prop where
 hT : T 183 = some jw
 iV : uM T
theorem sQ {T : Tb} (h : uM T) {r : R} (hl : r.sz ≤ 1048576:=by exact gU) : PO T 145 [aQ r] (aQ r):=by
 simp only [R.sz] at hl
 refine dw (fun x d=>x == 139) h.hT ?_
 simp only [uK,Lz,St.enter,List.length_cons,List.length_nil,Nat.zero_add]
 refine ew ?_
 have O:=fun s : Store=>(@ado 2 s).bool r.neg
 refine jD (LV h.jf (l:=r.mag) (by omega)) (by (refine ew ?_;try with_reducible exact True.intro)) (by (refine ew ?_;try with_reducible exact True.intro)) ?_
 intro v1 σ1 o1 g
 have B1:=g.at 1 (by simp) rfl
 have B0:=g.at 0 (by simp) rfl
 have lq : 2 ≤ σ1.length:=g.len
 have lf:=g.lf rfl
 have lb:=g.lfb rfl
 replace O:=(O _).got g (by simp)
 refine JZ @B0 @B1 @lq @lf @lb ?_
 refine jD (LV h.jf (l:=r.den) (by omega)) (by (refine ew ?_;try with_reducible exact True.intro)) (by (refine ew ?_;try with_reducible exact True.intro)) ?_
 intro v2 σ2 o2 g2
 replace B1:=(g2.old 1 (by omega)).trans B1
 have lq2 : 2 ≤ σ2.length:=by have:=g2.len;omega
 have lf2:=g2.lf rfl
 have lb2:=g2.lfb rfl
 replace O:=O.got g2 (by omega)
 refine Ue @B1 @lq2 @lf2 @lb2 @lf @lb ?_
 refine ⟨by unfold lU;decide +kernel,?_⟩
 refine CQ @lq2 ?_
 exact (O.set (by decide)).fin
theorem LX {T : Tb} (h : zo T) {x : Lk} (hl : x.sz ≤ 1048576:=by exact gU) : PO T 133 [NV x] (NV x):=by
 simp only [Lk.sz,R.sz] at hl
 refine dw (fun x d=>x == 145) h.hT ?_
 simp only [sF,Lz,St.enter,List.length_cons,List.length_nil,Nat.zero_add]
 refine ew ?_
 have O:=fun s : Store=>@ado 2 s
 replace O:=fun s=>(O s).int .i64 x.a
 replace O:=fun s=>(O s).int .i64 x.b
 refine jD (sQ h.iV (r:=x.w) (by simp only [R.sz];omega)) (by (refine ew ?_;try with_reducible exact True.intro)) (by (refine ew ?_;try with_reducible exact True.intro)) ?_
 intro r σ1 os g
 have lq : 2 ≤ σ1.length:=g.len
 have B0:=g.at 0 (by simp) rfl
 have B1:=g.at 1 (by simp) rfl
 replace O:=(O _).got g (by simp)
 obtain ⟨a0,d0,_,_,rfl,_,k1,k2⟩:=g.ow.Gq
 replace O:=O.flat rfl
 have la:=k1.leaf rfl
 have ld:=k2.leaf rfl
 have Q5:=And.intro la ld
 have fc:=(fun q=>pO (cs:=[.bool x.w.neg,a0,d0]) (by simp [la,ld,show ∀ b,V.leaf (.bool b) = true from fun _=>rfl]) q)
 clear g
 refine JZ @B0 @B1 @lq @Q5 @fc ?_
 refine jD (sQ h.iV (r:=x.dx) (by simp only [R.sz];omega)) (by (refine JZ @B0 @B1 @lq @Q5 @fc ?_;try with_reducible exact True.intro)) (by (refine JZ @B0 @B1 @lq @Q5 @fc ?_;try with_reducible exact True.intro)) ?_
 intro r σ2 os g
 replace B0:=(g.old 0 (by omega)).trans B0
 replace B1:=(g.old 1 (by omega)).trans B1
 replace O:=O.got g (by omega)
 replace lq : 2 ≤ σ2.length:=by have:=g.len;omega
 obtain ⟨a1,d1,_,_,rfl,_,k1,k2⟩:=g.ow.Gq
 replace O:=O.flat rfl
 have la:=k1.leaf rfl
 have ld:=k2.leaf rfl
 replace Q5:=And.intro Q5 (And.intro la ld)
 replace fc:=And.intro fc (fun q=>pO (cs:=[.bool x.dx.neg,a1,d1]) (by simp [la,ld,show ∀ b,V.leaf (.bool b) = true from fun _=>rfl]) q)
 clear g
 refine JZ @B0 @B1 @lq @Q5 @fc ?_
 refine jD (sQ h.iV (r:=x.dy) (by simp only [R.sz];omega)) (by (refine JZ @B0 @B1 @lq @Q5 @fc ?_;try with_reducible exact True.intro)) (by (refine JZ @B0 @B1 @lq @Q5 @fc ?_;try with_reducible exact True.intro)) ?_
 intro r σ3 os g
 replace B0:=(g.old 0 (by omega)).trans B0
 replace B1:=(g.old 1 (by omega)).trans B1
 replace O:=O.got g (by omega)
 replace lq : 2 ≤ σ3.length:=by have:=g.len;omega
 obtain ⟨a2,d2,_,_,rfl,_,k1,k2⟩:=g.ow.Gq
 replace O:=O.flat rfl
 have la:=k1.leaf rfl
 have ld:=k2.leaf rfl
 replace Q5:=And.intro Q5 (And.intro la ld)
 replace fc:=And.intro fc (fun q=>pO (cs:=[.bool x.dy.neg,a2,d2]) (by simp [la,ld,show ∀ b,V.leaf (.bool b) = true from fun _=>rfl]) q)
 clear g
 refine JZ @B0 @B1 @lq @Q5 @fc ?_
 refine ⟨by unfold lU;decide +kernel,?_⟩
 refine CQ @lq ?_
 exact (O.set (by decide)).fin
theorem Tc {T : Tb} (h : wJ T) {l : List Lk} (hl : UZ Lk.sz l ≤ 1048576:=by exact gU) : PO T 110 [iq l] (iq l):=by
 have hll : l.length ≤ 1048576:=by unfold UZ at hl;omega
 refine dw (fun x d=>x == 133) h.hT ?_
 simp only [pR,Lz,St.enter,List.length_cons,List.length_nil,Nat.zero_add]
 refine ew ?_
 refine aS (fun x d=>x == 133) (α:=Nat × Store × V × List (List V)) (fun q=>⟨dX [.any,.any,.ak,q.2.2.1,.any,.any,.any,iq l,iv (l.length : Nat),iv (q.1 : Nat)],q.2.1,0,0,[],[]⟩) (fun q=>q.1 ≤ l.length ∧ Grow q.2.1 q.2.2.1 11 q.2.2.2 ((l.take q.1).map Lk.cells)) (fun q=>l.length - q.1) rfl (0,[none],.ak,[]) ?_ ?_ ?_
 ·exact ⟨by omega,adr⟩
 ·(refine aJ ?_;exact zy)
 ·rintro ⟨i,s,v,A⟩ ⟨hi,hG⟩
  dsimp only at hi hG
  by_cases hc : (i : Int) < (l.length : Nat)
  ·have hil : i < l.length:=by omega
   have hAl : A.length = i:=by have:=hG.len;simp at this;omega
   obtain ⟨x,hx⟩ : ∃ x,l.getD i default = x:=⟨_,rfl⟩
   have hts:=Qe Lk.cells l hil
   have hxs : x.sz ≤ 1048576:=by have:=OB (f:=Lk.sz) hl (getD_mem hil);rw [hx] at this;exact this
   rw [hx] at hts
   have e4 : ∀ σ : Store,resolve σ FD (NV x) = some (NV x):=fun σ=>qQ (Fh [x] _ (by simp))
   rcases hG.cases with ⟨rfl,h1,rfl⟩ | ⟨o,rfl,ho,hlt⟩
   ·refine IG @hc @mg @hx ?_
    refine iU (LX h.EC hxs) (by (refine CQ @e4 ?_;try with_reducible exact True.intro)) ?_
    intro r σ2 os g
    obtain ⟨cs,rfl,k1⟩:=g.ow.fG
    have gl : s.length + 3 ≤ σ2.length:=by have:=g.len;simp at this;omega
    have lf:=pO (k1.leaf rfl)
    have cl1 : cs.length = 11:=k1.len
    refine IG @lf @cl1 @gl ?_
    refine ⟨by omega,(i + 1,(σ2.set (s.length + 1) (some ⟨11,[cs]⟩)).set (s.length + 1 + 1) (some ⟨11,[cs]⟩),.bF (s.length + 1 + 1) 0 1,[cs]),by dsimp only;omega,⟨by dsimp only;omega,?_⟩,by (refine aJ ?_;exact zy)⟩
    dsimp only
    rw [hts]
    exact hG.asb (fun q hq=>by simp only [List.append_assoc];exact iL hq) (by simp) g (by omega) (by simp) (by omega) (by simp) (by omega)
   ·refine JZ @hc @mg @hx @ho @hlt ?_
    refine iU (LX h.EC hxs) (by (refine CQ @e4 ?_;try with_reducible exact True.intro)) ?_
    intro r σ2 os g
    obtain ⟨cs,rfl,k1⟩:=g.ow.fG
    have gl : s.length + 3 ≤ σ2.length:=by have:=g.len;simp at this;omega
    have lf:=pO (k1.leaf rfl)
    have cl1 : cs.length = 11:=k1.len
    have ho2:=(g.old o (by simp;omega)).trans ((by simp only [List.append_assoc];exact iL hlt : _ = aj s o).trans ho)
    refine JZ @lf @cl1 @gl @ho2 @hlt ?_
    refine ⟨by omega,(i + 1,((σ2.set (s.length + 1) (some ⟨11,[cs]⟩)).set o none).set (s.length + 1 + 1) (some ⟨11,A ++ [cs]⟩),.bF (s.length + 1 + 1) 0 (A.length + 1),A ++ [cs]),by dsimp only;omega,⟨by dsimp only;omega,?_⟩,by (refine aJ ?_;exact zy)⟩
    dsimp only
    rw [hts]
    exact hG.ase (fun q hq=>by simp only [List.append_assoc];exact iL hq) (by simp) g (by omega) (by simp) (by omega) (by simp) (by omega)
  ·have ei : i = l.length:=by omega
   subst ei
   rw [List.take_length] at hG
   rcases hG.cases with ⟨rfl,h1,rfl⟩ | ⟨o,rfl,ho,hlt⟩
   ·refine CQ @hc ?_
    exact hG.fin
   ·refine CQ @hc ?_
    exact hG.fin
def oh : Fn:=⟨2,12,[.cell 4 3 true],(.seq (rf 3 [oN 2 (.box (.t 0)),oK 3 1 (.box (.t 1)),oK 4 2 (.alloc mV)]) (.seq (rt 0 [oN 5 (lT 3 2),oN 6 (lT 3 2),oA 7 0 (cl 201 [5,6]) [0,1],oN 8 (lT 3 3),oN 9 (lT 3 3),oA 10 0 (cl 201 [8,9]) [3,4,2],oA 11 0 (cl 189 [7,10]) [2,5,5],⟨none,none,0,.store 3 (.t 4) (.t 11),[6,6,0,1,2,3,4,5,6]⟩]) .ret))⟩
structure uN (T : Tb) : Prop where
 hT : T 202 = some oh
 kR : qM T
 iM : yu T
def kU : Fn:=⟨2,12,[.cell 4 3 true],(.seq (rf 3 [oN 2 (.box (.t 0)),oK 3 1 (.box (.t 1)),oK 4 2 (.alloc mV)]) (.seq (rt 0 [oN 5 (lT 3 2),oN 6 (lT 3 2),oA 7 0 (cl 157 [5,6]) [0,1],oN 8 (lT 3 3),oN 9 (lT 3 3),oA 10 0 (cl 157 [8,9]) [3,4,2],oA 11 0 (cl 131 [7,10]) [2,5,5],⟨none,none,0,.store 3 (.t 4) (.t 11),[6,6,0,1,2,3,4,5,6]⟩]) .ret))⟩
structure qp (T : Tb) : Prop where
 hT : T 158 = some kU
 bG : eH T
 iO : iJ T
def kH : Fn:=⟨1,11,[.tmp 2],(.seq (rf 1 [oN 1 (.box (.t 0)),oK 2 1 mF]) (sr [oN 3 (fd 0 1),oN 4 (lT 3 3),oN 5 (cl 102 [4]),oW 6 5,oG 6 true 7 (fd 3 1),oG 6 true 8 (lT 3 7),oG 6 true 9 (cl 102 [8]),oN 10 (.pick (.t 6) (.t 9) (.c (.bool false))),oW 2 10] .ret))⟩
structure uO (T : Tb) : Prop where
 hT : T 192 = some kH
 dG : lW T
def gJ : Fn:=⟨3,45,[.cell 6 3 true],(.seq (rf 4 [oN 3 (.box (.t 0)),oK 4 1 (.box (.t 1)),oK 5 2 (.box (.t 2)),oK 6 3 (.alloc mV)]) (.seq (sr [oN 9 (lT 11 3),oN 10 (cl 84 [9]),oN 11 (nt 10),oW 12 11,oG 12 false 13 (lT 6 4),oG 12 false 14 (cl 192 [13]),oG 12 false 15 (nt 14),oN 16 (.pick (.t 12) (.c (.bool true)) (.t 15)),oW 17 16,oG 17 false 18 (lT 6 5),oG 17 false 19 (cl 192 [18]),oG 17 false 20 (nt 19),oN 21 (.pick (.t 17) (.c (.bool true)) (.t 20))] (cd 21 (sr [oN 22 (.build mV []),oS (.store 3 (.t 6) (.t 22))] .ret) .skip)) (.seq (rt 1 [oK 23 1 (fd 0 5),oA 24 1 (lT 3 23) [0],oK 25 1 (fd 0 4),oA 26 1 (lT 3 25) [2],oA 27 1 (cl 159 [24,26]) [1,3],oK 28 1 (fd 5 3),oA 29 1 (lT 3 28) [5],oA 30 1 (cl 159 [27,29]) [4,6,4],oN 7 (.alloc mV),⟨none,none,1,.store 3 (.t 7) (.t 30),[8,7,7,0,1,2,3,4,5,6,7,8]⟩]) (.seq (rt 1 [oK 31 1 (fd 3 5),oA 32 1 (lT 3 31) [0],oK 33 1 (fd 3 4),oA 34 1 (lT 3 33) [2],oA 35 1 (cl 159 [32,34]) [1,3],oK 36 1 (fd 8 3),oA 37 1 (lT 3 36) [5],oA 38 1 (cl 159 [35,37]) [4,6,4],oN 8 (.alloc mV),⟨none,none,1,.store 3 (.t 8) (.t 38),[8,7,7,0,1,2,3,4,5,6,7,8]⟩]) (.seq (rt 0 [oN 39 (fd 2 3),oA 40 0 (lT 3 39) [0],oN 41 (lT 3 7),oN 42 (lT 3 8),oA 43 0 (cl 158 [41,42]) [2,3],oA 44 0 (cl 157 [40,43]) [1,4,4],⟨none,none,0,.store 3 (.t 6) (.t 44),[5,5,0,1,2,3,4,5]⟩]) .ret)))))⟩
structure uP (T : Tb) : Prop where
 hT : T 187 = some gJ
 jO : jK T
 iO : iJ T
 GN : qp T
 kS : qL T
 BA : uO T
def eG : Fn:=⟨5,59,[.cell 10 11 true,.tmp 11],(.seq (rf 1 [oN 10 (.alloc CP),oK 11 1 mF]) (.seq (sr [oW 12 0,oN 13 (cl 34 [12]),oN 14 (nt 13),oW 15 14,oG 15 false 16 (oV 1),oG 15 false 17 (cl 34 [16]),oG 15 false 18 (nt 17),oN 19 (.pick (.t 15) (.c (.bool true)) (.t 18)),oW 20 19,oG 20 false 21 (oV 0),oG 20 false 22 (oV 1),oG 20 false 23 (bt .eql 21 22),oN 24 (.pick (.t 20) (.c (.bool true)) (.t 23)),oW 25 24,oG 25 false 26 (oV 2),oG 25 false 27 (.call 35 [(.t 26),(cI 1),(cI 9999)]),oG 25 false 28 (nt 27),oN 29 (.pick (.t 25) (.c (.bool true)) (.t 28)),oW 30 29,oG 30 false 31 (oV 3),oG 30 false 32 (.call 35 [(.t 31),(cI (-1000000)),(cI 1000000)]),oG 30 false 33 (nt 32),oN 34 (.pick (.t 30) (.c (.bool true)) (.t 33)),oW 35 34,oG 35 false 36 (oV 4),oG 35 false 37 (.call 35 [(.t 36),(cI (-1000000)),(cI 1000000)]),oG 35 false 38 (nt 37),oN 39 (.pick (.t 35) (.c (.bool true)) (.t 38))] (cd 39 (sr [oN 40 (.build CP []),oS (.store 11 (.t 10) (.t 40)),oN 11 mF] .ret) .skip)) (.seq (sr [oW 41 0,oW 42 1,oN 43 (bt .gtr 41 42)] (cd 43 (rg [oW 44 1,oW 45 0,oW 46 3,oN 47 (.un .neg (.t 46)),oW 48 4,oN 49 (.un .neg (.t 48)),oW 0 44,oW 1 45,oW 3 47,oW 4 49]) .skip)) (sr [oW 50 0,oW 51 1,oW 52 2,oN 53 (cl 36 [52]),oW 54 3,oN 55 (cl 36 [54]),oW 56 4,oN 57 (cl 36 [56]),oN 58 (.build CP [(0,1,(.t 50)),(1,1,(.t 51)),(2,3,(.t 53)),(5,3,(.t 55)),(8,3,(.t 57))]),oS (.store 11 (.t 10) (.t 58)),oN 11 mT] .ret))))⟩
structure uS (T : Tb) : Prop where
 hT : T 14 = some eG
 oP : uH T
 lV : um T
 bH : kE T
theorem Jy {r : R} (h : 0 < tZ r) : r.ok = true:=by
 rw [zk];intro e;unfold tZ at h;rw [e] at h;simp [nY] at h
def inB (a lo hi : Int) : Bool:=decide (lo ≤ a) && decide (a ≤ hi)
def EK (c : Cd) (i : Nat) : Bool :=
 inB (c.ps.getD i default).node 0 9 && !decide ((c.ps.getD i default).node = c.node) && (decide (i = 0) || decide ((c.ps.getD (i - 1) default).node < (c.ps.getD i default).node)) &&
  decide (0 < tZ (c.ps.getD i default).share) && (c.ps.getD i default).dx.ok && (c.ps.getD i default).dy.ok
def GR (l : List Pa) (n : Nat) : R:=(l.take n).foldl (fun s p=>dZ s p.share) (bQ 0)
theorem adA (l : List Pa) : GR l 0 = bQ 0:=by simp [GR]
theorem adB (l : List Pa) {i : Nat} (h : i < l.length) : GR l (i + 1) = dZ (GR l i) (l.getD i default).share:=by
 unfold GR
 rw [List.take_add_one,List.getElem?_eq_getElem h,List.getD_eq_getElem?_getD,List.getElem?_eq_getElem h]
 simp only [Option.toList,Option.getD,List.foldl_append,List.foldl_cons,List.foldl_nil]
theorem Vz {α : Type} {f : α → R} : ∀ (l : List α) (a : R),a.cn → (l.foldl (fun s p=>dZ s (f p)) a).cn
 | [],_,h=>h
 | _ :: l,_,_=>Vz l _ (nZ _ _)
theorem Jz (l : List Pa) (i : Nat) : (GR l i).cn:=Vz _ _ (rO (by decide))
def ahc (c : Cd) : Prop:=∀ i,i < c.ps.length → EK c i = true
instance (c : Cd) : Decidable (ahc c):=inferInstanceAs (Decidable (∀ i,i < c.ps.length → EK c i = true))
def nV (c : Cd) : Bool:=decide (ahc c) && inB c.node 1 9 && decide (0 < tZ c.total) && !c.ps.isEmpty && decide (GR c.ps c.ps.length = bQ 1)
theorem D6 {c : Cd} {i : Nat} (hi : i < c.ps.length) (h : EK c i = false) : nV c = false:=by
 unfold nV
 rw [decide_eq_false (fun k=>by rw [k i hi] at h;cases h)]
 rfl
theorem adC {c : Cd} (h : ahc c) : nV c = (inB c.node 1 9 && decide (0 < tZ c.total) && !c.ps.isEmpty && decide (GR c.ps c.ps.length = bQ 1)):=by
 unfold nV;rw [decide_eq_true h,Bool.true_and]
def sqR (x y : R) : R:=dZ (mulR x x) (mulR y y)
theorem adD (x y : R) : (sqR x y).cn:=nZ _ _
theorem OC {T : Tb} (h : qp T) {x y : R} (hx : x.cn:=by exact Qd) (hy : y.cn:=by exact Qd) : PF T 158 [aQ x,aQ y] (aQ (sqR x y)):=by
 refine aC nR h.hT ?_
 simp only [kU,Lz]
 refine ev ?_
 refine ah (Dp h.iO hx hx) ?_
 refine ev ?_
 refine ah (Dp h.iO hy hy) ?_
 refine ev ?_
 refine ah (zY h.bG) ?_
 refine ev ?_
 refine ⟨by unfold lU;decide +kernel,?_⟩
 exact au _
theorem Na {r : R} (h : r.wf:=by
 first | with_reducible assumption | exact gI Qd) : r.wf:=h
theorem Td {T : Tb} (h : uN T) {x y : R} (hx : x.wf:=by exact Na) (hy : y.wf:=by exact Na) : PF T 202 [aQ x,aQ y] (aQ (sqR x y)):=by
 refine aC nR h.hT ?_
 simp only [oh,Lz]
 refine ev ?_
 refine ah (tX h.iM hx hx) ?_
 refine ev ?_
 refine ah (tX h.iM hy hy) ?_
 refine ev ?_
 refine ah (Dn h.kR Na Na) ?_
 refine ev ?_
 refine ⟨by unfold lU;decide +kernel,?_⟩
 exact au _
def yO (l : Lk) (p q : Pt) : R:=if fJ l = true then mulR l.w (sqR (iC (iC q.x p.x) l.dx) (iC (iC q.y p.y) l.dy)) else R0
theorem Zc (l : Lk) (p q : Pt) : (yO l p q).cn:=by unfold yO;split;exact Js _ _;exact Ve
theorem ahd {r s : R} (h : r.q = none) : (dZ r s).q = none:=by rw [Fz,h,LK]
theorem ahe {r s : R} (h : s.q = none) : (dZ r s).q = none:=by rw [Fz,h,FC]
theorem Gt {r s : R} (h : r.q = none) : (iC r s).q = none:=by rw [Oj,h,Vg]
theorem Zd {r s : R} (h : s.q = none) : (iC r s).q = none:=by rw [Oj,h,LP]
theorem Ze {r s : R} (h : r.q = none) : (mulR r s).q = none:=by rw [KH,h,Vf]
theorem ahf {r s : R} (h : s.q = none) : (mulR r s).q = none:=by rw [KH,h,FH]
theorem adF {r s : R} (h : r.q = none) : (sqR r s).q = none:=ahd (Ze h)
theorem adG {r s : R} (h : s.q = none) : (sqR r s).q = none:=ahe (Ze h)
theorem VA {l : Lk} {p q : Pt} (h : p.x.ok = false ∨ p.y.ok = false ∨ q.x.ok = false ∨ q.y.ok = false) : yO l p q = R0:=by
 refine SL (Zc l p q) ?_
 unfold yO
 split
 ·refine ahf ?_
  rcases h with h | h | h | h
  ·exact adF (Gt (Zd (jS.1 h)))
  ·exact adG (Gt (Zd (jS.1 h)))
  ·exact adF (Gt (Gt (jS.1 h)))
  ·exact adG (Gt (Gt (jS.1 h)))
 ·exact q_0
theorem yC {l : Lk} (h : fJ l = true) : l.w.ok = true ∧ l.dx.ok = true ∧ l.dy.ok = true ∧ 0 < tZ l.w:=by
 unfold fJ at h
 simp only [Bool.and_eq_true,decide_eq_true_eq] at h
 exact ⟨Jy h.1.1.2,h.1.2,h.2,h.1.1.2⟩
theorem Tf {l : Lk} (h : fJ l = true) : l.w.cn ∧ l.dx.cn ∧ l.dy.cn:=by
 obtain ⟨a,b,c,_⟩:=yC h
 exact ⟨kD a,kD b,kD c⟩
theorem JA {T : Tb} (h : uO T) {p : Pt} (hp : p.wf:=by exact Na) : PF T 192 [ptV p] (.bool (p.x.ok && p.y.ok)):=by
 obtain ⟨p1,p2⟩:=hp
 have c1:=uD h.dG p1
 have c2:=uD h.dG p2
 cases h1 : p.x.ok
 ·rw [h1] at c1
  refine aV nR h.hT ?_
  simp only [kH,Lz]
  refine ev ?_
  refine ah c1 ?_
  (refine ev ?_;try with_reducible exact True.intro)
 rw [h1] at c1
 refine aV nR h.hT ?_
 simp only [kH,Lz]
 refine ev ?_
 refine ah c1 ?_
 refine ev ?_
 refine ah c2 ?_
 (refine ev ?_;try with_reducible exact True.intro)
theorem OD {T : Tb} (h : uP T) {l : Lk} {p q : Pt} (hl : l.wf:=by exact Na) (hp : p.wf:=by exact Na) (hq : q.wf:=by exact Na) : PO T 187 [NV l,ptV p,ptV q] (aQ (yO l p q)):=by
 have ci:=Au h.jO hl
 have cp:=JA h.BA hp
 have cq:=JA h.BA hq
 cases hb : fJ l
 ·rw [hb] at ci
  have e : yO l p q = R0:=by unfold yO;rw [hb];rfl
  rw [e]
  refine dw (fun x d=>(x == 157 && d == 44)) h.hT ?_
  simp only [gJ,Lz,St.enter,List.length_cons,List.length_nil,Nat.zero_add]
  refine ew ?_
  refine ah ci ?_
  refine ew ?_
  exact BZ
 rw [hb] at ci
 cases hbp : (p.x.ok && p.y.ok)
 ·rw [hbp] at cp
  rw [VA (by rw [Bool.and_eq_false_iff] at hbp;rcases hbp with h | h;exact .inl h;exact .inr (.inl h))]
  refine dw (fun x d=>(x == 157 && d == 44)) h.hT ?_
  simp only [gJ,Lz,St.enter,List.length_cons,List.length_nil,Nat.zero_add]
  refine ew ?_
  refine ah ci ?_
  refine ew ?_
  refine ah cp ?_
  refine ew ?_
  exact BZ
 rw [hbp] at cp
 cases hbq : (q.x.ok && q.y.ok)
 ·rw [hbq] at cq
  rw [VA (by rw [Bool.and_eq_false_iff] at hbq;rcases hbq with h | h;exact .inr (.inr (.inl h));exact .inr (.inr (.inr h)))]
  refine dw (fun x d=>(x == 157 && d == 44)) h.hT ?_
  simp only [gJ,Lz,St.enter,List.length_cons,List.length_nil,Nat.zero_add]
  refine ew ?_
  refine ah ci ?_
  refine ew ?_
  refine ah cp ?_
  refine ew ?_
  refine ah cq ?_
  refine ew ?_
  exact BZ
 rw [hbq] at cq
 simp only [Bool.and_eq_true] at hbp hbq
 have hlk:=Tf hb
 have p1:=kD hbp.1
 have p2:=kD hbp.2
 have q1:=kD hbq.1
 have q2:=kD hbq.2
 obtain ⟨w1,w2,w3⟩:=hlk
 have e : yO l p q = mulR l.w (sqR (iC (iC q.x p.x) l.dx) (iC (iC q.y p.y) l.dy)):=by unfold yO;rw [hb];rfl
 rw [e]
 refine dw (fun x d=>(x == 157 && d == 44)) h.hT ?_
 simp only [gJ,Lz,St.enter,List.length_cons,List.length_nil,Nat.zero_add]
 refine ew ?_
 refine ah ci ?_
 refine ew ?_
 refine ah cp ?_
 refine ew ?_
 refine ah cq ?_
 refine ew ?_
 refine ah (Aa h.kS q1 p1) ?_
 refine ew ?_
 refine ah (Aa h.kS Qd w2) ?_
 refine ew ?_
 refine ⟨by unfold lU;decide +kernel,?_⟩
 refine ew ?_
 refine ah (Aa h.kS q2 p2) ?_
 refine ew ?_
 refine ah (Aa h.kS Qd w3) ?_
 refine ew ?_
 refine ⟨by unfold lU;decide +kernel,?_⟩
 refine ew ?_
 refine ah (OC h.GN Qd Qd) ?_
 refine ew ?_
 refine jD (XW h.iO (r:=l.w) (s:=sqR (iC (iC q.x p.x) l.dx) (iC (iC q.y p.y) l.dy)) w1 (adD _ _)) (by (refine ew ?_;try with_reducible exact True.intro)) (by (refine ew ?_;try with_reducible exact True.intro)) ?_
 intro v q1 os g
 have g0:=g
 obtain ⟨a0,d0,_,_,rfl,_,k1,k2⟩:=g.ow.Gq
 have B3:=g0.at 3 (by simp) rfl
 have lq : 4 ≤ q1.length:=by have:=g0.len;simp at this;omega
 have la:=k1.leaf rfl
 have ld:=k2.leaf rfl
 have Q5:=And.intro la ld
 have fc:=fun b k=>pO (cs:=[.bool b,a0,d0]) (by simp [la,ld,show ∀ b,V.leaf (.bool b) = true from fun _=>rfl]) k
 refine MC @B3 @lq @Q5 @fc ?_
 refine ⟨by unfold lU;decide +kernel,?_⟩
 refine MC @B3 @lq @Q5 @fc ?_
 exact g0.XR (by simp)
def iD : Fn:=⟨2,24,[.tmp 4],(.seq (rf 2 [oN 2 (.box (.t 0)),oK 3 1 (.box (.t 1)),oK 4 2 mF]) (sr [oN 5 (fd 0 2),oN 6 (lF 1 5),oN 7 (fd 0 3),oN 8 (lF 1 7),oN 9 (bt .lss 6 8),oW 10 9,oG 10 false 11 (fd 0 2),oG 10 false 12 (lF 1 11),oG 10 false 13 (fd 0 3),oG 10 false 14 (lF 1 13),oG 10 false 15 (bt .eql 12 14),oG 10 false 16 (oV 15),oG 16 true 17 (fd 1 2),oG 16 true 18 (lF 1 17),oG 16 true 19 (fd 1 3),oG 16 true 20 (lF 1 19),oG 16 true 21 (bt .lss 18 20),oG 10 false 22 (.pick (.t 16) (.t 21) (.c (.bool false))),oN 23 (.pick (.t 10) (.c (.bool true)) (.t 22)),oW 4 23] .ret))⟩
structure sU (T : Tb) : Prop where
 hT : T 111 = some iD
def pU : Fn:=⟨1,30,[.tmp 2],(sr [oN 2 mF] (.seq (sr [oW 5 0,oN 6 (ln 5),oN 7 (.iw (cI 0))] (.block 0 (.loop (sr [oN 8 (bt .lss 7 6)] (.seq (cd 8 .skip (.exit 0)) (.seq (.block 1 (.seq (rf 1 [oK 9 1 (oV 7),oK 10 1 (ix 11 5 7),oK 11 1 (lT 11 10),oN 4 (.alloc CP),oK 3 1 (oV 9),⟨none,none,1,.store 11 (.t 4) (.t 11),[]⟩]) (.seq (rt 0 [oN 12 (lT 11 4),oA 13 0 (cl 84 [12]) [0],oA 14 0 (nt 13) [1],oA 15 0 (oV 14) [2,1],oH 15 false 16 0 (oV 3) [3],oH 15 false 17 0 (bc .gtr 16 0) [4,3],oH 15 false 18 0 (oV 17) [5,3,3],oH 18 true 19 0 (oV 0) [6],oH 18 true 20 0 (oV 3) [6],oH 18 true 21 0 (bc .sub 20 1) [8,6],oH 18 true 22 0 (ix 11 19 21) [7,9,6],oH 18 true 23 0 (lT 11 22) [10,6],oH 18 true 24 0 (lT 11 4) [6],oH 18 true 25 0 (cl 111 [23,24]) [11,12,6,6],oH 18 true 26 0 (nt 25) [13,6],oH 15 false 27 0 (.pick (.t 18) (.t 26) (.c (.bool false))) [6,14,3],oA 28 0 (.pick (.t 15) (.c (.bool true)) (.t 27)) [3,15]]) (cd 28 (sr [oN 2 mF] .ret) .skip)))) (rg [oN 29 (bc .add 7 1),oW 7 29]))))))) (sr [oN 2 mT] .ret)))⟩
structure pV (T : Tb) : Prop where
 hT : T 89 = some pU
 jO : jK T
 II : sU T
def lH : Fn:=⟨2,24,[.tmp 4],(.seq (rf 2 [oN 2 (.box (.t 0)),oK 3 1 (.box (.t 1)),oK 4 2 mF]) (sr [oN 5 (fd 0 2),oN 6 (lF 1 5),oN 7 (fd 0 3),oN 8 (lF 1 7),oN 9 (bt .lss 6 8),oW 10 9,oG 10 false 11 (fd 0 2),oG 10 false 12 (lF 1 11),oG 10 false 13 (fd 0 3),oG 10 false 14 (lF 1 13),oG 10 false 15 (bt .eql 12 14),oG 10 false 16 (oV 15),oG 16 true 17 (fd 1 2),oG 16 true 18 (lF 1 17),oG 16 true 19 (fd 1 3),oG 16 true 20 (lF 1 19),oG 16 true 21 (bt .lss 18 20),oG 10 false 22 (.pick (.t 16) (.t 21) (.c (.bool false))),oN 23 (.pick (.t 10) (.c (.bool true)) (.t 22)),oW 4 23] .ret))⟩
structure uU (T : Tb) : Prop where
 hT : T 195 = some lH
def pW : Fn:=⟨1,30,[.tmp 2],(sr [oN 2 mF] (.seq (sr [oW 5 0,oN 6 (ln 5),oN 7 (.iw (cI 0))] (.block 0 (.loop (sr [oN 8 (bt .lss 7 6)] (.seq (cd 8 .skip (.exit 0)) (.seq (.block 1 (.seq (rf 1 [oK 9 1 (oV 7),oK 10 1 (ix 11 5 7),oK 11 1 (lT 11 10),oN 4 (.alloc CP),oK 3 1 (oV 9),⟨none,none,1,.store 11 (.t 4) (.t 11),[]⟩]) (.seq (rt 0 [oN 12 (lT 11 4),oA 13 0 (cl 83 [12]) [0],oA 14 0 (nt 13) [1],oA 15 0 (oV 14) [2,1],oH 15 false 16 0 (oV 3) [3],oH 15 false 17 0 (bc .gtr 16 0) [4,3],oH 15 false 18 0 (oV 17) [5,3,3],oH 18 true 19 0 (oV 0) [6],oH 18 true 20 0 (oV 3) [6],oH 18 true 21 0 (bc .sub 20 1) [8,6],oH 18 true 22 0 (ix 11 19 21) [7,9,6],oH 18 true 23 0 (lT 11 22) [10,6],oH 18 true 24 0 (lT 11 4) [6],oH 18 true 25 0 (cl 195 [23,24]) [11,12,6,6],oH 18 true 26 0 (nt 25) [13,6],oH 15 false 27 0 (.pick (.t 18) (.t 26) (.c (.bool false))) [6,14,3],oA 28 0 (.pick (.t 15) (.c (.bool true)) (.t 27)) [3,15]]) (cd 28 (sr [oN 2 mF] .ret) .skip)))) (rg [oN 29 (bc .add 7 1),oW 7 29]))))))) (sr [oN 2 mT] .ret)))⟩
structure wK (T : Tb) : Prop where
 hT : T 193 = some pW
 fK : jL T
 uV : uU T
def aZ (k l : Lk) : Bool:=decide (k.a < l.a) || (decide (k.a = l.a) && decide (k.b < l.b))
theorem Qg {T : Tb} (h : sU T) {k l : Lk} : PF T 111 [NV k,NV l] (.bool (aZ k l)):=by
 unfold aZ
 by_cases h1 : k.a < l.a
 ·simp only [h1,decide_true,Bool.true_or]
  refine aV nR h.hT ?_
  simp only [iD,Lz]
  refine ev ?_
  (refine ev1 @h1 ?_;try with_reducible exact True.intro)
 ·by_cases h2 : k.a = l.a
  ·simp only [h2,Int.lt_irrefl,decide_true,decide_false,Bool.true_and,Bool.false_or]
   refine aV nR h.hT ?_
   simp only [iD,Lz]
   refine ev ?_
   (refine qm @h2 @Int.lt_irrefl ?_;try with_reducible exact True.intro)
  ·simp only [h1,h2,decide_false,Bool.false_and,Bool.false_or]
   refine aV nR h.hT ?_
   simp only [iD,Lz]
   refine ev ?_
   (refine qm @h1 @h2 ?_;try with_reducible exact True.intro)
theorem KQ {T : Tb} (h : uU T) {k l : Lk} : PF T 195 [NV k,NV l] (.bool (aZ k l)):=by
 unfold aZ
 by_cases h1 : k.a < l.a
 ·simp only [h1,decide_true,Bool.true_or]
  refine aV nR h.hT ?_
  simp only [lH,Lz]
  refine ev ?_
  (refine ev1 @h1 ?_;try with_reducible exact True.intro)
 ·by_cases h2 : k.a = l.a
  ·simp only [h2,Int.lt_irrefl,decide_true,decide_false,Bool.true_and,Bool.false_or]
   refine aV nR h.hT ?_
   simp only [lH,Lz]
   refine ev ?_
   (refine qm @h2 @Int.lt_irrefl ?_;try with_reducible exact True.intro)
  ·simp only [h1,h2,decide_false,Bool.false_and,Bool.false_or]
   refine aV nR h.hT ?_
   simp only [lH,Lz]
   refine ev ?_
   (refine qm @h1 @h2 ?_;try with_reducible exact True.intro)
def allB (n : Nat) (p : Nat → Bool) : Bool:=decide (∀ i,i < n → p i = true)
theorem XZ {n : Nat} {p : Nat → Bool} (h : ∀ i,i < n → p i = true) : allB n p = true:=decide_eq_true h
theorem Ti {n : Nat} {p : Nat → Bool} {i : Nat} (hi : i < n) (h : p i = false) : allB n p = false:=decide_eq_false fun k=>by rw [k i hi] at h;cases h
theorem VB {n : Nat} {p : Nat → Bool} : allB n p = true ↔ ∀ i,i < n → p i = true:=by simp [allB]
def BD (l : List Lk) (i : Nat) : Bool:=fJ (l.getD i default) && (decide (i = 0) || aZ (l.getD (i - 1) default) (l.getD i default))
def bJ (l : List Lk) : Bool:=allB l.length (BD l)
theorem JB {T : Tb} (h : pV T) {l : List Lk} (hw : MR Lk.wf l:=by exact gU) : PF T 89 [iq l] (.bool (bJ l)):=by
 have hlen:=hw.1
 refine aV nR h.hT ?_
 simp only [pU,Lz]
 refine ev ?_
 refine aS (fun _ _=>false) (α:=Nat) (fun i=>⟨dX [iq l,.any,.bool false,.any,.any,iq l,iv (l.length : Nat),iv (i : Nat)],[],0,0,[],[]⟩) (fun i=>i ≤ l.length ∧ ∀ j,j < i → BD l j = true) (fun i=>l.length - i) rfl 0 ?_ ?_ ?_
 ·exact ⟨by omega,by intro j hj;omega⟩
 ·exact Iy
 ·rintro i ⟨hi,hj⟩
  refine ev ?_
  refine aN (fun hc=>?_) fun hc=>?_ <;> (refine qm @hc @mg ?_;try with_reducible exact True.intro)
  ·have hil : i < l.length:=by omega
   have cv:=Au h.jO (l:=l.getD i default) (hw.at_ hil)
   have cb:=Qg h.II (k:=l.getD (i - 1) default) (l:=l.getD i default)
   cases hv : fJ (l.getD i default)
   ·rw [hv] at cv
    refine ah cv ?_
    refine ev ?_
    have : bJ l = false:=Ti hil (by simp only [BD,hv,Bool.false_and])
    rw [this]
   ·rw [hv] at cv
    refine ah cv ?_
    by_cases h0 : i = 0
    ·have h0' : ¬ (0 : Int) < (i : Nat):=by omega
     refine ev1 @h0' ?_
     refine ⟨i + 1,by omega,⟨by omega,fun j hj'=>?_⟩,by exact Iy⟩
     have : j = i:=by omega
     subst this;unfold BD;rw [hv,decide_eq_true h0];rfl
    ·have h0' : (0 : Int) < (i : Nat):=by omega
     have e1 : ((i : Int) - 1).toNat = i - 1:=by omega
     cases hb : aZ (l.getD (i - 1) default) (l.getD i default)
     ·rw [hb] at cb
      refine vU @h0' @mg @e1 ?_
      refine ah cb ?_
      refine ev ?_
      have : bJ l = false:=Ti hil (by simp only [BD,hv,hb,h0,decide_false,Bool.or_self,Bool.and_false])
      rw [this]
     ·rw [hb] at cb
      refine vU @h0' @mg @e1 ?_
      refine ah cb ?_
      refine ev ?_
      refine ⟨i + 1,by omega,⟨by omega,fun j hj'=>?_⟩,by exact Iy⟩
      by_cases e : j = i
      ·subst e;simp only [BD,hv,hb,Bool.or_true,Bool.and_self]
      ·exact hj j (by omega)
  ·have : bJ l = true:=XZ fun j hj'=>hj j (by omega)
   rw [this]
theorem Tj {T : Tb} (h : wK T) {l : List Lk} (hw : MR Lk.wf l:=by exact gU) : PF T 193 [iq l] (.bool (bJ l)):=by
 have hlen:=hw.1
 refine aV nR h.hT ?_
 simp only [pW,Lz]
 refine ev ?_
 refine aS (fun _ _=>false) (α:=Nat) (fun i=>⟨dX [iq l,.any,.bool false,.any,.any,iq l,iv (l.length : Nat),iv (i : Nat)],[],0,0,[],[]⟩) (fun i=>i ≤ l.length ∧ ∀ j,j < i → BD l j = true) (fun i=>l.length - i) rfl 0 ?_ ?_ ?_
 ·exact ⟨by omega,by intro j hj;omega⟩
 ·exact Iy
 ·rintro i ⟨hi,hj⟩
  refine ev ?_
  refine aN (fun hc=>?_) fun hc=>?_ <;> (refine qm @hc @mg ?_;try with_reducible exact True.intro)
  ·have hil : i < l.length:=by omega
   have cv:=oQ h.fK (l:=l.getD i default) (hw.at_ hil)
   have cb:=KQ h.uV (k:=l.getD (i - 1) default) (l:=l.getD i default)
   cases hv : fJ (l.getD i default)
   ·rw [hv] at cv
    refine ah cv ?_
    refine ev ?_
    have : bJ l = false:=Ti hil (by simp only [BD,hv,Bool.false_and])
    rw [this]
   ·rw [hv] at cv
    refine ah cv ?_
    by_cases h0 : i = 0
    ·have h0' : ¬ (0 : Int) < (i : Nat):=by omega
     refine ev1 @h0' ?_
     refine ⟨i + 1,by omega,⟨by omega,fun j hj'=>?_⟩,by exact Iy⟩
     have : j = i:=by omega
     subst this;unfold BD;rw [hv,decide_eq_true h0];rfl
    ·have h0' : (0 : Int) < (i : Nat):=by omega
     have e1 : ((i : Int) - 1).toNat = i - 1:=by omega
     cases hb : aZ (l.getD (i - 1) default) (l.getD i default)
     ·rw [hb] at cb
      refine vU @h0' @mg @e1 ?_
      refine ah cb ?_
      refine ev ?_
      have : bJ l = false:=Ti hil (by simp only [BD,hv,hb,h0,decide_false,Bool.or_self,Bool.and_false])
      rw [this]
     ·rw [hb] at cb
      refine vU @h0' @mg @e1 ?_
      refine ah cb ?_
      refine ev ?_
      refine ⟨i + 1,by omega,⟨by omega,fun j hj'=>?_⟩,by exact Iy⟩
      by_cases e : j = i
      ·subst e;simp only [BD,hv,hb,Bool.or_true,Bool.and_self]
      ·exact hj j (by omega)
  ·have : bJ l = true:=XZ fun j hj'=>hj j (by omega)
   rw [this]
def KR : List Int → Int → List Int
 | [],n=>[n]
 | x :: l,n=>if x < n then x :: KR l n else if x = n then x :: l else n :: x :: l
def Asc (l : List Int) : Prop:=l.Pairwise (· < ·)
theorem OE {l : List Int} {n a : Int} : a ∈ KR l n ↔ a = n ∨ a ∈ l:=by
 induction l with
 | nil=>simp [KR]
 |
  cons x l ih =>
  unfold KR
  split
  ·rw [List.mem_cons,ih,List.mem_cons]
   constructor
   ·rintro (h | h | h) <;> simp [h]
   ·rintro (h | h | h) <;> simp [h]
  ·split
   ·rename_i e;subst e
    constructor
    ·intro h;exact .inr h
    ·rintro (h | h)
     ·rw [h];simp
     ·exact h
   ·simp
theorem JC {l : List Int} {n : Int} (h : Asc l) : Asc (KR l n):=by
 unfold Asc at *
 induction l with
 | nil=>simp [KR]
 |
  cons x l ih =>
  rw [List.pairwise_cons] at h
  unfold KR
  split
  ·rename_i hx
   rw [List.pairwise_cons]
   refine ⟨fun a ha=>?_,ih h.2⟩
   rcases OE.1 ha with rfl | ha
   ·exact hx
   ·exact h.1 a ha
  ·split
   ·rw [List.pairwise_cons];exact h
   ·rename_i h1 h2
    have : n < x:=by omega
    rw [List.pairwise_cons,List.pairwise_cons]
    refine ⟨fun a ha=>?_,h⟩
    rcases List.mem_cons.1 ha with rfl | ha
    ·exact this
    ·have:=h.1 a ha;omega
theorem Tm : ∀ {l m : List Int},Asc l → Asc m → (∀ a,a ∈ l ↔ a ∈ m) → l = m
 | [],[],_,_,_=>rfl
 | [],y :: m,_,_,h=>absurd ((h y).2 (by simp)) (by simp)
 | x :: l,[],_,_,h=>absurd ((h x).1 (by simp)) (by simp)
 |
  x :: l,y :: m,hl,hm,h=>by
  unfold Asc at hl hm
  rw [List.pairwise_cons] at hl hm
  have e : x = y:=by
   rcases List.mem_cons.1 ((h x).1 (by simp)) with h1 | h1
   ·exact h1
   ·rcases List.mem_cons.1 ((h y).2 (by simp)) with h2 | h2
    ·exact h2.symm
    ·have:=hl.1 y h2;have:=hm.1 x h1;omega
  subst e
  congr 1
  refine Tm hl.2 hm.2 fun a=>?_
  constructor
  ·intro ha
   rcases List.mem_cons.1 ((h a).1 (by simp [ha])) with h1 | h1
   ·have:=hl.1 a ha;omega
   ·exact h1
  ·intro ha
   rcases List.mem_cons.1 ((h a).2 (by simp [ha])) with h1 | h1
   ·have:=hm.1 a ha;omega
   ·exact h1
theorem JD : ∀ {a b : List Int},a.Nodup → (∀ x ∈ a,x ∈ b) → a.length ≤ b.length
 | [],b,_,_=>by simp
 |
  x :: a,b,hn,h=>by
  rw [List.nodup_cons] at hn
  have hx:=h x (by simp)
  have:=JD (a:=a) (b:=b.erase x) hn.2 fun y hy=>by
   have hyx : y ≠ x:=fun e=>hn.1 (e ▸ hy)
   exact (List.mem_erase_of_ne hyx).2 (h y (by simp [hy]))
  rw [List.length_erase_of_mem hx] at this
  have:=List.length_pos_of_mem hx
  simp only [List.length_cons];omega
theorem Q7 {l : List Int} (h : Asc l) : l.Nodup:=by
 unfold Asc at h
 exact h.imp fun h e=>by omega
def uX : Fn:=⟨1,34,[.tmp 2],(sr [oN 2 mN] (.seq (rf 1 [oN 7 (.fE 1 Eo 0 []),oK 3 1 (oV 7)]) (.seq (sr [oN 4 (.iw (cI 1))] (.block 0 (.loop (.seq (sr [oW 8 4,oN 9 (bc .lss 8 10)] (cd 9 .skip (.exit 0))) (.seq (.block 1 (sr [oW 12 0,oN 13 (ln 12),oN 14 (.iw (cI 0))] (.block 2 (.loop (sr [oN 15 (bt .lss 14 13)] (.seq (cd 15 .skip (.exit 2)) (.seq (.block 3 (.seq (rf 1 [oK 16 1 (ix 11 12 14),oK 17 1 (lT 11 16),oN 6 (.alloc CP),⟨none,none,1,.store 11 (.t 6) (.t 17),[]⟩]) (sr [oN 18 (fd 0 6),oN 19 (lF 1 18),oW 20 4,oN 21 (bt .eql 19 20),oW 22 21,oG 22 false 23 (fd 1 6),oG 22 false 24 (lF 1 23),oG 22 false 25 (oV 4),oG 22 false 26 (bt .eql 24 25),oN 27 (.pick (.t 22) (.c (.bool true)) (.t 26))] (cd 27 (.seq (rf 2 [oK 28 2 (oV 3),oK 29 2 (oV 4),oN 30 (.fE 1 Eo 1 [(0,(.t 29))]),oK 31 1 (.app 1 8 (.t 28) (.t 30)),oK 3 2 (oV 31)]) (.exit 2)) .skip)))) (rg [oN 32 (bc .add 14 1),oW 14 32])))))))) (rg [oW 10 4,oN 11 (bc .add 10 1),oW 4 11])))))) (sr [oW 33 3,oW 2 33] .ret))))⟩
structure AL (T : Tb) : Prop where
 hT : T 180 = some uX
def oZ : Fn:=⟨1,8,[.tmp 2],(sr [oN 2 mN] (.seq (sr [oW 3 0,oN 4 (cl 89 [3]),oN 5 (nt 4)] (cd 5 (sr [oN 2 mN] .ret) .skip)) (sr [oW 6 0,oN 7 (cl 180 [6]),oW 2 7] .ret)))⟩
structure AO (T : Tb) : Prop where
 hT : T 172 = some oZ
 wL : pV T
 OG : AL T
def ends (l : List Lk) (v : Int) : Bool:=l.any fun x=>decide (x.a = v) || decide (x.b = v)
def wM (l : List Lk) (v : Nat) : List Int:=((List.range v).filter fun (u : Nat)=>decide (1 ≤ u) && ends l u).map fun u=>((u : Nat) : Int)
theorem adH (l : List Lk) : wM l 1 = []:=by simp [wM]
theorem adI (l : List Lk) {v : Nat} (h : 1 ≤ v) : wM l (v + 1) = wM l v ++ (if ends l v = true then [((v : Nat) : Int)] else []):=by
 unfold wM
 rw [List.range_succ,List.filter_append,List.map_append]
 congr 1
 simp only [List.filter_cons,List.filter_nil,decide_eq_true h,Bool.true_and]
 split <;> rfl
theorem OH (l : List Lk) (v : Nat) : (wM l v).length ≤ v:=by
 unfold wM
 rw [List.length_map]
 have:=List.length_filter_le (fun (u : Nat)=>decide (1 ≤ u) && ends l u) (List.range v)
 rw [List.length_range] at this;exact this
theorem OI {l : List Lk} {v : Int} {k : Nat} (hk : k < l.length) (h : (l.getD k default).a = v ∨ (l.getD k default).b = v) : ends l v = true:=by
 unfold ends
 rw [List.any_eq_true]
 exact ⟨_,getD_mem hk,by simpa using h⟩
theorem X0 {l : List Lk} {v : Int} (h : ∀ k,k < l.length → (l.getD k default).a ≠ v ∧ (l.getD k default).b ≠ v) : ends l v = false:=by
 unfold ends
 rw [List.any_eq_false]
 intro x hx
 obtain ⟨k,hk⟩:=List.mem_iff_getElem?.1 hx
 have hlt:=(List.getElem?_eq_some_iff.1 hk).1
 have:=h k hlt
 rw [List.getD_eq_getElem?_getD,hk] at this
 simpa using this
def bC : Fn:=⟨1,86,[.tmp 2],(.seq (rf 1 [oN 1 (.box (.t 0)),oK 2 1 mF]) (.seq (sr [oN 6 (fd 0 1),oN 7 (lF 1 6),oN 8 (bc .lss 7 1),oW 9 8,oG 9 false 10 (fd 0 1),oG 9 false 11 (lF 1 10),oG 9 false 12 (bc .geq 11 10),oN 13 (.pick (.t 9) (.c (.bool true)) (.t 12)),oW 14 13,oG 14 false 15 (fd 1 1),oG 14 false 16 (lT 3 15),oG 14 false 17 (cl 101 [16]),oG 14 false 18 (bc .leq 17 0),oN 19 (.pick (.t 14) (.c (.bool true)) (.t 18)),oW 20 19,oG 20 false 21 (fd 4 1),oG 20 false 22 (lF 1 21),oG 20 false 23 (ln 22),oG 20 false 24 (bc .eql 23 0),oN 25 (.pick (.t 20) (.c (.bool true)) (.t 24))] (cd 25 (sr [oN 2 mF] .ret) .skip)) (.seq (rf 1 [oK 26 1 (.call 39 [(cI 0)]),oN 3 (.alloc mV),⟨none,none,1,.store 3 (.t 3) (.t 26),[]⟩]) (.seq (sr [oN 27 (fd 4 1),oN 28 (lF 1 27),oN 29 (ln 28),oN 30 (.iw (cI 0))] (.block 0 (.loop (sr [oN 31 (bt .lss 30 29)] (.seq (cd 31 .skip (.exit 0)) (.seq (.block 1 (.seq (rf 1 [oK 32 1 (oV 30),oK 33 1 (ix 10 28 30),oK 34 1 (lT 10 33),oN 5 (.alloc zz5),oK 4 1 (oV 32),⟨none,none,1,.store 10 (.t 5) (.t 34),[]⟩]) (.seq (.seq (rt 0 [oN 35 (fd 0 5),oA 36 0 (lF 1 35) [0],oA 37 0 (cl 37 [36]) [1],oA 38 0 (nt 37) [2],oA 39 0 (oV 38) [3,2],oH 39 false 40 0 (fd 0 5) [4],oH 39 false 41 0 (lF 1 40) [5,4],oH 39 false 42 0 (fd 0 1) [4],oH 39 false 43 0 (lF 1 42) [7,4],oH 39 false 44 0 (bt .eql 41 43) [6,8,4],oA 45 0 (.pick (.t 39) (.c (.bool true)) (.t 44)) [4,9],oA 46 0 (oV 45) [10,4],oH 46 false 47 0 (oV 4) [11],oH 46 false 48 0 (bc .gtr 47 0) [12,11],oH 46 false 49 0 (oV 48) [13,11,11],oH 49 true 50 0 (fd 4 1) [14],oH 49 true 51 0 (lF 1 50) [15,14],oH 49 true 52 0 (oV 4) [14],oH 49 true 53 0 (bc .sub 52 1) [17,14],oH 49 true 54 0 (ix 10 51 53) [16,18,14],oH 49 true 55 0 (fd 0 54) [19,14],oH 49 true 56 0 (lF 1 55) [20,14],oH 49 true 57 0 (fd 0 5) [14],oH 49 true 58 0 (lF 1 57) [22,14],oH 49 true 59 0 (bt .geq 56 58) [21,23,14],oH 46 false 60 0 (.pick (.t 49) (.t 59) (.c (.bool false))) [14,24,11],oA 61 0 (.pick (.t 46) (.c (.bool true)) (.t 60)) [11,25]]) (cd 61 (sr [oN 2 mF] .ret) .skip)) (.seq (sr [oN 62 (fd 1 5),oN 63 (lT 3 62),oN 64 (cl 101 [63]),oN 65 (bc .leq 64 0),oW 66 65,oG 66 false 67 (fd 4 5),oG 66 false 68 (lT 3 67),oG 66 false 69 (cl 102 [68]),oG 66 false 70 (nt 69),oN 71 (.pick (.t 66) (.c (.bool true)) (.t 70)),oW 72 71,oG 72 false 73 (fd 7 5),oG 72 false 74 (lT 3 73),oG 72 false 75 (cl 102 [74]),oG 72 false 76 (nt 75),oN 77 (.pick (.t 72) (.c (.bool true)) (.t 76))] (cd 77 (sr [oN 2 mF] .ret) .skip)) (rg [oN 78 (lT 3 3),oN 79 (fd 1 5),oN 80 (lT 3 79),oN 81 (cl 131 [78,80]),oS (.store 3 (.t 3) (.t 81))]))))) (rg [oN 82 (bc .add 30 1),oW 30 82]))))))) (.seq (rt 0 [oN 83 (lT 3 3),oN 84 (.call 39 [(cI 1)]),oA 85 0 (cl 32 [83,84]) [0,1,1],oA 2 0 (oV 85) [2,2,0,1,2]]) .ret)))))⟩
structure gZ (T : Tb) : Prop where
 hT : T 185 = some bC
 sG : sD T
 yA : yx T
 bU : fB T
 uI : uF T
 dG : lW T
 bG : eH T
theorem aoo (a : Int) : nd a = inB a 0 9:=rfl
theorem aku {a b : St} (h : Fg a b:=by
 (refine NS [(0,_),(1,_)] (by simp) (by intro p hp;simp only [List.mem_cons,List.not_mem_nil,or_false] at hp;rcases hp with rfl | rfl <;> refine ⟨rfl,?_⟩ <;> first | exact l9 _ | simp [dJ,V.still]) rfl ?_) <;> (try (refine ev ?_;try with_reducible exact True.intro)) <;> (repeat' (first | exact True.intro | omega | exact yL rfl (by simp) | refine ⟨?_,?_⟩ | exact of_eq_true (Am _ _ _) | exact jo rfl (by simp;done) | exact jo rfl rfl | (refine jZ rfl ?_ rfl;simp [aH];done) | (refine jZ rfl ?_ rfl;simp [aH];omega) | (refine CZ ?_ ?_;(focus ((refine ev ?_;try with_reducible exact True.intro);done));(intro q hq k s0 l0;simp;done))))) : Fg a b:=h
theorem nX {T : Tb} (h : gZ T) {c : Cd} (hw : c.wf:=by exact gU) : PF T 185 [SA c] (.bool (nV c)):=by
 obtain ⟨w1,w2⟩:=hw
 have hlen:=w2.1
 have cs:=IE h.uI (r:=c.total) w1
 have c0:=yB h.bU (n:=0) (by omega)
 have c1:=yB h.bU (n:=1) (by omega)
 have ceq:=AB h.sG (y:=GR c.ps c.ps.length) (z:=bQ 1) (gI (Jz _ _)) (gI (rO (by decide)))
 by_cases k1 : c.node < 1
 ·have : nV c = false:=by unfold nV inB;rw [decide_eq_false (show ¬ 1 ≤ c.node by omega)];simp
  rw [this]
  refine aV nR h.hT ?_
  simp only [bC,Lz]
  refine ev ?_
  (refine ev1 @k1 ?_;try with_reducible exact True.intro)
 by_cases k2 : 10 ≤ c.node
 ·have : nV c = false:=by unfold nV inB;rw [decide_eq_false (show ¬ c.node ≤ 9 by omega)];simp
  rw [this]
  refine aV nR h.hT ?_
  simp only [bC,Lz]
  refine ev ?_
  (refine qm @k1 @k2 ?_;try with_reducible exact True.intro)
 have e1 : inB c.node 1 9 = true:=by unfold inB;rw [decide_eq_true (show 1 ≤ c.node by omega),decide_eq_true (show c.node ≤ 9 by omega)];rfl
 by_cases k3 : nY c.total.q ≤ 0
 ·have : nV c = false:=by unfold nV tZ;rw [decide_eq_false (show ¬ 0 < nY c.total.q by omega)];simp
  rw [this]
  refine aV nR h.hT ?_
  simp only [bC,Lz]
  refine ev ?_
  refine qm @k1 @k2 ?_
  refine ah cs ?_
  (refine ev1 @k3 ?_;try with_reducible exact True.intro)
 have e2 : decide (0 < tZ c.total) = true:=decide_eq_true (by unfold tZ;omega)
 by_cases k4 : ((c.ps.length : Nat) : Int) = 0
 ·have e : c.ps = []:=List.eq_nil_of_length_eq_zero (by omega)
  have : nV c = false:=by unfold nV;rw [e];simp
  rw [this]
  refine aV nR h.hT ?_
  simp only [bC,Lz]
  refine ev ?_
  refine qm @k1 @k2 ?_
  refine ah cs ?_
  (refine qm @k3 @k4 ?_;try with_reducible exact True.intro)
 have e3 : c.ps.isEmpty = false:=by cases hp : c.ps with
  | nil=>rw [hp] at k4;simp at k4
  | cons x l=>rfl
 refine aV nR h.hT ?_
 simp only [bC,Lz]
 refine ev ?_
 refine qm @k1 @k2 ?_
 refine ah cs ?_
 refine qm @k3 @k4 ?_
 refine ah c0 ?_
 refine ev ?_
 refine aS (fun _ _=>false) (α:=Nat) (fun i=>⟨dX [.any,.ptr 0 0 0,.bool false,.ptr 1 0 0,.any,.any,.any,.any,.any,.any,.any,.any,.any,.any,.any,.any,.any,.any,.any,.any,.any,.any,.any,.any,.any,.any,.any,.any,Ip c.ps,iv (c.ps.length : Nat),iv (i : Nat)],[some ⟨5,[c.cells]⟩,some ⟨3,[(GR c.ps i).cells]⟩],0,0,[],[]⟩) (fun i=>i ≤ c.ps.length ∧ ∀ j,j < i → EK c j = true) (fun i=>c.ps.length - i) rfl 0 ?_ ?_ ?_
 ·exact ⟨by omega,by intro j hj;omega⟩
 ·(refine aJ ?_) <;> (try (refine ev1 @adA ?_;try with_reducible exact True.intro)) <;> (repeat' (first | refine ⟨?_,?_⟩ | exact Gh (by omega) | exact Ij (by simp) | exact Gi _))
 ·rintro i ⟨hi,hj⟩
  refine ev ?_
  refine aN (fun hc=>?_) fun hc=>?_ <;> (refine qm @hc @mg ?_;try with_reducible exact True.intro)
  ·have hil : i < c.ps.length:=by omega
   have hwp:=w2.at_ hil
   have es:=(adB c.ps hil).symm
   obtain ⟨p,hp⟩ : ∃ p,c.ps.getD i default = p:=⟨_,rfl⟩
   obtain ⟨q,hq⟩ : ∃ q,c.ps.getD (i - 1) default = q:=⟨_,rfl⟩
   rw [hp] at hwp es ⊢
   have cn:=Oq h.yA (a:=p.node)
   rw [aoo] at cn
   have csh:=IE h.uI (r:=p.share) hwp.1
   have cdx:=uD h.dG (r:=p.dx) hwp.2.1
   have cdy:=uD h.dG (r:=p.dy) hwp.2.2
   refine ah cn ?_
   cases b1 : inB p.node 0 9
   ·refine ev ?_
    rw [show nV c = false from D6 hil (by unfold EK;rw [hp,b1];simp)]
   refine ev ?_
   by_cases b2 : p.node = c.node
   ·refine ev1 @b2 ?_
    rw [show nV c = false from D6 hil (by unfold EK;rw [hp,decide_eq_true b2];simp)]
   have q2 : decide (p.node = c.node) = false:=decide_eq_false b2
   by_cases h0 : i = 0
   ·have h0' : ¬ (0 : Int) < (i : Nat):=by omega
    have q3 : (decide (i = 0) || decide ((c.ps.getD (i - 1) default).node < p.node)) = true:=by rw [decide_eq_true h0];rfl
    refine qm @b2 @h0' ?_
    refine ah csh ?_
    by_cases b4 : nY p.share.q ≤ 0
    ·refine ev1 @b4 ?_
     rw [show nV c = false from D6 hil (by unfold EK;rw [hp,decide_eq_false (show ¬ 0 < tZ p.share by unfold tZ;omega)];simp)]
    have q4 : decide (0 < tZ p.share) = true:=decide_eq_true (by unfold tZ;omega)
    have adJ:=zY h.bG (r:=GR c.ps i) (s:=p.share) (Jz _ _) (kD (Jy (of_decide_eq_true q4)))
    rw [es] at adJ
    refine ev1 @b4 ?_
    refine ah cdx ?_
    cases b5 : p.dx.ok
    ·refine ev1 @b4 ?_
     rw [show nV c = false from D6 hil (by unfold EK;rw [hp,b5];simp)]
    refine ev1 @b4 ?_
    refine ah cdy ?_
    cases b6 : p.dy.ok
    ·refine ev1 @b4 ?_
     rw [show nV c = false from D6 hil (by unfold EK;rw [hp,b6];simp)]
    refine ev1 @b4 ?_
    refine ah adJ ?_
    refine ev ?_
    refine ⟨i + 1,by omega,⟨by omega,fun j hj'=>?_⟩,by exact aku⟩
    by_cases e : j = i
    ·subst e;unfold EK;rw [hp,b1,b5,b6,q4,q2,q3];rfl
    ·exact hj j (by omega)
   ·have h0' : (0 : Int) < (i : Nat):=by omega
    have e1 : ((i : Int) - 1).toNat = i - 1:=by omega
    by_cases b3 : p.node ≤ q.node
    ·refine ev6 @b2 @h0' @mg @e1 @hq @b3 ?_
     rw [show nV c = false from D6 hil (by unfold EK;rw [hp,hq,decide_eq_false h0,decide_eq_false (show ¬ q.node < p.node by omega)];simp)]
    ·have q3 : (decide (i = 0) || decide ((c.ps.getD (i - 1) default).node < p.node)) = true:=by rw [hq,decide_eq_false h0,decide_eq_true (show q.node < p.node by omega)];rfl
     refine ev6 @b2 @h0' @mg @e1 @hq @b3 ?_
     refine ah csh ?_
     by_cases b4 : nY p.share.q ≤ 0
     ·refine ev1 @b4 ?_
      rw [show nV c = false from D6 hil (by unfold EK;rw [hp,decide_eq_false (show ¬ 0 < tZ p.share by unfold tZ;omega)];simp)]
     have q4 : decide (0 < tZ p.share) = true:=decide_eq_true (by unfold tZ;omega)
     have adJ:=zY h.bG (r:=GR c.ps i) (s:=p.share) (Jz _ _) (kD (Jy (of_decide_eq_true q4)))
     rw [es] at adJ
     refine ev1 @b4 ?_
     refine ah cdx ?_
     cases b5 : p.dx.ok
     ·refine ev1 @b4 ?_
      rw [show nV c = false from D6 hil (by unfold EK;rw [hp,b5];simp)]
     refine ev1 @b4 ?_
     refine ah cdy ?_
     cases b6 : p.dy.ok
     ·refine ev1 @b4 ?_
      rw [show nV c = false from D6 hil (by unfold EK;rw [hp,b6];simp)]
     refine ev1 @b4 ?_
     refine ah adJ ?_
     refine ev ?_
     refine ⟨i + 1,by omega,⟨by omega,fun j hj'=>?_⟩,by exact aku⟩
     by_cases e : j = i
     ·subst e;unfold EK;rw [hp,b1,b5,b6,q4,q2,q3];rfl
     ·exact hj j (by omega)
  ·have ei : i = c.ps.length:=by omega
   subst ei
   rw [adC fun j hj'=>hj j hj',e1,e2,e3]
   refine ev ?_
   refine ah c1 ?_
   refine ev ?_
   refine ah ceq ?_
   (refine ev ?_;try with_reducible exact True.intro)
def aop (l : List Cd) (i : Nat) : Prop :=
 nV (l.getD i default) = true ∧ (∀ k,k < (l.getD i default).ps.length → ((l.getD i default).ps.getD k default).node = 0 ∨ ∃ j,i < j ∧ j < l.length ∧ (l.getD j default).node = ((l.getD i default).ps.getD k default).node) ∧
  ∀ j,i < j → j < l.length → (l.getD j default).node ≠ (l.getD i default).node
noncomputable instance (l : List Cd) : Decidable (∀ i,i < l.length → aop l i):=Classical.propDecidable _
theorem sH {l : Lk} (h : fJ l = true) : 0 ≤ l.a ∧ l.a < l.b ∧ l.b ≤ 9:=by
 unfold fJ nd at h
 simp only [Bool.and_eq_true,decide_eq_true_eq] at h
 omega
theorem yP {l : List Lk} (h : bJ l = true) {k : Nat} (hk : k < l.length) : fJ (l.getD k default) = true:=by
 have:=VB.1 h k hk
 unfold BD at this
 simp only [Bool.and_eq_true] at this
 exact this.1
theorem adK {l : List Lk} {v : Int} : ends l v = true ↔ ∃ k,k < l.length ∧ ((l.getD k default).a = v ∨ (l.getD k default).b = v):=by
 constructor
 ·intro h
  refine Classical.byContradiction fun k=>?_
  rw [X0 fun j hj=>⟨fun e=>k ⟨j,hj,.inl e⟩,fun e=>k ⟨j,hj,.inr e⟩⟩] at h
  cases h
 ·rintro ⟨k,hk,h⟩;exact OI hk h
theorem OJ (l : List Lk) (v : Nat) (a : Int) : a ∈ wM l v ↔ 1 ≤ a ∧ a < v ∧ ends l a = true:=by
 unfold wM
 rw [List.mem_map]
 constructor
 ·rintro ⟨u,hu,rfl⟩
  rw [List.mem_filter,List.mem_range,Bool.and_eq_true,decide_eq_true_eq] at hu
  exact ⟨by omega,by omega,hu.2.2⟩
 ·rintro ⟨h1,h2,h3⟩
  refine ⟨a.toNat,?_,by omega⟩
  rw [List.mem_filter,List.mem_range,Bool.and_eq_true,decide_eq_true_eq,show ((a.toNat : Nat) : Int) = a by omega]
  exact ⟨by omega,by omega,h3⟩
def AP (l : List Lk) : List Int:=if bJ l = true then wM l 10 else []
theorem OL {l : List Lk} (h : bJ l = true) : AP l = wM l 10:=if_pos h
theorem adL {l : List Lk} (h : bJ l = false) : AP l = []:=if_neg (by rw [h];simp)
theorem X3 (l : List Lk) : (AP l).length ≤ 10:=by
 unfold AP
 split
 ·exact OH l 10
 ·simp
def asi (l : List Lk) (o : List Int) : Prop:=bJ l = true ∧ o.length = (AP l).length ∧ ∀ x ∈ AP l,x ∈ o
instance (l : List Lk) (o : List Int) : Decidable (asi l o):=inferInstanceAs (Decidable (_ ∧ _ ∧ _))
theorem aip {a b : St} (h : Fg a b:=by
 (simp only [← wG];refine DN (k:=3) (yM _ _) rfl ?_;(try (refine ew ?_;try with_reducible exact True.intro));(repeat' (first | exact True.intro | omega | exact wF (by simp) (by simp) (by simp) | refine ⟨?_,?_⟩ | exact jo rfl (by simp))))) : Fg a b:=h
theorem VD {T : Tb} (h : AL T) {l : List Lk} (hw : MR Lk.wf l:=by exact gU) : PO T 180 [iq l] (ints (wM l 10)):=by
 have hlen:=hw.1
 refine dw nR h.hT ?_
 simp only [uX,Lz,St.enter,List.length_cons,List.length_nil,Nat.zero_add]
 refine ew ?_
 refine aS (fun _ _=>false) (α:=Nat × List Int) (fun q=>⟨dX [iq l,.any,.ak,slV q.2.length,iv (q.1 : Nat)],WI 1 (aH q.2),0,0,[],[]⟩) (fun q=>1 ≤ q.1 ∧ q.1 ≤ 10 ∧ q.2 = wM l q.1) (fun q=>10 - q.1) rfl (1,[]) ?_ ?_ ?_
 ·exact ⟨by omega,by omega,(adH l).symm⟩
 ·exact adx
 ·rintro ⟨v,xs⟩ ⟨h1,h2,hx0⟩
  dsimp only at h1 h2 hx0
  have hx : xs.length ≤ 10:=by rw [hx0];have:=OH l v;omega
  have es:=adI l h1
  rw [← hx0] at es
  (rcases xs with _ | ⟨x,xs⟩ <;> simp only [List.length_nil,List.length_cons,kX,ku,fF,dL] at hx ⊢)
  ·refine ew ?_
   refine aN (fun hc=>?_) fun hc=>?_ <;> (refine CQ @hc ?_;try with_reducible exact True.intro)
   ·refine aS (fun _ _=>false) (α:=Nat) (fun k=>⟨dX [iq l,.any,.ak,.ak,iv (v : Nat),.any,.any,.any,.any,.any,.any,.any,iq l,iv (l.length : Nat),iv (k : Nat)],[],0,0,[],[]⟩) (fun k=>k ≤ l.length ∧ ∀ r,r < k → (l.getD r default).a ≠ (v : Nat) ∧ (l.getD r default).b ≠ (v : Nat)) (fun k=>l.length - k) rfl 0 ?_ ?_ ?_
    ·exact ⟨by omega,by intro j hj;omega⟩
    ·(refine aJ ?_;exact zy)
    ·rintro k ⟨hk,hr⟩
     refine ew ?_
     refine aN (fun hd=>?_) fun hd=>?_ <;> (refine yS @hd @mg ?_;try with_reducible exact True.intro)
     ·have hkl : k < l.length:=by omega
      by_cases ha : (l.getD k default).a = (v : Nat)
      ·rw [OI hkl (.inl ha)] at es
       refine CQ @ha ?_
       exact ⟨by omega,(v + 1,([]) ++ [((v : Nat) : Int)]),by dsimp only;omega,⟨by dsimp only;omega,by dsimp only;omega,es.symm⟩,by exact ady⟩
      ·by_cases hb : (l.getD k default).b = (v : Nat)
       ·rw [OI hkl (.inr hb)] at es
        refine yS @ha @hb ?_
        exact ⟨by omega,(v + 1,([]) ++ [((v : Nat) : Int)]),by dsimp only;omega,⟨by dsimp only;omega,by dsimp only;omega,es.symm⟩,by exact ady⟩
       ·refine yS @ha @hb ?_
        refine ⟨k + 1,by omega,⟨by omega,fun r hr'=>?_⟩,by exact adx⟩
        by_cases e : r = k
        ·subst e;exact ⟨ha,hb⟩
        ·exact hr r (by omega)
     ·rw [X0 fun r hr'=>hr r (by omega),if_neg (by simp),List.append_nil] at es
      exact ⟨(v + 1,[]),by dsimp only;omega,⟨by dsimp only;omega,by dsimp only;omega,es.symm⟩,by exact adx⟩
   ·have ev : v = 10:=by omega
    subst ev
    rw [← hx0]
    exact Jw
  ·refine ew ?_
   refine aN (fun hc=>?_) fun hc=>?_ <;> (refine CQ @hc ?_;try with_reducible exact True.intro)
   ·refine aS (fun _ _=>false) (α:=Nat) (fun k=>⟨dX [iq l,.any,.ak,.bF 0 0 (x :: xs).length,iv (v : Nat),.any,.any,.any,.any,.any,.any,.any,iq l,iv (l.length : Nat),iv (k : Nat)],[some ⟨1,aH (x :: xs)⟩],0,0,[],[]⟩) (fun k=>k ≤ l.length ∧ ∀ r,r < k → (l.getD r default).a ≠ (v : Nat) ∧ (l.getD r default).b ≠ (v : Nat)) (fun k=>l.length - k) rfl 0 ?_ ?_ ?_
    ·exact ⟨by omega,by intro j hj;omega⟩
    ·(refine aJ ?_;exact zy)
    ·rintro k ⟨hk,hr⟩
     refine ew ?_
     refine aN (fun hd=>?_) fun hd=>?_ <;> (refine yS @hd @mg ?_;try with_reducible exact True.intro)
     ·have hkl : k < l.length:=by omega
      by_cases ha : (l.getD k default).a = (v : Nat)
      ·rw [OI hkl (.inl ha)] at es
       refine CQ @ha ?_
       exact ⟨by omega,(v + 1,(x :: xs) ++ [((v : Nat) : Int)]),by dsimp only;omega,⟨by dsimp only;omega,by dsimp only;omega,es.symm⟩,by exact aip⟩
      ·by_cases hb : (l.getD k default).b = (v : Nat)
       ·rw [OI hkl (.inr hb)] at es
        refine yS @ha @hb ?_
        exact ⟨by omega,(v + 1,(x :: xs) ++ [((v : Nat) : Int)]),by dsimp only;omega,⟨by dsimp only;omega,by dsimp only;omega,es.symm⟩,by exact aip⟩
       ·refine yS @ha @hb ?_
        refine ⟨k + 1,by omega,⟨by omega,fun r hr'=>?_⟩,by exact adz⟩
        by_cases e : r = k
        ·subst e;exact ⟨ha,hb⟩
        ·exact hr r (by omega)
     ·rw [X0 fun r hr'=>hr r (by omega),if_neg (by simp),List.append_nil] at es
      exact ⟨(v + 1,x :: xs),by dsimp only;omega,⟨by dsimp only;omega,by dsimp only;omega,es.symm⟩,by exact adz⟩
   ·have ev : v = 10:=by omega
    subst ev
    rw [← hx0]
    exact Ov (o:=0) (l:=x :: xs) rfl
theorem Tq {T : Tb} (h : AO T) {l : List Lk} (hw : MR Lk.wf l:=by exact gU) : PO T 172 [iq l] (ints (AP l)):=by
 have ci:=JB h.wL hw
 have cn:=VD h.OG hw
 cases hb : bJ l
 ·rw [hb] at ci
  rw [adL hb]
  refine dw (fun x d=>x == 180) h.hT ?_
  simp only [oZ,Lz,St.enter,List.length_cons,List.length_nil,Nat.zero_add]
  refine ew ?_
  refine ah ci ?_
  refine ew ?_
  exact Jw
 ·rw [hb] at ci
  rw [OL hb]
  refine dw (fun x d=>x == 180) h.hT ?_
  simp only [oZ,Lz,St.enter,List.length_cons,List.length_nil,Nat.zero_add]
  refine ew ?_
  refine ah ci ?_
  refine ew ?_
  refine iU cn (by (refine ew ?_;try with_reducible exact True.intro)) ?_
  intro r σ2 os g
  refine ew ?_
  exact ag3 g
theorem wO {k l : Lk} : aZ k l = true ↔ k.a < l.a ∨ (k.a = l.a ∧ k.b < l.b):=by simp [aZ]
theorem zK {k l m : Lk} (h : aZ k l = true) (h2 : aZ l m = true) : aZ k m = true:=by
 rw [wO] at *;omega
theorem Q8 {l : List Lk} (h : bJ l = true) {i : Nat} (hi : i + 1 < l.length) : aZ (l.getD i default) (l.getD (i + 1) default) = true:=by
 have:=VB.1 h (i + 1) hi
 unfold BD at this
 simp only [Bool.and_eq_true,Bool.or_eq_true,decide_eq_true_eq] at this
 rcases this.2 with h | h
 ·omega
 ·exact h
theorem VE {l : List Lk} (h : bJ l = true) : ∀ (j i : Nat),i < j → j < l.length → aZ (l.getD i default) (l.getD j default) = true
 | 0,i,hi,_=>by omega
 |
  j + 1,i,hi,hj=>by
  have ha:=Q8 h hj
  by_cases e : i = j
  ·subst e;exact ha
  ·exact zK (VE h j i (by omega) (by omega)) ha
theorem JE {α : Type} [Inhabited α] {l : List α} {i : Nat} (h : i < l.length) : l.getD i default = l[i]:=by
 rw [List.getD_eq_getElem?_getD,List.getElem?_eq_getElem h];rfl
theorem VF {l : List Lk} (h : bJ l = true) : l.Pairwise fun k l=>aZ k l = true ∧ 0 ≤ k.a ∧ k.a < k.b ∧ 0 ≤ l.a ∧ l.a < l.b:=by
 rw [List.pairwise_iff_getElem]
 intro i j hi hj hij
 have h1:=VE h j i hij hj
 have h2:=sH (yP h hi)
 have h3:=sH (yP h hj)
 rw [JE hi,JE hj] at h1
 rw [JE hi] at h2
 rw [JE hj] at h3
 exact ⟨h1,h2.1,h2.2.1,h3.1,h3.2.1⟩
theorem qg {l : List Lk} (h : bJ l = true) {x : Lk} (hx : x ∈ l) : fJ x = true:=by
 obtain ⟨i,hi⟩:=List.mem_iff_getElem?.1 hx
 have hlt:=(List.getElem?_eq_some_iff.1 hi).1
 have:=yP h hlt
 rwa [List.getD_eq_getElem?_getD,hi] at this
def X4 (v : Int) (x : Lk) : Option Int:=if x.a = v then some x.b else if x.b = v then some x.a else none
def IJ (v : Int) (out : List Int) (x : Lk) : List Int:=if x.b = v then KR (if x.a = v then KR out x.b else out) x.a else (if x.a = v then KR out x.b else out)
def nbS (l : List Lk) (v : Int) (i : Nat) : List Int:=(l.take i).foldl (IJ v) []
def nbI (l : List Lk) (v : Int) (i : Nat) : List Int:=(l.take i).filterMap (X4 v)
theorem take_snoc {α : Type} [Inhabited α] {l : List α} {i : Nat} (h : i < l.length) : l.take (i + 1) = l.take i ++ [l.getD i default]:=by
 rw [List.take_add_one,List.getElem?_eq_getElem h,List.getD_eq_getElem?_getD,List.getElem?_eq_getElem h];rfl
theorem X5 {v : Int} {out : List Int} {x : Lk} {a : Int} : a ∈ IJ v out x ↔ a ∈ out ∨ (x.a = v ∧ a = x.b) ∨ (x.b = v ∧ a = x.a):=by
 unfold IJ
 split <;> split <;> simp_all [OE] <;> (constructor <;> rintro (h | h) <;> simp_all)
theorem Zf {v : Int} : ∀ (l : List Lk) (out : List Int) (a : Int),a ∈ l.foldl (IJ v) out ↔ a ∈ out ∨ ∃ x ∈ l,(x.a = v ∧ a = x.b) ∨ (x.b = v ∧ a = x.a)
 | [],out,a=>by simp
 |
  x :: l,out,a=>by
  rw [List.foldl_cons,Zf l,X5]
  simp only [List.mem_cons,exists_eq_or_imp,or_assoc]
theorem X6 {v : Int} {out : List Int} {x : Lk} (h : Asc out) : Asc (IJ v out x):=by
 unfold IJ
 split <;> split <;> first | exact JC (JC h) | exact JC h | exact h
theorem Tt {v : Int} : ∀ (l : List Lk) (out : List Int),Asc out → Asc (l.foldl (IJ v) out)
 | [],out,h=>h
 | x :: l,out,h=>Tt l _ (X6 h)
theorem aoq {l : List Lk} (h : bJ l = true) (v : Int) : nbS l v l.length = nbI l v l.length:=by
 unfold nbS nbI
 rw [List.take_length]
 refine Tm (Tt _ _ .nil) ?_ fun a=>?_
 ·refine List.Pairwise.filterMap _ ?_ (VF h)
  rintro k m ⟨h1,h2,h3,h4,h5⟩ b hb b' hb'
  rw [wO] at h1
  unfold X4 at hb hb'
  split at hb <;> split at hb' <;> (try split at hb) <;> (try split at hb') <;> simp_all <;> omega
 ·rw [Zf,List.mem_filterMap]
  simp only [List.not_mem_nil,false_or]
  constructor
  ·rintro ⟨x,hx,h1⟩
   refine ⟨x,hx,?_⟩
   have:=sH (qg h hx)
   unfold X4
   rcases h1 with ⟨h1,rfl⟩ | ⟨h1,rfl⟩
   ·rw [if_pos h1]
   ·rw [if_neg (by omega),if_pos h1]
  ·rintro ⟨x,hx,h1⟩
   refine ⟨x,hx,?_⟩
   unfold X4 at h1
   split at h1
   ·simp_all
   ·split at h1 <;> simp_all
def uY : Fn:=⟨1,17,[.cell 2 3 true],(.seq (rf 2 [oN 1 (.box (.t 0)),oK 2 1 (.alloc mV)]) (.seq (rt 4 [oK 3 4 (fd 0 1),oA 4 4 (fd 0 3) [0],oA 5 4 (lF 1 4) [1],oN 6 (.fE 1 Eo 0 []),oK 7 4 (fd 0 1),oA 8 4 (fd 1 7) [4],oA 9 4 (lF 1 8) [5],oA 10 1 (.app 1 8 (.t 6) (.t 9)) [3,6],oA 11 4 (.build QM [(0,1,(.t 5)),(1,1,(.t 10))]) [2,7],oK 12 2 (.fE 1 Eo 0 []),oK 13 4 (fd 2 1),oA 14 4 (lF 1 13) [10],oA 15 3 (.app 1 8 (.t 12) (.t 14)) [9,11,7],oA 16 4 (.build mV [(0,2,(.t 11)),(2,1,(.t 15))]) [8,12],⟨none,none,4,.store 3 (.t 2) (.t 16),[13,12,0,1,2,3,4,5,6,7,8,9,10,11,12,13]⟩]) .ret))⟩
structure AQ (T : Tb) : Prop where
 hT : T 204 = some uY
def vg : Fn:=⟨1,17,[.cell 2 11 true],(.seq (rf 2 [oN 1 (.box (.t 0)),oK 2 1 (.alloc CP)]) (.seq (rt 0 [oN 3 (fd 0 1),oA 4 0 (lF 1 3) [0],oN 5 (fd 1 1),oA 6 0 (lF 1 5) [2],oN 7 (fd 2 1),oA 8 0 (lT 3 7) [4],oA 9 0 (cl 204 [8]) [5],oN 10 (fd 5 1),oA 11 0 (lT 3 10) [7],oA 12 0 (cl 204 [11]) [8,6],oN 13 (fd 8 1),oA 14 0 (lT 3 13) [10],oA 15 0 (cl 204 [14]) [11,9],oA 16 0 (.build CP [(0,1,(.t 4)),(1,1,(.t 6)),(2,3,(.t 9)),(5,3,(.t 12)),(8,3,(.t 15))]) [1,3,6,9,12],⟨none,none,0,.store 11 (.t 2) (.t 16),[13,12,0,1,2,3,4,5,6,7,8,9,10,11,12,13]⟩]) .ret))⟩
structure vk (T : Tb) : Prop where
 hT : T 197 = some vg
 AU : AQ T
theorem Nb {r : R} {a b : V} (h1 : bM (ints r.mag) a) (h2 : bM (ints r.den) b) : bM (aQ r) (.agg [.bool r.neg,a,b]):=by
 simp only [Fj,KE,KD,Dh,true_and,and_true]
 exact ⟨h1,h2⟩
theorem Gu {l : List Int} (h : aH l = []) : bM (ints l) .ak:=by
 show bM (.sl 1 (aH l)) .ak
 rw [h];exact of_eq_true (fP 1)
theorem KT {T : Tb} (h : AQ T) {r : R} (hl : r.sz ≤ 1048576:=by exact gU) : PF T 204 [aQ r] (aQ r):=by
 simp only [R.sz] at hl
 refine aC nR h.hT ?_
 simp only [uY,Lz]
 refine ev ?_
 refine ⟨fun e1=>⟨fun e2=>?_,fun e2=>⟨by omega,?_⟩⟩,fun e1=>⟨by omega,fun e2=>?_,fun e2=>⟨by omega,?_⟩⟩⟩
 ·refine ⟨by unfold lU;decide +kernel,?_⟩
  exact Nb (Gu e1) (Gu e2)
 ·refine ⟨by unfold lU;decide +kernel,?_⟩
  exact Nb (Gu e1) (au _)
 ·refine ⟨by unfold lU;decide +kernel,?_⟩
  exact Nb (au _) (Gu e2)
 ·refine ⟨by unfold lU;decide +kernel,?_⟩
  exact Nb (au _) (au _)
theorem Gv {T : Tb} (h : vk T) {x : Lk} (hl : x.sz ≤ 1048576:=by exact gU) : PF T 197 [NV x] (NV x):=by
 simp only [Lk.sz,R.sz] at hl
 refine aC nR h.hT ?_
 simp only [vg,Lz]
 refine ev ?_
 refine ah (KT h.AU (r:=x.w) (by simp only [R.sz];omega)) ?_
 refine ev ?_
 refine ah (KT h.AU (r:=x.dx) (by simp only [R.sz];omega)) ?_
 refine ev ?_
 refine ah (KT h.AU (r:=x.dy) (by simp only [R.sz];omega)) ?_
 refine ev ?_
 refine ⟨by unfold lU;decide +kernel,?_⟩
 refine ev ?_
 exact au _
abbrev Lk0 : Lk:=⟨0,0,R0,R0,R0⟩
theorem D7 : bM (NV Lk0) (.agg [iv 0,iv 0,.bool false,.ak,.ak,.bool false,.ak,.ak,.bool false,.ak,.ak]):=by
 show bM (.agg [iv 0,iv 0,.bool false,.sl 1 [],.sl 1 [],.bool false,.sl 1 [],.sl 1 [],.bool false,.sl 1 [],.sl 1 []]) _
 simp only [Fj,KE,KD,Dh,ac1,fP,and_true]
theorem Dq {v w : V} {b : Bool} (h : bM v w) : bM (.gq [v,.bool b]) (.gq [w,.bool b]):=by
 simp only [bM,nN]
 exact ⟨_,rfl,_,_,rfl,h,_,_,rfl,rfl,rfl⟩
def lkP (a b : Int) (x : Lk) : Bool:=(decide (x.a = a) && decide (x.b = b)) || (decide (x.a = b) && decide (x.b = a))
def ahg (l : List Lk) (a b : Int) : Option Lk:=l.find? (lkP a b)
theorem adM {l : List Lk} {a b : Int} {x : Lk} (h : ahg l a b = some x) : x ∈ l:=List.mem_of_find?_eq_some h
def fC : Fn:=⟨2,104,[.cell 4 11 true,.cell 5 3 true,.tmp 6],(.seq (rf 4 [oN 2 (.box (.t 0)),oK 3 1 (.box (.t 1)),oK 4 2 (.alloc CP),oK 5 3 (.alloc mV),oK 6 4 mF]) (.seq (sr [oN 10 (lT 11 2),oN 11 (cl 83 [10]),oN 12 (nt 11),oW 13 12,oG 13 false 14 (lT 11 3),oG 13 false 15 (cl 83 [14]),oG 13 false 16 (nt 15),oN 17 (.pick (.t 13) (.c (.bool true)) (.t 16)),oW 18 17,oG 18 false 19 (fd 0 2),oG 18 false 20 (lF 1 19),oG 18 false 21 (fd 0 3),oG 18 false 22 (lF 1 21),oG 18 false 23 (bt .neq 20 22),oN 24 (.pick (.t 18) (.c (.bool true)) (.t 23)),oW 25 24,oG 25 false 26 (fd 1 2),oG 25 false 27 (lF 1 26),oG 25 false 28 (fd 1 3),oG 25 false 29 (lF 1 28),oG 25 false 30 (bt .neq 27 29),oN 31 (.pick (.t 25) (.c (.bool true)) (.t 30))] (cd 31 (sr [oN 32 (.build CP []),oN 33 (.build mV []),oS (.store 11 (.t 4) (.t 32)),oS (.store 3 (.t 5) (.t 33)),oN 6 mF] .ret) .skip)) (.seq (rf 1 [oK 34 1 (fd 2 2),oK 35 1 (lT 3 34),oK 36 1 (fd 2 3),oK 37 1 (lT 3 36),oK 38 1 (cl 189 [35,37]),oN 7 (.alloc mV),⟨none,none,1,.store 3 (.t 7) (.t 38),[]⟩]) (.seq (rf 1 [oK 39 1 (fd 0 2),oK 40 1 (lF 1 39),oK 41 1 (fd 1 2),oK 42 1 (lF 1 41),oK 43 1 (lT 3 7),oK 44 1 (.build CP [(0,1,(.t 40)),(1,1,(.t 42)),(2,3,(.t 43))]),oN 8 (.alloc CP),⟨none,none,1,.store 11 (.t 8) (.t 44),[]⟩]) (.seq (rt 0 [oN 45 (fd 2 2),oA 46 0 (lT 3 45) [0],oN 47 (fd 5 2),oA 48 0 (lT 3 47) [2],oA 49 0 (cl 201 [46,48]) [1,3],oN 50 (fd 2 3),oA 51 0 (lT 3 50) [5],oN 52 (fd 5 3),oA 53 0 (lT 3 52) [7],oA 54 0 (cl 201 [51,53]) [6,8,4],oA 55 0 (cl 189 [49,54]) [4,9,9],oN 56 (lT 3 7),oA 57 0 (cl 200 [55,56]) [10,11,10],oA 58 0 (fd 5 8) [0,1,2,3,4,5,6,7,8,9,10,11,12],⟨none,none,0,.store 3 (.t 58) (.t 57),[13,12,12,0,1,2,3,4,5,6,7,8,9,10,11,12]⟩]) (.seq (rt 0 [oN 59 (fd 2 2),oA 60 0 (lT 3 59) [0],oN 61 (fd 8 2),oA 62 0 (lT 3 61) [2],oA 63 0 (cl 201 [60,62]) [1,3],oN 64 (fd 2 3),oA 65 0 (lT 3 64) [5],oN 66 (fd 8 3),oA 67 0 (lT 3 66) [7],oA 68 0 (cl 201 [65,67]) [6,8,4],oA 69 0 (cl 189 [63,68]) [4,9,9],oN 70 (lT 3 7),oA 71 0 (cl 200 [69,70]) [10,11,10],oA 72 0 (fd 8 8) [0,1,2,3,4,5,6,7,8,9,10,11,12],⟨none,none,0,.store 3 (.t 72) (.t 71),[13,12,12,0,1,2,3,4,5,6,7,8,9,10,11,12]⟩]) (.seq (rt 1 [oK 73 1 (fd 2 2),oA 74 1 (lT 3 73) [0],oK 75 1 (fd 2 3),oA 76 1 (lT 3 75) [2],oA 77 1 (cl 201 [74,76]) [1,3],oK 78 1 (lT 3 7),oA 79 1 (cl 200 [77,78]) [4,5,4],oK 80 1 (fd 5 2),oA 81 1 (lT 3 80) [7],oK 82 1 (fd 5 3),oA 83 1 (lT 3 82) [9],oA 84 1 (cl 203 [81,83]) [8,10,6],oK 85 1 (fd 8 2),oA 86 1 (lT 3 85) [12],oK 87 1 (fd 8 3),oA 88 1 (lT 3 87) [14],oA 89 1 (cl 203 [86,88]) [13,15,11],oA 90 1 (cl 202 [84,89]) [11,16,16],oA 91 1 (cl 201 [79,90]) [6,17,17],oN 9 (.alloc mV),⟨none,none,1,.store 3 (.t 9) (.t 91),[19,18,18,0,1,2,3,4,5,6,7,8,9,10,11,12,13,14,15,16,17,18,19]⟩]) (.seq (sr [oN 92 (lT 11 8),oN 93 (cl 83 [92]),oN 94 (nt 93),oW 95 94,oG 95 false 96 (lT 3 9),oG 95 false 97 (cl 100 [96]),oG 95 false 98 (nt 97),oN 99 (.pick (.t 95) (.c (.bool true)) (.t 98))] (cd 99 (sr [oN 100 (.build CP []),oN 101 (.build mV []),oS (.store 11 (.t 4) (.t 100)),oS (.store 3 (.t 5) (.t 101)),oN 6 mF] .ret) .skip)) (.seq (rt 0 [oN 102 (lT 11 8),oN 103 (lT 3 9),⟨none,none,0,.store 11 (.t 4) (.t 102),[0,0]⟩,⟨none,none,0,.store 3 (.t 5) (.t 103),[1,2,0,1,2]⟩,oA 6 0 mT [3,0,1,2,3]]) .ret)))))))))⟩
structure vw (T : Tb) : Prop where
 hT : T 196 = some fC
 fK : jL T
 bn : iK T
 kR : qM T
 Cc : BX T
 iM : yu T
 JF : uN T
 Hl : BU T
theorem OM {v w x y : V} {b : Bool} (h : bM v w) (h2 : bM x y) : bM (.gq [v,x,.bool b]) (.gq [w,y,.bool b]):=by
 simp only [bM,nN]
 exact ⟨_,rfl,_,_,rfl,h,_,_,rfl,h2,_,_,rfl,rfl,rfl⟩
def Zg (k l : Lk) : R:=dZ k.w l.w
def mgX (k l : Lk) : R:=wI (dZ (mulR k.w k.dx) (mulR l.w l.dx)) (Zg k l)
def mgY (k l : Lk) : R:=wI (dZ (mulR k.w k.dy) (mulR l.w l.dy)) (Zg k l)
def WM (k l : Lk) : R:=mulR (wI (mulR k.w l.w) (Zg k l)) (sqR (iC k.dx l.dx) (iC k.dy l.dy))
theorem adN (k l : Lk) : (Zg k l).cn:=nZ _ _
theorem adO (k l : Lk) : (mgX k l).cn:=DX _ _
theorem adP (k l : Lk) : (mgY k l).cn:=DX _ _
theorem adQ (k l : Lk) : (WM k l).cn:=Js _ _
def OO (k l : Lk) : Lk:=⟨k.a,k.b,Zg k l,mgX k l,mgY k l⟩
def VG (k l : Lk) : Bool:=(Zg k l).ok && (mgX k l).ok && (mgY k l).ok && (WM k l).ok
def Zh (k l : Lk) : Bool:=fJ k && fJ l && decide (k.a = l.a) && decide (k.b = l.b)
def OQ (k l : Lk) : Bool:=Zh k l && VG k l
def X7 (k l : Lk) : Lk:=if OQ k l = true then OO k l else Lk0
def X8 (k l : Lk) : R:=if OQ k l = true then WM k l else R0
theorem adS {r s : R} (hr : 0 < tZ r) (hs : 0 < tZ s) (ho : (dZ r s).ok = true) : 0 < tZ (dZ r s):=by
 unfold tZ at *
 rw [zk] at ho
 rw [Fz] at ho ⊢
 cases h1 : r.q with
 | none=>rw [h1] at hr;simp [nY] at hr
 |
  some a =>
  cases h2 : s.q with
  | none=>rw [h2] at hs;simp [nY] at hs
  |
   some b =>
   simp only [h1,h2] at ho hr hs ⊢
   simp only [EI] at ho ⊢
   have hf : fits (a + b) = true:=by
    cases hf : fits (a + b) with
    | true=>rfl
    | false=>rw [QJ hf] at ho;exact absurd rfl ho
   rw [jX hf]
   simp only [nY] at hr hs ⊢
   have pos : ∀ q : Rat,0 < WH q.num ↔ 0 < q:=by
    intro q
    rw [Rat.lt_iff,show (0 : Rat).num = 0 from rfl,show (0 : Rat).den = 1 from rfl,Int.zero_mul,Int.natCast_one,Int.mul_one]
    unfold WH
    split
    ·constructor <;> intro h <;> omega
    ·split
     ·constructor <;> intro h <;> omega
     ·constructor <;> intro h <;> omega
   rw [pos] at hr hs ⊢
   have h3 : a + 0 < a + b:=Rat.add_lt_add_left.2 hs
   rw [Rat.add_zero] at h3
   exact Std.lt_trans hr h3
theorem VH {k l : Lk} (h : Zh k l = true) : fJ (OO k l) = ((Zg k l).ok && (mgX k l).ok && (mgY k l).ok):=by
 unfold Zh at h
 simp only [Bool.and_eq_true,decide_eq_true_eq] at h
 obtain ⟨⟨⟨h1,h2⟩,_⟩,_⟩:=h
 have p1:=(yC h1).2.2.2
 have p2:=(yC h2).2.2.2
 have h1':=h1
 unfold fJ at h1'
 simp only [Bool.and_eq_true] at h1'
 unfold fJ OO
 rw [h1'.1.1.1.1.1,h1'.1.1.1.1.2,h1'.1.1.1.2]
 cases hw : (Zg k l).ok with
 |
  false =>
  have : ¬ 0 < nY (Zg k l).q:=by rw [jS.1 hw];simp [nY]
  simp [this]
 |
  true =>
  have : 0 < nY (Zg k l).q:=adS p1 p2 hw
  simp [this]
theorem Qh {T : Tb} (h : vw T) {k l : Lk} (hk : k.wf:=by exact Na) (hl : l.wf:=by exact Na) : PF T 196 [NV k,NV l] (.gq [NV (X7 k l),aQ (X8 k l),.bool (OQ k l)]):=by
 have ck:=oQ h.fK hk
 have cl:=oQ h.fK hl
 have bad : Zh k l = false → bM (.gq [NV (X7 k l),aQ (X8 k l),.bool (OQ k l)]) (.gq [.agg [iv 0,iv 0,.bool false,.ak,.ak,.bool false,.ak,.ak,.bool false,.ak,.ak],.agg [.bool false,.ak,.ak],.bool false]):=by
  intro hp
  unfold X7 X8 OQ
  rw [hp]
  exact OM D7 iZ
 cases h1 : fJ k
 ·have hp:=bad (by unfold Zh;rw [h1];rfl)
  rw [h1] at ck
  clear bad
  refine aC nR h.hT ?_
  simp only [fC,Lz]
  refine ev ?_
  refine ah ck ?_
  refine ev ?_
  exact hp
 rw [h1] at ck
 cases h2 : fJ l
 ·have hp:=bad (by unfold Zh;rw [h1,h2];rfl)
  rw [h2] at cl
  clear bad
  refine aC nR h.hT ?_
  simp only [fC,Lz]
  refine ev ?_
  refine ah ck ?_
  refine ev ?_
  refine ah cl ?_
  refine ev ?_
  exact hp
 rw [h2] at cl
 by_cases h3 : k.a = l.a
 case neg =>
  have hp:=bad (by unfold Zh;rw [h1,h2,decide_eq_false h3];rfl)
  clear bad
  refine aC nR h.hT ?_
  simp only [fC,Lz]
  refine ev ?_
  refine ah ck ?_
  refine ev ?_
  refine ah cl ?_
  refine ev1 @h3 ?_
  exact hp
 by_cases h4 : k.b = l.b
 case neg =>
  have hp:=bad (by unfold Zh;rw [h1,h2,decide_eq_true h3,decide_eq_false h4];rfl)
  have h3' : (k.a = l.a) = True:=eq_true h3
  clear bad
  refine aC nR h.hT ?_
  simp only [fC,Lz]
  refine ev ?_
  refine ah ck ?_
  refine ev ?_
  refine ah cl ?_
  refine qm @h3' @h4 ?_
  exact hp
 have hp : Zh k l = true:=by unfold Zh;rw [h1,h2,decide_eq_true h3,decide_eq_true h4];rfl
 have hv:=VH hp
 have h3' : (k.a = l.a) = True:=eq_true h3
 have h4' : (k.b = l.b) = True:=eq_true h4
 clear bad
 obtain ⟨k1,k2,k3⟩:=hk
 obtain ⟨l1,l2,l3⟩:=hl
 have e1 : X7 k l = if VG k l = true then OO k l else Lk0:=by unfold X7 OQ;rw [hp,Bool.true_and]
 have e2 : X8 k l = if VG k l = true then WM k l else R0:=by unfold X8 OQ;rw [hp,Bool.true_and]
 have e3 : OQ k l = VG k l:=by unfold OQ;rw [hp,Bool.true_and]
 rw [e1,e2,e3]
 clear e1 e2 e3
 have cv:=oQ h.fK (l:=OO k l) ⟨gI (adN _ _),gI (adO _ _),gI (adP _ _)⟩
 have co:=lD h.bn (r:=WM k l) (gI (adQ _ _))
 rw [hv] at cv
 refine aC nR h.hT ?_
 simp only [fC,Lz]
 refine ev ?_
 refine ah ck ?_
 refine ev ?_
 refine ah cl ?_
 refine qm @h3' @h4' ?_
 refine ah (Dn h.kR k1 l1) ?_
 refine ev ?_
 refine ah (tX h.iM k1 k2) ?_
 refine ev ?_
 refine ah (tX h.iM l1 l2) ?_
 refine ev ?_
 refine ah (Dn h.kR Na Na) ?_
 refine ev ?_
 refine ah (KI h.Cc Na Na) ?_
 refine ev ?_
 refine ⟨by unfold lU;decide +kernel,?_⟩
 refine ev ?_
 refine ah (tX h.iM k1 k3) ?_
 refine ev ?_
 refine ah (tX h.iM l1 l3) ?_
 refine ev ?_
 refine ah (Dn h.kR Na Na) ?_
 refine ev ?_
 refine ah (KI h.Cc Na Na) ?_
 refine ev ?_
 refine ⟨by unfold lU;decide +kernel,?_⟩
 refine ev ?_
 refine ah (tX h.iM k1 l1) ?_
 refine ev ?_
 refine ah (KI h.Cc Na Na) ?_
 refine ev ?_
 refine ah (QN h.Hl k2 l2) ?_
 refine ev ?_
 refine ah (QN h.Hl k3 l3) ?_
 refine ev ?_
 refine ah (Td h.JF Na Na) ?_
 refine ev ?_
 refine ah (tX h.iM Na (gI (adD _ _))) ?_
 refine ev ?_
 refine ⟨by unfold lU;decide +kernel,?_⟩
 refine ev ?_
 have hG : VG k l = (((Zg k l).ok && (mgX k l).ok && (mgY k l).ok) && (WM k l).ok):=rfl
 rw [hG]
 clear hG
 cases hg : ((Zg k l).ok && (mgX k l).ok && (mgY k l).ok)
 ·rw [hg] at cv
  refine ah cv ?_
  refine ev ?_
  exact OM D7 iZ
 rw [hg] at cv
 refine ah cv ?_
 refine ev ?_
 cases hE : (WM k l).ok
 ·rw [hE] at co
  refine ah co ?_
  refine ev ?_
  exact OM D7 iZ
 rw [hE] at co
 refine ah co ?_
 refine ev ?_
 refine ⟨by unfold lU;decide +kernel,?_⟩
 refine ev ?_
 exact au _
abbrev Gd:=Nat → Nat → Bool
def JG (g : Gd) (i j : Nat) (b : Bool) : Gd:=fun x y=>if x = i ∧ y = j then b else g x y
def grow (g : Gd) (a : Nat) : List (List V):=(List.range 10).map fun j=>[.bool (g a j)]
theorem adT {g : Gd} {a j : Nat} {b : Bool} : (grow g a).set j [.bool b] = grow (JG g a j b) a:=by
 apply List.ext_getElem?
 intro n
 rw [List.getElem?_set]
 simp only [grow,List.getElem?_map,List.length_map,List.length_range]
 by_cases hn : n < 10
 ·rw [List.getElem?_range hn]
  by_cases e : j = n
  ·rw [if_pos e,if_pos (by omega)]
   simp only [Option.map_some,JG]
   rw [if_pos (by simp [e])]
  ·rw [if_neg e]
   simp only [Option.map_some,JG]
   rw [if_neg (by omega)]
 ·rw [List.getElem?_eq_none (by simp;omega)]
  split
  ·split
   ·omega
   ·rfl
  ·rfl
theorem ahh {g : Gd} {a c j : Nat} {b : Bool} (h : c ≠ a) : grow (JG g a j b) c = grow g c:=by
 unfold grow JG
 apply List.map_congr_left
 intro k _
 rw [if_neg (by omega)]
def onR (b : Nat) : List (List V):=(List.range 10).map fun i=>[.bF (b + i) 0 10]
def gst (g : Gd) : Store:=some ⟨1,[[.bF 1 0 10]]⟩ :: some ⟨1,onR 2⟩ :: (List.range 10).map fun a=>some ⟨1,grow g a⟩
theorem Zi (g : Gd) : (gst g).length = 12:=by simp [gst]
structure Ce (s : Store) (b : Nat) (g : Gd) : Prop where
 p : aj s b = some ⟨1,[[.bF (b + 1) 0 10]]⟩
 on : aj s (b + 1) = some ⟨1,onR (b + 2)⟩
 row : ∀ a,a < 10 → aj s (b + 2 + a) = some ⟨1,grow g a⟩
theorem ahi {g : Gd} {a : Nat} (ha : a < 10) : aj (gst g) (2 + a) = some ⟨1,grow g a⟩:=by
 rw [Nat.add_comm]
 show ((List.range 10).map fun a=>some (⟨1,grow g a⟩ : Obj))[a]?.getD none = _
 rw [List.getElem?_map,List.getElem?_range ha];rfl
theorem Ce.lt {s : Store} {b : Nat} {g : Gd} (h : Ce s b g) : b + 12 ≤ s.length:=by
 have:=aG (h.row 9 (by omega));omega
theorem Ce.frame {s s2 : Store} {b : Nat} {g : Gd} (h : Ce s b g) (hs : ∀ q,b ≤ q → q < b + 12 → aj s2 q = aj s q) : Ce s2 b g :=
 ⟨(hs _ (by omega) (by omega)).trans h.p,(hs _ (by omega) (by omega)).trans h.on,fun a ha=>(hs _ (by omega) (by omega)).trans (h.row a ha)⟩
theorem Ce.set {s : Store} {b : Nat} {g : Gd} (h : Ce s b g) {i j : Nat} {x : Bool} (hi : i < 10) (hj : j < 10) : Ce (s.set (b + 2 + i) (some ⟨1,(grow g i).set j [.bool x]⟩)) b (JG g i j x):=by
 have hl:=h.lt
 refine ⟨(aB (by omega)).trans h.p,(aB (by omega)).trans h.on,fun a ha=>?_⟩
 by_cases e : a = i
 ·subst e
  rw [aY (by omega),adT]
 ·rw [aB (by omega),h.row a ha,ahh e]
theorem X9 {f : Nat → Option Nat} {v : V} (h : v.still = true) : aP f v = v:=by
 cases v <;> simp_all [V.still,aP]
theorem ahj {ρ : Nat → Option Nat} {b b' : Nat} (h : ∀ i,i < 10 → ρ (b + i) = some (b' + i)) : gu ρ ⟨1,onR b⟩ = ⟨1,onR b'⟩:=by
 unfold gu onR
 congr 1
 rw [List.map_map]
 apply List.map_congr_left
 intro i hi
 simp [aP,h i (List.mem_range.1 hi)]
theorem aaY (f : Nat → Option Nat) (g : Gd) (a : Nat) : gu f ⟨1,grow g a⟩ = ⟨1,grow g a⟩:=by
 unfold gu
 congr 1
theorem Ac {T : Tb} {f : Nat} {as : List Src} {dst : Option Nat} {env : Nat → V} {σ : Store} {kp bs : Nat} {rs ms : List Nat} {k : St → Prop} {as' : List V} {r : V} {σ' : Store}
  (h : Run T (.fn f as' []) (.fn r σ')) (ha : EG env σ as (· = as')) (hr : fO env σ as = []) (hk : k ⟨dS env dst (aP (bD σ.length) r),pF σ σ',kp,bs,rs,ms⟩) : Ib T f as dst ⟨env,σ,kp,bs,rs,ms⟩ k:=by
 obtain ⟨as2,e,rfl⟩:=tJ ha
 exact ⟨_,.own e h (R:=[]) (by split;rfl;exact hr.symm),hk⟩
theorem LY {b j : Nat} : ∀ n,j < n → place ((List.range n).map (b + ·)) (b + j) = some j:=by
 intro n hj
 have h1 : ((List.range n).map (b + ·))[j]? = some (b + j):=by rw [List.getElem?_map,List.getElem?_range hj];rfl
 have h2 : ((List.range n).map (b + ·)).Nodup:=by
  refine List.pairwise_map.2 (List.nodup_range.imp fun hne e=>hne (by omega))
 exact Gg h2 h1
def g12 (b : Nat) : List Nat:=(List.range 12).map (b + ·)
theorem aaZ (g : Gd) : gst g = (List.range 12).map fun j=>aj (gst g) j:=by
 apply List.ext_getElem?
 intro n
 rw [List.getElem?_map]
 by_cases h : n < 12
 ·rw [List.getElem?_range h]
  simp only [Option.map_some,aj]
  rw [List.getElem?_eq_getElem (by rw [Zi];exact h)];rfl
 ·rw [List.getElem?_eq_none (by rw [Zi];omega),List.getElem?_eq_none (by simp;omega)];rfl
theorem adU {ρ : Nat → Option Nat} {o o' : Nat} (h : ρ o = some o') {s l : Nat} : gu ρ ⟨1,[[.bF o s l]]⟩ = ⟨1,[[.bF o' s l]]⟩:=by
 simp [gu,aP,h]
theorem Ce.gc {s : Store} {b : Nat} {g : Gd} (h : Ce s b g) : zA (g12 b) s = gst g:=by
 rw [aaZ g]
 unfold zA
 rw [g12,List.map_map]
 apply List.map_congr_left
 intro j hj
 have hj:=List.mem_range.1 hj
 show (aj s (b + j)).map (gu (place ((List.range 12).map (b + ·)))) = aj (gst g) j
 by_cases h0 : j = 0
 ·subst h0
  rw [Nat.add_zero,h.p]
  exact congrArg some (adU (LY 12 (by omega : 1 < 12)))
 by_cases h1 : j = 1
 ·subst h1
  rw [h.on]
  refine congrArg some (ahj fun i hi=>?_)
  rw [show b + 2 + i = b + (2 + i) by omega]
  exact LY 12 (by omega)
 obtain ⟨a,rfl⟩ : ∃ a,j = 2 + a:=⟨j - 2,by omega⟩
 rw [← Nat.add_assoc,h.row a (by omega),ahi (by omega)]
 exact congrArg some (aaY _ _ _)
theorem mapM_some {α β : Type} {f : α → Option β} {h : α → β} : ∀ {l : List α},(∀ a ∈ l,f a = some (h a)) → l.mapM f = some (l.map h)
 | [],_=>rfl
 |
  a :: l,k=>by
  rw [List.mapM_cons,k a (by simp),mapM_some fun x hx=>k x (by simp [hx])];rfl
theorem JH {s : Store} {o n m : Nat} {rows : List (List V)} (h : aj s o = some ⟨m,rows⟩) (hs : dJ rows) : resolve s (n + 2) (.bF o 0 rows.length) = some (.sl m rows):=by
 rw [resolve]
 simp only [h,Nat.zero_add,Nat.le_refl,if_true,List.drop_zero,List.take_length]
 rw [tK hs];rfl
end Go.Ml
namespace Go.Ml
theorem aa0 {T : Tb} (rf : Nat → Nat → Bool) {c : C} {Q : Ex → St → Prop} {st : St} (hk : c.Ud = true) (h : wp T rf c (fun e st'=>RQ e (LD T c Q st') (Q e st')) st) : LD T c Q st:=by
 obtain ⟨e,st1,h1,h2⟩:=qx hk h
 cases e with
 |
  normal =>
  obtain ⟨e,st2,h4,h5⟩:=h2
  exact ⟨e,st2,.aby h1 h4,h5⟩
 | exit id=>exact ⟨_,_,.Uj (by simp) h1,h2⟩
 | ret=>exact ⟨_,_,.Uj (by simp) h1,h2⟩
def yD : Fn:=⟨1,20,[.tmp 2],(sr [oN 2 mN] (.seq (rf 1 [oN 6 (.fE 11 CP 0 []),oK 3 1 (oV 6)]) (.seq (sr [oW 7 0,oN 8 (ln 7),oN 9 (.iw (cI 0))] (.block 0 (.loop (sr [oN 10 (bt .lss 9 8)] (.seq (cd 10 .skip (.exit 0)) (.seq (.block 1 (.seq (rf 1 [oK 11 1 (ix 11 7 9),oK 12 1 (lT 11 11),oN 5 (.alloc CP),⟨none,none,1,.store 11 (.t 5) (.t 12),[]⟩]) (rf 2 [oK 13 2 (oV 3),oK 14 2 (lT 11 5),oK 15 2 (cl 197 [14]),oN 16 (.fE 11 CP 1 [(0,(.t 15))]),oK 17 1 (.app 11 184 (.t 13) (.t 16)),oK 3 2 (oV 17)]))) (rg [oN 18 (bc .add 9 1),oW 9 18]))))))) (sr [oW 19 3,oW 2 19] .ret))))⟩
structure Ci (T : Tb) : Prop where
 hT : T 194 = some yD
 o8 : vk T
def jP : Fn:=⟨2,86,[.tmp 4,.cell 5 3 true,.tmp 6],(.seq (rf 2 [oN 3 (.box (.t 1)),oK 4 2 mN,oK 5 1 (.alloc mV),oK 6 2 mF]) (.seq (sr [oW 13 0,oN 14 (cl 193 [13]),oN 15 (nt 14),oW 16 15,oG 16 false 17 (lT 11 3),oG 16 false 18 (cl 83 [17]),oG 16 false 19 (nt 18),oN 20 (.pick (.t 16) (.c (.bool true)) (.t 19))] (cd 20 (sr [oN 21 (.build mV []),oN 4 mN,oS (.store 3 (.t 5) (.t 21)),oN 6 mF] .ret) .skip)) (sr [oW 22 0,oN 23 (cl 194 [22]),oW 7 23] (sr [oN 8 (.iw (cI 0))] (.seq (.block 0 (.loop (.seq (.seq (rt 0 [oW 24 8,oW 25 7,oA 26 0 (ln 25) [1],oA 27 0 (bt .lss 24 26) [0,2],oA 28 0 (oV 27) [3],oH 28 true 29 0 (oV 7) [4],oH 28 true 30 0 (oV 8) [4],oH 28 true 31 0 (ix 11 29 30) [5,6,4],oH 28 true 32 0 (lT 11 31) [7,4],oH 28 true 33 0 (lT 11 3) [4],oH 28 true 34 0 (cl 195 [32,33]) [8,9,4,4],oA 35 0 (.pick (.t 28) (.t 34) (.c (.bool false))) [4,10]]) (cd 35 .skip (.exit 0))) (.block 1 (rg [oW 36 8,oN 37 (bc .add 36 1),oW 8 37]))))) (.seq (.seq (rt 0 [oW 38 8,oW 39 7,oA 40 0 (ln 39) [1],oA 41 0 (bt .lss 38 40) [0,2],oA 42 0 (oV 41) [3],oH 42 true 43 0 (lT 11 3) [4],oH 42 true 44 0 (oV 7) [4],oH 42 true 45 0 (oV 8) [4],oH 42 true 46 0 (ix 11 44 45) [6,7,4],oH 42 true 47 0 (lT 11 46) [8,4],oH 42 true 48 0 (cl 195 [43,47]) [5,9,4,4],oH 42 true 49 0 (nt 48) [10,4],oA 50 0 (.pick (.t 42) (.t 49) (.c (.bool false))) [4,11]]) (cd 50 (.seq (rt 2 [oK 52 2 (oV 7),oK 53 2 (oV 8),oA 54 2 (ix 11 52 53) [0,1],oA 55 2 (lT 11 54) [2],oK 56 2 (lT 11 3),oA 57 2 (cl 196 [55,56]) [3,4],oA 51 2 (oV 57) [5],oA 58 2 (ex 0 51) [6],oA 59 2 (ex 1 51) [6],oA 60 2 (ex 2 51) [6],oN 9 (.alloc CP),oK 10 1 (.alloc mV),⟨none,none,2,.store 11 (.t 9) (.t 58),[10,7,5,0,1,2,3,4,5,6,7,10,11]⟩,⟨none,none,2,.store 3 (.t 10) (.t 59),[11,8,12,0,1,2,3,4,5,6,7,8,10,11,12]⟩,oA 11 2 (oV 60) [9,13,0,1,2,3,4,5,6,7,8,9,10,11,12,13]]) (.seq (sr [oW 61 11,oN 62 (nt 61)] (cd 62 (sr [oN 63 (.build mV []),oN 4 mN,oS (.store 3 (.t 5) (.t 63)),oN 6 mF] .ret) .skip)) (sr [oW 64 7,oW 65 8,oN 66 (lT 11 9),oN 67 (ix 11 64 65),oS (.store 11 (.t 67) (.t 66))] (.seq (rt 0 [oW 68 7,oN 69 (lT 3 10),oA 4 0 (oV 68) [0,0],⟨none,none,0,.store 3 (.t 5) (.t 69),[1,2,0,1,2]⟩,oA 6 0 mT [3,0,1,2,3]]) .ret)))) .skip)) (.seq (rf 2 [oN 70 (.fE 11 CP 0 []),oK 71 2 (oV 7),oK 72 2 (oV 8),oK 73 2 (.slice 11 (.t 71) none (some (.t 72))),oK 74 1 (.app 11 184 (.t 70) (.t 73)),oK 12 2 (oV 74)]) (.seq (rf 2 [oK 75 2 (oV 12),oK 76 2 (lT 11 3),oK 77 2 (cl 197 [76]),oN 78 (.fE 11 CP 1 [(0,(.t 77))]),oK 79 1 (.app 11 184 (.t 75) (.t 78)),oK 12 2 (oV 79)]) (.seq (rf 1 [oK 80 1 (oV 12),oK 81 1 (oV 7),oK 82 1 (oV 8),oK 83 1 (.slice 11 (.t 81) (some (.t 82)) none),oN 84 (.app 11 184 (.t 80) (.t 83)),oK 85 1 (.call 36 [(cI 0)]),oK 4 1 (oV 84),⟨none,none,1,.store 3 (.t 5) (.t 85),[]⟩,oK 6 1 mT]) .ret)))))))))⟩
structure AV (T : Tb) : Prop where
 hT : T 188 = some jP
 bH : kE T
 fK : jL T
 KU : wK T
 Qi : Ci T
 uV : uU T
 JI : vw T
 o8 : vk T
def Bf (l : Lk) : List Lk → Nat
 | []=>0
 | x :: xs=>if aZ x l = true then Bf l xs + 1 else 0
theorem Gw (l : Lk) : ∀ s : List Lk,Bf l s ≤ s.length
 | []=>Nat.le_refl _
 |
  x :: xs=>by
  have:=Gw l xs
  unfold Bf;split <;> simp <;> omega
theorem Zj {l : Lk} : ∀ {s : List Lk} {i : Nat},i ≤ Bf l s → i < s.length → aZ (s.getD i default) l = decide (i < Bf l s)
 | [],i,_,h=>absurd h (Nat.not_lt_zero _)
 |
  x :: xs,0,h,_=>by
  unfold Bf
  cases hx : aZ x l
  ·simp [hx]
  ·simp [hx]
 |
  x :: xs,i + 1,h,hi=>by
  unfold Bf at h ⊢
  split at h
  ·rename_i hx
   have:=Zj (s:=xs) (i:=i) (l:=l) (by omega) (by simpa using hi)
   rw [List.getD_cons_succ,this,if_pos hx]
   simp
  ·omega
def MH (s : List Lk) (l : Lk) : Option (List Lk × R) :=
 let i:=Bf l s
 if i = s.length ∨ aZ l (s.getD i default) = true then some (s.take i ++ l :: s.drop i,bQ 0)
 else if VG (s.getD i default) l = true then some (s.take i ++ OO (s.getD i default) l :: s.drop (i + 1),WM (s.getD i default) l) else none
def OT (s : List Lk) (l : Lk) : Bool:=bJ s && fJ l && (MH s l).isSome
def adV (s : List Lk) (l : Lk) : List Lk:=if bJ s = true ∧ fJ l = true then ((MH s l).map (·.1)).getD [] else []
def adE (s : List Lk) (l : Lk) : R:=if bJ s = true ∧ fJ l = true then ((MH s l).map (·.2)).getD R0 else R0
theorem Ya {s : List Lk} {l : Lk} (h : ¬ (bJ s = true ∧ fJ l = true)) : adV s l = [] ∧ adE s l = R0 ∧ OT s l = false:=by
 refine ⟨if_neg h,if_neg h,?_⟩
 unfold OT
 cases h1 : bJ s
 ·rfl
 ·cases h2 : fJ l
  ·rfl
  ·exact absurd ⟨h1,h2⟩ h
theorem JJ {s : List Lk} {l : Lk} (h1 : bJ s = true) (h2 : fJ l = true) : adV s l = ((MH s l).map (·.1)).getD [] ∧ adE s l = ((MH s l).map (·.2)).getD R0 ∧ OT s l = (MH s l).isSome :=
 ⟨if_pos ⟨h1,h2⟩,if_pos ⟨h1,h2⟩,by unfold OT;rw [h1,h2];rfl⟩
theorem adX {T : Tb} (h : Ci T) {l : List Lk} (hz : UZ Lk.sz l ≤ 1048576) : Run T (.fn 194 [iq l] []) (.fn (slV l.length) (WI 11 (l.map Lk.cells))):=by
 have hl : l.length ≤ 1048576:=by have:=Xz Lk.sz l;omega
 have : ∃ r σ',Run T (.fn 194 [iq l] []) (.fn r σ') ∧ (r = slV l.length ∧ σ' = WI 11 (l.map Lk.cells)):=by
  refine run_end nR h.hT ?_
  simp only [yD,Lz,St.enter,List.length_cons,List.length_nil,Nat.zero_add]
  refine ew ?_
  refine aS (fun _ _=>false) (α:=Nat × List Lk) (fun q=>⟨dX [.any,.any,.any,slV q.2.length,.any,.any,.any,iq l,iv (l.length : Nat),iv (q.1 : Nat)],WI 11 (q.2.map Lk.cells),0,0,[],[]⟩) (fun q=>q.1 ≤ l.length ∧ q.2 = l.take q.1) (fun q=>l.length - q.1) rfl (0,[]) ?_ ?_ ?_
  ·exact ⟨by omega,by simp⟩
  ·exact adx
  ·rintro ⟨i,xs⟩ ⟨hi,hx0⟩
   dsimp only at hi hx0
   have hx : xs.length ≤ 1048576:=by rw [hx0];simp;omega
   by_cases hc : (i : Int) < (l.length : Nat)
   ·have hil : i < l.length:=by omega
    have es : l.take (i + 1) = l.take i ++ [l.getD i default]:=by
     rw [List.take_add_one,List.getElem?_eq_getElem hil,List.getD_eq_getElem?_getD,List.getElem?_eq_getElem hil];rfl
    rw [← hx0] at es
    have hys:=OB (f:=Lk.sz) hz (getD_mem hil)
    obtain ⟨y,hy⟩ : ∃ y,l.getD i default = y:=⟨_,rfl⟩
    rw [hy] at es hys
    have cc:=Gv h.o8 hys
    (rcases xs with _ | ⟨x,xs⟩ <;> simp only [List.length_nil,List.length_cons,kX,ku,List.map_nil,List.map_cons,ain,acZ] at hx ⊢)
    ·refine IG @hc @mg @hy ?_
     refine ah cc ?_
     refine ew ?_
     exact ⟨by omega,(i + 1,([]) ++ [y]),by dsimp only;omega,⟨by dsimp only;omega,es.symm⟩,by (simp only [List.map_append,List.map_cons,List.map_nil];refine DN (k:=2) (by simp only [Zb,Vr,Za,and_true,true_and];(repeat' (first | exact Fh _ | exact ads _ | refine ⟨?_,?_⟩))) rfl ?_;(try (refine ew ?_;try with_reducible exact True.intro));(repeat' (first | exact True.intro | omega | exact wF (by simp) (by simp) (by simp) | refine ⟨?_,?_⟩ | exact jo rfl (by simp))))⟩
    ·refine IG @hc @mg @hy ?_
     refine ah cc ?_
     refine ew ?_
     exact ⟨by omega,(i + 1,(x :: xs) ++ [y]),by dsimp only;omega,⟨by dsimp only;omega,es.symm⟩,by (simp only [List.map_append,List.map_cons,List.map_nil];refine DN (k:=3) (by simp only [Zb,Vr,Za,and_true,true_and];(repeat' (first | exact Fh _ | exact ads _ | refine ⟨?_,?_⟩))) rfl ?_;(try (refine ew ?_;try with_reducible exact True.intro));(repeat' (first | exact True.intro | omega | exact wF (by simp) (by simp) (by simp) | refine ⟨?_,?_⟩ | exact jo rfl (by simp))))⟩
   ·have hie : i = l.length:=by omega
    rw [hie,List.take_length] at hx0
    have hx1 : l = xs:=hx0.symm
    subst hx1
    clear hx0 hie
    rcases l with _ | ⟨x,xs⟩ <;> simp only [List.length_nil,List.length_cons,kX,ku,List.map_nil,List.map_cons,ain,acZ] at hc ⊢
    ·(refine CQ @hc ?_;try with_reducible exact True.intro)
    ·(refine CQ @hc ?_;try with_reducible exact True.intro)
 obtain ⟨r,σ',h1,rfl,rfl⟩:=this
 exact h1
theorem JK : bM (.gq [iq [],aQ R0,.bool false]) (.gq [.ak,.agg [.bool false,.ak,.ak],.bool false]):=by
 simp only [bM,nN]
 exact ⟨_,rfl,_,_,rfl,.inl ⟨rfl,.inl rfl⟩,_,_,rfl,iZ,_,_,rfl,rfl,rfl⟩
theorem ahl {n m : Nat} {s : Store} {rows : List (List V)} (h : dJ rows) (hs : s.length = m) : pF s [some ⟨n,rows⟩] = s ++ [some ⟨n,rows⟩]:=by
 unfold pF
 simp only [List.map_cons,List.map_nil,Option.map_some,gu]
 congr 4
 have : ∀ r ∈ rows,r.map (aP (bD s.length)) = r:=fun r hr=>by
  conv=>rhs;rw [← List.map_id r]
  apply List.map_congr_left
  intro v hv
  exact X9 (h r hr v hv)
 conv=>rhs;rw [← List.map_id rows]
 apply List.map_congr_left
 intro r hr
 exact this r hr
theorem Tv {σ : Store} {rows : List (List V)} {L : List Lk} {n : Nat} {r : R} {b : Bool} {t : V} (hrow : rows = L.map Lk.cells) (hn : n = L.length) (ht : t = .gq [iq L,aQ r,.bool b]) :
  dI (Option.map V.gq (match Jj σ 0 n (some ⟨11,rows⟩) with
   |
    some d=>(match (match resolve σ 11 (.agg r.cells) with
    | some d=>some [d,V.bool b]
    | none=>none) with
    | some ds=>some (d :: ds)
    | none=>none)
   | none=>none)) (bM t):=by
 subst hrow hn ht
 have h1 : Jj σ 0 L.length (some ⟨11,L.map Lk.cells⟩) = some (.sl 11 (L.map Lk.cells)):=by
  rw [NW (Fh L) (by simp),List.drop_zero,List.take_of_length_le (by simp)]
 have h2 : resolve σ 11 (.agg r.cells) = some (.agg r.cells):=by
  show resolve σ (10 + 1) (.agg r.cells) = _
  rw [resolve,sN (n:=9) (fun v hv=>aaB [r] _ (by simp) v hv)];rfl
 rw [h1,h2]
 exact au _
theorem Yb {T : Tb} (h : AV T) {s : List Lk} {l : Lk} (hw : MR Lk.wf s:=by exact gU) (hl : l.wf:=by exact Na) (hz : UZ Lk.sz s ≤ 1048576:=by exact gU) (hz2 : l.sz ≤ 1048576:=by exact gU) : PF T 188 [iq s,NV l] (.gq [iq (adV s l),aQ (adE s l),.bool (OT s l)]):=by
 have hll : s.length ≤ 1048576:=by have:=Xz Lk.sz s;omega
 have ci:=Tj h.KU hw
 have cl:=oQ h.fK hl
 cases h1 : bJ s
 ·rw [h1] at ci
  obtain ⟨e1,e2,e3⟩:=Ya (s:=s) (l:=l) (by rw [h1];simp)
  rw [e1,e2,e3]
  refine aC nR h.hT ?_
  simp only [jP,Lz]
  refine ev ?_
  refine ah ci ?_
  refine ev ?_
  exact JK
 rw [h1] at ci
 cases h2 : fJ l
 ·rw [h2] at cl
  obtain ⟨e1,e2,e3⟩:=Ya (s:=s) (l:=l) (by rw [h2];simp)
  rw [e1,e2,e3]
  refine aC nR h.hT ?_
  simp only [jP,Lz]
  refine ev ?_
  refine ah ci ?_
  refine ev ?_
  refine ah cl ?_
  refine ev ?_
  exact JK
 rw [h2] at cl
 have ra:=adX h.Qi hz
 obtain ⟨e1,e2,e3⟩:=JJ h1 h2
 rw [e1,e2,e3]
 clear e1 e2 e3
 have hst:=Fh s
 rcases s with _ | ⟨s0,s⟩
 ·have ra : Run T (.fn 194 [iq []] []) (.fn .ak []):=ra
  have c6:=Gv h.o8 hz2
  have c0:=gy h.bH (n:=0) (by omega)
  refine aC (fun x d=>x == 194) h.hT ?_
  simp only [jP,Lz]
  refine ew ?_
  refine ah ci ?_
  refine ew ?_
  refine ah cl ?_
  refine ew ?_
  refine Ac ra (by (refine ew ?_;try with_reducible exact True.intro)) (by (refine ew ?_;try with_reducible exact True.intro)) ?_
  rw [show ∀ s : Store,pF s [] = s from fun s=>by simp [pF]]
  rw [show ∀ g,aP g .ak = .ak from fun g=>rfl]
  refine ew ?_
  refine aa0 (fun x d=>x == 194) rfl ?_
  have h00 : ((0 : Int) < ((0 : Nat) : Int)) = False:=by simp
  refine CQ @h00 ?_
  refine ah c6 ?_
  refine ew ?_
  refine ⟨by omega,?_⟩
  refine ah c0 ?_
  refine ew ?_
  have adY : MH [] l = some ([l],bQ 0):=by
   unfold MH Bf
   exact if_pos (.inl rfl)
  rw [adY]
  exact au _
 ·simp only [List.length_cons,ku,List.map_cons,acZ] at ra
  generalize hS : s0 :: s = S at *
  have hSl : S.length = s.length + 1:=by rw [← hS];rfl
  have hSm : s0.cells :: s.map Lk.cells = S.map Lk.cells:=by rw [← hS];rfl
  rw [hSm,← hSl] at ra
  refine aC (fun x d=>x == 194) h.hT ?_
  simp only [jP,Lz]
  refine ew ?_
  refine ah ci ?_
  refine ew ?_
  refine ah cl ?_
  refine ew ?_
  refine Ac ra (by (refine ew ?_;try with_reducible exact True.intro)) (by (refine ew ?_;try with_reducible exact True.intro)) ?_
  rw [ahl hst (m:=2) rfl]
  rw [show aP (bD ([some ⟨11,[l.cells]⟩,some ⟨3,[[.bool false,.ak,.ak]]⟩] : Store).length) (.bF 0 0 S.length) = .bF 2 0 S.length from rfl]
  refine ew ?_
  have hpl:=Gw l S
  refine aS (fun x d=>x == 194) (α:=Nat) (fun i=>⟨dX [.any,.any,.any,.ptr 0 0 0,.any,.ptr 1 0 0,.any,.bF 2 0 S.length,iv (i : Nat)],[some ⟨11,[l.cells]⟩,some ⟨3,[[.bool false,.ak,.ak]]⟩,some ⟨11,S.map Lk.cells⟩],0,0,[],[]⟩) (fun i=>i ≤ Bf l S) (fun i=>Bf l S - i) rfl 0 ?_ ?_ ?_
  ·omega
  ·(refine aJ ?_;exact zy)
  ·intro i hi
   have hT : ∀ k,List.take k (S.map Lk.cells) = (S.take k).map Lk.cells:=fun k=>List.map_take.symm
   have hD : ∀ k,List.drop k (S.map Lk.cells) = (S.drop k).map Lk.cells:=fun k=>List.map_drop.symm
   have hap : (∀ A,A.map Lk.cells ++ [l.cells] = (A ++ [l]).map Lk.cells) ∧ ∀ A B : List Lk,A.map Lk.cells ++ B.map Lk.cells = (A ++ B).map Lk.cells:=⟨fun A=>by simp,fun A B=>by simp⟩
   by_cases hc : (i : Int) < (S.length : Nat)
   ·have hil : i < S.length:=by omega
    have hpa:=Zj hi hil
    have hrow:=mg? (f:=Lk.cells) hil
    generalize hx : S.getD i default = x at hpa hrow
    have cl1:=KQ h.uV (k:=x) (l:=l)
    rw [hpa] at cl1
    refine yS @hc @hrow ?_
    refine ah cl1 ?_
    by_cases hip : i < Bf l S
    ·rw [decide_eq_true hip]
     refine ew ?_
     exact ⟨i + 1,by omega,by omega,by (refine aJ ?_;exact zy)⟩
    ·rw [decide_eq_false hip]
     have hie : i = Bf l S:=by omega
     have cl2:=KQ h.uV (k:=l) (l:=x)
     refine yS @hc @hrow ?_
     refine ah cl2 ?_
     have c6:=Gv h.o8 hz2
     have c0:=gy h.bH (n:=0) (by omega)
     have adY : aZ l x = true → MH S l = some (S.take i ++ l :: S.drop i,bQ 0):=fun h=>by
      unfold MH
      dsimp only
      rw [← hie,hx]
      exact if_pos (.inr h)
     cases hlx : aZ l x
     ·refine yS @hc @hrow ?_
      have hxo : fJ x = true:=hx ▸ yP h1 hil
      have hxw : x.wf:=by
       have:=hw.2 x (by rw [← hx,List.getD_eq_getElem?_getD,List.getElem?_eq_getElem hil];exact List.getElem_mem hil)
       exact this
      have hab : x.a = l.a ∧ x.b = l.b:=by
       rw [decide_eq_false hip] at hpa
       unfold aZ at hpa hlx
       simp at hpa hlx
       omega
      have hP : Zh x l = true:=by unfold Zh;rw [hxo,h2,decide_eq_true hab.1,decide_eq_true hab.2];rfl
      have asn : MH S l = if VG x l = true then some (S.take i ++ OO x l :: S.drop (i + 1),WM x l) else none:=by
       unfold MH
       dsimp only
       rw [← hie,hx,if_neg (by rw [hlx];simp;omega)]
      have cm:=Qh h.JI hxw hl
      have e1 : OQ x l = VG x l:=by unfold OQ;rw [hP,Bool.true_and]
      have e2 : X7 x l = if VG x l = true then OO x l else Lk0:=by unfold X7;rw [e1]
      have e3 : X8 x l = if VG x l = true then WM x l else R0:=by unfold X8;rw [e1]
      rw [e1,e2,e3] at cm
      rw [asn]
      cases hg : VG x l
      ·rw [hg,if_neg (by simp),if_neg (by simp)] at cm
       refine ah cm ?_
       refine ew ?_
       refine ⟨by unfold lU;decide +kernel,?_⟩
       exact JK
      ·rw [hg,if_pos rfl,if_pos rfl] at cm
       generalize OO x l = mm at cm ⊢
       generalize WM x l = me at cm ⊢
       refine ah cm ?_
       refine ew ?_
       have hset : (List.map Lk.cells S).set i mm.cells = List.map Lk.cells (S.take i ++ mm :: S.drop (i + 1)):=by
        rw [List.set_eq_take_append_cons_drop,if_pos (by simpa using hil),List.map_append,List.map_cons,List.map_take,List.map_drop]
       refine ⟨by unfold lU;decide +kernel,?_⟩
       have hLl : (S.take i ++ mm :: S.drop (i + 1)).length = S.length:=by simp;omega
       generalize S.take i ++ mm :: S.drop (i + 1) = L' at hset hLl ⊢
       have htk : List.take S.length L' = L':=List.take_of_length_le (by omega)
       refine IG @hrow @hset @htk ?_
       refine ⟨by unfold lU;decide +kernel,?_⟩
       refine CQ @htk ?_
       exact Tv rfl hLl.symm rfl
     ·rw [adY hlx]
      have hd : (List.map Lk.cells (List.drop i S) = []) = False:=eq_false (by intro e;have:=congrArg List.length e;rw [List.length_map,List.length_drop] at this;have h9 : ([] : List (List V)).length = 0:=rfl;omega)
      have hl1 : (List.drop i S).length ≤ 1048576:=by rw [List.length_drop];omega
      have hl2 : (List.take i S).length ≤ 1048576:=by rw [List.length_take];omega
      rcases Nat.eq_zero_or_pos i with h0 | h0
      ·have hn : (List.map Lk.cells (List.take i S) = []) = True:=eq_true (by rw [h0];rfl)
       refine Ue @hc @hrow @hT @hD @hn @hd ?_
       refine ah c6 ?_
       refine MC @hT @hD @hn @hd ?_
       refine ⟨by omega,?_⟩
       refine ⟨by omega,?_⟩
       refine ah c0 ?_
       refine MC @hT @hD @hn @hd ?_
       exact Tv (L:=S.take i ++ l :: S.drop i) (by rw [h0];simp) (by rw [h0];simp;omega) rfl
      ·have hn : (List.map Lk.cells (List.take i S) = []) = False:=eq_false (by intro e;have:=congrArg List.length e;rw [List.length_map,List.length_take] at this;have h9 : ([] : List (List V)).length = 0:=rfl;omega)
       refine Ue @hc @hrow @hT @hD @hn @hd ?_
       refine ⟨by omega,?_⟩
       refine ah c6 ?_
       refine JZ @hT @hD @hn @hd @hap ?_
       refine ⟨by omega,?_⟩
       refine ⟨by simp only [List.length_append,List.length_cons,List.length_nil];omega,?_⟩
       refine ah c0 ?_
       refine JZ @hT @hD @hn @hd @hap ?_
       exact Tv (L:=S.take i ++ l :: S.drop i) (by simp) (by simp;omega) rfl
   ·have hie : i = S.length:=by omega
    have c6:=Gv h.o8 hz2
    have c0:=gy h.bH (n:=0) (by omega)
    have adY : MH S l = some (S ++ [l],bQ 0):=by
     unfold MH
     dsimp only
     have hpe : Bf l S = S.length:=by omega
     rw [hpe,if_pos (.inl rfl),List.take_length,List.drop_length]
    rw [adY]
    have hS1 : (List.map Lk.cells S = []) = False:=eq_false (by intro e;have:=congrArg List.length e;rw [List.length_map] at this;have h9 : ([] : List (List V)).length = 0:=rfl;omega)
    refine MC @hc @hT @hD @hS1 ?_
    refine ⟨by omega,?_⟩
    refine ah c6 ?_
    have hd : (List.map Lk.cells (List.drop i S) = []) = True:=eq_true (by rw [List.drop_eq_nil_of_le (by omega)];rfl)
    refine JZ @hT @hD @hS1 @hap @hd ?_
    refine ⟨by omega,?_⟩
    refine ah c0 ?_
    refine JZ @hT @hD @hS1 @hap @hd ?_
    exact Tv (L:=S ++ [l]) (by simp) (by simp) rfl
theorem Yc {α : Type} {f : α → Nat} {k : Nat} : ∀ {l : List α},(∀ x ∈ l,f x ≤ k) → UZ f l ≤ l.length * (k + 1)
 | [],_=>by simp [UZ]
 |
  x :: l,h=>by
  have h1:=h x (by simp)
  have h2:=Yc (f:=f) (k:=k) (l:=l) fun y hy=>h y (by simp [hy])
  unfold UZ at h2 ⊢
  simp only [List.length_cons,List.map_cons,List.sum_cons]
  rw [Nat.succ_mul]
  omega
theorem Q9 {l : List Lk} (h : bJ l = true) : ∀ i,i < l.length → (i : Int) ≤ 10 * (l.getD i default).a + (l.getD i default).b
 |
  0,hi=>by
  have:=sH (yP h hi)
  omega
 |
  i + 1,hi=>by
  have k1:=Q9 h i (by omega)
  have k2:=Q8 h hi
  have k3:=sH (yP h hi)
  have k4:=sH (yP h (show i < l.length by omega))
  unfold aZ at k2
  simp only [Bool.or_eq_true,Bool.and_eq_true,decide_eq_true_eq] at k2
  omega
theorem Rf {l : List Lk} (h : bJ l = true) : l.length ≤ 100:=by
 rcases Nat.lt_or_ge 100 l.length with hl | hl
 ·have k1:=Q9 h (l.length - 1) (by omega)
  have k3:=sH (yP h (show l.length - 1 < l.length by omega))
  omega
 ·exact hl
theorem ahm {s : List Lk} {l : Lk} {t : List Lk} {e : R} (h : MH s l = some (t,e)) (h1 : bJ s = true) (h2 : fJ l = true) : (∀ x ∈ t,x.w.cn ∧ x.dx.cn ∧ x.dy.cn) ∧ e.cn ∧ t.length ≤ s.length + 1:=by
 unfold MH at h
 dsimp only at h
 have hp:=Gw l s
 have hs : ∀ x ∈ s,x.w.cn ∧ x.dx.cn ∧ x.dy.cn:=fun x hx=>Tf (qg h1 hx)
 split at h
 ·cases h
  refine ⟨fun x hx=>?_,rO (by decide),by simp;omega⟩
  simp only [List.mem_append,List.mem_cons] at hx
  rcases hx with hx | rfl | hx
  ·exact hs x (List.mem_of_mem_take hx)
  ·exact Tf h2
  ·exact hs x (List.mem_of_mem_drop hx)
 ·rename_i hc
  split at h
  ·cases h
   refine ⟨fun x hx=>?_,adQ _ _,by simp;omega⟩
   simp only [List.mem_append,List.mem_cons] at hx
   rcases hx with hx | rfl | hx
   ·exact hs x (List.mem_of_mem_take hx)
   ·exact ⟨adN _ _,adO _ _,adP _ _⟩
   ·exact hs x (List.mem_of_mem_drop hx)
  ·cases h
theorem adZ {x : Lk} (h : x.w.cn ∧ x.dx.cn ∧ x.dy.cn) : x.sz ≤ 144:=by
 have a:=Ol h.1
 have b:=Ol h.2.1
 have c:=Ol h.2.2
 unfold Lk.sz R.sz
 omega
theorem ad1 (s : List Lk) (l : Lk) : (∀ x ∈ adV s l,x.w.cn ∧ x.dx.cn ∧ x.dy.cn) ∧ (adE s l).cn ∧ (adV s l).length ≤ 101:=by
 by_cases h : bJ s = true ∧ fJ l = true
 ·obtain ⟨e1,e2,_⟩:=JJ h.1 h.2
  have hl:=Rf h.1
  rw [e1,e2]
  cases hr : MH s l with
  | none=>exact ⟨by simp,Ve,by simp⟩
  |
   some p =>
   obtain ⟨k1,k2,k3⟩:=ahm (t:=p.1) (e:=p.2) hr h.1 h.2
   exact ⟨k1,k2,by simp only [Option.map_some,Option.getD_some];omega⟩
 ·obtain ⟨e1,e2,_⟩:=Ya h
  rw [e1,e2]
  exact ⟨by simp,Ve,by simp⟩
def l7 : Fn:=⟨2,57,[.cell 4 3 true,.tmp 5],(.seq (rf 1 [oN 4 (.alloc mV),oK 5 1 mF]) (.seq (rf 1 [oK 9 1 (.call 39 [(cI 0)]),oN 6 (.alloc mV),⟨none,none,1,.store 3 (.t 6) (.t 9),[]⟩]) (.seq (sr [oW 10 0,oN 11 (ln 10),oN 12 (.iw (cI 0))] (.block 0 (.loop (sr [oN 13 (bt .lss 12 11)] (.seq (cd 13 .skip (.exit 0)) (.seq (.block 1 (.seq (rf 1 [oK 14 1 (ix 11 10 12),oK 15 1 (lT 11 14),oN 8 (.alloc CP),⟨none,none,1,.store 11 (.t 8) (.t 15),[]⟩]) (.seq (sr [oN 16 (fd 0 8),oN 17 (lF 1 16),oN 18 (bc .lss 17 0),oW 19 18,oG 19 false 20 (fd 0 8),oG 19 false 21 (lF 1 20),oG 19 false 22 (oV 1),oG 19 false 23 (ln 22),oG 19 false 24 (bt .geq 21 23),oN 25 (.pick (.t 19) (.c (.bool true)) (.t 24)),oW 26 25,oG 26 false 27 (fd 1 8),oG 26 false 28 (lF 1 27),oG 26 false 29 (bc .lss 28 0),oN 30 (.pick (.t 26) (.c (.bool true)) (.t 29)),oW 31 30,oG 31 false 32 (fd 1 8),oG 31 false 33 (lF 1 32),oG 31 false 34 (oV 1),oG 31 false 35 (ln 34),oG 31 false 36 (bt .geq 33 35),oN 37 (.pick (.t 31) (.c (.bool true)) (.t 36))] (cd 37 (sr [oN 38 (.build mV []),oS (.store 3 (.t 4) (.t 38)),oN 5 mF] .ret) .skip)) (rt 0 [oN 39 (lT 3 6),oN 40 (lT 11 8),oW 41 1,oN 42 (fd 0 8),oA 43 0 (lF 1 42) [3],oA 44 0 (ix 6 41 43) [2,4],oA 45 0 (lT 6 44) [5],oW 46 1,oN 47 (fd 1 8),oA 48 0 (lF 1 47) [8],oA 49 0 (ix 6 46 48) [7,9],oA 50 0 (lT 6 49) [10],oA 51 0 (cl 187 [40,45,50]) [1,6,11],oA 52 0 (cl 131 [39,51]) [0,12,12],⟨none,none,0,.store 3 (.t 6) (.t 52),[13,13,0,1,2,3,4,5,6,7,8,9,10,11,12,13]⟩])))) (rg [oN 53 (bc .add 12 1),oW 12 53]))))))) (.seq (rt 0 [oN 54 (lT 3 6),oN 55 (lT 3 6),oA 56 0 (cl 132 [55]) [1],⟨none,none,0,.store 3 (.t 4) (.t 54),[0,2,0]⟩,oA 5 0 (oV 56) [2,3,0,1,2,3]]) .ret))))⟩
structure sV (T : Tb) : Prop where
 hT : T 177 = some l7
 bU : fB T
 bG : eH T
 aK : fU T
 JL : uP T
def KW (n : Nat) (x : Lk) : Bool:=decide (0 ≤ x.a) && decide (x.a < n) && (decide (0 ≤ x.b) && decide (x.b < n))
def Qj (l : List Lk) (at' : List Pt) : Nat → R
 | 0=>bQ 0
 | k + 1=>dZ (Qj l at' k) (yO (l.getD k default) (at'.getD (l.getD k default).a.toNat default) (at'.getD (l.getD k default).b.toNat default))
def teG (l : List Lk) (n : Nat) : Bool:=l.all (KW n)
def D8 (l : List Lk) (at' : List Pt) : Bool:=teG l at'.length && (Qj l at' l.length).ok
def OU (l : List Lk) (at' : List Pt) : R:=if D8 l at' = true then Qj l at' l.length else R0
theorem ad2 (l : List Lk) (at' : List Pt) : ∀ k,(Qj l at' k).cn
 | 0=>rO (by decide)
 | k + 1=>nZ _ _
theorem KX (l : List Lk) (at' : List Pt) : (OU l at').cn:=by
 unfold OU;split
 ·exact ad2 _ _ _
 ·exact Ve
theorem ahn {l : List Lk} {n k : Nat} (hk : k < l.length) (h : KW n (l.getD k default) = false) : teG l n = false:=by
 unfold teG
 rw [List.all_eq_false]
 refine ⟨l.getD k default,?_,by rw [h];simp⟩
 rw [List.getD_eq_getElem?_getD,List.getElem?_eq_getElem hk];exact List.getElem_mem hk
theorem ad3 {l : List Lk} {n : Nat} (h : ∀ k,k < l.length → KW n (l.getD k default) = true) : teG l n = true:=by
 unfold teG
 rw [List.all_eq_true]
 intro x hx
 obtain ⟨k,hk⟩:=List.mem_iff_getElem?.1 hx
 have:=h k (List.getElem?_eq_some_iff.1 hk).1
 rw [List.getD_eq_getElem?_getD,hk] at this
 exact this
theorem KY {α : Type} [Inhabited α] {f : α → Prop} {l : List α} (h : MR f l) {k : Nat} (hk : k < l.length) : f (l.getD k default):=by
 refine h.2 _ ?_
 rw [List.getD_eq_getElem?_getD,List.getElem?_eq_getElem hk];exact List.getElem_mem hk
theorem ad4 {l : List Lk} {at' : List Pt} (h : teG l at'.length = false) : OU l at' = R0 ∧ D8 l at' = false:=by
 have h2 : D8 l at' = false:=by unfold D8;rw [h];rfl
 refine ⟨?_,h2⟩
 unfold OU;rw [h2];rfl
theorem Ep.renew {s s1 σ2 : Store} {cs ts rs XT : List V} {os os2 : List Nat} {L : List (Nat × Obj)} (E : Ep s cs ts os L) (h1 : ∀ o,o < s.length → aj s1 o = aj s o) (hl : s.length ≤ s1.length) (ho : bT σ2 rs XT os2) (hn : os2.Nodup) (hf : ∀ o ∈ os2,s1.length ≤ o)
  (old : ∀ o,o < s1.length → aj σ2 o = aj s1 o) : Ep σ2 rs XT os2 L :=
 ⟨⟨ho,hn⟩,fun q hq=>⟨(old _ (Nat.lt_of_lt_of_le (E.lt q hq) hl)).trans ((h1 _ (E.lt q hq)).trans (E.l q hq).1),fun hm=>by have:=hf _ hm;have:=E.lt q hq;omega⟩⟩
theorem aos {σ : Store} : Fin σ (.agg [.bool false,.ak,.ak]) (aQ R0) :=
 ⟨aQ R0,[],iZ,uJ (qO (tY (o1:=[]) jC (tY (o1:=[]) jC kG))),.nil⟩
theorem zu {T : Tb} (h : sV T) {l : List Lk} {at' : List Pt} (hw : MR Lk.wf l:=by exact gU) (hp : MR Pt.wf at':=by exact gU) (hl : l.length ≤ 1048576:=by exact gU) (hl2 : at'.length ≤ 1048576:=by exact gU) : PO T 177 [iq l,Xy at'] (.gq [aQ (OU l at'),.bool (D8 l at')]):=by
 refine dw (fun x d=>(x == 39 && d == 9) || (x == 131 && d == 52)) h.hT ?_
 simp only [l7,Lz,St.enter,List.length_cons,List.length_nil,Nat.zero_add]
 refine ew ?_
 refine iU (Cb h.bU (n:=0)) (by (refine ew ?_;try with_reducible exact True.intro)) ?_
 intro r q1 o1 G
 have hO:=G.ow
 have gn:=G.nd
 have gf:=G.fresh
 have go:=G.old
 have gl:=G.len
 clear G
 obtain ⟨_,rfl,hQ1⟩:=hO.fG
 obtain ⟨x1,x2,rfl⟩:=hQ1.rat
 have E : Ep [some ⟨3,[[.bool false,.ak,.ak]]⟩] [] [] [] [(0,⟨3,[[.bool false,.ak,.ak]]⟩)]:=⟨Ox,by simp [aj]⟩
 have E2:=E.got (s1:=[some ⟨3,[[.bool false,.ak,.ak]]⟩] ++ [none]) (fun q hq=>by first | exact iL hq | (simp only [List.append_assoc];exact iL hq)) (by simp) hQ1 gn gf go
 have F0:=E.free (s1:=[some ⟨3,[[.bool false,.ak,.ak]]⟩] ++ [none]) (p:=1) gf (by simp) (by simp)
 have hq : 2 ≤ q1.length:=by simpa using gl
 clear E gn gf go gl
 have E : Ep q1 [.bool (bQ 0).neg,x1,x2] [.bool (bQ 0).neg,ints (bQ 0).mag,ints (bQ 0).den] _ [(0,⟨3,[[.bool false,.ak,.ak]]⟩)]:=E2
 clear E2
 replace E:=E.LU (p:=1) (ob:=⟨3,[[.bool (bQ 0).neg,x1,x2]]⟩) (L':=[(0,⟨3,[[.bool false,.ak,.ak]]⟩),(1,⟨3,[[.bool (bQ 0).neg,x1,x2]]⟩)]) F0 (by omega) (by simp)
 have LF:=And.intro (E.leaf 1 rfl rfl) (E.leaf 2 rfl rfl)
 refine MC @LF @aO @dQ @List.set_set.{0} ?_
 clear LF
 refine aS (fun x d=>(x == 39 && d == 9) || (x == 131 && d == 52)) (α:=Nat × Store × V × V × List Nat) (fun q=>⟨dX [iq l,Xy at',.any,.any,.ptr 0 0 0,.any,.ptr 1 0 0,.any,.any,.any,iq l,iv (l.length : Nat),iv (q.1 : Nat)],q.2.1,0,0,[],[]⟩) (fun q=>(q.1 ≤ l.length ∧ ∀ k,k < q.1 → KW at'.length (l.getD k default) = true) ∧ Ep q.2.1 [.bool (Qj l at' q.1).neg,q.2.2.1,q.2.2.2.1] [.bool (Qj l at' q.1).neg,ints (Qj l at' q.1).mag,ints (Qj l at' q.1).den] q.2.2.2.2 [(0,⟨3,[[.bool false,.ak,.ak]]⟩),(1,⟨3,[[.bool (Qj l at' q.1).neg,q.2.2.1,q.2.2.2.1]]⟩)]) (fun q=>l.length - q.1) rfl (0,(q1.set 1 (some ⟨3,[[.bool (bQ 0).neg,x1,x2]]⟩)),x1,x2,[] ++ o1) ?_ ?_ ?_
 ·exact ⟨⟨by omega,by intro k hk;omega⟩,E⟩
 ·(refine aJ ?_;exact zy)
 ·clear E
  rintro ⟨i,s,x1,x2,os⟩ ⟨⟨hi,hg⟩,E⟩
  dsimp only at hi hg E
  have es : Qj l at' (i + 1) = dZ (Qj l at' i) (yO (l.getD i default) (at'.getD (l.getD i default).a.toNat default) (at'.getD (l.getD i default).b.toNat default)):=rfl
  have hcn:=ad2 l at' i
  have hbad:=ahn (l:=l) (n:=at'.length) (k:=i)
  have hfin : i = l.length → Qj l at' l.length = Qj l at' i:=fun e=>by rw [e]
  have L0:=E.at0 (p:=0) (ob:=⟨3,[[.bool false,.ak,.ak]]⟩) (by simp)
  have L1:=E.at0 (p:=1) (ob:=⟨3,[[.bool (Qj l at' i).neg,x1,x2]]⟩) (by simp)
  by_cases hc : (i : Int) < (l.length : Nat)
  ·have hil : i < l.length:=by omega
   have hxw:=KY hw hil
   have hbad:=hbad hil
   have hgs : KW at'.length (l.getD i default) = true → ∀ k,k < i + 1 → KW at'.length (l.getD k default) = true:=fun h k hk=>by
    by_cases e : k = i
    ·subst e;exact h
    ·exact hg k (by omega)
   have hmx : (l.map Lk.cells).getD i [] = (l.getD i default).cells:=mg hil
   generalize l.getD i default = x at es hbad hxw hgs hmx
   have bad : KW at'.length x = false → ∀ σ,Fin σ (.gq [.agg [.bool false,.ak,.ak],.bool false]) (.gq [aQ (OU l at'),.bool (D8 l at')]):=fun h σ=>by
    rw [(ad4 (hbad h)).1,(ad4 (hbad h)).2]
    exact aos.S9
   clear hbad
   have LFx:=And.intro (E.leaf 1 rfl rfl) (E.leaf 2 rfl rfl)
   by_cases ha : 0 ≤ x.a ∧ x.a < at'.length
   ·have ha1 : ¬ x.a < 0:=by omega
    have ha2 : ¬ x.a ≥ (at'.length : Nat):=by omega
    by_cases hb : 0 ≤ x.b ∧ x.b < at'.length
    ·have hb1 : ¬ x.b < 0:=by omega
     have hb2 : ¬ x.b ≥ (at'.length : Nat):=by omega
     have hgs:=hgs (by unfold KW;rw [decide_eq_true ha.1,decide_eq_true ha.2,decide_eq_true hb.1,decide_eq_true hb.2];rfl)
     have wp:=KY hp (k:=x.a.toNat) (by omega)
     have wq:=KY hp (k:=x.b.toNat) (by omega)
     have g1 : (at'.map Pt.cells).getD x.a.toNat [] = (at'.getD x.a.toNat default).cells:=mg (by omega)
     have g2 : (at'.map Pt.cells).getD x.b.toNat [] = (at'.getD x.b.toNat default).cells:=mg (by omega)
     generalize at'.getD x.a.toNat default = p at es wp g1
     generalize at'.getD x.b.toNat default = q at es wq g2
     generalize hS : Qj l at' i = S at es hcn hfin E L1
     refine Ue @hc @hmx @L0 @L1 (And.intro ha1 (And.intro ha2 (And.intro hb1 hb2))) (And.intro g1 g2) ?_
     refine ah ((OD h.JL hxw wp wq).WU (ag7 _ _)) ?_
     have R:=And.intro (fun y=>(E.snoc (x:=y)).res1 1 rfl rfl (aT _ _)) (fun y=>(E.snoc (x:=y)).res1 2 rfl rfl (aT _ _))
     refine JZ @L0 @L1 @R @aO @dQ ?_
     refine KP (fun o=>o ∈ os) (show PO T 131 [aQ S,aQ (yO x p q)] (aQ (dZ S (yO x p q))) from D5 h.bG hcn (Zc _ _ _)) (by (refine IG @R @aO @dQ ?_;try with_reducible exact True.intro)) ?_ ?_
     ·intro o ho
      have ho : o ∈ reach (s ++ [some ⟨11,[x.cells]⟩]) (11 + 1) (.agg [.bool S.neg,x1,x2]) ++ (reach (s ++ [some ⟨11,[x.cells]⟩]) FD (aQ (yO x p q)) ++ []):=ho
      rw [show reach (s ++ [some ⟨11,[x.cells]⟩]) FD (aQ (yO x p q)) = [] from by (refine ew ?_;try with_reducible exact True.intro),List.append_nil,List.append_nil] at ho
      obtain ⟨c,hc,ho⟩:=Gs.1 ho
      rcases List.mem_cons.1 hc with e | hc
      ·rw [e] at ho;simp [reach] at ho
      rcases List.mem_cons.1 hc with e | hc
      ·rw [e] at ho;exact E.snoc.reach 1 rfl rfl _ o ho
      ·rw [List.mem_singleton.1 hc] at ho;exact E.snoc.reach 2 rfl rfl _ o ho
     intro Rr r q2 o2 hRr G
     have gl : s.length + 1 ≤ q2.length:=by have:=G.len;simpa using this
     obtain ⟨_,rfl,hQ⟩:=G.ow.fG
     obtain ⟨y1,y2,rfl⟩:=hQ.rat
     have F1 : 1 ∉ o2:=fun hm=>by have h1:=G.fresh 1 hm;rw [List.length_append] at h1;have:=L1.2;omega
     have E2:=E.renew (s1:=s ++ [some ⟨11,[x.cells]⟩]) (fun q hq=>iL hq) (by simp) hQ G.nd G.fresh G.old
     have hRn : ∀ o ∈ Rr,o ≠ 1:=fun o ho e=>(E.l (1,⟨3,[[.bool S.neg,x1,x2]]⟩) (by simp)).2 (e ▸ hRr o ho)
     rw [← es] at E2
     have LF:=And.intro (E2.leaf 1 rfl rfl) (E2.leaf 2 rfl rfl)
     have M0:=E2.at0 (p:=0) (ob:=⟨3,[[.bool false,.ak,.ak]]⟩) (by simp)
     have M1:=E2.at0 (p:=1) (ob:=⟨3,[[.bool S.neg,x1,x2]]⟩) (by simp)
     refine JZ @LF @M0 @M1 @aO @dQ ?_
     refine ⟨by unfold lU;rfl,?_⟩
     try rw [← es]
     have E3:=E2.LU (p:=1) (ob:=⟨3,[[.bool (Qj l at' (i + 1)).neg,y1,y2]]⟩) (L':=[(0,⟨3,[[.bool false,.ak,.ak]]⟩),(1,⟨3,[[.bool (Qj l at' (i + 1)).neg,y1,y2]]⟩)]) F1 M1.2 (by simp)
     refine ⟨(i + 1,q2.set 1 (some ⟨3,[[.bool (Qj l at' (i + 1)).neg,y1,y2]]⟩),y1,y2,o2),by dsimp only;omega,⟨⟨by dsimp only;omega,hgs⟩,E3⟩,?_⟩
     dsimp only
     (refine aJ ?_;exact zy)
    ·have bad:=bad (by unfold KW;simp;omega)
     by_cases hb1 : x.b < 0
     ·refine Ue @hc @hmx @L0 @L1 (And.intro ha1 ha2) @hb1 ?_
      exact bad _
     ·have hb2 : x.b ≥ (at'.length : Nat):=by omega
      refine WL @hc @hmx @L0 @L1 (And.intro ha1 ha2) @hb1 @hb2 ?_
      exact bad _
   ·have bad:=bad (by unfold KW;simp;omega)
    by_cases ha1 : x.a < 0
    ·refine JZ @hc @hmx @L0 @L1 @ha1 ?_
     exact bad _
    ·have ha2 : x.a ≥ (at'.length : Nat):=by omega
     refine Ue @hc @hmx @L0 @L1 @ha1 @ha2 ?_
     exact bad _
  ·have hie : i = l.length:=by omega
   have hG:=ad3 (l:=l) (n:=at'.length) fun k hk=>hg k (by omega)
   have e1 : D8 l at' = (Qj l at' l.length).ok:=by unfold D8;rw [hG,Bool.true_and]
   unfold OU
   rw [e1,hfin hie]
   generalize hS : Qj l at' i = S at es hcn E L1
   have cg:=SN h.aK hcn
   have LFx:=And.intro (E.leaf 1 rfl rfl) (E.leaf 2 rfl rfl)
   have R:=And.intro (E.res1 1 rfl rfl (aT _ _)) (E.res1 2 rfl rfl (aT _ _))
   refine Ue @hc @L0 @L1 @R @aO @dQ ?_
   refine ah cg ?_
   refine Ue @L0 @L1 @LFx @R @aO @dQ ?_
   refine ⟨by unfold lU;rfl,?_⟩
   have n0:=(E.l (0,⟨3,[[.bool false,.ak,.ak]]⟩) (by simp)).2
   have C:=E.c.set (o:=0) (x:=some ⟨3,[[.bool S.neg,x1,x2]]⟩) n0
   have hf : Fin (s.set 0 (some ⟨3,[[.bool S.neg,x1,x2]]⟩)) (.agg [.bool S.neg,x1,x2]) (aQ S):=oU (uJ C.ow) C.nd
   cases hb : S.ok
   ·have h0:=SL hcn (jS.1 hb)
    rw [if_neg (by simp),← h0]
    exact hf.S9
   ·rw [if_pos rfl]
    exact hf.S9
def qh : Fn:=⟨1,41,[.tmp 2,.cell 3 3 true,.tmp 4],(.seq (rf 1 [oK 2 1 mN,oN 3 (.alloc mV),oK 4 1 mF]) (.seq (rf 1 [oN 12 (.fE 11 CP 0 []),oK 5 1 (oV 12)]) (.seq (rf 1 [oK 13 1 (.call 36 [(cI 0)]),oN 6 (.alloc mV),⟨none,none,1,.store 3 (.t 6) (.t 13),[]⟩]) (.seq (sr [oW 14 0,oN 15 (ln 14),oN 16 (.iw (cI 0))] (.block 0 (.loop (sr [oN 17 (bt .lss 16 15)] (.seq (cd 17 .skip (.exit 0)) (.seq (.block 1 (.seq (rf 1 [oK 18 1 (ix 11 14 16),oK 19 1 (lT 11 18),oN 8 (.alloc CP),⟨none,none,1,.store 11 (.t 8) (.t 19),[]⟩]) (.seq (rf 1 [oK 21 1 (oV 5),oK 22 1 (lT 11 8),oK 23 1 (cl 188 [21,22]),oK 20 1 (oV 23),oK 24 1 (ex 0 20),oK 25 1 (ex 1 20),oK 26 1 (ex 2 20),oN 10 (.alloc mV),oK 9 1 (oV 24),⟨none,none,1,.store 3 (.t 10) (.t 25),[]⟩,oK 11 1 (oV 26)]) (.seq (sr [oW 27 11,oN 28 (nt 27)] (cd 28 (sr [oN 29 (.build mV []),oN 2 mN,oS (.store 3 (.t 3) (.t 29)),oN 4 mF] .ret) .skip)) (sr [oW 30 9,oW 5 30] (rg [oN 31 (lT 3 6),oN 32 (lT 3 10),oN 33 (cl 189 [31,32]),oS (.store 3 (.t 6) (.t 33))])))))) (rg [oN 34 (bc .add 16 1),oW 16 34]))))))) (.seq (sr [oN 35 (lT 3 6),oN 36 (cl 100 [35]),oN 37 (nt 36)] (cd 37 (sr [oN 38 (.build mV []),oN 2 mN,oS (.store 3 (.t 3) (.t 38)),oN 4 mF] .ret) .skip)) (.seq (rt 0 [oW 39 5,oN 40 (lT 3 6),oA 2 0 (oV 39) [0,0],⟨none,none,0,.store 3 (.t 3) (.t 40),[1,2,0,1,2]⟩,oA 4 0 mT [3,0,1,2,3]]) .ret))))))⟩
structure wP (T : Tb) : Prop where
 hT : T 179 = some qh
 bH : kE T
 bn : iK T
 OV : AV T
 kR : qM T
theorem lI {l : List Lk} : bJ l = true ↔ (∀ x ∈ l,fJ x = true) ∧ l.Pairwise fun k l=>aZ k l = true:=by
 constructor
 ·intro h
  exact ⟨fun x hx=>qg h hx,(VF h).imp fun h=>h.1⟩
 ·rintro ⟨h1,h2⟩
  unfold bJ
  refine XZ fun i hi=>?_
  have a:=h1 (l.getD i default) (getD_mem hi)
  unfold BD
  rw [List.pairwise_iff_getElem] at h2
  rcases Nat.eq_zero_or_pos i with h0 | h0
  ·subst h0;rw [a,decide_eq_true rfl];rfl
  ·have:=h2 (i - 1) i (by omega) hi (by omega)
   have e1 : l.getD (i - 1) default = l[i - 1]:=by rw [List.getD_eq_getElem?_getD,List.getElem?_eq_getElem];rfl
   have e2 : l.getD i default = l[i]:=by rw [List.getD_eq_getElem?_getD,List.getElem?_eq_getElem];rfl
   rw [← e1,← e2] at this
   rw [a,this,Bool.or_true];rfl
theorem IK (k : Lk) : aZ k k = false:=by simp [aZ]
theorem IL {k l : Lk} (h1 : aZ k l = false) (h2 : aZ l k = false) : k.a = l.a ∧ k.b = l.b:=by
 unfold aZ at h1 h2
 simp at h1 h2
 omega
theorem Tz {k l m : Lk} (ha : l.a = m.a) (hb : l.b = m.b) : aZ k l = aZ k m ∧ aZ l k = aZ m k:=by
 unfold aZ;rw [ha,hb];exact ⟨rfl,rfl⟩
theorem VI {l : Lk} : ∀ {s : List Lk} {x : Lk},x ∈ s.take (Bf l s) → aZ x l = true
 | [],x,h=>by simp [Bf] at h
 |
  y :: s,x,h=>by
  unfold Bf at h
  split at h
  ·rename_i hy
   rw [List.take_succ_cons] at h
   rcases List.mem_cons.1 h with rfl | h
   ·exact hy
   ·exact VI h
  ·simp at h
theorem KZ {l : Lk} {s : List Lk} (h : s.Pairwise fun k l=>aZ k l = true) : ∀ x ∈ s.drop (Bf l s),aZ x l = false:=by
 induction s with
 | nil=>intro x hx;simp at hx
 |
  cons y s ih =>
  rw [List.pairwise_cons] at h
  intro x hx
  unfold Bf at hx
  split at hx
  ·rw [List.drop_succ_cons] at hx
   exact ih h.2 x hx
  ·rename_i hy
   rw [List.drop_zero] at hx
   have hy : aZ y l = false:=by simpa using hy
   rcases List.mem_cons.1 hx with rfl | hx
   ·exact hy
   ·cases hxl : aZ x l
    ·rfl
    ·have:=zK (h.1 x hx) hxl
     rw [this] at hy;cases hy
theorem ad6 {A B : List Lk} {m : Lk} (h : (A ++ B).Pairwise fun k l=>aZ k l = true) (h1 : ∀ x ∈ A,aZ x m = true) (h2 : ∀ x ∈ B,aZ m x = true) : (A ++ m :: B).Pairwise fun k l=>aZ k l = true:=by
 rw [List.pairwise_append] at h ⊢
 refine ⟨h.1,List.pairwise_cons.2 ⟨h2,h.2.1⟩,fun x hx y hy=>?_⟩
 rcases List.mem_cons.1 hy with rfl | hy
 ·exact h1 x hx
 ·exact h.2.2 x hx y hy
theorem aky {s : List Lk} {l : Lk} {t : List Lk} {e : R} (h : MH s l = some (t,e)) (h1 : bJ s = true) (h2 : fJ l = true) : bJ t = true:=by
 obtain ⟨hv,hp⟩:=lI.1 h1
 have hpl:=Gw l s
 have hpre:=@VI l s
 have hpost:=KZ (l:=l) hp
 unfold MH at h
 dsimp only at h
 generalize Bf l s = i at *
 have hsp : s.take i ++ s.drop i = s:=List.take_append_drop i s
 split at h
 ·rename_i hc
  cases h
  refine lI.2 ⟨fun x hx=>?_,ad6 (by rw [hsp];exact hp) (fun x hx=>hpre hx) fun x hx=>?_⟩
  ·simp only [List.mem_append,List.mem_cons] at hx
   rcases hx with hx | rfl | hx
   ·exact hv x (List.mem_of_mem_take hx)
   ·exact h2
   ·exact hv x (List.mem_of_mem_drop hx)
  ·rcases hc with hc | hc
   ·rw [hc,List.drop_length] at hx;cases hx
   ·by_cases hi : i < s.length
    ·have hd : s.drop i = s.getD i default :: s.drop (i + 1):=by
      rw [List.drop_eq_getElem_cons hi,List.getD_eq_getElem?_getD,List.getElem?_eq_getElem hi];rfl
     rw [hd] at hx
     rcases List.mem_cons.1 hx with rfl | hx
     ·exact hc
     ·have hpd:=hp.drop (i:=i)
      rw [hd,List.pairwise_cons] at hpd
      exact zK hc (hpd.1 x hx)
    ·rw [List.drop_eq_nil_of_le (by omega)] at hx;cases hx
 ·rename_i hc
  split at h
  ·rename_i hg
   cases h
   have hi : i < s.length:=by
    rcases Nat.lt_or_ge i s.length with k | k
    ·exact k
    ·exact absurd (.inl (by omega)) hc
   have hd : s.drop i = s.getD i default :: s.drop (i + 1):=by
    rw [List.drop_eq_getElem_cons hi,List.getD_eq_getElem?_getD,List.getElem?_eq_getElem hi];rfl
   have hx0:=hpost (s.getD i default) (by rw [hd];simp)
   have hxl : aZ l (s.getD i default) = false:=by
    cases hq : aZ l (s.getD i default)
    ·rfl
    ·exact absurd (.inr hq) hc
   have hsm:=getD_mem (l:=s) hi
   generalize s.getD i default = x at *
   obtain ⟨ea,eb⟩:=IL hx0 hxl
   have hP : Zh x l = true:=by unfold Zh;rw [hv x hsm,h2,decide_eq_true ea,decide_eq_true eb];rfl
   have hm : fJ (OO x l) = true:=by
    rw [VH hP]
    unfold VG at hg
    simp only [Bool.and_eq_true] at hg ⊢
    exact hg.1
   have hcg:=fun k=>Tz (k:=k) (l:=OO x l) (m:=x) rfl rfl
   have hp2 : (s.take i ++ x :: s.drop (i + 1)).Pairwise fun k l=>aZ k l = true:=by rw [← hd,hsp];exact hp
   rw [List.pairwise_append] at hp2
   refine lI.2 ⟨fun y hy=>?_,ad6 ?_ (fun y hy=>?_) fun y hy=>?_⟩
   ·simp only [List.mem_append,List.mem_cons] at hy
    rcases hy with hy | rfl | hy
    ·exact hv y (List.mem_of_mem_take hy)
    ·exact hm
    ·exact hv y (List.mem_of_mem_drop hy)
   ·rw [List.pairwise_append]
    exact ⟨hp2.1,(List.pairwise_cons.1 hp2.2.1).2,fun a ha b hb=>hp2.2.2 a ha b (List.mem_cons_of_mem _ hb)⟩
   ·rw [(hcg y).1];exact hp2.2.2 y hy x (by simp)
   ·rw [(hcg y).2];exact (List.pairwise_cons.1 hp2.2.1).1 y hy
  ·cases h
theorem ad7 {s : List Lk} {l : Lk} (h : OT s l = true) : bJ (adV s l) = true ∧ bJ s = true ∧ fJ l = true:=by
 unfold OT at h
 simp only [Bool.and_eq_true] at h
 obtain ⟨⟨h1,h2⟩,h3⟩:=h
 refine ⟨?_,h1,h2⟩
 rw [(JJ h1 h2).1]
 cases hr : MH s l with
 | none=>rw [hr] at h3;cases h3
 | some p=>exact aky (t:=p.1) (e:=p.2) hr h1 h2
def Rh (l : List Lk) : Nat → Option (List Lk × R)
 | 0=>some ([],bQ 0)
 |
  k + 1=>match Rh l k with
  | none=>none
  | some p=>if OT p.1 (l.getD k default) = true then some (adV p.1 (l.getD k default),dZ p.2 (adE p.1 (l.getD k default))) else none
def WO (l : List Lk) : Option (List Lk × R):=match Rh l l.length with
 | none=>none
 | some p=>if p.2.ok = true then some p else none
def IQ (l : List Lk) : Bool:=(WO l).isSome
def LZ (l : List Lk) : List Lk:=((WO l).map (·.1)).getD []
def VJ (l : List Lk) : R:=((WO l).map (·.2)).getD R0
theorem VK {l : List Lk} {k : Nat} (h : Rh l k = none) : ∀ n,k ≤ n → Rh l n = none
 | 0,hn=>by rw [Nat.le_zero.1 hn] at h;exact h
 |
  n + 1,hn=>by
  rcases Nat.lt_or_ge k (n + 1) with hk | hk
  ·simp only [Rh,VK h n (by omega)]
  ·rw [show n + 1 = k by omega];exact h
theorem VL {r s : R} (h : r.ok = false) : (dZ r s).ok = false:=by
 rw [jS,Fz,jS.1 h,LK]
theorem TA {l : List Lk} : ∀ {k : Nat} {p : List Lk × R},Rh l k = some p → bJ p.1 = true ∧ p.2.cn ∧ (∀ x ∈ p.1,x.w.cn ∧ x.dx.cn ∧ x.dy.cn) ∧ p.1.length ≤ 101
 | 0,p,h=>by cases h;exact ⟨by decide,rO (by decide),by simp,by simp⟩
 |
  k + 1,p,h=>by
  simp only [Rh] at h
  cases hf : Rh l k with
  | none=>rw [hf] at h;cases h
  |
   some r =>
   rw [hf] at h
   dsimp only at h
   split at h
   ·rename_i hk
    cases h
    have:=ad1 r.1 (l.getD k default)
    exact ⟨(ad7 hk).1,nZ _ _,this.1,this.2.2⟩
   ·cases h
theorem OW {l : List Lk} (h : WO l = none) : LZ l = [] ∧ VJ l = R0 ∧ IQ l = false:=by
 unfold LZ VJ IQ;rw [h];exact ⟨rfl,rfl,rfl⟩
theorem VN {l : List Lk} {k : Nat} (h : Rh l k = none) (hk : k ≤ l.length) : WO l = none:=by
 unfold WO;rw [VK h l.length hk]
theorem TB {l : List Lk} : (∀ x ∈ LZ l,x.w.cn ∧ x.dx.cn ∧ x.dy.cn) ∧ (VJ l).cn ∧ (LZ l).length ≤ 101 ∧ bJ (LZ l) = true:=by
 cases hg : WO l with
 |
  none =>
  obtain ⟨e1,e2,_⟩:=OW hg
  rw [e1,e2];exact ⟨by simp,Ve,by simp,by decide⟩
 |
  some p =>
  have e1 : LZ l = p.1:=by unfold LZ;rw [hg];rfl
  have e2 : VJ l = p.2:=by unfold VJ;rw [hg];rfl
  rw [e1,e2]
  unfold WO at hg
  cases hf : Rh l l.length with
  | none=>rw [hf] at hg;cases hg
  |
   some q =>
   rw [hf] at hg
   dsimp only at hg
   split at hg
   ·cases hg
    obtain ⟨a,b,c,d⟩:=TA hf
    exact ⟨c,b,d,a⟩
   ·cases hg
theorem OX {s : List Lk} (h : ∀ x ∈ s,x.w.cn ∧ x.dx.cn ∧ x.dy.cn) (hl : s.length ≤ 101) : UZ Lk.sz s ≤ 20000:=by
 have:=Yc (f:=Lk.sz) (k:=144) fun x hx=>adZ (h x hx)
 omega
theorem TD {s : List Lk} (h : ∀ x ∈ s,x.w.cn ∧ x.dx.cn ∧ x.dy.cn) (hl : s.length ≤ 101) : MR Lk.wf s :=
 ⟨by omega,fun x hx=>⟨gI (h x hx).1,gI (h x hx).2.1,gI (h x hx).2.2⟩⟩
theorem akz (σ : Store) (r : R) : resolve σ 11 (.agg r.cells) = some (.agg r.cells):=by
 show resolve σ (10 + 1) (.agg r.cells) = _
 rw [resolve,sN (n:=9) (fun v hv=>aaB [r] _ (by simp) v hv)];rfl
theorem TF {T : Tb} (h : wP T) {l : List Lk} (hw : MR Lk.wf l:=by exact gU) (hz : UZ Lk.sz l ≤ 1048576:=by exact gU) : PF T 179 [iq l] (.gq [iq (LZ l),aQ (VJ l),.bool (IQ l)]):=by
 have hl : l.length ≤ 1048576:=by have:=Xz Lk.sz l;omega
 refine aC nR h.hT ?_
 simp only [qh,Lz]
 refine ev ?_
 refine ah (gy h.bH (n:=0)) ?_
 refine ev ?_
 refine aS (fun _ _=>false) (α:=Nat × List Lk × R) (fun q=>⟨dX [iq l,.any,.any,.ptr 0 0 0,.any,iq q.2.1,.ptr 1 0 0,.any,.any,.any,.any,.any,.any,.any,iq l,iv (l.length : Nat),iv (q.1 : Nat)],[some ⟨3,[[.bool false,.ak,.ak]]⟩,some ⟨3,[q.2.2.cells]⟩],0,0,[],[]⟩) (fun q=>q.1 ≤ l.length ∧ Rh l q.1 = some (q.2.1,q.2.2)) (fun q=>l.length - q.1) rfl (0,[],bQ 0) ?_ ?_ ?_
 ·exact ⟨by omega,rfl⟩
 ·(refine NS [(0,_),(2,_)] (by simp) (by intro p hp;simp only [List.mem_cons,List.not_mem_nil,or_false] at hp;rcases hp with rfl | rfl <;> refine ⟨rfl,?_⟩ <;> first | exact l9 _ | simp [dJ,V.still]) rfl ?_) <;> (try (refine ev ?_;try with_reducible exact True.intro)) <;> (repeat' (first | exact True.intro | omega | exact yL rfl (by simp) | refine ⟨?_,?_⟩ | exact of_eq_true (Am _ _ _) | exact jo rfl (by simp;done) | exact jo rfl rfl | (refine jZ rfl ?_ rfl;simp [aH];done) | (refine jZ rfl ?_ rfl;simp [aH];omega) | (refine CZ ?_ ?_;(focus ((refine ev ?_;try with_reducible exact True.intro);done));(intro q hq k s0 l0;simp;done))))
 ·rintro ⟨k,S,e⟩ ⟨hk,hf⟩
  dsimp only at hk hf
  obtain ⟨i1,i2,i3,i4⟩:=TA hf
  dsimp only at i1 i2 i3 i4
  by_cases hc : (k : Int) < (l.length : Nat)
  ·have hkl : k < l.length:=by omega
   have hxw:=KY hw hkl
   have hxz:=OB (f:=Lk.sz) hz (getD_mem hkl)
   have hs : Rh l (k + 1) = if OT S (l.getD k default) = true then some (adV S (l.getD k default),dZ e (adE S (l.getD k default))) else none:=by simp only [Rh,hf]
   have hmx : (l.map Lk.cells).getD k [] = (l.getD k default).cells:=mg hkl
   have hbad : Rh l (k + 1) = none → WO l = none:=fun h=>VN h (by omega)
   generalize l.getD k default = x at hs hxw hxz hmx
   have ca:=Yb h.OV (s:=S) (l:=x) (TD i3 i4) hxw (by have:=OX i3 i4;omega) hxz
   have hac:=ad1 S x
   cases ho : OT S x
   ·rw [ho] at hs ca
    obtain ⟨e1,e2,e3⟩:=OW (hbad hs)
    rw [e1,e2,e3]
    refine qm @hc @hmx ?_
    refine ah ca ?_
    refine ev ?_
    exact JK
   ·rw [ho,if_pos rfl] at hs
    rw [ho] at ca
    generalize adV S x = S' at hs ca hac
    generalize adE S x = e' at hs ca hac
    refine qm @hc @hmx ?_
    refine ah ca ?_
    refine ev ?_
    refine ah (Dn h.kR (gI i2) (gI hac.2.1)) ?_
    refine ev ?_
    exact ⟨(k + 1,S',dZ e e'),by dsimp only;omega,⟨by dsimp only;omega,hs⟩,by exact aku⟩
  ·have hie : k = l.length:=by omega
   have hg : WO l = if e.ok = true then some (S,e) else none:=by unfold WO;rw [← hie,hf]
   have co:=lD h.bn (gI i2)
   cases hb : e.ok
   ·rw [hb] at co hg
    obtain ⟨e1,e2,e3⟩:=OW hg
    rw [e1,e2,e3]
    refine ev1 @hc ?_
    refine ah co ?_
    refine ev ?_
    exact JK
   ·rw [hb,if_pos rfl] at hg
    have e1 : LZ l = S:=by unfold LZ;rw [hg];rfl
    have e2 : VJ l = e:=by unfold VJ;rw [hg];rfl
    have e3 : IQ l = true:=by unfold IQ;rw [hg];rfl
    rw [e1,e2,e3]
    rw [hb] at co
    refine ev1 @hc ?_
    refine ah co ?_
    refine ev ?_
    refine ⟨by unfold lU;decide +kernel,?_⟩
    rw [akz]
    exact au _
def D9 : Nat → V → Prop
 | 0,_=>False
 | n + 1,.sl _ rows=>∀ r ∈ rows,∀ c ∈ r,D9 n c
 | n + 1,.agg cs=>∀ c ∈ cs,D9 n c
 | n + 1,.gq cs=>∀ c ∈ cs,D9 n c
 | _ + 1,.eU _ _=>False
 | _ + 1,_=>True
theorem D9.le : ∀ {n : Nat} {v : V},D9 n v → eF n v
 | 0,_,h=>h
 |
  n + 1,v,h=>by
  cases v with
  | sl k rows=>simp only [D9,eF] at h ⊢;exact fun r hr c hc=>(h r hr c hc).le
  | agg cs=>simp only [D9,eF] at h ⊢;exact fun c hc=>(h c hc).le
  | gq cs=>simp only [D9,eF] at h ⊢;exact fun c hc=>(h c hc).le
  | _=>simp [eF]
theorem Zk {σ : Store} : ∀ (n : Nat) {v t : V},resolve σ (n + 1) v = some t → D9 n t → resolve σ n v = some t
 | 0,v,t,_,hd=>by simp [D9] at hd
 |
  n + 1,v,t,h,hd=>by
  have ih:=@Zk σ n
  have hl : ∀ (l l' : List V),l.mapM (resolve σ (n + 1)) = some l' → (∀ c ∈ l',D9 n c) → l.mapM (resolve σ n) = some l':=by
   intro l
   induction l with
   | nil=>intro l' h _;exact h
   |
    cons x l ihl =>
    intro l' h hd
    rw [List.mapM_cons] at h ⊢
    cases hx : resolve σ (n + 1) x with
    | none=>rw [hx] at h;cases h
    |
     some y =>
     rw [hx] at h
     cases hl : l.mapM (resolve σ (n + 1)) with
     | none=>rw [hl] at h;cases h
     |
      some ys =>
      rw [hl] at h
      cases h
      rw [ih hx (hd y (by simp)),ihl ys hl fun c hc=>hd c (by simp [hc])]
      rfl
  have hr : ∀ (l : List (List V)) (l' : List (List V)),(l.mapM fun (r : List V)=>r.mapM (resolve σ (n + 1))) = some l' → (∀ r ∈ l',∀ c ∈ r,D9 n c) → (l.mapM fun (r : List V)=>r.mapM (resolve σ n)) = some l':=by
   intro l
   induction l with
   | nil=>intro l' h _;exact h
   |
    cons x l ihl =>
    intro l' h hd
    rw [List.mapM_cons] at h ⊢
    cases hx : x.mapM (resolve σ (n + 1)) with
    | none=>rw [hx] at h;cases h
    |
     some y =>
     rw [hx] at h
     cases hl' : l.mapM fun (r : List V)=>r.mapM (resolve σ (n + 1)) with
     | none=>rw [hl'] at h;cases h
     |
      some ys =>
      rw [hl'] at h
      cases h
      rw [hl x y hx (hd y (by simp)),ihl ys hl' fun c hc=>hd c (by simp [hc])]
      rfl
  cases v with
  |
   bF o s l =>
   simp only [resolve] at h ⊢
   cases ho : aj σ o with
   | none=>rw [ho] at h;cases h
   |
    some ob =>
    rw [ho] at h
    dsimp only at h ⊢
    split at h
    ·rename_i hle
     rw [if_pos hle]
     obtain ⟨rows,h1,rfl⟩:=Option.map_eq_some_iff.1 h
     rw [hr _ _ h1 (by simpa only [D9] using hd)]
     rfl
    ·cases h
  |
   ptr o r off =>
   simp only [resolve] at h ⊢
   cases ho : aj σ o with
   | none=>rw [ho] at h;cases h
   |
    some ob =>
    rw [ho] at h
    dsimp only at h ⊢
    cases hro : ob.rows[r]? with
    | none=>rw [hro] at h;cases h
    |
     some row =>
     rw [hro] at h
     dsimp only at h ⊢
     obtain ⟨rows,h1,rfl⟩:=Option.map_eq_some_iff.1 h
     simp [D9] at hd
  |
   agg cs =>
   simp only [resolve] at h ⊢
   obtain ⟨rows,h1,rfl⟩:=Option.map_eq_some_iff.1 h
   rw [hl _ _ h1 (by simpa only [D9] using hd)]
   rfl
  |
   gq cs =>
   simp only [resolve] at h ⊢
   obtain ⟨rows,h1,rfl⟩:=Option.map_eq_some_iff.1 h
   rw [hl _ _ h1 (by simpa only [D9] using hd)]
   rfl
  | _=>simpa only [resolve] using h
theorem Zl {σ : Store} : ∀ {ts : List (Bool × V)} {vs : List V} {os : List Nat},Vq σ vs ts os → (∀ p ∈ ts,D9 11 p.2) → vs.mapM (resolve σ 11) = some (ts.map (·.2))
 |
  [],vs,os,h,_=>by
  simp only [Vq] at h
  obtain ⟨rfl,rfl⟩:=h
  rfl
 |
  (b,t) :: ts,vs,os,h,hd=>by
  simp only [Vq] at h
  obtain ⟨v,vs',o1,o2,rfl,rfl,h1,h2⟩:=h
  have e2:=Zl h2 fun p hp=>hd p (by simp [hp])
  have hdt : D9 11 t:=hd (b,t) (by simp)
  have e1 : resolve σ 11 v = some t:=by
   cases b with
   | true=>exact FN 11 (by simpa using h1) hdt.le
   |
    false =>
    have h1 : resolve σ FD v = some t ∧ o1 = []:=by simpa using h1
    exact Zk 11 h1.1 hdt
  rw [List.mapM_cons,e1,e2]
  rfl
theorem PX.WU {T : Tb} {f : Nat} {args : List V} {ts : List (Bool × V)} (h : PX T f args ts) (hd : ∀ p ∈ ts,D9 11 p.2) : PF T f args (.gq (ts.map (·.2))):=by
 obtain ⟨vs,σ',os,h1,h2,h3⟩:=h
 refine .WU h1 ?_
 show resolve σ' (11 + 1) _ = _
 rw [resolve,Zl h2 hd]
 rfl
theorem Ep.fr {s S1 : Store} {cs ts : List V} {os : List Nat} {L : List (Nat × Obj)} (E : Ep s cs ts os L) (h1 : ∀ o,o < s.length → aj S1 o = aj s o) : Ep S1 cs ts os L :=
 ⟨E.c.frame fun o ho=>h1 o (E.c.lt o ho),fun q hq=>⟨(h1 _ (E.lt q hq)).trans (E.l q hq).1,(E.l q hq).2⟩⟩
def inC (n : Int) : Bool:=decide (-1000000 ≤ n) && decide (n ≤ 1000000)
theorem Zm {n : Int} (h : inC n = true) : -1000000 ≤ n ∧ n ≤ 1000000:=by simpa [inC] using h
def wtC (w : Int) : Bool:=decide (1 ≤ w) && decide (w ≤ 9999)
theorem ahp {n : Int} (h : wtC n = true) : 1 ≤ n ∧ n ≤ 9999:=by simpa [wtC] using h
def aa1 (a b w x y : Int) : Bool:=nd a && nd b && !decide (a = b) && wtC w && inC x && inC y
def nlV (a b w x y : Int) : Lk:=if aa1 a b w x y = true then (if b < a then ⟨b,a,bQ w,bQ (-x),bQ (-y)⟩ else ⟨a,b,bQ w,bQ x,bQ y⟩) else Lk0
theorem IU {T : Tb} (h : uS T) {a b w x y : Int} : PF T 14 [iv a,iv b,iv w,iv x,iv y] (.gq [NV (nlV a b w x y),.bool (aa1 a b w x y)]):=by
 have ca:=Gp h.oP (a:=a)
 have cb:=Gp h.oP (a:=b)
 have cw : PF T 35 [iv w,iv 1,iv 9999] (.bool (wtC w)):=Jo h.lV
 have cx : PF T 35 [iv x,iv (-1000000),iv 1000000] (.bool (inC x)):=Jo h.lV
 have cy : PF T 35 [iv y,iv (-1000000),iv 1000000] (.bool (inC y)):=Jo h.lV
 unfold nlV aa1
 cases h1 : nd a
 ·rw [h1] at ca
  refine aC nR h.hT ?_
  simp only [eG,Lz]
  refine ev ?_
  refine ah ca ?_
  refine ev ?_
  exact Dq D7
 rw [h1] at ca
 cases h2 : nd b
 ·rw [h2] at cb
  refine aC nR h.hT ?_
  simp only [eG,Lz]
  refine ev ?_
  refine ah ca ?_
  refine ev ?_
  refine ah cb ?_
  refine ev ?_
  exact Dq D7
 rw [h2] at cb
 by_cases h3 : a = b
 ·have h3' : (a = b) = True:=eq_true h3
  simp only [h3',decide_true]
  refine aC nR h.hT ?_
  simp only [eG,Lz]
  refine ev ?_
  refine ah ca ?_
  refine ev ?_
  refine ah cb ?_
  refine ev1 @h3' ?_
  exact Dq D7
 cases h4 : wtC w
 ·rw [h4] at cw
  refine aC nR h.hT ?_
  simp only [eG,Lz]
  refine ev ?_
  refine ah ca ?_
  refine ev ?_
  refine ah cb ?_
  refine ev1 @h3 ?_
  refine ah cw ?_
  refine ev ?_
  exact Dq D7
 rw [h4] at cw
 have hw:=ahp h4
 cases h5 : inC x
 ·rw [h5] at cx
  refine aC nR h.hT ?_
  simp only [eG,Lz]
  refine ev ?_
  refine ah ca ?_
  refine ev ?_
  refine ah cb ?_
  refine ev1 @h3 ?_
  refine ah cw ?_
  refine ev ?_
  refine ah cx ?_
  refine ev ?_
  exact Dq D7
 rw [h5] at cx
 have hx:=Zm h5
 cases h6 : inC y
 ·rw [h6] at cy
  refine aC nR h.hT ?_
  simp only [eG,Lz]
  refine ev ?_
  refine ah ca ?_
  refine ev ?_
  refine ah cb ?_
  refine ev1 @h3 ?_
  refine ah cw ?_
  refine ev ?_
  refine ah cx ?_
  refine ev ?_
  refine ah cy ?_
  refine ev ?_
  exact Dq D7
 rw [h6] at cy
 have hy:=Zm h6
 have hk : (true && true && !decide (a = b) && true && true && true) = true:=by rw [decide_eq_false h3];rfl
 rw [hk]
 by_cases h7 : b < a
 ·simp only [if_true,if_pos h7]
  refine aC nR h.hT ?_
  simp only [eG,Lz]
  refine ev ?_
  refine ah ca ?_
  refine ev ?_
  refine ah cb ?_
  refine ev1 @h3 ?_
  refine ah cw ?_
  refine ev ?_
  refine ah cx ?_
  refine ev ?_
  refine ah cy ?_
  refine ev1 @h7 ?_
  refine ah (gy h.bH (n:=w) (by omega)) ?_
  refine ev ?_
  refine ah (gy h.bH (n:=0 - x) (by omega)) ?_
  refine ev ?_
  refine ah (gy h.bH (n:=0 - y) (by omega)) ?_
  refine ev ?_
  rw [Int.zero_sub,Int.zero_sub]
  exact au _
 ·simp only [if_true,if_neg h7]
  refine aC nR h.hT ?_
  simp only [eG,Lz]
  refine ev ?_
  refine ah ca ?_
  refine ev ?_
  refine ah cb ?_
  refine ev1 @h3 ?_
  refine ah cw ?_
  refine ev ?_
  refine ah cx ?_
  refine ev ?_
  refine ah cy ?_
  refine ev1 @h7 ?_
  refine ah (gy h.bH (n:=w) (by omega)) ?_
  refine ev ?_
  refine ah (gy h.bH (n:=x) (by omega)) ?_
  refine ev ?_
  refine ah (gy h.bH (n:=y) (by omega)) ?_
  refine ev ?_
  exact au _
def vC : Fn:=⟨1,58,[.tmp 2],(sr [oN 2 (.iw (cI 0))] (sr [oW 4 0,oW 5 0,oN 6 (.chk (.t 5)),oN 7 (fd 2 6),oN 8 (lF 1 7),oN 9 (bc .mul 8 6364136223846793005),oN 10 (bc .add 9 1442695040888963407),oN 11 (.chk (.t 4)),oN 12 (fd 2 11),oS (.store 1 (.t 12) (.t 10))] (.seq (rt 0 [oW 13 0,oA 14 0 (.chk (.t 13)) [0],oA 15 0 (fd 2 14) [1],oA 16 0 (lF 1 15) [2],oA 17 0 (.bin .shr (.t 16) (.c (.int .u64 33))) [3],oW 18 0,oA 19 0 (.chk (.t 18)) [5],oA 20 0 (fd 2 19) [6],oA 21 0 (lF 1 20) [7],oA 22 0 (.bin .shr (.t 21) (.c (.int .u64 45))) [8],oA 23 0 (bt .xor 17 22) [4,9],oA 24 0 (bc .and 23 255) [10],oA 3 0 (oV 24) [11,0,1,2,3,4,5,6,7,8,9,10,11]]) (.seq (.seq (rt 0 [oW 25 0,oA 26 0 (.chk (.t 25)) [0],oA 27 0 (fd 1 26) [1],oA 28 0 (lF 1 27) [2],oW 29 0,oA 30 0 (.chk (.t 29)) [4],oA 31 0 (fd 0 30) [5],oA 32 0 (lF 1 31) [6],oA 33 0 (ln 32) [7],oA 34 0 (bt .lss 28 33) [3,8]]) (cd 34 (.seq (rt 0 [oW 35 3,oW 36 0,oA 37 0 (.chk (.t 36)) [1],oA 38 0 (fd 0 37) [2],oA 39 0 (lF 1 38) [3],oW 40 0,oA 41 0 (.chk (.t 40)) [5],oA 42 0 (fd 1 41) [6],oA 43 0 (lF 1 42) [7],oA 44 0 (ix 1 39 43) [4,8],oA 45 0 (lF 1 44) [9],oA 46 0 (.conv .i64 (.t 45)) [10],oA 47 0 (bt .add 35 46) [0,11],oA 48 0 (bc .and 47 255) [12],oA 3 0 (oV 48) [13,0,1,2,3,4,5,6,7,8,9,10,11,12,13]]) (rg [oW 49 0,oW 50 0,oN 51 (.chk (.t 50)),oN 52 (fd 1 51),oN 53 (lF 1 52),oN 54 (bc .add 53 1),oN 55 (.chk (.t 49)),oN 56 (fd 1 55),oS (.store 1 (.t 56) (.t 54))])) .skip)) (sr [oW 57 3,oW 2 57] .ret)))))⟩
structure lJ (T : Tb) : Prop where
 hT : T 129 = some vC
def yE : Fn:=⟨1,32,[.tmp 2],(sr [oN 2 (.iw (.c (.one)))] (sr [oW 5 0,oN 6 (ln 5),oN 7 (.bin .add (cI 1951) (.t 6)),oW 3 7] (.seq (sr [oN 4 (.iw (cI 0))] (.block 0 (.loop (.seq (sr [oW 8 4,oW 9 0,oN 10 (ln 9),oN 11 (bt .lss 8 10),oW 12 11,oG 12 true 13 (oV 4),oG 12 true 14 (bc .lss 13 4000),oN 15 (.pick (.t 12) (.t 14) (.c (.bool false)))] (cd 15 .skip (.exit 0))) (.seq (.block 1 (rg [oW 18 3,oN 19 (bc .mul 18 59),oW 20 0,oW 21 4,oN 22 (ix 1 20 21),oN 23 (lF 1 22),oN 24 (.conv .i64 (.t 23)),oN 25 (bt .add 19 24),oN 26 (bc .add 25 7),oN 27 (bc .and 26 1073741823),oW 3 27])) (rg [oW 16 4,oN 17 (bc .add 16 1),oW 4 17])))))) (.seq (rf 1 [oK 28 1 (oV 0),oK 29 1 (oV 3),oK 30 1 (.build [.ak,.int .i64 0,.int .i64 0] [(0,1,(.t 28)),(2,1,(.t 29))]),oN 31 (.box (.t 30)),oK 2 1 (oV 31)]) .ret))))⟩
structure yF (T : Tb) : Prop where
 hT : T 105 = some yE
def yG : Fn:=⟨2,17,[.tmp 4],(sr [oN 4 (.iw (.c (.one)))] (sr [oW 7 0,oN 8 (cl 105 [7]),oW 5 8] (.seq (sr [oN 6 (.iw (cI 0))] (.block 0 (.loop (.seq (sr [oW 9 6,oW 10 1,oN 11 (bt .lss 9 10)] (cd 11 .skip (.exit 0))) (.seq (.block 1 (rg [oW 14 5,oN 15 (cl 129 [14])])) (rg [oW 12 6,oN 13 (bc .add 12 1),oW 6 13])))))) (sr [oW 16 5,oW 4 16] .ret))))⟩
structure yH (T : Tb) : Prop where
 hT : T 181 = some yG
 Cj : yF T
 lK : lJ T
def vF : Fn:=⟨2,15,[.tmp 4],(sr [oN 4 (.iw (cI 0))] (sr [oW 6 0,oW 7 1,oN 8 (cl 181 [6,7]),oW 5 8] (sr [oW 9 5,oN 10 (cl 129 [9]),oN 11 (bc .mul 10 256),oW 12 5,oN 13 (cl 129 [12]),oN 14 (bt .add 11 13),oW 4 14] .ret)))⟩
structure AX (T : Tb) : Prop where
 hT : T 173 = some vF
 lK : lJ T
 Cm : yH T
def sJ : Fn:=⟨2,37,[.tmp 4],(sr [oN 4 (.iw (cI 0))] (.seq (sr [oW 9 1,oN 10 (bc .leq 9 0)] (cd 10 (sr [oN 4 (.iw (cI 0))] .ret) .skip)) (.seq (sr [oW 11 1,oN 12 (bc .leq 11 256)] (cd 12 (sr [oW 13 0,oN 14 (cl 129 [13]),oW 15 1,oN 16 (bt .rem 14 15),oW 4 16] .ret) .skip)) (sr [oW 17 0,oN 18 (cl 129 [17]),oW 5 18] (sr [oW 19 0,oN 20 (cl 129 [19]),oW 6 20] (sr [oW 21 0,oN 22 (cl 129 [21]),oW 7 22] (sr [oW 23 0,oN 24 (cl 129 [23]),oW 8 24] (sr [oW 25 5,oN 26 (bc .mul 25 16777216),oW 27 6,oN 28 (bc .mul 27 65536),oN 29 (bt .add 26 28),oW 30 7,oN 31 (bc .mul 30 256),oN 32 (bt .add 29 31),oW 33 8,oN 34 (bt .add 32 33),oW 35 1,oN 36 (bt .rem 34 35),oW 4 36] .ret))))))))⟩
structure jh (T : Tb) : Prop where
 hT : T 107 = some sJ
 lK : lJ T
def vG : Fn:=⟨2,24,[.cell 4 3 true],(.seq (rf 3 [oN 2 (.box (.t 0)),oK 3 1 (.box (.t 1)),oK 4 2 (.alloc mV)]) (.seq (sr [oN 5 (lT 2 2),oN 6 (cl 120 [5]),oN 7 (nt 6),oW 8 7,oG 8 false 9 (lT 2 3),oG 8 false 10 (cl 120 [9]),oG 8 false 11 (nt 10),oN 12 (.pick (.t 8) (.c (.bool true)) (.t 11))] (cd 12 (sr [oN 13 (.build mV []),oS (.store 3 (.t 4) (.t 13))] .ret) .skip)) (sr [oN 14 (fd 0 2),oN 15 (lF 1 14),oN 16 (fd 0 3),oN 17 (lF 1 16),oN 18 (.beq true (.t 15) (.t 17)),oN 19 (fd 1 2),oN 20 (lF 1 19),oN 21 (fd 1 3),oN 22 (lF 1 21),oN 23 (cl 206 [18,20,22]),oS (.store 3 (.t 4) (.t 23))] .ret)))⟩
structure AY (T : Tb) : Prop where
 hT : T 199 = some vG
 mM : rJ T
 jy : nG T
def zL : Fn:=⟨2,10,[.cell 4 3 true],(.seq (rf 1 [oN 4 (.alloc mV)]) (sr [oW 5 0,oN 6 (cl 53 [5]),oW 7 1,oN 8 (cl 53 [7]),oN 9 (cl 199 [6,8]),oS (.store 3 (.t 4) (.t 9))] .ret))⟩
structure Ea (T : Tb) : Prop where
 hT : T 190 = some zL
 rQ : rP T
 OY : AY T
def vH : Fn:=⟨2,12,[.tmp 4],(sr [oN 4 (.iw (cI 0))] (sr [oW 5 1,oW 6 0,oW 7 1,oN 8 (ln 7),oN 9 (cl 107 [6,8]),oN 10 (ix 1 5 9),oN 11 (lF 1 10),oW 4 11] .ret))⟩
structure vI (T : Tb) : Prop where
 hT : T 191 = some vH
 aU : jh T
def yI : Fn:=⟨1,10,[.cell 2 3 true],(.seq (rf 1 [oN 2 (.alloc mV)]) (.seq (rf 1 [oK 3 1 (oV 0),oK 4 1 (.call 107 [(.t 3),(cI 21)]),oK 5 1 (bc .sub 4 10),oK 6 1 (oV 0),oN 7 (.fE 1 Eo 5 [(0,(cI 1)),(1,(cI 1)),(2,(cI 1)),(3,(cI 2)),(4,(cI 3))]),oK 8 1 (cl 191 [6,7]),oK 9 1 (cl 190 [5,8]),⟨none,none,1,.store 3 (.t 2) (.t 9),[]⟩]) .ret))⟩
structure CB (T : Tb) : Prop where
 hT : T 184 = some yI
 aU : jh T
 TG : Ea T
 OZ : vI T
def vJ : Fn:=⟨2,10,[.cell 4 3 true],(.seq (rf 1 [oN 4 (.alloc mV)]) (sr [oW 5 0,oW 6 1,oN 7 (.bin .mul (cI 3) (.t 6)),oN 8 (cl 181 [5,7]),oN 9 (cl 184 [8]),oS (.store 3 (.t 4) (.t 9))] .ret))⟩
structure vK (T : Tb) : Prop where
 hT : T 175 = some vJ
 Cm : yH T
 Qk : CB T
def vM : Fn:=⟨2,39,[.cell 4 11 true],(.seq (rf 1 [oN 4 (.alloc CP)]) (sr [oW 9 0,oW 10 1,oN 11 (cl 107 [9,10]),oW 5 11] (sr [oW 12 0,oW 13 1,oN 14 (cl 107 [12,13]),oW 6 14] (.seq (sr [oW 15 5,oW 16 6,oN 17 (bt .eql 15 16)] (cd 17 (rg [oW 18 5,oN 19 (bc .add 18 1),oW 20 1,oN 21 (bc .add 20 1),oN 22 (bt .rem 19 21),oW 6 22]) .skip)) (.seq (rf 1 [oK 24 1 (oV 5),oK 25 1 (oV 6),oK 26 1 (oV 0),oK 27 1 (.call 107 [(.t 26),(cI 9)]),oK 28 1 (.bin .add (cI 1) (.t 27)),oK 29 1 (oV 0),oK 30 1 (.call 107 [(.t 29),(cI 41)]),oK 31 1 (bc .sub 30 20),oK 32 1 (oV 0),oK 33 1 (.call 107 [(.t 32),(cI 41)]),oK 34 1 (bc .sub 33 20),oK 35 1 (cl 14 [24,25,28,31,34]),oK 23 1 (oV 35),oK 36 1 (ex 0 23),oK 37 1 (ex 1 23),oN 7 (.alloc CP),⟨none,none,1,.store 11 (.t 7) (.t 36),[]⟩,oK 8 1 (oV 37)]) (sr [oN 38 (lT 11 7),oS (.store 11 (.t 4) (.t 38))] .ret))))))⟩
structure AZ (T : Tb) : Prop where
 hT : T 128 = some vM
 vN : uS T
 aU : jh T
abbrev bytesV (x : List UInt8) : V:=.sl 1 (x.map fun b=>[.int .u8 b.toNat])
def cur (x : List UInt8) (i h : Int) : Store:=[some ⟨3,[[bytesV x,iv i,iv h]]⟩]
theorem ad8 (a : Int) : 0 ≤ Bg .i64 a 255 ∧ Bg .i64 a 255 ≤ 255:=by
 have h : (BitVec.ofInt 64 a &&& BitVec.ofInt 64 255).toNat ≤ 255:=by
  rw [BitVec.toNat_and]
  exact Nat.le_trans Nat.and_le_right (by decide)
 unfold Bg
 rw [show IntKind.i64.bits = 64 from rfl,w64 ⟨by omega,by omega⟩]
 omega
theorem aa2 {T : Tb} (h : lJ T) {x : List UInt8} {i hh : Int} (hi : 0 ≤ i ∧ i ≤ x.length) (hx : x.length ≤ 1048576) :
  ∃ n i' h' : Int,(0 ≤ n ∧ n ≤ 255) ∧ (0 ≤ i' ∧ i' ≤ x.length) ∧ Run T (.fn 129 [.ptr 0 0 0] (cur x i hh)) (.fn (iv n) (cur x i' h')):=by
 have : ∃ r σ',Run T (.fn 129 [.ptr 0 0 0] (cur x i hh)) (.fn r σ') ∧ ∃ n i' h' : Int,(r = iv n ∧ σ' = cur x i' h') ∧ (0 ≤ n ∧ n ≤ 255) ∧ (0 ≤ i' ∧ i' ≤ x.length):=by
  unfold cur
  refine run_end nR h.hT ?_
  simp only [vC,Lz,St.enter,List.length_cons,List.length_nil,Nat.zero_add]
  refine ew ?_
  refine aN (fun hc=>?_) fun hc=>?_ <;> (refine CQ @hc ?_;try with_reducible exact True.intro)
  ·have g1 : (x.map fun b=>[V.int .u8 b.toNat]).getD i.toNat [] = [.int .u8 (x.getD i.toNat default).toNat]:=mg (f:=fun b : UInt8=>[V.int .u8 b.toNat]) (by omega)
   have hb : (x.getD i.toNat default).toNat < 256:=(x.getD i.toNat default).toBitVec.isLt
   generalize (x.getD i.toNat default).toNat = b at g1 hb
   refine CQ @g1 ?_
   trace_state
   exact ⟨_,_,_,⟨rfl,rfl⟩,ad8 _,by omega⟩
  ·refine ew ?_
   exact ⟨_,_,_,⟨rfl,rfl⟩,ad8 _,hi⟩
 obtain ⟨r,σ',h1,n,i',h',⟨rfl,rfl⟩,h2,h3⟩:=this
 exact ⟨n,i',h',h2,h3,h1⟩
def GU (x : List UInt8) (i h : Int) : Obj:=⟨3,[[bytesV x,iv i,iv h]]⟩
def GV (s : Store) (b : Nat) (x : List UInt8) : Prop:=∃ i h : Int,aj s b = some (GU x i h) ∧ 0 ≤ i ∧ i ≤ x.length
def aa3 (T : Tb) (f : Nat) (rest : List V) (x : List UInt8) (Q : V → Prop) : Prop :=
 ∀ i h : Int,0 ≤ i ∧ i ≤ x.length → ∃ (r : V) (i' h' : Int),(Q r ∧ ∀ g,aP g r = r) ∧ (0 ≤ i' ∧ i' ≤ x.length) ∧ Run T (.fn f (.ptr 0 0 0 :: rest) (cur x i h)) (.fn r (cur x i' h'))
theorem yR (g : Nat → Option Nat) (x : List UInt8) (i h : Int) : gu g (GU x i h) = GU x i h:=by
 simp [gu,GU,aP]
theorem TI {T : Tb} {f : Nat} {rest : List V} {x : List UInt8} {Q : V → Prop}
  (h : ∀ i h : Int,0 ≤ i ∧ i ≤ x.length → ∃ r σ',Run T (.fn f (.ptr 0 0 0 :: rest) (cur x i h)) (.fn r σ') ∧ (Q r ∧ ∀ g,aP g r = r) ∧ GV σ' 0 x) : aa3 T f rest x Q:=by
 intro i hh hi
 obtain ⟨r,σ',h1,h2,i',h',h3,h4⟩:=h i hh hi
 refine ⟨r,i',h',h2,h4,?_⟩
 have:=Run.gcF [0] (by simp) (fun k hk=>by
  have hk : k < 1:=hk
  have e : k = 0:=by omega
  rw [e];rfl) h1
 rw [h2.2] at this
 have e : zA [0] σ' = cur x i' h':=by
  simp only [zA,List.map_cons,List.map_nil,h3,Option.map_some,yR];rfl
 rwa [e] at this
theorem dA {T : Tb} {f : Nat} {as : List Src} {dst : Option Nat} {env : Nat → V} {σ : Store} {kp bs : Nat} {rs ms : List Nat} {k : St → Prop} {b : Nat} {x : List UInt8} {rest : List V} {Q : V → Prop}
  (hb : GV σ b x) (hf : aa3 T f rest x Q) (ha : (as.map fun s=>s.ev env) = .ptr b 0 0 :: rest) (hr : ∀ g,rest.map (aP g) = rest)
  (hk : ∀ (r : V) (i h : Int),Q r → 0 ≤ i ∧ i ≤ x.length → k ⟨dS env dst r,σ.set b (some (GU x i h)),kp,bs,rs,ms⟩) : Ib T f as dst ⟨env,σ,kp,bs,rs,ms⟩ k:=by
 obtain ⟨i,h,hob,hi⟩:=hb
 obtain ⟨r,i',h',⟨hq,hm⟩,hi',hrun⟩:=hf i h hi
 have e : (as.map fun s=>aP (place [b]) (s.ev env)) = .ptr 0 0 0 :: rest:=by
  have : (as.map fun s=>aP (place [b]) (s.ev env)) = (as.map fun s=>s.ev env).map (aP (place [b])):=by rw [List.map_map];rfl
  rw [this,ha,List.map_cons,hr]
  simp [aP,place]
 have e2 : zA [b] σ = cur x i h:=by
  simp only [zA,List.map_cons,List.map_nil,hob,Option.map_some,yR];rfl
 have hlt:=aG hob
 have e3 : iF [b] σ (cur x i' h') = σ.set b (some (GU x i' h')):=by
  unfold iF
  have : (cur x i' h').drop [b].length = []:=rfl
  rw [this,List.map_nil,List.append_nil]
  apply List.ext_getElem?
  intro q
  rw [List.getElem?_mapIdx,List.getElem?_set]
  by_cases hq : b = q
  ·subst hq
   rw [if_pos rfl,if_pos hlt,List.getElem?_eq_getElem hlt]
   simp only [Option.map_some,place,if_true]
   show some ((aj (cur x i' h') 0).map _) = _
   show some (some (gu _ (GU x i' h'))) = _
   rw [yR]
  ·rw [if_neg hq]
   cases hg : σ[q]? with
   | none=>rfl
   | some ob=>simp [place,hq]
 refine ⟨_,.ref [b] (by simp) (fun o ho=>by rw [List.mem_singleton.1 ho,hob];rfl) (r:=r) (σ':=cur x i' h') (by rw [e,e2];exact hrun),?_⟩
 have:=hk r i' h' hq hi'
 rw [← e3] at this
 have hm2:=hm (back [b] σ.length)
 show k ⟨dS env dst (aP (back [b] σ.length) r),_,_,_,_,_⟩
 rw [hm2]
 exact this
theorem Gx {T : Tb} (h : lJ T) {x : List UInt8} (hx : x.length ≤ 1048576) : aa3 T 129 [] x fun r=>∃ n : Int,r = iv n ∧ 0 ≤ n ∧ n ≤ 255:=by
 intro i hh hi
 obtain ⟨n,i',h',h1,h2,h3⟩:=aa2 h (hh:=hh) hi hx
 exact ⟨iv n,i',h',⟨⟨n,rfl,h1⟩,fun g=>rfl⟩,h2,h3⟩
theorem fA {T : Tb} (h : jh T) {x : List UInt8} {n : Int} (hn : 0 < n ∧ n ≤ 256) (hx : x.length ≤ 1048576) : aa3 T 107 [iv n] x fun r=>∃ m : Int,r = iv m ∧ 0 ≤ m ∧ m < n:=by
 refine TI fun i hh hi=>?_
 have hP : GV (cur x i hh) 0 x:=⟨i,hh,rfl,hi⟩
 have h1 : ¬ n ≤ 0:=by omega
 have hl : (cur x i hh).length = 1:=rfl
 generalize cur x i hh = s0 at hP hl ⊢
 refine run_end (fun x d=>x == 129) h.hT ?_
 simp only [sJ,Lz,St.enter,List.length_cons,List.length_nil,Nat.zero_add]
 refine ew ?_
 refine aN (fun hc=>absurd hc h1) fun _=>?_
 refine ew ?_
 refine aN (fun _=>?_) fun hc=>absurd hn.2 hc
 refine ew ?_
 refine dA hP (Gx h.lK hx) rfl (fun _=>rfl) ?_
 rintro _ i2 h2 ⟨m,rfl,hm⟩ hi2
 refine ew ?_
 exact ⟨⟨⟨_,rfl,Int.tmod_nonneg _ hm.1,Int.tmod_lt_of_pos _ hn.1⟩,fun g=>rfl⟩,i2,h2,aY (by omega),hi2⟩
theorem ahq {T : Tb} (h : vI T) {x : List UInt8} (hx : x.length ≤ 1048576) {i hh : Int} (hi : 0 ≤ i ∧ i ≤ x.length) :
  ∃ (d i' h' : Int),(1 ≤ d ∧ d ≤ 3) ∧ (0 ≤ i' ∧ i' ≤ x.length) ∧ Run T (.fn 191 [.ptr 0 0 0,.bF 1 0 5] [some (GU x i hh),some ⟨1,[[iv 1],[iv 1],[iv 1],[iv 2],[iv 3]]⟩]) (.fn (iv d) [some (GU x i' h'),some ⟨1,[[iv 1],[iv 1],[iv 1],[iv 2],[iv 3]]⟩]):=by
 have : ∃ r σ',Run T (.fn 191 [.ptr 0 0 0,.bF 1 0 5] [some (GU x i hh),some ⟨1,[[iv 1],[iv 1],[iv 1],[iv 2],[iv 3]]⟩]) (.fn r σ') ∧ ∃ d i' h' : Int,(r = iv d ∧ σ' = [some (GU x i' h'),some ⟨1,[[iv 1],[iv 1],[iv 1],[iv 2],[iv 3]]⟩]) ∧ (1 ≤ d ∧ d ≤ 3) ∧ (0 ≤ i' ∧ i' ≤ x.length):=by
  refine run_end (fun x d=>x == 107) h.hT ?_
  simp only [vH,Lz,St.enter,List.length_cons,List.length_nil,Nat.zero_add]
  refine ew ?_
  refine dA (b:=0) (rest:=[iv 5]) ⟨i,hh,rfl,hi⟩ (fA h.aU (n:=5) (by omega) hx) rfl (fun _=>rfl) ?_
  rintro _ i2 h2 ⟨m,rfl,hm⟩ hi2
  have : m = 0 ∨ m = 1 ∨ m = 2 ∨ m = 3 ∨ m = 4:=by omega
  rcases this with rfl | rfl | rfl | rfl | rfl
  all_goals
   refine ew ?_
   exact ⟨_,_,_,⟨rfl,rfl⟩,by omega,hi2⟩
 obtain ⟨r,σ',h1,n,i',h',⟨rfl,rfl⟩,h2,h3⟩:=this
 exact ⟨n,i',h',h2,h3,h1⟩
def l5 : Obj:=⟨1,[[iv 1],[iv 1],[iv 1],[iv 2],[iv 3]]⟩
theorem Zn (g : Nat → Option Nat) : gu g l5 = l5:=by simp [gu,l5,aP]
theorem Yd {T : Tb} (h : vI T) {x : List UInt8} (hx : x.length ≤ 1048576) {as : List Src} {dst : Option Nat} {env : Nat → V} {σ : Store} {kp bs : Nat} {rs ms : List Nat} {k : St → Prop} {b p : Nat}
  (hb : GV σ b x) (hp : aj σ p = some l5) (hne : b ≠ p) (ha : (as.map fun s=>s.ev env) = [.ptr b 0 0,.bF p 0 5])
  (hk : ∀ (d i h : Int),(1 ≤ d ∧ d ≤ 3) → 0 ≤ i ∧ i ≤ x.length → k ⟨dS env dst (iv d),σ.set b (some (GU x i h)),kp,bs,rs,ms⟩) : Ib T 191 as dst ⟨env,σ,kp,bs,rs,ms⟩ k:=by
 obtain ⟨i,hh,hob,hi⟩:=hb
 obtain ⟨d,i',h',hd,hi',hrun⟩:=ahq h hx (hh:=hh) hi
 have e : (as.map fun s=>aP (place [b,p]) (s.ev env)) = [.ptr 0 0 0,.bF 1 0 5]:=by
  have : (as.map fun s=>aP (place [b,p]) (s.ev env)) = (as.map fun s=>s.ev env).map (aP (place [b,p])):=by rw [List.map_map];rfl
  rw [this,ha]
  simp [aP,place,hne]
 have e2 : zA [b,p] σ = [some (GU x i hh),some l5]:=by
  simp only [zA,List.map_cons,List.map_nil,hob,hp,Option.map_some,yR,Zn]
 have hlt:=aG hob
 have hlp:=aG hp
 have e3 : iF [b,p] σ [some (GU x i' h'),some l5] = σ.set b (some (GU x i' h')):=by
  unfold iF
  have : ([some (GU x i' h'),some l5] : Store).drop [b,p].length = []:=rfl
  rw [this,List.map_nil,List.append_nil]
  apply List.ext_getElem?
  intro q
  rw [List.getElem?_mapIdx,List.getElem?_set]
  by_cases hq : b = q
  ·subst hq
   rw [if_pos rfl,if_pos hlt,List.getElem?_eq_getElem hlt]
   simp only [Option.map_some,place,if_true]
   show some (some (gu _ (GU x i' h'))) = _
   rw [yR]
  ·rw [if_neg hq]
   by_cases hq2 : p = q
   ·subst hq2
    have h5 : σ[p]? = some (some l5):=by
     rw [List.getElem?_eq_getElem hlp]
     have : (σ[p]?).getD none = some l5:=hp
     rw [List.getElem?_eq_getElem hlp] at this
     exact congrArg some this
    rw [h5]
    simp only [Option.map_some,place,if_neg hq,if_true]
    show some (some (gu _ l5)) = _
    rw [Zn]
   ·cases hg : σ[q]? with
    | none=>rfl
    | some ob=>simp [place,hq,hq2]
 refine ⟨_,.ref [b,p] (by simp [hne]) (fun o ho=>by
  rcases List.mem_cons.1 ho with rfl | ho
  ·rw [hob];rfl
  ·rw [List.mem_singleton.1 ho,hp];rfl) (r:=iv d) (σ':=[some (GU x i' h'),some l5]) (by rw [e,e2];exact hrun),?_⟩
 have:=hk d i' h' hd hi'
 rw [← e3] at this
 exact this
def CG (n d : Int) : R:=Q.raw (Io n d)
theorem aot {n : Int} (hn : -1000000 ≤ n ∧ n ≤ 1000000) : (kT (bi n).mag && !((bi n).neg && (bi n).mag.isEmpty)) = true:=by
 have h1 : kT (mk n.natAbs) = true:=Ji (Nat.lt_of_le_of_lt (by omega : n.natAbs ≤ 1000000) (by decide))
 show (kT (mk n.natAbs) && !(decide (n < 0) && (mk n.natAbs).isEmpty)) = true
 rw [h1,Bool.true_and]
 by_cases h : n < 0
 ·have h2 : mk n.natAbs ≠ []:=fun e=>by
   have:=congrArg val e
   rw [val_mk] at this
   simp [val] at this
   omega
  rw [decide_eq_true h,Bool.true_and]
  cases he : mk n.natAbs with
  | nil=>exact absurd he h2
  | cons a l=>rfl
 ·rw [decide_eq_false h];rfl
theorem Ye {T : Tb} (h : AY T) {n d : Int} (hn : -1000000 ≤ n ∧ n ≤ 1000000:=by exact gU) (hd : 1 ≤ d ∧ d ≤ 1000000:=by exact gU) : PF T 199 [LG (bi n),LG (bi d)] (aQ (CG n d)):=by
 have ln : (mk n.natAbs).length ≤ 2:=FK (by omega)
 have ld : (mk d.natAbs).length ≤ 2:=FK (by omega)
 have c1:=Fq h.mM (z:=bi n) (by show (mk n.natAbs).length ≤ _;omega)
 have c2:=Fq h.mM (z:=bi d) (by show (mk d.natAbs).length ≤ _;omega)
 rw [aot hn] at c1
 rw [aot ⟨by omega,hd.2⟩] at c2
 have c3:=FI h.jy (neg:=decide (n < 0)) (m:=n.natAbs) (n:=d.natAbs) (by omega) (by omega)
 have e : sg (decide (n < 0)) n.natAbs = n:=by unfold sg;split <;> simp_all <;> omega
 have e2 : ((d.natAbs : Nat) : Int) = d:=by omega
 rw [e,e2] at c3
 have hdn : (d < 0) = False:=eq_false (by omega)
 refine aC nR h.hT ?_
 simp only [vG,Lz]
 refine ev ?_
 refine ah c1 ?_
 refine ev ?_
 refine ah c2 ?_
 refine ev1 @hdn ?_
 refine ah c3 ?_
 refine ev ?_
 exact au _
theorem ad9 {T : Tb} (h : Ea T) {n d : Int} (hn : -1000000 ≤ n ∧ n ≤ 1000000:=by exact gU) (hd : 1 ≤ d ∧ d ≤ 1000000:=by exact gU) : PF T 190 [iv n,iv d] (aQ (CG n d)):=by
 have c1:=FM h.rQ (n:=n) (by omega)
 have c2:=FM h.rQ (n:=d) (by omega)
 refine aC nR h.hT ?_
 simp only [zL,Lz]
 refine ev ?_
 refine ah c1 ?_
 refine ev ?_
 refine ah c2 ?_
 refine ev ?_
 refine ah (Ye h.OY hn hd) ?_
 refine ev ?_
 exact au _
theorem aea (g : Nat → Option Nat) (r : R) : aP g (aQ r) = aQ r:=by simp [aP,aP.Ad]
theorem aeb {T : Tb} (h : CB T) {x : List UInt8} (hx : x.length ≤ 1048576) : aa3 T 184 [] x fun r=>∃ n d : Int,r = aQ (CG n d) ∧ (-10 ≤ n ∧ n ≤ 10) ∧ (1 ≤ d ∧ d ≤ 3):=by
 refine TI fun i hh hi=>?_
 unfold cur
 refine run_end (fun x d=>x == 107 || x == 191) h.hT ?_
 simp only [yI,Lz,St.enter,List.length_cons,List.length_nil,Nat.zero_add]
 refine ew ?_
 refine dA (b:=0) (rest:=[iv 21]) ⟨i,hh,rfl,hi⟩ (fA h.aU (n:=21) (by omega) hx) rfl (fun _=>rfl) ?_
 rintro _ i2 h2 ⟨m,rfl,hm⟩ hi2
 refine ew ?_
 refine Yd h.OZ hx (b:=0) (p:=2) ⟨i2,h2,rfl,hi2⟩ rfl (by decide) rfl ?_
 intro d i3 h3 hd hi3
 refine ew ?_
 refine ah (ad9 h.TG (n:=m - 10) (d:=d) (by omega) (by omega)) ?_
 refine ew ?_
 exact ⟨⟨⟨_,_,rfl,by omega,hd⟩,fun g=>aea g _⟩,i3,h3,rfl,hi3⟩
theorem VO {T : Tb} (h : yF T) {x : List UInt8} (hx : x.length ≤ 1048576) : ∃ hh : Int,Run T (.fn 105 [bytesV x] []) (.fn (.ptr 0 0 0) (cur x 0 hh)):=by
 have : ∃ r σ',Run T (.fn 105 [bytesV x] []) (.fn r σ') ∧ ∃ hh : Int,r = .ptr 0 0 0 ∧ σ' = cur x 0 hh:=by
  refine run_end nR h.hT ?_
  simp only [yE,Lz,St.enter,List.length_cons,List.length_nil,Nat.zero_add]
  refine ew ?_
  refine aS (fun _ _=>false) (α:=Nat × Int) (fun q=>⟨dX [bytesV x,.any,.any,iv q.2,iv (q.1 : Nat)],[],0,0,[],[]⟩) (fun q=>q.1 ≤ x.length) (fun q=>x.length - q.1) rfl (0,1951 + x.length) ?_ ?_ ?_
  ·omega
  ·(refine aJ ?_;exact zy)
  ·rintro ⟨k,hh⟩ hk
   dsimp only at hk
   by_cases hc : (k : Int) < (x.length : Nat)
   ·have hkl : k < x.length:=by omega
    by_cases hc2 : (k : Int) < 4000
    ·have g1 : (x.map fun b=>[V.int .u8 b.toNat]).getD k [] = [.int .u8 (x.getD k default).toNat]:=mg (f:=fun b : UInt8=>[V.int .u8 b.toNat]) hkl
     have hb : (x.getD k default).toNat < 256:=(x.getD k default).toBitVec.isLt
     generalize (x.getD k default).toNat = b at g1 hb
     refine IG @hc @hc2 @g1 ?_
     exact ⟨(k + 1,Bg IntKind.i64 (IntKind.i64.wrap (IntKind.i64.wrap (IntKind.i64.wrap (hh * 59) + b) + 7)) 1073741823),by dsimp only;omega,by dsimp only;omega,by (refine aJ ?_;exact zy)⟩
    ·refine yS @hc @hc2 ?_
     exact ⟨_,rfl⟩
   ·refine CQ @hc ?_
    exact ⟨_,rfl⟩
 obtain ⟨r,σ',h1,hh,rfl,rfl⟩:=this
 exact ⟨hh,h1⟩
theorem La {x : List UInt8} {i h : Int} {s : Store} (hi : 0 ≤ i ∧ i ≤ x.length) : GV (pF s (cur x i h)) s.length x:=by
 refine ⟨i,h,?_,hi⟩
 rw [jM,if_neg (Nat.lt_irrefl _),Nat.sub_self]
 show (some (GU x i h)).map _ = _
 rw [Option.map_some,yR]
theorem VP {T : Tb} (h : yH T) {x : List UInt8} {n : Int} (hn : n ≤ 1000) (hx : x.length ≤ 1048576) : ∃ i hh : Int,(0 ≤ i ∧ i ≤ x.length) ∧ Run T (.fn 181 [bytesV x,iv n] []) (.fn (.ptr 0 0 0) (cur x i hh)):=by
 obtain ⟨h0,rn⟩:=VO h.Cj hx
 have : ∃ r σ',Run T (.fn 181 [bytesV x,iv n] []) (.fn r σ') ∧ (r = .ptr 0 0 0 ∧ GV σ' 0 x):=by
  refine run_end (fun x d=>x == 105 || x == 129) h.hT ?_
  simp only [yG,Lz,St.enter,List.length_cons,List.length_nil,Nat.zero_add]
  refine ew ?_
  refine Ac rn (by (refine ew ?_;try with_reducible exact True.intro)) (by (refine ew ?_;try with_reducible exact True.intro)) ?_
  have hP:=La (x:=x) (i:=0) (h:=h0) (s:=[]) (by omega)
  rw [List.length_nil] at hP
  rw [show aP (bD ([] : Store).length) (.ptr 0 0 0) = .ptr 0 0 0 from rfl]
  generalize pF [] (cur x 0 h0) = s0 at hP ⊢
  refine ew ?_
  refine aS (fun x d=>x == 105 || x == 129) (α:=Nat × Store) (fun q=>⟨dX [.any,iv n,.any,.any,.any,.ptr 0 0 0,iv (q.1 : Nat)],q.2,0,0,[],[]⟩) (fun q=>q.1 ≤ 1000 ∧ GV q.2 0 x) (fun q=>1000 - q.1) rfl (0,s0) ?_ ?_ ?_
  ·exact ⟨by omega,hP⟩
  ·(refine aJ ?_;exact zy)
  ·clear hP
   rintro ⟨k,s⟩ ⟨hk,hP⟩
   dsimp only at hk hP
   refine ew ?_
   refine aN (fun hc=>?_) fun hc=>?_ <;> (refine CQ @hc ?_;try with_reducible exact True.intro)
   ·refine dA hP (Gx h.lK hx) rfl (fun _=>rfl) ?_
    rintro _ i2 h2 ⟨m,rfl,hm⟩ hi2
    refine ew ?_
    have hlt : 0 < s.length:=by obtain ⟨_,_,ho,_⟩:=hP;exact aG ho
    exact ⟨(k + 1,s.set 0 (some (GU x i2 h2))),by dsimp only;omega,⟨by dsimp only;omega,⟨i2,h2,aY hlt,hi2⟩⟩,by (refine aJ ?_;exact zy)⟩
   ·exact hP
 obtain ⟨r,σ',h1,rfl,i',h',h3,h4⟩:=this
 refine ⟨i',h',h4,?_⟩
 have:=Run.gcF [0] (by simp) (fun k hk=>absurd hk (Nat.not_lt_zero _)) h1
 have e : zA [0] σ' = cur x i' h':=by
  simp only [zA,List.map_cons,List.map_nil,h3,Option.map_some,yR];rfl
 rwa [e] at this
theorem Ri {T : Tb} (h : vK T) {x : List UInt8} {n : Int} (hn : 0 ≤ n ∧ n ≤ 100) (hx : x.length ≤ 1048576) : ∃ m d : Int,(-10 ≤ m ∧ m ≤ 10) ∧ (1 ≤ d ∧ d ≤ 3) ∧ PF T 175 [bytesV x,iv n] (aQ (CG m d)):=by
 obtain ⟨i0,h0,hi0,rn⟩:=VP h.Cm (n:=3 * n) (by omega) hx
 have : ∃ r σ',Run T (.fn 175 [bytesV x,iv n] []) (.fn r σ') ∧ ∃ m d : Int,(-10 ≤ m ∧ m ≤ 10) ∧ (1 ≤ d ∧ d ≤ 3) ∧ r = aQ (CG m d):=by
  refine run_end (fun x d=>x == 181 || x == 184) h.hT ?_
  simp only [vJ,Lz,St.enter,List.length_cons,List.length_nil,Nat.zero_add]
  refine ew ?_
  refine Ac rn (by (refine ew ?_;try with_reducible exact True.intro)) (by (refine ew ?_;try with_reducible exact True.intro)) ?_
  obtain ⟨s,hs⟩ : ∃ s,pF [some ⟨3,[[.bool false,.ak,.ak]]⟩] (cur x i0 h0) = s:=⟨_,rfl⟩
  have hP:=La (x:=x) (i:=i0) (h:=h0) (s:=[some ⟨3,[[.bool false,.ak,.ak]]⟩]) hi0
  have h00 : aj s 0 = some ⟨3,[[.bool false,.ak,.ak]]⟩:=by rw [← hs,jM,if_pos (by decide)];rfl
  rw [hs] at hP ⊢
  rw [show aP (bD ([some ⟨3,[[.bool false,.ak,.ak]]⟩] : Store).length) (.ptr 0 0 0) = .ptr 1 0 0 from rfl]
  rw [show ([some ⟨3,[[.bool false,.ak,.ak]]⟩] : Store).length = 1 from rfl] at hP
  have hlt : 1 < s.length:=by obtain ⟨_,_,ho,_⟩:=hP;exact aG ho
  refine ew ?_
  refine dA hP (aeb h.Qk hx) rfl (fun _=>rfl) ?_
  rintro _ i2 h2 ⟨m,d,rfl,hm,hd⟩ hi2
  refine CQ @h00 ?_
  exact ⟨m,d,hm,hd,rfl⟩
 obtain ⟨r,σ',h1,m,d,h2,h3,rfl⟩:=this
 exact ⟨m,d,h2,h3,.WU h1 (qQ (by intro v hv;simp at hv;rcases hv with rfl | rfl | rfl <;> rfl))⟩
theorem aa4 {T : Tb} (h : AX T) {x : List UInt8} {n : Int} (hn : 0 ≤ n ∧ n ≤ 100) (hx : x.length ≤ 1048576) : ∃ m : Int,(0 ≤ m ∧ m ≤ 65535) ∧ PF T 173 [bytesV x,iv n] (iv m):=by
 obtain ⟨i0,h0,hi0,rn⟩:=VP h.Cm (n:=n) (by omega) hx
 have : ∃ r σ',Run T (.fn 173 [bytesV x,iv n] []) (.fn r σ') ∧ ∃ m : Int,(0 ≤ m ∧ m ≤ 65535) ∧ r = iv m:=by
  refine run_end (fun x d=>x == 181 || x == 129) h.hT ?_
  simp only [vF,Lz,St.enter,List.length_cons,List.length_nil,Nat.zero_add]
  refine ew ?_
  refine Ac rn (by (refine ew ?_;try with_reducible exact True.intro)) (by (refine ew ?_;try with_reducible exact True.intro)) ?_
  have hP:=La (x:=x) (i:=i0) (h:=h0) (s:=[]) hi0
  rw [List.length_nil] at hP
  rw [show aP (bD ([] : Store).length) (.ptr 0 0 0) = .ptr 0 0 0 from rfl]
  generalize pF [] (cur x i0 h0) = s0 at hP ⊢
  have hlt : 0 < s0.length:=by obtain ⟨_,_,ho,_⟩:=hP;exact aG ho
  refine ew ?_
  refine dA hP (Gx h.lK hx) rfl (fun _=>rfl) ?_
  rintro _ i2 h2 ⟨m,rfl,hm⟩ hi2
  refine ew ?_
  refine dA (b:=0) ⟨i2,h2,aY hlt,hi2⟩ (Gx h.lK hx) rfl (fun _=>rfl) ?_
  rintro _ i3 h3 ⟨m2,rfl,hm2⟩ hi3
  refine ew ?_
  exact ⟨_,by omega,rfl⟩
 obtain ⟨r,σ',h1,m,h2,rfl⟩:=this
 exact ⟨m,h2,.WU h1 rfl⟩
structure SmL (l : Lk) : Prop where
 ab : 0 ≤ l.a ∧ l.a < l.b ∧ l.b ≤ 3
 w : ∃ n : Int,(1 ≤ n ∧ n ≤ 9) ∧ l.w = bQ n
 dx : ∃ n : Int,(-20 ≤ n ∧ n ≤ 20) ∧ l.dx = bQ n
 dy : ∃ n : Int,(-20 ≤ n ∧ n ≤ 20) ∧ l.dy = bQ n
theorem Zo (g : Nat → Option Nat) (l : Lk) : aP g (NV l) = NV l:=by simp [aP,aP.Ad]
def vO : Fn:=⟨2,51,[.tmp 4],(sr [oN 4 mN] (.seq (rf 1 [oN 10 (.fE 11 CP 0 []),oK 5 1 (oV 10)]) (.seq (sr [oN 6 (.iw (cI 1))] (.block 0 (.loop (.seq (sr [oW 11 6,oW 12 1,oN 13 (bt .leq 11 12)] (cd 13 .skip (.exit 0))) (.seq (.block 1 (.seq (rf 1 [oK 17 1 (oV 0),oK 18 1 (oV 6),oK 19 1 (cl 107 [17,18]),oK 20 1 (oV 6),oK 21 1 (oV 0),oK 22 1 (.call 107 [(.t 21),(cI 9)]),oK 23 1 (.bin .add (cI 1) (.t 22)),oK 24 1 (oV 0),oK 25 1 (.call 107 [(.t 24),(cI 41)]),oK 26 1 (bc .sub 25 20),oK 27 1 (oV 0),oK 28 1 (.call 107 [(.t 27),(cI 41)]),oK 29 1 (bc .sub 28 20),oK 30 1 (cl 14 [19,20,23,26,29]),oK 16 1 (oV 30),oK 31 1 (ex 0 16),oK 32 1 (ex 1 16),oN 7 (.alloc CP),⟨none,none,1,.store 11 (.t 7) (.t 31),[]⟩,oK 8 1 (oV 32)]) (rf 2 [oK 33 2 (oV 5),oK 34 2 (lT 11 7),oN 35 (.fE 11 CP 1 [(0,(.t 34))]),oK 36 1 (.app 11 184 (.t 33) (.t 35)),oK 5 2 (oV 36)]))) (rg [oW 14 6,oN 15 (bc .add 14 1),oW 6 15])))))) (.seq (sr [oW 37 0,oN 38 (.call 107 [(.t 37),(cI 4)]),oW 9 38] (.block 2 (.loop (.seq (sr [oW 39 9,oN 40 (bc .gtr 39 0)] (cd 40 .skip (.exit 2))) (.seq (.block 3 (rf 2 [oK 43 2 (oV 5),oK 44 2 (oV 0),oK 45 2 (oV 1),oK 46 2 (bc .add 45 1),oK 47 2 (cl 128 [44,46]),oN 48 (.fE 11 CP 1 [(0,(.t 47))]),oK 49 1 (.app 11 184 (.t 43) (.t 48)),oK 5 2 (oV 49)])) (rg [oW 41 9,oN 42 (bc .sub 41 1),oW 9 42])))))) (sr [oW 50 5,oW 4 50] .ret)))))⟩
structure Ba (T : Tb) : Prop where
 hT : T 106 = some vO
 vN : uS T
 aU : jh T
 O0 : AZ T
def qj : Fn:=⟨1,11,[.tmp 2],(sr [oN 2 mN] (sr [oW 4 0,oN 5 (cl 105 [4]),oW 3 5] (sr [oW 6 3,oW 7 3,oN 8 (.call 107 [(.t 7),(cI 4)]),oN 9 (.bin .add (cI 1) (.t 8)),oN 10 (cl 106 [6,9]),oW 2 10] .ret)))⟩
structure wQ (T : Tb) : Prop where
 hT : T 87 = some qj
 Cj : yF T
 O1 : Ba T
 aU : jh T
structure WQ (n : Int) (l : Lk) : Prop where
 ab : 0 ≤ l.a ∧ l.a < l.b ∧ l.b ≤ n
 w : ∃ n : Int,(1 ≤ n ∧ n ≤ 9) ∧ l.w = bQ n
 dx : ∃ n : Int,(-20 ≤ n ∧ n ≤ 20) ∧ l.dx = bQ n
 dy : ∃ n : Int,(-20 ≤ n ∧ n ≤ 20) ∧ l.dy = bQ n
theorem WQ.mono {n m : Int} {l : Lk} (h : WQ n l) (hm : n ≤ m) : WQ m l:=⟨⟨h.ab.1,h.ab.2.1,by have:=h.ab.2.2;omega⟩,h.w,h.dx,h.dy⟩
theorem Yf {n a b w x y : Int} (hn : n ≤ 9) (ha : 0 ≤ a ∧ a ≤ n) (hb : 0 ≤ b ∧ b ≤ n) (hne : a ≠ b) (hw : 1 ≤ w ∧ w ≤ 9) (hx : -20 ≤ x ∧ x ≤ 20) (hy : -20 ≤ y ∧ y ≤ 20) : WQ n (nlV a b w x y) ∧ (a < b → (nlV a b w x y).b = b):=by
 have hok : aa1 a b w x y = true:=by
  unfold aa1 nd inC wtC
  simp
  omega
 unfold nlV
 rw [if_pos hok]
 split
 ·exact ⟨⟨⟨by dsimp only;omega,by dsimp only;omega,by dsimp only;omega⟩,⟨w,hw,rfl⟩,⟨-x,by omega,rfl⟩,⟨-y,by omega,rfl⟩⟩,fun h=>by omega⟩
 ·exact ⟨⟨⟨by dsimp only;omega,by dsimp only;omega,by dsimp only;omega⟩,⟨w,hw,rfl⟩,⟨x,hx,rfl⟩,⟨y,hy,rfl⟩⟩,fun _=>rfl⟩
theorem Yg {T : Tb} (h : AZ T) {x : List UInt8} {n : Int} (hn : 1 ≤ n ∧ n ≤ 5) (hx : x.length ≤ 1048576) : aa3 T 128 [iv n] x fun r=>∃ l : Lk,r = NV l ∧ WQ n l:=by
 refine TI fun i hh hi=>?_
 unfold cur
 refine run_end (fun x d=>x == 107) h.hT ?_
 simp only [vM,Lz,St.enter,List.length_cons,List.length_nil,Nat.zero_add]
 refine ew ?_
 refine dA (b:=0) (rest:=[iv n]) ⟨i,hh,rfl,hi⟩ (fA h.aU (n:=n) (by omega) hx) rfl (fun _=>rfl) ?_
 rintro _ i2 h2 ⟨a,rfl,ha⟩ hi2
 refine ew ?_
 refine dA (b:=0) (rest:=[iv n]) ⟨i2,h2,rfl,hi2⟩ (fA h.aU (n:=n) (by omega) hx) rfl (fun _=>rfl) ?_
 rintro _ i3 h3 ⟨b,rfl,hb⟩ hi3
 refine ew ?_
 refine aN (fun hc=>?_) fun hc=>?_
 ·have hw1 : IntKind.i64.wrap (n + 1) = n + 1:=w64 (by omega)
  have hr : (a + 1).tmod (n + 1) = a + 1:=Int.tmod_eq_of_lt (by omega) (by omega)
  refine CQ @hr ?_
  refine dA (b:=0) (rest:=[iv 9]) ⟨i3,h3,rfl,hi3⟩ (fA h.aU (n:=9) (by omega) hx) rfl (fun _=>rfl) ?_
  rintro _ i4 h4 ⟨w,rfl,hw⟩ hi4
  refine ew ?_
  refine dA (b:=0) (rest:=[iv 41]) ⟨i4,h4,rfl,hi4⟩ (fA h.aU (n:=41) (by omega) hx) rfl (fun _=>rfl) ?_
  rintro _ i5 h5 ⟨dx,rfl,hdx⟩ hi5
  refine ew ?_
  refine dA (b:=0) (rest:=[iv 41]) ⟨i5,h5,rfl,hi5⟩ (fA h.aU (n:=41) (by omega) hx) rfl (fun _=>rfl) ?_
  rintro _ i6 h6 ⟨dy,rfl,hdy⟩ hi6
  refine ew ?_
  have hS:=Yf (n:=n) (a:=a) (b:=a + 1) (w:=1 + w) (x:=dx - 20) (y:=dy - 20) (by omega) (by omega) (by omega) (by omega) (by omega) (by omega) (by omega)
  refine ah (IU h.vN (a:=a) (b:=a + 1) (w:=1 + w) (x:=dx - 20) (y:=dy - 20)) ?_
  generalize nlV a (a + 1) (1 + w) (dx - 20) (dy - 20) = l at hS ⊢
  refine ew ?_
  exact ⟨⟨⟨l,rfl,hS.1⟩,fun g=>Zo g _⟩,i6,h6,rfl,hi6⟩
 ·refine ew ?_
  refine dA (b:=0) (rest:=[iv 9]) ⟨i3,h3,rfl,hi3⟩ (fA h.aU (n:=9) (by omega) hx) rfl (fun _=>rfl) ?_
  rintro _ i4 h4 ⟨w,rfl,hw⟩ hi4
  refine ew ?_
  refine dA (b:=0) (rest:=[iv 41]) ⟨i4,h4,rfl,hi4⟩ (fA h.aU (n:=41) (by omega) hx) rfl (fun _=>rfl) ?_
  rintro _ i5 h5 ⟨dx,rfl,hdx⟩ hi5
  refine ew ?_
  refine dA (b:=0) (rest:=[iv 41]) ⟨i5,h5,rfl,hi5⟩ (fA h.aU (n:=41) (by omega) hx) rfl (fun _=>rfl) ?_
  rintro _ i6 h6 ⟨dy,rfl,hdy⟩ hi6
  refine ew ?_
  have hS:=Yf (n:=n) (a:=a) (b:=b) (w:=1 + w) (x:=dx - 20) (y:=dy - 20) (by omega) (by omega) (by omega) (by omega) (by omega) (by omega) (by omega)
  refine ah (IU h.vN (a:=a) (b:=b) (w:=1 + w) (x:=dx - 20) (y:=dy - 20)) ?_
  generalize nlV a (b) (1 + w) (dx - 20) (dy - 20) = l at hS ⊢
  refine ew ?_
  exact ⟨⟨⟨l,rfl,hS.1⟩,fun g=>Zo g _⟩,i6,h6,rfl,hi6⟩
structure Rj (n : Nat) (L : List Lk) : Prop where
 rn : 1 ≤ n ∧ n ≤ 4
 len : n ≤ L.length ∧ L.length ≤ n + 3
 sm : ∀ l ∈ L,WQ ((n : Int) + 1) l
 base : ∀ k,k < n → (L.getD k default).b = (k : Int) + 1
theorem Rk {xs : List Lk} {l : Lk} {k : Nat} : (xs ++ [l]).getD k default = if k < xs.length then xs.getD k default else if k = xs.length then l else default:=by
 rw [List.getD_eq_getElem?_getD,List.getD_eq_getElem?_getD]
 split
 ·rename_i h
  rw [List.getElem?_append_left h]
 ·rename_i h
  split
  ·rename_i e;subst e;simp
  ·rw [List.getElem?_eq_none (by simp <;> omega)];rfl
def aa5 (s : Store) (v : V) (xs : List Lk) : Prop:=(xs = [] ∧ v = .ak) ∨ ∃ p,v = .bF p 0 xs.length ∧ aj s p = some ⟨11,xs.map Lk.cells⟩ ∧ p ≠ 0
theorem aa5.fr {s s2 : Store} {v : V} {xs : List Lk} (h : aa5 s v xs) (hf : ∀ p,p ≠ 0 → p < s.length → aj s2 p = aj s p) : aa5 s2 v xs:=by
 rcases h with h | ⟨p,h1,h2,h3⟩
 ·exact .inl h
 ·exact .inr ⟨p,h1,(hf p h3 (aG h2)).trans h2,h3⟩
theorem GV.fr {s s2 : Store} {x : List UInt8} (h : GV s 0 x) (hf : aj s2 0 = aj s 0) : GV s2 0 x:=by
 obtain ⟨i,hh,h1,h2⟩:=h
 exact ⟨i,hh,hf.trans h1,h2⟩
theorem GV.lt {s : Store} {x : List UInt8} (h : GV s 0 x) : 0 < s.length:=by obtain ⟨i,hh,h1,h2⟩:=h;exact aG h1
theorem aa6 {T : Tb} (h : Ba T) {x : List UInt8} (hx : x.length ≤ 1048576) {n : Nat} (hn : 1 ≤ n ∧ n ≤ 4) {i hh : Int} (hi : 0 ≤ i ∧ i ≤ x.length) :
  ∃ r σ',Run T (.fn 106 [.ptr 0 0 0,iv n] (cur x i hh)) (.fn r σ') ∧ (∃ L,Rj n L ∧ resolve σ' FD r = some (iq L)) ∧ 1 ≤ σ'.length:=by
 have hP : GV (cur x i hh) 0 x:=⟨i,hh,rfl,hi⟩
 generalize cur x i hh = s0 at hP ⊢
 have hP0:=hP.lt
 refine run_end (fun x d=>x == 107 || x == 128) h.hT ?_
 simp only [vO,Lz,St.enter,List.length_cons,List.length_nil,Nat.zero_add]
 refine ew ?_
 refine aS (fun x d=>x == 107 || x == 128) (α:=Nat × Store × V × List Lk) (fun q=>⟨dX [.ptr 0 0 0,iv n,.any,.any,.any,q.2.2.1,iv ((q.1 : Nat) + 1)],q.2.1,s0.length,0,[],[]⟩) (fun q=>(q.1 ≤ n ∧ GV q.2.1 0 x) ∧ aa5 q.2.1 q.2.2.1 q.2.2.2 ∧ q.2.2.2.length = q.1 ∧ (∀ l ∈ q.2.2.2,WQ ((n : Int) + 1) l) ∧ ∀ j,j < q.1 → (q.2.2.2.getD j default).b = (j : Int) + 1) (fun q=>n - q.1) rfl (0,s0 ++ [none],.ak,[]) ?_ ?_ ?_
 ·exact ⟨⟨by omega,hP.fr (aI hP0)⟩,.inl ⟨rfl,rfl⟩,rfl,by simp,by intro q hq;omega⟩
 ·(refine aJ ?_;exact zy)
 ·generalize s0.length = kp
  clear hP hP0
  rintro ⟨k,s,v,xs⟩ ⟨⟨hk,hP⟩,hLs,hxl,hsm,hb⟩
  dsimp only at hk hP hLs hxl hsm hb
  by_cases hc : (k : Int) + 1 ≤ (n : Int)
  ·refine CQ @hc ?_
   refine dA (b:=0) (rest:=[iv (k + 1)]) (hP.fr (aI hP.lt)) (fA h.aU (n:=(k : Int) + 1) (by omega) hx) rfl (fun _=>rfl) ?_
   rintro _ i1 h1 ⟨a,rfl,ha⟩ hi1
   refine ew ?_
   refine dA (b:=0) (rest:=[iv 9]) ⟨_,_,aY (by simp),hi1⟩ (fA h.aU (n:=9) (by omega) hx) rfl (fun _=>rfl) ?_
   rintro _ i2 h2 ⟨w,rfl,hw⟩ hi2
   refine ew ?_
   refine dA (b:=0) (rest:=[iv 41]) ⟨_,_,aY (by simp),hi2⟩ (fA h.aU (n:=41) (by omega) hx) rfl (fun _=>rfl) ?_
   rintro _ i3 h3 ⟨dx,rfl,hdx⟩ hi3
   refine ew ?_
   refine dA (b:=0) (rest:=[iv 41]) ⟨_,_,aY (by simp),hi3⟩ (fA h.aU (n:=41) (by omega) hx) rfl (fun _=>rfl) ?_
   rintro _ i4 h4 ⟨dy,rfl,hdy⟩ hi4
   have hS:=Yf (n:=(n : Int) + 1) (a:=a) (b:=(k : Int) + 1) (w:=1 + w) (x:=dx - 20) (y:=dy - 20) (by omega) (by omega) (by omega) (by omega) (by omega) (by omega) (by omega)
   have cn:=IU h.vN (a:=a) (b:=(k : Int) + 1) (w:=1 + w) (x:=dx - 20) (y:=dy - 20)
   generalize nlV a ((k : Int) + 1) (1 + w) (dx - 20) (dy - 20) = l at hS cn
   generalize aa1 a ((k : Int) + 1) (1 + w) (dx - 20) (dy - 20) = ok at cn
   refine ew ?_
   refine ah cn ?_
   obtain ⟨S,VQ⟩ : ∃ S,((((s ++ [none]).set 0 (some (GU x i1 h1))).set 0 (some (GU x i2 h2))).set 0 (some (GU x i3 h3))).set 0 (some (GU x i4 h4)) = S:=⟨_,rfl⟩
   rw [VQ]
   have hSl : S.length = s.length + 1:=by rw [← VQ];simp
   have hS0 : aj S 0 = some (GU x i4 h4):=by rw [← VQ];exact aY (by simp)
   have hSo : ∀ p,p ≠ 0 → p < s.length → aj S p = aj s p:=fun p h0 hp=>by
    rw [← VQ,aB h0,aB h0,aB h0,aB h0,aI hp]
   have hSm : aj S s.length = none:=by
    rw [← VQ]
    have h0:=hP.lt
    rw [aB (by omega),aB (by omega),aB (by omega),aB (by omega),Aw]
   have hm0:=hP.lt
   have hLs:=hLs.fr hSo
   clear VQ hSo hP
   have hs0 : s.length < S.length:=by omega
   generalize s.length = m at *
   have hxs : xs.length ≤ 1048576:=by omega
   have ahr : ∀ l' ∈ xs ++ [l],WQ ((n : Int) + 1) l':=fun l' hl'=>by
    rcases List.mem_append.1 hl' with hl' | hl'
    ·exact hsm l' hl'
    ·rw [List.mem_singleton.1 hl'];exact hS.1
   have hb2 : ∀ j,j < k + 1 → ((xs ++ [l]).getD j default).b = (j : Int) + 1:=fun j hj=>by
    rw [Rk]
    split
    ·exact hb j (by omega)
    ·rw [if_pos (by omega),hS.2 (by omega)];omega
   rcases hLs with ⟨rfl,rfl⟩ | ⟨p,rfl,hp,hp0⟩
   ·refine yS @hS0 @hSl ?_
    refine ⟨by omega,?_⟩
    generalize hB : List.set (_ ++ [none]) (m + 1 + 1) (some (⟨11,[l.cells]⟩ : Obj)) = B
    have hB0 : aj B 0 = some (GU x i4 h4):=by
     rw [← hB,aB (by omega),aI (by simp [hSl] <;> omega),aB (by omega),aI (by simp [hSl] <;> omega),aB (by omega),aB (by omega),hS0]
    have hBp : aj B (m + 1 + 1) = some ⟨11,[l.cells]⟩:=by rw [← hB];exact aY (by simp [hSl] <;> omega)
    refine ⟨(k + 1,B,.bF (m + 1 + 1) 0 1,[] ++ [l]),by dsimp only;omega,⟨⟨by dsimp only;omega,i4,h4,hB0,hi4⟩,.inr ⟨m + 1 + 1,rfl,(by dsimp only [List.nil_append,List.map_cons,List.map_nil];exact hBp),by omega⟩,by dsimp only;simp;simp at hxl;omega,ahr,hb2⟩,?_⟩
    dsimp only
    (refine aJ ?_;exact zy)
   ·have hpl:=aG hp
    have hpm : p ≠ m:=fun e=>by rw [e,hSm] at hp;cases hp
    refine IG @hS0 @hp @hSl ?_
    refine ⟨by omega,?_⟩
    generalize hB : List.set _ (m + 1 + 1) (some (⟨11,List.map Lk.cells xs ++ [l.cells]⟩ : Obj)) = B
    have hB0 : aj B 0 = some (GU x i4 h4):=by
     rw [← hB,aB (by omega),aI (by simp <;> omega),aB (by omega),aB (by omega),aI (by simp [hSl] <;> omega),aB (by omega),aB (by omega),hS0]
    have hBp : aj B (m + 1 + 1) = some ⟨11,List.map Lk.cells xs ++ [l.cells]⟩:=by rw [← hB];exact aY (by simp [hSl] <;> omega)
    refine ⟨(k + 1,B,.bF (m + 1 + 1) 0 (xs.length + 1),xs ++ [l]),by dsimp only;omega,⟨⟨by dsimp only;omega,i4,h4,hB0,hi4⟩,.inr ⟨m + 1 + 1,by dsimp only;simp,(by dsimp only;rw [List.map_append];exact hBp),by omega⟩,by dsimp only;simp;omega,ahr,hb2⟩,?_⟩
    dsimp only
    (refine aJ ?_;exact zy)
  ·have hkn : k = n:=by omega
   subst hkn
   have hP0:=hP.lt
   refine CQ @hc ?_
   refine dA (b:=0) (rest:=[iv 4]) hP (fA h.aU (n:=4) (by omega) hx) rfl (fun _=>rfl) ?_
   rintro _ i1 h1 ⟨mm,rfl,hmm⟩ hi1
   obtain ⟨S,VQ⟩ : ∃ S,s.set 0 (some (GU x i1 h1)) = S:=⟨_,rfl⟩
   have hPS : GV S 0 x:=⟨i1,h1,by rw [← VQ];exact aY hP0,hi1⟩
   have hLS : aa5 S v xs:=hLs.fr fun p h0 hp=>by rw [← VQ];exact aB h0
   rw [VQ]
   clear VQ hP hLs hP0
   have hlen : xs.length + mm.toNat ≤ k + 3:=by omega
   refine ew ?_
   refine aS (fun x d=>x == 107 || x == 128) (α:=Nat × Store × V × List Lk) (fun q=>⟨dX [.ptr 0 0 0,iv k,.any,.any,.any,q.2.2.1,.any,.any,.any,iv (q.1 : Nat)],q.2.1,kp,0,[],[]⟩) (fun q=>GV q.2.1 0 x ∧ aa5 q.2.1 q.2.2.1 q.2.2.2 ∧ (k ≤ q.2.2.2.length ∧ q.2.2.2.length + q.1 ≤ k + 3) ∧ (∀ l ∈ q.2.2.2,WQ ((k : Int) + 1) l) ∧ ∀ j,j < k → (q.2.2.2.getD j default).b = (j : Int) + 1) (fun q=>q.1) rfl (mm.toNat,S,v,xs) ?_ ?_ ?_
   ·exact ⟨hPS,hLS,⟨by dsimp only;omega,hlen⟩,hsm,hb⟩
   ·(refine aJ ?_;exact zy)
   ·clear hPS hLS hsm hb hlen hxl
    rintro ⟨r,s,v,xs⟩ ⟨hP,hLs,⟨hxl,hxr⟩,hsm,hb⟩
    dsimp only at hP hLs hxl hxr hsm hb
    by_cases hc2 : (r : Int) > 0
    ·refine CQ @hc2 ?_
     refine dA (b:=0) (rest:=[iv ((k : Int) + 1)]) (hP.fr (by have:=hP.lt;rw [List.append_assoc,iL this])) (Yg h.O0 (n:=(k : Int) + 1) (by omega) hx) rfl (fun _=>rfl) ?_
     rintro _ i4 h4 ⟨l,rfl,hS⟩ hi4
     obtain ⟨S,VQ⟩ : ∃ S,List.set (s ++ [none] ++ [none]) 0 (some (GU x i4 h4)) = S:=⟨_,rfl⟩
     rw [VQ]
     have hm0:=hP.lt
     have hSl : S.length = s.length + 2:=by rw [← VQ];simp
     have hS0 : aj S 0 = some (GU x i4 h4):=by rw [← VQ];exact aY (by simp)
     have hSo : ∀ p,p ≠ 0 → p < s.length → aj S p = aj s p:=fun p h0 hp=>by
      rw [← VQ,aB h0,List.append_assoc,iL hp]
     have hpl : ∀ p,p ≠ 0 → aj s p ≠ none → p < s.length:=fun p _ h=>by
      rcases Nat.lt_or_ge p s.length with k | k
      ·exact k
      ·exact absurd (by unfold aj;rw [List.getElem?_eq_none k];rfl) h
     have hLs : (xs = [] ∧ v = .ak) ∨ ∃ p,v = .bF p 0 xs.length ∧ aj S p = some ⟨11,xs.map Lk.cells⟩ ∧ p ≠ 0 ∧ p < s.length:=by
      rcases hLs with h | ⟨p,h1,h2,h3⟩
      ·exact .inl h
      ·exact .inr ⟨p,h1,(hSo p h3 (aG h2)).trans h2,h3,aG h2⟩
     clear VQ hSo hP hpl
     generalize s.length = m at *
     have ahr : ∀ l' ∈ xs ++ [l],WQ ((k : Int) + 1) l':=fun l' hl'=>by
      rcases List.mem_append.1 hl' with hl' | hl'
      ·exact hsm l' hl'
      ·rw [List.mem_singleton.1 hl'];exact hS
     have hb2 : ∀ j,j < k → ((xs ++ [l]).getD j default).b = (j : Int) + 1:=fun j hj=>by
      rw [Rk,if_pos (by omega)]
      exact hb j hj
     rcases hLs with ⟨rfl,rfl⟩ | ⟨p,rfl,hp,hp0,hpm⟩
     ·simp at hxl;omega
     ·refine IG @hS0 @hp @hSl ?_
      refine ⟨by omega,?_⟩
      generalize hB : List.set _ (m + 1) (some (⟨11,List.map Lk.cells xs ++ [l.cells]⟩ : Obj)) = B
      have hB0 : aj B 0 = some (GU x i4 h4):=by
       rw [← hB,aB (by omega),aB (by omega),aB (by omega),hS0]
      have hBp : aj B (m + 1) = some ⟨11,List.map Lk.cells xs ++ [l.cells]⟩:=by rw [← hB];exact aY (by simp [hSl])
      refine ⟨(r - 1,B,.bF (m + 1) 0 (xs.length + 1),xs ++ [l]),by dsimp only;omega,⟨⟨i4,h4,hB0,hi4⟩,.inr ⟨m + 1,by dsimp only;simp,(by dsimp only;rw [List.map_append];exact hBp),by omega⟩,by dsimp only;simp;omega,ahr,hb2⟩,?_⟩
      dsimp only
      (refine aJ ?_;exact zy)
    ·refine CQ @hc2 ?_
     rcases hLs with ⟨rfl,rfl⟩ | ⟨p,rfl,hp,hp0⟩
     ·simp at hxl;omega
     ·exact ⟨⟨xs,⟨hn,⟨hxl,by omega⟩,hsm,hb⟩,ajT (fun x hx=>Fh xs _ (List.mem_map_of_mem hx)) hp⟩,hP.lt⟩
theorem aec (x : List UInt8) (i h : Int) : pF [] (cur x i h) = cur x i h:=by
 show [] ++ [some (gu (bD 0) (GU x i h))] = _
 rw [yR];rfl
theorem VR {T : Tb} (h : wQ T) {x : List UInt8} (hx : x.length ≤ 1048576) : ∃ n L,Rj n L ∧ PF T 87 [bytesV x] (iq L):=by
 obtain ⟨h0,rn⟩:=VO h.Cj hx
 have : ∃ r σ',Run T (.fn 87 [bytesV x] []) (.fn r σ') ∧ ∃ n L,Rj n L ∧ resolve σ' FD r = some (iq L):=by
  refine run_end (fun x d=>x == 105 || x == 107 || x == 106) h.hT ?_
  simp only [qj,Lz,St.enter,List.length_cons,List.length_nil,Nat.zero_add]
  refine ew ?_
  refine Ac rn (by (refine ew ?_;try with_reducible exact True.intro)) (by (refine ew ?_;try with_reducible exact True.intro)) ?_
  rw [show aP (bD ([] : Store).length) (.ptr 0 0 0) = .ptr 0 0 0 from rfl,aec]
  refine ew ?_
  refine dA (b:=0) (rest:=[iv 4]) ⟨0,h0,rfl,by omega⟩ (fA h.aU (n:=4) (by omega) hx) rfl (fun _=>rfl) ?_
  rintro _ i1 h1 ⟨m,rfl,hm⟩ hi1
  rw [show (cur x 0 h0).set 0 (some (GU x i1 h1)) = cur x i1 h1 from rfl]
  obtain ⟨r,σ',h2,⟨L,h3,h4⟩,h5⟩:=aa6 h.O1 hx (n:=(1 + m).toNat) (by omega) (hh:=h1) hi1
  rw [show (((1 + m).toNat : Nat) : Int) = 1 + m by omega] at h2
  refine ew ?_
  refine MV h2 rfl h5 (Nat.le_refl _) ?_
  refine ew ?_
  exact ⟨_,L,h3,h4⟩
 obtain ⟨r,σ',h1,n,L,h2,h3⟩:=this
 exact ⟨n,L,h2,.WU h1 h3⟩
def Ht (a : Rat) (N : Nat) : Prop:=a.num.natAbs ≤ N ∧ a.den ≤ N
theorem zM {n : Int} {d N : Nat} (h : d ≠ 0) (h1 : n.natAbs ≤ N) (h2 : d ≤ N) : Ht (Rat.normalize n d h) N:=by
 rw [Rat.normalize_eq]
 refine ⟨?_,Nat.le_trans (Nat.div_le_self _ _) h2⟩
 show (n / (n.natAbs.gcd d : Nat)).natAbs ≤ N
 refine Nat.le_trans ?_ h1
 have hd : ((n.natAbs.gcd d : Nat) : Int) ∣ n:=Int.ofNat_dvd_left.2 (Nat.gcd_dvd_left _ _)
 rw [Int.natAbs_ediv_of_dvd hd]
 exact Nat.div_le_self _ _
theorem akA {a : Rat} {N : Nat} (h : Ht a N) : 1 ≤ N:=by
 have:=a.den_pos
 have:=h.2
 omega
theorem aed {a b : Rat} {M N : Nat} (ha : Ht a M) (hb : Ht b N) : Ht (a * b) (M * N):=by
 rw [Rat.mul_def]
 refine zM _ ?_ (Nat.mul_le_mul ha.2 hb.2)
 rw [Int.natAbs_mul]
 exact Nat.mul_le_mul ha.1 hb.1
theorem aee {a b : Rat} {M N : Nat} (ha : Ht a M) (hb : Ht b N) : Ht (a + b) (2 * (M * N)):=by
 rw [Rat.add_def]
 have h1 : (a.num * (b.den : Int)).natAbs ≤ M * N:=by
  rw [Int.natAbs_mul,Int.natAbs_natCast];exact Nat.mul_le_mul ha.1 hb.2
 have h2 : (b.num * (a.den : Int)).natAbs ≤ M * N:=by
  rw [Int.natAbs_mul,Int.natAbs_natCast,Nat.mul_comm];exact Nat.mul_le_mul ha.2 hb.1
 have h3:=Nat.mul_le_mul ha.2 hb.2
 refine zM _ ?_ (by omega)
 have:=Int.natAbs_add_le (a.num * (b.den : Int)) (b.num * (a.den : Int))
 omega
theorem akB {a : Rat} {N : Nat} (h : Ht a N) : Ht (-a) N:=by
 unfold Ht
 rw [Rat.neg_num,Rat.neg_den,Int.natAbs_neg]
 exact h
theorem akC {a b : Rat} {M N : Nat} (ha : Ht a M) (hb : Ht b N) : Ht (a - b) (2 * (M * N)):=by
 rw [Rat.sub_eq_add_neg];exact aee ha (akB hb)
theorem akD {a : Rat} {N : Nat} (h : Ht a N) : Ht a⁻¹ N:=by
 unfold Ht
 rw [Rat.num_inv,Rat.den_inv]
 refine ⟨?_,?_⟩
 ·rw [Int.natAbs_mul,Int.natAbs_natCast]
  have hs : a.num.sign.natAbs ≤ 1:=by
   rcases Int.lt_trichotomy a.num 0 with h | h | h
   ·rw [Int.sign_eq_neg_one_of_neg h];decide
   ·rw [h];decide
   ·rw [Int.sign_eq_one_of_pos h];decide
  have:=Nat.mul_le_mul hs (Nat.le_refl a.den)
  have:=h.2
  omega
 ·split
  ·exact akA h
  ·exact h.1
theorem akE {a b : Rat} {M N : Nat} (ha : Ht a M) (hb : Ht b N) : Ht (a / b) (M * N):=by
 rw [Rat.div_def];exact aed ha (akD hb)
theorem aef {n : Int} {N : Nat} (h : n.natAbs ≤ N) (h1 : 1 ≤ N) : Ht (n : Rat) N:=by
 unfold Ht
 rw [Rat.num_intCast,Rat.den_intCast]
 exact ⟨h,h1⟩
theorem Gy {a : Rat} {N : Nat} (h : Ht a N) (hN : N < 1000000000 ^ 24) : fits a = true:=by
 unfold fits
 rw [decide_eq_true (Nat.lt_of_le_of_lt h.1 hN),decide_eq_true (Nat.lt_of_le_of_lt h.2 hN)]
 rfl
theorem Ht.mono {a : Rat} {M N : Nat} (h : Ht a M) (hl : M ≤ N) : Ht a N:=⟨Nat.le_trans h.1 hl,Nat.le_trans h.2 hl⟩
structure Rv (r : R) (a : Rat) (N : Nat) : Prop where
 q : r.q = some a
 h : Ht a N
theorem Rv.add {r s : R} {a b : Rat} {M N : Nat} (h1 : Rv r a M) (h2 : Rv s b N) (hN : 2 * (M * N) < 1000000000 ^ 24:=by decide) : Rv (dZ r s) (a + b) (2 * (M * N)):=by
 have h:=aee h1.h h2.h
 refine ⟨?_,h⟩
 rw [Fz,h1.q,h2.q]
 show norm (a + b) = _
 exact jX (Gy h hN)
theorem Rv.sub {r s : R} {a b : Rat} {M N : Nat} (h1 : Rv r a M) (h2 : Rv s b N) (hN : 2 * (M * N) < 1000000000 ^ 24:=by decide) : Rv (iC r s) (a - b) (2 * (M * N)):=by
 have h:=akC h1.h h2.h
 refine ⟨?_,h⟩
 rw [Oj,h1.q,h2.q]
 show norm (a + -b) = _
 rw [← Rat.sub_eq_add_neg]
 exact jX (Gy h hN)
theorem Rv.mul {r s : R} {a b : Rat} {M N : Nat} (h1 : Rv r a M) (h2 : Rv s b N) (hN : M * N < 1000000000 ^ 24:=by decide) : Rv (mulR r s) (a * b) (M * N):=by
 have h:=aed h1.h h2.h
 refine ⟨?_,h⟩
 rw [KH,h1.q,h2.q]
 show norm (a * b) = _
 exact jX (Gy h hN)
theorem Rv.div {r s : R} {a b : Rat} {M N : Nat} (h1 : Rv r a M) (h2 : Rv s b N) (hb : b ≠ 0) (hN : M * N < 1000000000 ^ 24:=by decide) : Rv (wI r s) (a / b) (M * N):=by
 have h:=akE h1.h h2.h
 refine ⟨?_,h⟩
 rw [SI,h1.q,h2.q]
 show (if b = 0 then none else norm (a / b)) = _
 rw [if_neg hb]
 exact jX (Gy h hN)
theorem FQ {n : Int} {N : Nat} (h : n.natAbs ≤ N) (h1 : 1 ≤ N) (hN : N < 1000000000 ^ 24:=by decide) : Rv (bQ n) (n : Rat) N :=
 ⟨FB (Nat.lt_of_le_of_lt h hN),aef h h1⟩
theorem Rv.ok {r : R} {a : Rat} {N : Nat} (h : Rv r a N) : r.ok = true:=by
 rw [zk,h.q];simp
theorem Rv.eq {r s : R} {a b : Rat} {M N : Nat} (h1 : Rv r a M) (h2 : Rv s b N) (hr : r.cn) (hs : s.cn) (e : a = b) : r = s:=by
 rw [← hr,← hs,h1.q,h2.q,e]
theorem akF {n d : Int} (hn : -10 ≤ n ∧ n ≤ 10) (hd : 1 ≤ d ∧ d ≤ 3) : Rv (CG n d) (Rat.divInt n d) 10:=by
 have hh : Ht (Rat.divInt n d) 10:=by
  obtain ⟨e,rfl⟩ : ∃ e : Nat,d = (e : Int):=⟨d.toNat,by omega⟩
  show Ht (mkRat n e) 10
  unfold mkRat
  rw [dif_neg (by omega)]
  exact zM _ (by omega) (by omega)
 refine ⟨?_,hh⟩
 unfold CG Io
 rw [if_neg (by omega),jX (Gy hh (by decide))]
 exact qA (Gy hh (by decide))
theorem Rv.of_eq {r s : R} {a : Rat} {N : Nat} (h : Rv s a N) (e : r = s) : Rv r a N:=e ▸ h
theorem akG {l : Lk} {p q : Pt} (h : fJ l = true) : yO l p q = mulR l.w (sqR (iC (iC q.x p.x) l.dx) (iC (iC q.y p.y) l.dy)):=by unfold yO;rw [if_pos h]
theorem TJ {l : Lk} {w : Rat} {N : Nat} (h : 0 ≤ l.a ∧ l.a < l.b ∧ l.b ≤ 9) (hw : Rv l.w w N) (hp : 0 < w) (hx : l.dx.ok = true) (hy : l.dy.ok = true) : fJ l = true:=by
 have hs : 0 < tZ l.w:=by
  unfold tZ
  rw [hw.q]
  show 0 < WH w.num
  have : 0 < w.num:=by
   rw [Rat.lt_iff,show (0 : Rat).num = 0 from rfl,show (0 : Rat).den = 1 from rfl,Int.zero_mul,Int.natCast_one,Int.mul_one] at hp
   exact hp
  unfold WH
  rw [if_neg (by omega),if_neg (by omega)]
  decide
 unfold tZ at hs
 unfold fJ nd
 rw [decide_eq_true hs,hx,hy,decide_eq_true h.2.1,decide_eq_true h.1,decide_eq_true h.2.2,decide_eq_true (show 0 ≤ l.b by omega),decide_eq_true (show l.a ≤ 9 by omega)]
 rfl
theorem Nc {a b : Rat} (h : norm a = some b) : a = b:=by
 unfold norm at h;split at h
 ·cases h;rfl
 ·cases h
theorem JM {r : R} (h : r.ok = true) : ∃ a,r.q = some a:=by
 cases hq : r.q with
 | none=>exact absurd hq (zk.1 h)
 | some a=>exact ⟨a,rfl⟩
theorem O3 {r s : R} {a b : Rat} (hr : r.q = some a) (hs : s.q = some b) (ho : (dZ r s).ok = true) : (dZ r s).q = some (a + b):=by
 obtain ⟨c,hc⟩:=JM ho
 rw [hc]
 rw [Fz,hr,hs] at hc
 rw [Nc hc]
theorem aeg {r s : R} {a b : Rat} (hr : r.q = some a) (hs : s.q = some b) (ho : (iC r s).ok = true) : (iC r s).q = some (a - b):=by
 obtain ⟨c,hc⟩:=JM ho
 rw [hc]
 rw [Oj,hr,hs] at hc
 have : norm (a + -b) = some c:=hc
 rw [Rat.sub_eq_add_neg,Nc this]
theorem FT {r s : R} {a b : Rat} (hr : r.q = some a) (hs : s.q = some b) (ho : (mulR r s).ok = true) : (mulR r s).q = some (a * b):=by
 obtain ⟨c,hc⟩:=JM ho
 rw [hc]
 rw [KH,hr,hs] at hc
 rw [Nc hc]
theorem Yh {r s : R} {a b : Rat} (hr : r.q = some a) (hs : s.q = some b) (ho : (wI r s).ok = true) : (wI r s).q = some (a / b) ∧ b ≠ 0:=by
 obtain ⟨c,hc⟩:=JM ho
 rw [hc]
 rw [SI,hr,hs] at hc
 have : (if b = 0 then none else norm (a / b)) = some c:=hc
 split at this
 ·cases this
 ·rename_i h0
  rw [Nc this];exact ⟨rfl,h0⟩
theorem JO {r s : R} (h : (dZ r s).ok = true) : r.ok = true ∧ s.ok = true:=by
 constructor
 ·cases hr : r.ok
  ·rw [VL hr] at h;cases h
  ·rfl
 ·cases hr : s.ok
  ·rw [aaO,VL hr] at h;cases h
  ·rfl
theorem O4 {r s : R} (h : (mulR r s).ok = true) : r.ok = true ∧ s.ok = true:=by
 rw [zk,KH] at h
 constructor
 ·rw [zk];intro e;rw [e] at h;exact h rfl
 ·rw [zk];intro e;rw [e,FH] at h;exact h rfl
theorem O5 {r s : R} (h : (wI r s).ok = true) : r.ok = true ∧ s.ok = true:=by
 rw [zk,SI] at h
 constructor
 ·rw [zk];intro e;rw [e] at h;exact h rfl
 ·rw [zk];intro e;rw [e,LM] at h;exact h rfl
def R.v (r : R) : Rat:=r.q.getD 0
theorem R.TK {r : R} {a : Rat} (h : r.q = some a) : r.v = a:=by unfold R.v;rw [h];rfl
theorem R.O6 {r : R} (h : r.ok = true) : r.q = some r.v:=by obtain ⟨a,ha⟩:=JM h;rw [ha,R.TK ha]
def mW (l : Lk) : Rat:=l.w.v
def mX (l : Lk) : Rat:=l.w.v * l.dx.v
def mY (l : Lk) : Rat:=l.w.v * l.dy.v
def mZ (l : Lk) : Rat:=l.w.v * (l.dx.v * l.dx.v + l.dy.v * l.dy.v)
theorem ahs {n : Int} (h : 0 < WH n) : 0 < n:=by
 unfold WH at h
 split at h
 ·omega
 ·split at h <;> omega
theorem VT {l : Lk} (h : fJ l = true) : 0 < l.w.v:=by
 have hk:=yC h
 have hs:=hk.2.2.2
 unfold tZ at hs
 rw [R.O6 hk.1] at hs
 have : 0 < WH l.w.v.num:=hs
 rw [Rat.lt_iff,show (0 : Rat).num = 0 from rfl,show (0 : Rat).den = 1 from rfl,Int.zero_mul,Int.natCast_one,Int.mul_one]
 exact ahs this
theorem akH (v w a b c d : Rat) (h : v + w ≠ 0) : (v + w) * ((v * a + w * b) / (v + w) * ((v * a + w * b) / (v + w)) + (v * c + w * d) / (v + w) * ((v * c + w * d) / (v + w))) + v * w / (v + w) * ((a - b) * (a - b) + (c - d) * (c - d)) = v * (a * a + c * c) + w * (b * b + d * d):=by
 grind
theorem aeh (s t : Rat) (h : t ≠ 0) : t * (s / t) = s:=by grind
theorem akI {k l : Lk} (h1 : fJ k = true) (h2 : fJ l = true) (hg : VG k l = true) :
  mW (OO k l) = mW k + mW l ∧ mX (OO k l) = mX k + mX l ∧ mY (OO k l) = mY k + mY l ∧ mZ (OO k l) + (WM k l).v = mZ k + mZ l:=by
 have k1:=yC h1
 have k2:=yC h2
 have kw:=R.O6 k1.1
 have kx:=R.O6 k1.2.1
 have ky:=R.O6 k1.2.2.1
 have lw:=R.O6 k2.1
 have lx:=R.O6 k2.2.1
 have ly:=R.O6 k2.2.2.1
 unfold VG at hg
 simp only [Bool.and_eq_true] at hg
 obtain ⟨⟨⟨gW,gX⟩,gY⟩,gE⟩:=hg
 have eW:=O3 kw lw gW
 obtain ⟨gX1,_⟩:=O5 gX
 obtain ⟨gX2,gX3⟩:=JO gX1
 obtain ⟨eX,hne⟩:=Yh (O3 (FT kw kx gX2) (FT lw lx gX3) gX1) eW gX
 obtain ⟨gY1,_⟩:=O5 gY
 obtain ⟨gY2,gY3⟩:=JO gY1
 obtain ⟨eY,_⟩:=Yh (O3 (FT kw ky gY2) (FT lw ly gY3) gY1) eW gY
 obtain ⟨gE1,gE2⟩:=O4 gE
 obtain ⟨gE3,_⟩:=O5 gE1
 obtain ⟨gE4,gE5⟩:=JO gE2
 obtain ⟨gE6,_⟩:=O4 gE4
 obtain ⟨gE7,_⟩:=O4 gE5
 have sx:=aeg kx lx gE6
 have sy:=aeg ky ly gE7
 have eE:=FT (Yh (FT kw lw gE3) eW gE1).1 (O3 (FT sx sx gE4) (FT sy sy gE5) gE2) gE
 have vW : (OO k l).w.v = k.w.v + l.w.v:=R.TK eW
 have vX : (OO k l).dx.v = (k.w.v * k.dx.v + l.w.v * l.dx.v) / (k.w.v + l.w.v):=R.TK eX
 have vY : (OO k l).dy.v = (k.w.v * k.dy.v + l.w.v * l.dy.v) / (k.w.v + l.w.v):=R.TK eY
 have vE : (WM k l).v = k.w.v * l.w.v / (k.w.v + l.w.v) * ((k.dx.v - l.dx.v) * (k.dx.v - l.dx.v) + (k.dy.v - l.dy.v) * (k.dy.v - l.dy.v)):=R.TK eE
 unfold mW mX mY mZ
 rw [vW,vX,vY,vE]
 exact ⟨rfl,aeh _ _ hne,aeh _ _ hne,akH _ _ _ _ _ _ hne⟩
def IV (f : Lk → Rat) (i j : Int) : List Lk → Rat
 | []=>0
 | x :: L=>(if x.a = i ∧ x.b = j then f x else 0) + IV f i j L
def tot (f : Lk → Rat) : List Lk → Rat
 | []=>0
 | x :: L=>f x + tot f L
theorem JQ (f : Lk → Rat) (i j : Int) : ∀ A B : List Lk,IV f i j (A ++ B) = IV f i j A + IV f i j B
 | [],B=>by simp [IV,Rat.zero_add]
 | x :: A,B=>by simp only [List.cons_append,IV,JQ f i j A B,Rat.add_assoc]
theorem BF (f : Lk → Rat) : ∀ A B : List Lk,tot f (A ++ B) = tot f A + tot f B
 | [],B=>by simp [tot,Rat.zero_add]
 | x :: A,B=>by simp only [List.cons_append,tot,BF f A B,Rat.add_assoc]
theorem Zp (f : Lk → Rat) (i j : Int) : ∀ A : List Lk,IV f i j A.reverse = IV f i j A
 | []=>rfl
 | x :: A=>by rw [List.reverse_cons,JQ,Zp f i j A];simp only [IV,Rat.add_zero];rw [Rat.add_comm]
theorem Zq (f : Lk → Rat) : ∀ A : List Lk,tot f A.reverse = tot f A
 | []=>rfl
 | x :: A=>by rw [List.reverse_cons,BF,Zq f A];simp only [tot,Rat.add_zero];rw [Rat.add_comm]
theorem aht {s : List Lk} {l : Lk} {t : List Lk} {e : R} (h : MH s l = some (t,e)) (h1 : bJ s = true) (h2 : fJ l = true) :
  (∀ f,(f = mW ∨ f = mX ∨ f = mY) → ∀ i j,IV f i j t = IV f i j s + IV f i j [l]) ∧ tot mZ t + e.v = tot mZ s + mZ l:=by
 obtain ⟨hv,hp⟩:=lI.1 h1
 have hpost:=KZ (l:=l) hp
 have hpl:=Gw l s
 unfold MH at h
 dsimp only at h
 generalize Bf l s = i at *
 have hsp : s.take i ++ s.drop i = s:=List.take_append_drop i s
 split at h
 ·cases h
  have e0 : (bQ 0).v = 0:=R.TK (a:=((0 : Int) : Rat)) (FB (by decide))
  refine ⟨fun f _ a b=>?_,?_⟩
  ·conv=>rhs;rw [← hsp]
   simp only [JQ,IV,Rat.add_zero]
   grind
  ·rw [e0]
   conv=>rhs;rw [← hsp]
   simp only [BF,tot]
   grind
 ·rename_i hc
  split at h
  ·rename_i hg
   cases h
   have hi : i < s.length:=by
    rcases Nat.lt_or_ge i s.length with k | k
    ·exact k
    ·exact absurd (.inl (by omega)) hc
   have hd : s.drop i = s.getD i default :: s.drop (i + 1):=by
    rw [List.drop_eq_getElem_cons hi,List.getD_eq_getElem?_getD,List.getElem?_eq_getElem hi];rfl
   have hx0:=hpost (s.getD i default) (by rw [hd];simp)
   have hxl : aZ l (s.getD i default) = false:=by
    cases hq : aZ l (s.getD i default)
    ·rfl
    ·exact absurd (.inr hq) hc
   have hsm:=getD_mem (l:=s) hi
   generalize s.getD i default = x at *
   obtain ⟨ea,eb⟩:=IL hx0 hxl
   obtain ⟨m1,m2,m3,m4⟩:=akI (hv x hsm) h2 hg
   have hpa : (OO x l).a = x.a:=rfl
   have hpb : (OO x l).b = x.b:=rfl
   refine ⟨fun f hf a b=>?_,?_⟩
   ·have hm : f (OO x l) = f x + f l:=by rcases hf with rfl | rfl | rfl <;> assumption
    conv=>rhs;rw [← hsp,hd]
    simp only [JQ,IV,Rat.add_zero,hpa,hpb,← ea,← eb]
    split
    ·rw [hm];grind
    ·grind
   ·conv=>rhs;rw [← hsp,hd]
    simp only [BF,tot]
    grind
  ·cases h
theorem FU {f : Lk → Rat} {i j : Int} : ∀ {S : List Lk},(∀ y ∈ S,¬ (y.a = i ∧ y.b = j)) → IV f i j S = 0
 | [],_=>rfl
 |
  y :: S,h=>by
  simp only [IV]
  rw [if_neg (h y (by simp)),FU fun z hz=>h z (by simp [hz]),Rat.zero_add]
theorem TL {f : Lk → Rat} {x : Lk} : ∀ {S : List Lk},(S.Pairwise fun k l=>aZ k l = true) → x ∈ S → IV f x.a x.b S = f x
 | [],_,h=>by cases h
 |
  y :: S,hp,h=>by
  rw [List.pairwise_cons] at hp
  simp only [IV]
  rcases List.mem_cons.1 h with rfl | h
  ·rw [if_pos ⟨rfl,rfl⟩,FU fun z hz hh=>?_,Rat.add_zero]
   have:=hp.1 z hz
   rw [wO] at this
   omega
  ·have:=hp.1 x h
   rw [wO] at this
   rw [if_neg (by omega),TL hp.2 h,Rat.zero_add]
theorem aei : ∀ {l m : List Lk},(l.Pairwise fun k l=>aZ k l = true) → (m.Pairwise fun k l=>aZ k l = true) → (∀ a,a ∈ l ↔ a ∈ m) → l = m
 | [],[],_,_,_=>rfl
 | [],y :: m,_,_,h=>absurd ((h y).2 (by simp)) (by simp)
 | x :: l,[],_,_,h=>absurd ((h x).1 (by simp)) (by simp)
 |
  x :: l,y :: m,hl,hm,h=>by
  rw [List.pairwise_cons] at hl hm
  have e : x = y:=by
   rcases List.mem_cons.1 ((h x).1 (by simp)) with h1 | h1
   ·exact h1
   ·rcases List.mem_cons.1 ((h y).2 (by simp)) with h2 | h2
    ·exact h2.symm
    ·have a1:=hl.1 y h2
     have a2:=hm.1 x h1
     have:=zK a1 a2
     rw [IK] at this;cases this
  subst e
  congr 1
  refine aei hl.2 hm.2 fun a=>?_
  constructor
  ·intro ha
   rcases List.mem_cons.1 ((h a).1 (by simp [ha])) with h1 | h1
   ·have:=hl.1 a ha;rw [h1,IK] at this;cases this
   ·exact h1
  ·intro ha
   rcases List.mem_cons.1 ((h a).2 (by simp [ha])) with h1 | h1
   ·have:=hm.1 a ha;rw [h1,IK] at this;cases this
   ·exact h1
theorem R.ahu {r s : R} (hr : r.ok = true) (hs : s.ok = true) (h : r.v = s.v) : r = s:=akg (kD hr) (kD hs) (by rw [R.O6 hr,R.O6 hs,h])
theorem Zr {S S' : List Lk} (h : bJ S = true) (h' : bJ S' = true) (hm : ∀ f,(f = mW ∨ f = mX ∨ f = mY) → ∀ i j,IV f i j S = IV f i j S') : ∀ x ∈ S,x ∈ S':=by
 obtain ⟨hv,hp⟩:=lI.1 h
 obtain ⟨hv',hp'⟩:=lI.1 h'
 intro x hx
 have hpos:=VT (hv x hx)
 have w1:=hm mW (.inl rfl) x.a x.b
 rw [TL hp hx] at w1
 have : ∃ y ∈ S',y.a = x.a ∧ y.b = x.b:=by
  refine Classical.byContradiction fun hne=>?_
  rw [FU fun y hy hh=>hne ⟨y,hy,hh⟩] at w1
  unfold mW at w1
  rw [w1] at hpos
  exact absurd hpos (Rat.lt_irrefl)
 obtain ⟨y,hy,ha,hb⟩:=this
 have asr:=hv' y hy
 have at':=fun f=>TL (f:=f) hp' hy
 rw [ha,hb] at at'
 rw [at'] at w1
 have w2:=hm mX (.inr (.inl rfl)) x.a x.b
 have w3:=hm mY (.inr (.inr rfl)) x.a x.b
 rw [TL hp hx,at'] at w2 w3
 unfold mW at w1
 unfold mX at w2
 unfold mY at w3
 have k1:=yC (hv x hx)
 have k2:=yC asr
 rw [← w1] at w2 w3
 have hne : x.w.v ≠ 0:=fun e=>by rw [e] at hpos;exact absurd hpos Rat.lt_irrefl
 have c2 : x.dx.v = y.dx.v:=by grind
 have c3 : x.dy.v = y.dy.v:=by grind
 have e : x = y:=Lk.ext' ha.symm hb.symm (R.ahu k1.1 k2.1 w1) (R.ahu k1.2.1 k2.2.1 c2) (R.ahu k1.2.2.1 k2.2.2.1 c3)
 rw [e];exact hy
theorem ahv {S S' : List Lk} (h : bJ S = true) (h' : bJ S' = true) (hm : ∀ f,(f = mW ∨ f = mX ∨ f = mY) → ∀ i j,IV f i j S = IV f i j S') : S = S' :=
 aei (lI.1 h).2 (lI.1 h').2 fun a=>⟨Zr h h' hm a,Zr h' h (fun f hf i j=>(hm f hf i j).symm) a⟩
theorem Zt {l : List Lk} : ∀ {k : Nat} {S : List Lk} {e : R},k ≤ l.length → Rh l k = some (S,e) → e.ok = true →
  (∀ f,(f = mW ∨ f = mX ∨ f = mY) → ∀ i j,IV f i j S = IV f i j (l.take k)) ∧ tot mZ S + e.v = tot mZ (l.take k)
 |
  0,S,e,_,h,_=>by
  cases h
  have e0 : (bQ 0).v = 0:=R.TK (a:=((0 : Int) : Rat)) (FB (by decide))
  rw [e0]
  exact ⟨fun f _ i j=>by simp,by simp [tot,Rat.zero_add]⟩
 |
  k + 1,S,e,hk,h,he=>by
  simp only [Rh] at h
  cases hf : Rh l k with
  | none=>rw [hf] at h;cases h
  |
   some p =>
   rw [hf] at h
   dsimp only at h
   split at h
   ·rename_i ho
    cases h
    obtain ⟨o1,o2⟩:=JO he
    obtain ⟨m1,m2⟩:=Zt (k:=k) (S:=p.1) (e:=p.2) (by omega) hf o1
    obtain ⟨a1,a2,a3⟩:=ad7 ho
    obtain ⟨g1,g2,g3⟩:=JJ a2 a3
    have es:=take_snoc (l:=l) (i:=k) (by omega)
    generalize l.getD k default = x at *
    cases hr : MH p.1 x with
    | none=>rw [hr] at g3;rw [g3] at ho;cases ho
    |
     some t =>
     rw [hr] at g1 g2
     have g1 : adV p.1 x = t.1:=g1
     have g2 : adE p.1 x = t.2:=g2
     obtain ⟨n1,n2⟩:=aht (t:=t.1) (e:=t.2) hr a2 a3
     rw [g2] at o2 he ⊢
     rw [g1,es]
     have ev:=R.TK (O3 (R.O6 o1) (R.O6 o2) he)
     refine ⟨fun f hf i j=>?_,?_⟩
     ·rw [n1 f hf,JQ,m1 f hf]
     ·rw [ev,BF,← m2]
      simp only [tot,Rat.add_zero]
      grind
   ·cases h
theorem TM {l : List Lk} (h : IQ l = true) : (∀ f,(f = mW ∨ f = mX ∨ f = mY) → ∀ i j,IV f i j (LZ l) = IV f i j l) ∧ tot mZ (LZ l) + (VJ l).v = tot mZ l ∧ (VJ l).ok = true:=by
 unfold IQ at h
 cases hg : WO l with
 | none=>rw [hg] at h;cases h
 |
  some p =>
  have e1 : LZ l = p.1:=by unfold LZ;rw [hg];rfl
  have e2 : VJ l = p.2:=by unfold VJ;rw [hg];rfl
  rw [e1,e2]
  unfold WO at hg
  cases hf : Rh l l.length with
  | none=>rw [hf] at hg;cases hg
  |
   some q =>
   rw [hf] at hg
   dsimp only at hg
   split at hg
   ·rename_i ho
    cases hg
    have:=Zt (S:=p.1) (e:=p.2) (Nat.le_refl _) hf ho
    rw [List.take_length] at this
    exact ⟨this.1,this.2,ho⟩
   ·cases hg
theorem akJ {l : List Lk} (h : IQ l = true) (h' : IQ l.reverse = true) : LZ l = LZ l.reverse ∧ VJ l = VJ l.reverse:=by
 obtain ⟨a1,a2,a3⟩:=TM h
 obtain ⟨b1,b2,b3⟩:=TM h'
 have e:=ahv (TB (l:=l)).2.2.2 (TB (l:=l.reverse)).2.2.2 fun f hf i j=>by rw [a1 f hf,b1 f hf,Zp]
 refine ⟨e,R.ahu a3 b3 ?_⟩
 rw [Zq,← a2,← e] at b2
 grind
theorem ahw {s : List Lk} {l : Lk} (h1 : bJ s = true) (h2 : fJ l = true) (hm : ∀ x ∈ s,x.a = l.a → x.b = l.b → VG x l = true) :
  ∃ t e,MH s l = some (t,e) ∧ (((∀ y ∈ t,y ∈ s ∨ y = l) ∧ e = bQ 0) ∨ ∃ x ∈ s,x.a = l.a ∧ x.b = l.b ∧ (∀ y ∈ t,y ∈ s ∨ y = OO x l) ∧ e = WM x l):=by
 obtain ⟨hv,hp⟩:=lI.1 h1
 have hpost:=KZ (l:=l) hp
 have hpl:=Gw l s
 unfold MH
 dsimp only
 generalize Bf l s = i at *
 by_cases hc : i = s.length ∨ aZ l (s.getD i default) = true
 ·rw [if_pos hc]
  refine ⟨_,_,rfl,.inl ⟨fun y hy=>?_,rfl⟩⟩
  simp only [List.mem_append,List.mem_cons] at hy
  rcases hy with hy | rfl | hy
  ·exact .inl (List.mem_of_mem_take hy)
  ·exact .inr rfl
  ·exact .inl (List.mem_of_mem_drop hy)
 ·rw [if_neg hc]
  have hi : i < s.length:=by
   rcases Nat.lt_or_ge i s.length with k | k
   ·exact k
   ·exact absurd (.inl (by omega)) hc
  have hd : s.drop i = s.getD i default :: s.drop (i + 1):=by
   rw [List.drop_eq_getElem_cons hi,List.getD_eq_getElem?_getD,List.getElem?_eq_getElem hi];rfl
  have hx0:=hpost (s.getD i default) (by rw [hd];simp)
  have hxl : aZ l (s.getD i default) = false:=by
   cases hq : aZ l (s.getD i default)
   ·rfl
   ·exact absurd (.inr hq) hc
  have hsm:=getD_mem (l:=s) hi
  generalize s.getD i default = x at *
  obtain ⟨ea,eb⟩:=IL hx0 hxl
  rw [if_pos (hm x hsm ea eb)]
  refine ⟨_,_,rfl,.inr ⟨x,hsm,ea,eb,fun y hy=>?_,rfl⟩⟩
  simp only [List.mem_append,List.mem_cons] at hy
  rcases hy with hy | rfl | hy
  ·exact .inl (List.mem_of_mem_take hy)
  ·exact .inr rfl
  ·exact .inl (List.mem_of_mem_drop hy)
structure Jn (B : Int) (x : Lk) : Prop where
 ex : ∃ n p q : Int,(1 ≤ n ∧ n ≤ 9 * B) ∧ (-(180 * B) ≤ p ∧ p ≤ 180 * B) ∧ (-(180 * B) ≤ q ∧ q ≤ 180 * B) ∧ x.w.q = some (n : Rat) ∧ x.dx.q = some ((p : Rat) / (n : Rat)) ∧ x.dy.q = some ((q : Rat) / (n : Rat))
theorem Jn.mono {B C : Int} {x : Lk} (h : Jn B x) (hl : B ≤ C) : Jn C x:=by
 obtain ⟨n,p,q,h1,h2,h3,h4⟩:=h.ex
 exact ⟨n,p,q,by omega,by omega,by omega,h4⟩
theorem Zu {p n : Int} {N : Nat} (hp : p.natAbs ≤ N) (hn : 1 ≤ n) (h : n ≤ N) : Ht ((p : Rat) / (n : Rat)) N:=by
 obtain ⟨e,rfl⟩ : ∃ e : Nat,n = (e : Int):=⟨n.toNat,by omega⟩
 rw [← Rat.divInt_eq_div]
 show Ht (mkRat p e) N
 unfold mkRat
 rw [dif_neg (by omega)]
 exact zM _ hp (by omega)
theorem TN {r : R} {n : Int} (e : r = bQ n) (h : n.natAbs < 1000000000 ^ 24) : r.q = some (n : Rat):=by rw [e];exact FB h
theorem Jn.of {n : Int} {l : Lk} (h : WQ n l) : Jn 1 l:=by
 obtain ⟨w,hw,ew⟩:=h.w
 obtain ⟨x,hx,ex⟩:=h.dx
 obtain ⟨y,hy,ey⟩:=h.dy
 have hne : (w : Rat) ≠ 0:=fun e=>by have:=Rat.intCast_eq_zero_iff.1 e;omega
 have b1 : -180 ≤ w * x ∧ w * x ≤ 180:=by
  constructor
  ·have : w * (-20) ≤ w * x:=Int.mul_le_mul_of_nonneg_left hx.1 (by omega)
   omega
  ·have : w * x ≤ w * 20:=Int.mul_le_mul_of_nonneg_left hx.2 (by omega)
   omega
 have b2 : -180 ≤ w * y ∧ w * y ≤ 180:=by
  constructor
  ·have : w * (-20) ≤ w * y:=Int.mul_le_mul_of_nonneg_left hy.1 (by omega)
   omega
  ·have : w * y ≤ w * 20:=Int.mul_le_mul_of_nonneg_left hy.2 (by omega)
   omega
 refine ⟨w,w * x,w * y,by omega,by omega,by omega,TN ew (by omega),?_,?_⟩
 ·rw [TN ex (by omega),Rat.intCast_mul];congr 1;grind
 ·rw [TN ey (by omega),Rat.intCast_mul];congr 1;grind
theorem Zv {n : Int} {l : Lk} (hn : n ≤ 9) (h : WQ n l) : fJ l = true:=by
 obtain ⟨w,hw,ew⟩:=h.w
 obtain ⟨x,hx,ex⟩:=h.dx
 obtain ⟨y,hy,ey⟩:=h.dy
 have kw : Rv l.w (w : Rat) 9:=(FQ (by omega) (by omega)).of_eq ew
 have kx : Rv l.dx (x : Rat) 20:=(FQ (by omega) (by omega)).of_eq ex
 have ky : Rv l.dy (y : Rat) 20:=(FQ (by omega) (by omega)).of_eq ey
 exact TJ ⟨h.ab.1,h.ab.2.1,by have:=h.ab.2.2;omega⟩ kw (Rat.intCast_pos.2 (by omega)) kx.ok ky.ok
theorem aej (n p m d : Rat) (h0 : n ≠ 0) (h : n + m ≠ 0) : (n * (p / n) + m * d) / (n + m) = (p + m * d) / (n + m):=by grind
theorem aek {B N : Int} {x l : Lk} (hB : B ≤ 6) (hx : Jn B x) (hl : WQ N l) : VG x l = true ∧ Jn (B + 1) (OO x l) ∧ ∃ a,Rv (WM x l) a (10 ^ 26):=by
 obtain ⟨n,p,q,hn,hp,hq,en,ep,eq⟩:=hx.ex
 obtain ⟨m,hm,em⟩:=hl.w
 obtain ⟨d,hd,ed⟩:=hl.dx
 obtain ⟨c,hc,ec⟩:=hl.dy
 have kw : Rv x.w (n : Rat) 63:=⟨en,aef (by omega) (by omega)⟩
 have kx : Rv x.dx ((p : Rat) / (n : Rat)) 1260:=⟨ep,Zu (by omega) hn.1 (by omega)⟩
 have ky : Rv x.dy ((q : Rat) / (n : Rat)) 1260:=⟨eq,Zu (by omega) hn.1 (by omega)⟩
 have lw : Rv l.w (m : Rat) 9:=(FQ (by omega) (by omega)).of_eq em
 have lx : Rv l.dx (d : Rat) 20:=(FQ (by omega) (by omega)).of_eq ed
 have ly : Rv l.dy (c : Rat) 20:=(FQ (by omega) (by omega)).of_eq ec
 have hn0 : (n : Rat) ≠ 0:=fun e=>by have:=Rat.intCast_eq_zero_iff.1 e;omega
 have h0 : (n : Rat) + (m : Rat) ≠ 0:=by
  rw [← Rat.intCast_add]
  intro e
  have:=Rat.intCast_eq_zero_iff.1 e
  omega
 have rW : Rv (Zg x l) _ _:=kw.add lw
 have rX : Rv (mgX x l) _ _:=((kw.mul kx).add (lw.mul lx)).div rW h0
 have rY : Rv (mgY x l) _ _:=((kw.mul ky).add (lw.mul ly)).div rW h0
 have sx:=kx.sub lx
 have sy:=ky.sub ly
 have rE : Rv (WM x l) _ _:=((kw.mul lw).div rW h0).mul ((sx.mul sx).add (sy.mul sy))
 have b1 : -180 ≤ m * d ∧ m * d ≤ 180:=by
  constructor
  ·have : m * (-20) ≤ m * d:=Int.mul_le_mul_of_nonneg_left hd.1 (by omega)
   omega
  ·have : m * d ≤ m * 20:=Int.mul_le_mul_of_nonneg_left hd.2 (by omega)
   omega
 have b2 : -180 ≤ m * c ∧ m * c ≤ 180:=by
  constructor
  ·have : m * (-20) ≤ m * c:=Int.mul_le_mul_of_nonneg_left hc.1 (by omega)
   omega
  ·have : m * c ≤ m * 20:=Int.mul_le_mul_of_nonneg_left hc.2 (by omega)
   omega
 refine ⟨by unfold VG;rw [rW.ok,rX.ok,rY.ok,rE.ok];rfl,⟨n + m,p + m * d,q + m * c,by omega,by omega,by omega,?_,?_,?_⟩,_,rE.q,rE.h.mono (by decide)⟩
 ·show (Zg x l).q = _
  rw [rW.q,Rat.intCast_add]
 ·show (mgX x l).q = _
  rw [rX.q,Rat.intCast_add,Rat.intCast_add,Rat.intCast_mul,aej _ _ _ _ hn0 h0]
 ·show (mgY x l).q = _
  rw [rY.q,Rat.intCast_add,Rat.intCast_add,Rat.intCast_mul,aej _ _ _ _ hn0 h0]
def Eb : Nat → Nat
 | 0=>1
 | k + 1=>2 * (Eb k * 10 ^ 26)
theorem aov : ∀ k,k ≤ 7 → Eb k < 1000000000 ^ 24:=by decide +kernel
theorem O7 {N : Int} {L : List Lk} (hN : N ≤ 9) (hl : L.length ≤ 7) (hs : ∀ l ∈ L,WQ N l) : ∀ k,k ≤ L.length → ∃ S e a,Rh L k = some (S,e) ∧ (∀ x ∈ S,Jn k x) ∧ Rv e a (Eb k)
 | 0,_=>⟨[],bQ 0,((0 : Int) : Rat),rfl,by simp,FQ (by decide) (by decide)⟩
 |
  k + 1,hk=>by
  obtain ⟨S,e,a,hf,hj,he⟩:=O7 hN hl hs k (by omega)
  have hx:=hs _ (getD_mem (l:=L) (i:=k) (by omega))
  have i1:=(TA hf).1
  dsimp only at i1
  generalize hxe : L.getD k default = x at hx
  have hxo:=Zv hN hx
  have hmg:=fun y (hy : y ∈ S)=>aek (by omega : (k : Int) ≤ 6) (hj y hy) hx
  obtain ⟨t,e',hr,hc⟩:=ahw i1 hxo fun y hy _ _=>(hmg y hy).1
  obtain ⟨g1,g2,g3⟩:=JJ i1 hxo
  rw [hr] at g1 g2 g3
  have g1 : adV S x = t:=g1
  have g2 : adE S x = e':=g2
  have g3 : OT S x = true:=g3
  have hE:=aov (k + 1) (by omega)
  refine ⟨t,dZ e e',?_⟩
  have hb : ∃ b,Rv e' b (10 ^ 26):=by
   rcases hc with ⟨_,rfl⟩ | ⟨y,hy,_,_,_,rfl⟩
   ·exact ⟨((0 : Int) : Rat),FQ (by decide) (by decide)⟩
   ·exact (hmg y hy).2.2
  obtain ⟨b,hb⟩:=hb
  refine ⟨a + b,by simp only [Rh,hf,hxe,g3,if_true,g1,g2],fun y hy=>?_,he.add hb hE⟩
  have ec : ((k + 1 : Nat) : Int) = (k : Int) + 1:=by omega
  rw [ec]
  rcases hc with ⟨h,_⟩ | ⟨z,hz,_,_,h,_⟩
  ·rcases h y hy with h | rfl
   ·exact (hj y h).mono (by omega)
   ·exact (Jn.of hx).mono (by omega)
  ·rcases h y hy with h | rfl
   ·exact (hj y h).mono (by omega)
   ·exact (hmg z hz).2.1
theorem Rl {N : Int} {L : List Lk} (hN : N ≤ 9) (hl : L.length ≤ 7) (hs : ∀ l ∈ L,WQ N l) : IQ L = true:=by
 obtain ⟨S,e,a,hf,_,he⟩:=O7 hN hl hs L.length (Nat.le_refl _)
 unfold IQ WO
 rw [hf]
 dsimp only
 rw [if_pos he.ok];rfl
theorem Yi {n : Nat} {L : List Lk} (h : Rj n L) : IQ L = true ∧ IQ L.reverse = true ∧ LZ L = LZ L.reverse ∧ VJ L = VJ L.reverse:=by
 have h1:=h.rn
 have h2:=h.len
 have o1:=Rl (N:=(n : Int) + 1) (by omega) (by omega) h.sm
 have o2:=Rl (N:=(n : Int) + 1) (L:=L.reverse) (by omega) (by simp;omega) fun l hl=>h.sm l (List.mem_reverse.1 hl)
 exact ⟨o1,o2,akJ o1 o2⟩
abbrev nbA (s : List Lk) (x : Int) : List Int:=nbI s x s.length
inductive Rch (s : List Lk) (v : Int) : Int → Prop
 | base : Rch s v v
 | step {a b : Int} : Rch s v a → b ∈ nbA s a → Rch s v b
theorem ahy {s : List Lk} {x b : Int} : b ∈ nbA s x ↔ ∃ l ∈ s,X4 x l = some b:=by
 unfold nbA nbI
 rw [List.take_length,List.mem_filterMap]
theorem akK {s : List Lk} (h : bJ s = true) {x b : Int} (hb : b ∈ nbA s x) : 0 ≤ b ∧ b < 10 ∧ 0 ≤ x ∧ x < 10:=by
 obtain ⟨l,hl,e⟩:=ahy.1 hb
 have:=sH (qg h hl)
 unfold X4 at e
 split at e
 ·cases e;omega
 ·split at e
  ·cases e;omega
  ·cases e
theorem ael {s : List Lk} (h : bJ s = true) {v b : Int} (hr : Rch s v b) : b = v ∨ (0 ≤ b ∧ b < 10 ∧ 0 ≤ v ∧ v < 10):=by
 induction hr with
 | base=>exact .inl rfl
 |
  step ha hb ih =>
  have:=akK h hb
  rcases ih with rfl | ih
  ·exact .inr ⟨this.1,this.2.1,this.2.2⟩
  ·exact .inr ⟨this.1,this.2.1,ih.2.2⟩
theorem Zw {s : List Lk} (h : bJ s = true) {v : Int} {l : List Int} (hn : l.Nodup) (hl : ∀ a ∈ l,Rch s v a) : l.length ≤ 10:=by
 by_cases hv : 0 ≤ v ∧ v < 10
 ·have:=JD (a:=l) (b:=[0,1,2,3,4,5,6,7,8,9]) hn fun a ha=>by
   have hb : 0 ≤ a ∧ a < 10:=by
    rcases ael h (hl a ha) with rfl | k
    ·exact hv
    ·exact ⟨k.1,k.2.1⟩
   simp only [List.mem_cons,List.not_mem_nil,or_false]
   omega
  simpa using this
 ·have:=JD (a:=l) (b:=[v]) hn fun a ha=>by
   rcases ael h (hl a ha) with rfl | k
   ·simp
   ·exact absurd k.2.2 hv
  simp at this
  omega
def Zx (s : List Lk) (out : List Int) (x : Int) : List Int:=(nbA s x).foldl KR out
def ahz (s : List Lk) (out : List Int) : List Int:=out.foldl (Zx s) out
def Ql (s : List Lk) (v : Int) : Nat → List Int
 | 0=>[v]
 | n + 1=>ahz s (Ql s v n)
theorem VU : ∀ (l out : List Int) (a : Int),a ∈ l.foldl KR out ↔ a ∈ out ∨ a ∈ l
 | [],out,a=>by simp
 |
  x :: l,out,a=>by
  rw [List.foldl_cons,VU l,OE,List.mem_cons]
  constructor
  ·rintro ((h | h) | h)
   ·exact .inr (.inl h)
   ·exact .inl h
   ·exact .inr (.inr h)
  ·rintro (h | h | h)
   ·exact .inl (.inr h)
   ·exact .inl (.inl h)
   ·exact .inr h
theorem VW : ∀ (l out : List Int),Asc out → Asc (l.foldl KR out)
 | [],out,h=>h
 | x :: l,out,h=>VW l _ (JC h)
theorem Gz {s : List Lk} : ∀ (l out : List Int) (a : Int),a ∈ l.foldl (Zx s) out ↔ a ∈ out ∨ ∃ x ∈ l,a ∈ nbA s x
 | [],out,a=>by simp
 |
  x :: l,out,a=>by
  rw [List.foldl_cons,Gz l]
  unfold Zx
  rw [VU,or_assoc]
  simp only [List.mem_cons,exists_eq_or_imp]
theorem Zy {s : List Lk} : ∀ (l out : List Int),Asc out → Asc (l.foldl (Zx s) out)
 | [],out,h=>h
 | x :: l,out,h=>Zy l _ (VW _ _ h)
theorem Nh (s : List Lk) (v : Int) : ∀ n,Asc (Ql s v n)
 | 0=>by unfold Asc Ql;simp
 | n + 1=>Zy _ _ (Nh s v n)
theorem Nj (s : List Lk) (v : Int) : ∀ n,∀ a ∈ Ql s v n,Rch s v a
 | 0,a,h=>by simp [Ql] at h;subst h;exact .base
 |
  n + 1,a,h=>by
  rcases (Gz _ _ _).1 h with h | ⟨x,hx,h⟩
  ·exact Nj s v n a h
  ·exact .step (Nj s v n x hx) h
theorem VX (s : List Lk) (v : Int) : ∀ n,v ∈ Ql s v n
 | 0=>by simp [Ql]
 | n + 1=>(Gz _ _ _).2 (.inl (VX s v n))
theorem ahA {s : List Lk} (h : bJ s = true) (v : Int) (n : Nat) : (Ql s v n).length ≤ 10:=Zw h (Q7 (Nh s v n)) (Nj s v n)
def Closed (s : List Lk) (l : List Int) : Prop:=∀ a ∈ l,∀ b ∈ nbA s a,b ∈ l
theorem VY {s : List Lk} (v : Int) : ∀ n,Closed s (Ql s v n) ∨ n + 1 ≤ (Ql s v n).length
 | 0=>.inr (by simp [Ql])
 |
  n + 1=>by
  have hsub : ∀ a ∈ Ql s v n,a ∈ Ql s v (n + 1):=fun a ha=>(Gz _ _ _).2 (.inl ha)
  rcases Classical.em (Closed s (Ql s v n)) with hc | hc
  ·left
   intro a ha b hb
   have ha' : a ∈ Ql s v n:=by
    rcases (Gz _ _ _).1 ha with h | ⟨x,hx,h⟩
    ·exact h
    ·exact hc x hx a h
   exact hsub b (hc a ha' b hb)
  ·right
   have hl:=(VY v n).resolve_left hc
   have : ∃ a ∈ Ql s v n,∃ b ∈ nbA s a,b ∉ Ql s v n:=by
    refine Classical.byContradiction fun hne=>hc fun a ha b hb=>Classical.byContradiction fun hnb=>hne ⟨a,ha,b,hb,hnb⟩
   obtain ⟨a,ha,b,hb,hnb⟩:=this
   have:=JD (a:=b :: Ql s v n) (b:=Ql s v (n + 1)) (List.nodup_cons.2 ⟨hnb,Q7 (Nh s v n)⟩) fun x hx=>by
    rcases List.mem_cons.1 hx with rfl | hx
    ·exact (Gz _ _ _).2 (.inr ⟨a,ha,hb⟩)
    ·exact hsub x hx
   simp only [List.length_cons] at this
   omega
theorem Yj {s : List Lk} (h : bJ s = true) (v : Int) : Closed s (Ql s v 10):=by
 rcases VY (s:=s) v 10 with hc | hc
 ·exact hc
 ·have:=ahA h v 10;omega
def cpV (s : List Lk) (v : Int) : List Int:=Ql s v 10
theorem ahB {s : List Lk} (h : bJ s = true) {v a : Int} : a ∈ cpV s v ↔ Rch s v a:=by
 constructor
 ·exact Nj s v 10 a
 ·intro hr
  induction hr with
  | base=>exact VX s v 10
  | step _ hb ih=>exact Yj h v _ ih _ hb
theorem aa8 {l : List Int} (hn : l.Nodup) : Asc (Lm l):=by
 have h1 : (Lm l).Pairwise fun a b=>(decide (a ≤ b)) = true:=by
  unfold Lm
  exact List.pairwise_mergeSort (fun a b c h1 h2=>by simp at *;omega) (fun a b=>by simp;omega) l
 have h2 : (Lm l).Nodup:=(List.mergeSort_perm l _).nodup_iff.2 hn
 unfold Asc
 refine (h1.and h2).imp fun ⟨h,hne⟩=>?_
 have : _ ≤ _:=of_decide_eq_true h
 omega
theorem aa9 {l : List Int} {a : Int} : a ∈ Lm l ↔ a ∈ l:=(List.mergeSort_perm l _).mem_iff
theorem ahC {s : List Lk} (h : bJ s = true) {v : Int} {l : List Int} (hn : l.Nodup) (hv : v ∈ l) (hr : ∀ a ∈ l,Rch s v a) (hc : Closed s l) : Lm l = cpV s v:=by
 refine Tm (aa8 hn) (Nh s v 10) fun a=>?_
 rw [aa9,ahB h]
 constructor
 ·exact hr a
 ·intro hra
  induction hra with
  | base=>exact hv
  | step _ hb ih=>exact hc _ ih _ hb
def addN (l : List Int) (u : Int) : List Int:=if u ∈ l then l else l ++ [u]
theorem aem {l : List Int} {u a : Int} : a ∈ addN l u ↔ a ∈ l ∨ a = u:=by
 unfold addN
 split
 ·rename_i h
  constructor
  ·exact .inl
  ·rintro (k | rfl)
   ·exact k
   ·exact h
 ·simp
theorem ahD {l : List Int} {u : Int} (h : l.Nodup) : (addN l u).Nodup:=by
 unfold addN
 split
 ·exact h
 ·rename_i hu
  rw [List.nodup_append]
  exact ⟨h,by simp,fun a ha b hb e=>by simp at hb;subst hb;exact hu (e ▸ ha)⟩
theorem VZ : ∀ (us l : List Int) (a : Int),a ∈ us.foldl addN l ↔ a ∈ l ∨ a ∈ us
 | [],l,a=>by simp
 |
  u :: us,l,a=>by
  rw [List.foldl_cons,VZ us,aem,List.mem_cons,or_assoc]
theorem Zz : ∀ (us l : List Int),l.Nodup → (us.foldl addN l).Nodup
 | [],l,h=>h
 | u :: us,l,h=>Zz us _ (ahD h)
theorem V3 : ∀ (us l : List Int),∃ r,us.foldl addN l = l ++ r
 | [],l=>⟨[],by simp⟩
 |
  u :: us,l=>by
  obtain ⟨r,e⟩:=V3 us (addN l u)
  rw [List.foldl_cons,e]
  unfold addN
  split
  ·exact ⟨r,rfl⟩
  ·exact ⟨u :: r,by simp⟩
structure Bfs (s : List Lk) (v : Int) (i : Nat) (l : List Int) : Prop where
 nd : l.Nodup
 mem : v ∈ l
 rch : ∀ a ∈ l,Rch s v a
 le : i ≤ l.length
 cl : ∀ j,j < i → ∀ b ∈ nbA s (l.getD j 0),b ∈ l
theorem Bfs.start (s : List Lk) (v : Int) : Bfs s v 0 [v]:=⟨by simp,by simp,fun a h=>by simp at h;subst h;exact .base,by simp,fun j h=>absurd h (Nat.not_lt_zero _)⟩
theorem Bfs.next {s : List Lk} {v : Int} {i : Nat} {l : List Int} (h : Bfs s v i l) (hi : i < l.length) : Bfs s v (i + 1) ((nbA s (l.getD i 0)).foldl addN l):=by
 obtain ⟨r,e⟩:=V3 (nbA s (l.getD i 0)) l
 have hm:=VZ (nbA s (l.getD i 0)) l
 have hli : l.getD i 0 ∈ l:=by rw [List.getD_eq_getElem?_getD,List.getElem?_eq_getElem hi];exact List.getElem_mem hi
 refine ⟨Zz _ _ h.nd,(hm v).2 (.inl h.mem),fun a ha=>?_,by rw [e,List.length_append];omega,fun j hj b hb=>?_⟩
 ·rcases (hm a).1 ha with ha | ha
  ·exact h.rch a ha
  ·exact .step (h.rch _ hli) ha
 ·have hjl : j < l.length:=by omega
  have ej : ((nbA s (l.getD i 0)).foldl addN l).getD j 0 = l.getD j 0:=by
   rw [e,List.getD_eq_getElem?_getD,List.getD_eq_getElem?_getD,List.getElem?_append_left hjl]
  rw [ej] at hb
  by_cases hji : j = i
  ·subst hji;exact (hm b).2 (.inr hb)
  ·exact (hm b).2 (.inl (h.cl j (by omega) b hb))
theorem Bfs.len {s : List Lk} (hk : bJ s = true) {v : Int} {i : Nat} {l : List Int} (h : Bfs s v i l) : l.length ≤ 10:=Zw hk h.nd h.rch
theorem Bfs.fin {s : List Lk} (hk : bJ s = true) {v : Int} {l : List Int} (h : Bfs s v l.length l) : Lm l = cpV s v :=
 ahC hk h.nd h.mem h.rch fun a ha b hb=>by
  obtain ⟨j,hj⟩:=List.mem_iff_getElem?.1 ha
  have hjl:=(List.getElem?_eq_some_iff.1 hj).1
  exact h.cl j hjl b (by rw [List.getD_eq_getElem?_getD,hj];exact hb)
def vP : Fn:=⟨1,14,[.tmp 2],(sr [oN 2 mN] (.seq (rf 1 [oK 7 1 (oV 0),oK 8 1 (cl 87 [7]),oK 9 1 (cl 179 [8]),oK 6 1 (oV 9),oK 10 1 (ex 0 6),oK 11 1 (ex 1 6),oK 12 1 (ex 2 6),oN 4 (.alloc mV),oK 3 1 (oV 10),⟨none,none,1,.store 3 (.t 4) (.t 11),[]⟩,oK 5 1 (oV 12)]) (sr [oW 13 3,oW 2 13] .ret)))⟩
structure Bc (T : Tb) : Prop where
 hT : T 171 = some vP
 Lc : wQ T
 Ld : wP T
theorem Yk {i j : Int} : ∀ {L : List Lk},(∀ x ∈ L,fJ x = true) → 0 ≤ IV mW i j L ∧ ((∃ x ∈ L,x.a = i ∧ x.b = j) → 0 < IV mW i j L)
 | [],_=>⟨by simp [IV],fun ⟨x,hx,_⟩=>by cases hx⟩
 |
  y :: L,h=>by
  have ih:=Yk (i:=i) (j:=j) (L:=L) fun x hx=>h x (by simp [hx])
  have hy : 0 < mW y:=VT (h y (by simp))
  simp only [IV]
  by_cases e : y.a = i ∧ y.b = j
  ·rw [if_pos e]
   have h1:=ih.1
   have : 0 < mW y + IV mW i j L:=by grind
   exact ⟨by grind,fun _=>this⟩
  ·rw [if_neg e,Rat.zero_add]
   refine ⟨ih.1,fun ⟨x,hx,hh⟩=>ih.2 ⟨x,?_,hh⟩⟩
   rcases List.mem_cons.1 hx with rfl | hx
   ·exact absurd hh e
   ·exact hx
theorem ZA {L : List Lk} (hok : IQ L = true) (hL : ∀ x ∈ L,fJ x = true) (i j : Int) : (∃ x ∈ LZ L,x.a = i ∧ x.b = j) ↔ ∃ x ∈ L,x.a = i ∧ x.b = j:=by
 have hm:=(TM hok).1 mW (.inl rfl) i j
 have hS:=lI.1 (TB (l:=L)).2.2.2
 have p1:=Yk (i:=i) (j:=j) hS.1
 have p2:=Yk (i:=i) (j:=j) hL
 constructor
 ·intro h
  refine Classical.byContradiction fun hne=>?_
  have e:=FU (f:=mW) (i:=i) (j:=j) (S:=L) fun y hy hh=>hne ⟨y,hy,hh⟩
  have:=p1.2 h
  rw [hm,e] at this
  exact absurd this Rat.lt_irrefl
 ·intro h
  refine Classical.byContradiction fun hne=>?_
  have e:=FU (f:=mW) (i:=i) (j:=j) (S:=LZ L) fun y hy hh=>hne ⟨y,hy,hh⟩
  have:=p2.2 h
  rw [← hm,e] at this
  exact absurd this Rat.lt_irrefl
theorem akL {n : Int} {l : Lk} (h : WQ n l) : (l.w.cn ∧ l.dx.cn ∧ l.dy.cn) ∧ l.wf:=by
 obtain ⟨_,⟨a,ha,e1⟩,⟨b,hb,e2⟩,⟨c,hc,e3⟩⟩:=h
 unfold Lk.wf
 rw [e1,e2,e3]
 have h1:=rO (n:=a) (by omega)
 have h2:=rO (n:=b) (by omega)
 have h3:=rO (n:=c) (by omega)
 exact ⟨⟨h1,h2,h3⟩,gI h1,gI h2,gI h3⟩
structure FV (n : Nat) (S : List Lk) : Prop where
 L : ∃ L,Rj n L ∧ S = LZ L
 ok : bJ S = true
 cn : ∀ x ∈ S,x.w.cn ∧ x.dx.cn ∧ x.dy.cn
 len : S.length ≤ 101
 ab : ∀ x ∈ S,0 ≤ x.a ∧ x.a < x.b ∧ x.b ≤ (n : Int) + 1
 base : ∀ k,k < n → ∃ x ∈ S,x.a ≤ (k : Int) ∧ x.b = (k : Int) + 1
 rn : 1 ≤ n ∧ n ≤ 4
theorem FV.wf {n : Nat} {S : List Lk} (h : FV n S) : MR Lk.wf S:=TD h.cn h.len
theorem FV.sz {n : Nat} {S : List Lk} (h : FV n S) : UZ Lk.sz S ≤ 20000:=OX h.cn h.len
theorem aow {n : Nat} {L : List Lk} (h : Rj n L) : FV n (LZ L):=by
 obtain ⟨hok,_⟩:=Yi h
 have hc:=TB (l:=L)
 have hrn:=h.rn
 have aox : ∀ x ∈ L,fJ x = true:=fun x hx=>Zv (n:=(n : Int) + 1) (by omega) (h.sm x hx)
 refine ⟨⟨L,h,rfl⟩,hc.2.2.2,hc.1,hc.2.2.1,fun x hx=>?_,fun k hk=>?_,h.rn⟩
 ·obtain ⟨y,hy,h1,h2⟩:=(ZA hok aox x.a x.b).1 ⟨x,hx,rfl,rfl⟩
  have:=(h.sm y hy).ab
  omega
 ·have hl:=h.len
  have hm:=getD_mem (l:=L) (i:=k) (by omega)
  have hb:=h.base k hk
  generalize L.getD k default = y at hm hb
  obtain ⟨x,hx,h1,h2⟩:=(ZA hok aox y.a y.b).2 ⟨y,hm,rfl,rfl⟩
  have:=(h.sm y hm).ab
  exact ⟨x,hx,by omega,by omega⟩
theorem abb {T : Tb} (h : Bc T) {x : List UInt8} (hx : x.length ≤ 1048576) : ∃ n S,FV n S ∧ PF T 171 [bytesV x] (iq S):=by
 obtain ⟨n,L,hL,cm⟩:=VR h.Lc hx
 have hrn:=hL.rn
 have hl:=hL.len
 have cL : ∀ x ∈ L,x.w.cn ∧ x.dx.cn ∧ x.dy.cn:=fun x hx=>(akL (hL.sm x hx)).1
 have cj:=TF h.Ld (l:=L) (TD cL (by omega)) (by have:=OX cL (by omega);omega)
 refine ⟨n,LZ L,aow hL,?_⟩
 clear hL hrn hl cL
 generalize LZ L = S at cj
 generalize VJ L = e at cj
 generalize IQ L = b at cj
 refine aV nR h.hT ?_
 simp only [vP,Lz]
 refine ev ?_
 refine ah cm ?_
 refine ev ?_
 refine ah cj ?_
 (refine ev ?_;try with_reducible exact True.intro)
def ql : Fn:=⟨0,4,[.cell 0 6 true],(.seq (rf 1 [oN 0 (.alloc zz6)]) (sr [oN 1 (.call 39 [(cI 0)]),oN 2 (.call 39 [(cI 0)]),oN 3 (.build zz6 [(0,3,(.t 1)),(3,3,(.t 2))]),oS (.store 6 (.t 0) (.t 3))] .ret))⟩
structure wR (T : Tb) : Prop where
 hT : T 186 = some ql
 bU : fB T
def fV : Fn:=⟨2,72,[.cell 4 6 true,.tmp 5],(.seq (rf 2 [oN 2 (.box (.t 0)),oK 4 1 (.alloc zz6),oK 5 2 mF]) (.seq (sr [oN 9 (lT 5 2),oN 10 (cl 185 [9]),oN 11 (nt 10)] (cd 11 (sr [oN 12 (.build zz6 []),oS (.store 6 (.t 4) (.t 12)),oN 5 mF] .ret) .skip)) (.seq (rf 1 [oK 13 1 (.call 186 []),oN 6 (.alloc zz6),⟨none,none,1,.store 6 (.t 6) (.t 13),[]⟩]) (.seq (sr [oN 14 (fd 4 2),oN 15 (lF 1 14),oN 16 (ln 15),oN 17 (.iw (cI 0))] (.block 0 (.loop (sr [oN 18 (bt .lss 17 16)] (.seq (cd 18 .skip (.exit 0)) (.seq (.block 1 (.seq (rf 1 [oK 19 1 (ix 10 15 17),oK 20 1 (lT 10 19),oN 8 (.alloc zz5),⟨none,none,1,.store 10 (.t 8) (.t 20),[]⟩]) (.seq (sr [oN 21 (fd 0 8),oN 22 (lF 1 21),oW 23 1,oN 24 (ln 23),oN 25 (bt .geq 22 24)] (cd 25 (sr [oN 26 (.build zz6 []),oS (.store 6 (.t 4) (.t 26)),oN 5 mF] .ret) .skip)) (.seq (rt 0 [oN 27 (fd 0 6),oA 28 0 (lT 3 27) [0],oN 29 (fd 1 8),oA 30 0 (lT 3 29) [2],oW 31 1,oN 32 (fd 0 8),oA 33 0 (lF 1 32) [5],oA 34 0 (ix 6 31 33) [4,6],oA 35 0 (fd 0 34) [7],oA 36 0 (lT 3 35) [8],oN 37 (fd 4 8),oA 38 0 (lT 3 37) [10],oA 39 0 (cl 178 [36,38]) [9,11],oA 40 0 (cl 157 [30,39]) [3,12,12],oA 41 0 (cl 131 [28,40]) [1,13,13],oA 42 0 (fd 0 6) [0,1,2,3,4,5,6,7,8,9,10,11,12,13,14],⟨none,none,0,.store 3 (.t 42) (.t 41),[15,14,14,0,1,2,3,4,5,6,7,8,9,10,11,12,13,14]⟩]) (rt 0 [oN 43 (fd 3 6),oA 44 0 (lT 3 43) [0],oN 45 (fd 1 8),oA 46 0 (lT 3 45) [2],oW 47 1,oN 48 (fd 0 8),oA 49 0 (lF 1 48) [5],oA 50 0 (ix 6 47 49) [4,6],oA 51 0 (fd 3 50) [7],oA 52 0 (lT 3 51) [8],oN 53 (fd 7 8),oA 54 0 (lT 3 53) [10],oA 55 0 (cl 178 [52,54]) [9,11],oA 56 0 (cl 157 [46,55]) [3,12,12],oA 57 0 (cl 131 [44,56]) [1,13,13],oA 58 0 (fd 3 6) [0,1,2,3,4,5,6,7,8,9,10,11,12,13,14],⟨none,none,0,.store 3 (.t 58) (.t 57),[15,14,14,0,1,2,3,4,5,6,7,8,9,10,11,12,13,14]⟩]))))) (rg [oN 59 (bc .add 17 1),oW 17 59]))))))) (.seq (sr [oN 60 (fd 0 6),oN 61 (lT 3 60),oN 62 (cl 132 [61]),oN 63 (nt 62),oW 64 63,oG 64 false 65 (fd 3 6),oG 64 false 66 (lT 3 65),oG 64 false 67 (cl 132 [66]),oG 64 false 68 (nt 67),oN 69 (.pick (.t 64) (.c (.bool true)) (.t 68))] (cd 69 (sr [oN 70 (.build zz6 []),oS (.store 6 (.t 4) (.t 70)),oN 5 mF] .ret) .skip)) (sr [oN 71 (lT 6 6),oS (.store 6 (.t 4) (.t 71)),oN 5 mT] .ret))))))⟩
structure lM (T : Tb) : Prop where
 hT : T 176 = some fV
 bG : eH T
 aK : fU T
 iO : iJ T
 qR : qN T
 ig : gZ T
 Le : wR T
def Yl (p : Pa) (x d : R) : R:=mulR p.share (dZ x d)
def zN (c : Cd) (at' : List Pt) : Nat → R
 | 0=>bQ 0
 | k + 1=>dZ (zN c at' k) (Yl (c.ps.getD k default) (at'.getD (c.ps.getD k default).node.toNat default).x (c.ps.getD k default).dx)
def Ho (c : Cd) (at' : List Pt) : Nat → R
 | 0=>bQ 0
 | k + 1=>dZ (Ho c at' k) (Yl (c.ps.getD k default) (at'.getD (c.ps.getD k default).node.toNat default).y (c.ps.getD k default).dy)
def acG (c : Cd) (n : Nat) : Bool:=c.ps.all fun p=>decide (p.node < n)
def GX (c : Cd) (at' : List Pt) : Bool:=nV c && (acG c at'.length && ((zN c at' c.ps.length).ok && (Ho c at' c.ps.length).ok))
def PK (c : Cd) (at' : List Pt) : Pt:=if GX c at' = true then ⟨zN c at' c.ps.length,Ho c at' c.ps.length⟩ else ⟨R0,R0⟩
theorem aen (c : Cd) (at' : List Pt) : ∀ k,(zN c at' k).cn
 | 0=>rO (by decide)
 | k + 1=>nZ _ _
theorem aeo (c : Cd) (at' : List Pt) : ∀ k,(Ho c at' k).cn
 | 0=>rO (by decide)
 | k + 1=>nZ _ _
theorem aep (p : Pa) (x d : R) : (Yl p x d).cn:=Js _ _
theorem akM (c : Cd) (at' : List Pt) : (PK c at').x.cn ∧ (PK c at').y.cn:=by
 unfold PK;split
 ·exact ⟨aen _ _ _,aeo _ _ _⟩
 ·exact ⟨Ve,Ve⟩
theorem ahF {c : Cd} {n k : Nat} (hk : k < c.ps.length) (h : ¬ (c.ps.getD k default).node < n) : acG c n = false:=by
 unfold acG
 rw [List.all_eq_false]
 refine ⟨c.ps.getD k default,?_,by simpa using h⟩
 rw [List.getD_eq_getElem?_getD,List.getElem?_eq_getElem hk];exact List.getElem_mem hk
theorem V4 {c : Cd} {n : Nat} (h : ∀ k,k < c.ps.length → (c.ps.getD k default).node < n) : acG c n = true:=by
 unfold acG
 rw [List.all_eq_true]
 intro x hx
 obtain ⟨k,hk⟩:=List.mem_iff_getElem?.1 hx
 have:=h k (List.getElem?_eq_some_iff.1 hk).1
 rw [List.getD_eq_getElem?_getD,hk] at this
 exact decide_eq_true this
theorem aer {c : Cd} {at' : List Pt} (h : GX c at' = false) : PK c at' = ⟨R0,R0⟩:=by
 unfold PK;rw [h];rfl
theorem ahG {c : Cd} (h : nV c = true) {k : Nat} (hk : k < c.ps.length) : 0 ≤ (c.ps.getD k default).node ∧ (c.ps.getD k default).share.ok = true:=by
 unfold nV at h
 simp only [Bool.and_eq_true,decide_eq_true_eq] at h
 have:=h.1.1.1.1 k hk
 unfold EK inB at this
 simp only [Bool.and_eq_true,decide_eq_true_eq] at this
 exact ⟨this.1.1.1.1.1.1,Jy this.1.1.2⟩
def H2 (a : Rat) (P N : Nat) : Prop:=a.num.natAbs ≤ P ∧ a.den ≤ N
theorem Ec {n : Int} {d P N : Nat} (h : d ≠ 0) (h1 : n.natAbs ≤ P) (h2 : d ≤ N) : H2 (Rat.normalize n d h) P N:=by
 rw [Rat.normalize_eq]
 refine ⟨?_,Nat.le_trans (Nat.div_le_self _ _) h2⟩
 show (n / (n.natAbs.gcd d : Nat)).natAbs ≤ P
 refine Nat.le_trans ?_ h1
 have hd : ((n.natAbs.gcd d : Nat) : Int) ∣ n:=Int.ofNat_dvd_left.2 (Nat.gcd_dvd_left _ _)
 rw [Int.natAbs_ediv_of_dvd hd]
 exact Nat.div_le_self _ _
theorem akN {a b : Rat} {P Q M N : Nat} (ha : H2 a P N) (hb : H2 b Q M) : H2 (a * b) (P * Q) (N * M):=by
 rw [Rat.mul_def]
 refine Ec _ ?_ (Nat.mul_le_mul ha.2 hb.2)
 rw [Int.natAbs_mul]
 exact Nat.mul_le_mul ha.1 hb.1
theorem aes {a b : Rat} {P Q M N : Nat} (ha : H2 a P N) (hb : H2 b Q M) : H2 (a + b) (P * M + Q * N) (N * M):=by
 rw [Rat.add_def]
 have h1 : (a.num * (b.den : Int)).natAbs ≤ P * M:=by
  rw [Int.natAbs_mul,Int.natAbs_natCast];exact Nat.mul_le_mul ha.1 hb.2
 have h2 : (b.num * (a.den : Int)).natAbs ≤ Q * N:=by
  rw [Int.natAbs_mul,Int.natAbs_natCast];exact Nat.mul_le_mul hb.1 ha.2
 refine Ec _ ?_ (Nat.mul_le_mul ha.2 hb.2)
 have:=Int.natAbs_add_le (a.num * (b.den : Int)) (b.num * (a.den : Int))
 omega
theorem aeu {a : Rat} {P N : Nat} (h : H2 a P N) : H2 (-a) P N:=by
 unfold H2
 rw [Rat.neg_num,Rat.neg_den,Int.natAbs_neg]
 exact h
theorem akO {a b : Rat} {P Q M N : Nat} (ha : H2 a P N) (hb : H2 b Q M) : H2 (a - b) (P * M + Q * N) (N * M):=by
 rw [Rat.sub_eq_add_neg];exact aes ha (aeu hb)
theorem BG {p n : Int} {P N : Nat} (hp : p.natAbs ≤ P) (hn : 1 ≤ n) (h : n ≤ N) : H2 ((p : Rat) / (n : Rat)) P N:=by
 obtain ⟨e,rfl⟩ : ∃ e : Nat,n = (e : Int):=⟨n.toNat,by omega⟩
 rw [← Rat.divInt_eq_div]
 show H2 (mkRat p e) P N
 unfold mkRat
 rw [dif_neg (by omega)]
 exact Ec _ hp (by omega)
theorem IW {n : Int} {P : Nat} (h : n.natAbs ≤ P) : H2 (n : Rat) P 1:=by
 unfold H2
 rw [Rat.num_intCast,Rat.den_intCast]
 exact ⟨h,Nat.le_refl _⟩
theorem Nk {a : Rat} {P N : Nat} (h : H2 a P N) (hP : P < 1000000000 ^ 24) (hN : N < 1000000000 ^ 24) : fits a = true:=by
 unfold fits
 rw [decide_eq_true (Nat.lt_of_le_of_lt h.1 hP),decide_eq_true (Nat.lt_of_le_of_lt h.2 hN)]
 rfl
theorem H2.mono {a : Rat} {P N P' N' : Nat} (h : H2 a P N) (hP : P ≤ P') (hN : N ≤ N') : H2 a P' N':=⟨Nat.le_trans h.1 hP,Nat.le_trans h.2 hN⟩
def Ft (P N : Nat) : Bool:=decide (P < 1000000000 ^ 24) && decide (N < 1000000000 ^ 24)
theorem V5 {P N : Nat} (h : Ft P N = true) : P < 1000000000 ^ 24 ∧ N < 1000000000 ^ 24:=by
 unfold Ft at h
 simp only [Bool.and_eq_true,decide_eq_true_eq] at h
 exact h
structure Rw (r : R) (a : Rat) (P N : Nat) : Prop where
 q : r.q = some a
 h : H2 a P N
theorem Rw.add {r s : R} {a b : Rat} {P Q M N : Nat} (h1 : Rw r a P N) (h2 : Rw s b Q M) (hN : Ft (P * M + Q * N) (N * M) = true:=by decide +kernel) : Rw (dZ r s) (a + b) (P * M + Q * N) (N * M):=by
 have h:=aes h1.h h2.h
 refine ⟨?_,h⟩
 rw [Fz,h1.q,h2.q]
 exact jX (Nk h (V5 hN).1 (V5 hN).2)
theorem Rw.sub {r s : R} {a b : Rat} {P Q M N : Nat} (h1 : Rw r a P N) (h2 : Rw s b Q M) (hN : Ft (P * M + Q * N) (N * M) = true:=by decide +kernel) : Rw (iC r s) (a - b) (P * M + Q * N) (N * M):=by
 have h:=akO h1.h h2.h
 refine ⟨?_,h⟩
 rw [Oj,h1.q,h2.q]
 show norm (a + -b) = _
 rw [← Rat.sub_eq_add_neg]
 exact jX (Nk h (V5 hN).1 (V5 hN).2)
theorem Rw.mul {r s : R} {a b : Rat} {P Q M N : Nat} (h1 : Rw r a P N) (h2 : Rw s b Q M) (hN : Ft (P * Q) (N * M) = true:=by decide +kernel) : Rw (mulR r s) (a * b) (P * Q) (N * M):=by
 have h:=akN h1.h h2.h
 refine ⟨?_,h⟩
 rw [KH,h1.q,h2.q]
 exact jX (Nk h (V5 hN).1 (V5 hN).2)
theorem Rw.aoy {r s : R} {a b c : Rat} {P Q : Nat} (h1 : r.q = some a) (h2 : s.q = some b) (hb : b ≠ 0) (e : a / b = c) (h : H2 c P Q) (hN : Ft P Q = true:=by decide +kernel) : Rw (wI r s) c P Q:=by
 refine ⟨?_,h⟩
 rw [SI,h1,h2]
 show (if b = 0 then none else norm (a / b)) = _
 rw [if_neg hb,e]
 exact jX (Nk h (V5 hN).1 (V5 hN).2)
theorem Rw.neg {r : R} {a : Rat} {P N : Nat} (h : Rw r a P N) (hN : Ft P N = true:=by decide +kernel) : Rw (negR r) (-a) P N:=by
 refine ⟨?_,aeu h.h⟩
 rw [akf,h.q]
 rfl
theorem aev {n : Int} {P : Nat} (h : n.natAbs ≤ P) (hN : P < 1000000000 ^ 24:=by decide +kernel) : Rw (bQ n) (n : Rat) P 1:=⟨FB (Nat.lt_of_le_of_lt h hN),IW h⟩
theorem Rw.ok {r : R} {a : Rat} {P N : Nat} (h : Rw r a P N) : r.ok = true:=by
 rw [zk,h.q];simp
theorem Rw.v {r : R} {a : Rat} {P N : Nat} (h : Rw r a P N) : r.v = a:=R.TK h.q
theorem Rw.mono {r : R} {a : Rat} {P N P' N' : Nat} (h : Rw r a P N) (hP : P ≤ P':=by decide +kernel) (hN : N ≤ N':=by decide +kernel) : Rw r a P' N':=⟨h.q,h.h.mono hP hN⟩
theorem Rw.rv {r : R} {a : Rat} {P N M : Nat} (h : Rw r a P N) (hP : P ≤ M:=by decide +kernel) (hN : N ≤ M:=by decide +kernel) : Rv r a M:=⟨h.q,Nat.le_trans h.h.1 hP,Nat.le_trans h.h.2 hN⟩
theorem Rw.val {r : R} {a b : Rat} {P N : Nat} (h : Rw r a P N) (e : a = b) : Rw r b P N:=e ▸ h
theorem Rw.re {r : R} {a : Rat} {P N P' N' : Nat} (h : Rw r a P N) (k : H2 a P' N') : Rw r a P' N':=⟨h.q,k⟩
theorem Rw.eq {r s : R} {a b : Rat} {P Q M N : Nat} (h1 : Rw r a P N) (h2 : Rw s b Q M) (hr : r.cn) (hs : s.cn) (e : a = b) : r = s:=by
 rw [← hr,← hs,h1.q,h2.q,e]
theorem abd {r : R} {a : Rat} (h : r.q = some a) : norm a = some a:=jX (by have:=Fb r;rw [h] at this;exact this)
def hb (P N : Nat) : Nat → Nat × Nat
 | 0=>(0,1)
 | k + 1=>((hb P N k).1 * N + P * (hb P N k).2,(hb P N k).2 * N)
def hbF (P N K : Nat) : Bool:=(List.range (K + 1)).all fun k=>Ft (hb P N k).1 (hb P N k).2
theorem Ym {P N K k : Nat} (h : hbF P N K = true) (hk : k ≤ K) : Ft (hb P N k).1 (hb P N k).2 = true:=by
 unfold hbF at h
 exact List.all_eq_true.1 h k (List.mem_range.2 (by omega))
theorem Yn {l : Lk} {p q : Pt} {a b w : Rat} {N1 M1 N2 M2 : Nat} (ho : fJ l = true) (hw : Rw l.w w N1 M1) (hx : Rw (iC (iC q.x p.x) l.dx) a N2 M2) (hy : Rw (iC (iC q.y p.y) l.dy) b N2 M2)
  (hN : (Ft (N2 * N2) (M2 * M2) && Ft (N2 * N2 * (M2 * M2) + N2 * N2 * (M2 * M2)) (M2 * M2 * (M2 * M2)) && Ft (N1 * (N2 * N2 * (M2 * M2) + N2 * N2 * (M2 * M2))) (M1 * (M2 * M2 * (M2 * M2)))) = true:=by decide +kernel) :
  Rw (yO l p q) (w * (a * a + b * b)) (N1 * (N2 * N2 * (M2 * M2) + N2 * N2 * (M2 * M2))) (M1 * (M2 * M2 * (M2 * M2))):=by
 simp only [Bool.and_eq_true] at hN
 rw [akG ho]
 exact hw.mul ((hx.mul hx hN.1.1).add (hy.mul hy hN.1.1) hN.1.2) hN.2
theorem aew (f : Lk → Rat) {l : List Lk} {k : Nat} (h : k < l.length) : tot f (l.take (k + 1)) = tot f (l.take k) + f (l.getD k default):=by
 rw [take_snoc h,BF]
 show _ + (f _ + 0) = _
 rw [Rat.add_zero]
theorem Yo {l : List Lk} {at' : List Pt} {g : Lk → Rat} {P N : Nat} (h : ∀ x ∈ l,Rw (yO x (at'.getD x.a.toNat default) (at'.getD x.b.toNat default)) (g x) P N) {K : Nat} (hF : hbF P N K = true) : ∀ k,k ≤ l.length → k ≤ K → Rw (Qj l at' k) (tot g (l.take k)) (hb P N k).1 (hb P N k).2
 |
  0,_,_=>by
  rw [List.take_zero]
  exact ⟨FB (n:=0) (by decide),IW (n:=0) (P:=0) (by decide)⟩
 |
  k + 1,h1,h2=>by
  have ih:=Yo h hF k (by omega) (by omega)
  rw [aew g (by omega)]
  have he:=h _ (getD_mem (l:=l) (i:=k) (by omega))
  exact ih.add he (Ym hF h2)
def O8 (l : List Lk) (a b : Int) : Lk:=if bJ l = true then (ahg l a b).getD Lk0 else Lk0
def Hq (v : Int) (l : Lk) : Option Pa:=if l.a = v then some ⟨l.b,l.w,negR l.dx,negR l.dy⟩ else if l.b = v then some ⟨l.a,l.w,l.dx,l.dy⟩ else none
def CJ (S : List Lk) (v : Int) (k : Nat) : List Pa:=(S.take k).filterMap (Hq v)
def dM (S : List Lk) (v : Int) : List Pa:=CJ S v S.length
theorem akP (S : List Lk) (v : Int) : CJ S v 0 = []:=by simp [CJ]
theorem akQ (S : List Lk) (v : Int) {i : Nat} (h : i < S.length) : CJ S v (i + 1) = CJ S v i ++ (match Hq v (S.getD i default) with | some n=>[n] | none=>[]):=by
 unfold CJ;rw [take_snoc h,List.filterMap_append,List.filterMap_cons]
 cases Hq v (S.getD i default) <;> rfl
theorem aex (S : List Lk) (v : Int) (k : Nat) : (CJ S v k).length ≤ k:=by
 unfold CJ
 exact Nat.le_trans (List.length_filterMap_le _ _) (by simp;omega)
def fH (A : List Pa) : R:=GR A A.length
def zO (t : R) (a : Pa) : Pa:=⟨a.node,wI a.share t,a.dx,a.dy⟩
def bW (v : Int) (A : List Pa) : Cd:=⟨v,fH A,A.map (zO (fH A))⟩
def Bd (t : R) (a b : Pa) : Lk:=⟨a.node,b.node,wI (mulR a.share b.share) t,iC a.dx b.dx,iC a.dy b.dy⟩
def o9 (A : List Pa) (i j : Nat) : List Lk:=((A.drop (i + 1)).take j).map (Bd (fH A) (A.getD i default))
def jW (A : List Pa) : Nat → List Lk
 | 0=>[]
 | i + 1=>jW A i ++ o9 A i (A.length - (i + 1))
def FW (A : List Pa) : List Lk:=jW A A.length
theorem V6 (A : List Pa) : (fH A).cn:=Jz _ _
theorem ZB (t : R) (a b : Pa) : (Bd t a b).w.cn ∧ (Bd t a b).dx.cn ∧ (Bd t a b).dy.cn:=⟨DX _ _,MS _ _,MS _ _⟩
theorem TP (A : List Pa) (i : Nat) : o9 A i 0 = []:=by simp [o9]
theorem ZC (A : List Pa) {i j : Nat} (h : i + 1 + j < A.length) : o9 A i (j + 1) = o9 A i j ++ [Bd (fH A) (A.getD i default) (A.getD (i + 1 + j) default)]:=by
 unfold o9
 rw [List.take_add_one,List.map_append]
 congr 1
 rw [List.getElem?_drop,List.getElem?_eq_getElem (by omega),List.getD_eq_getElem?_getD (i:=i + 1 + j),List.getElem?_eq_getElem (by omega)]
 rfl
theorem Rn (A : List Pa) (i j : Nat) : (o9 A i j).length ≤ j:=by unfold o9;simp;omega
theorem IX (A : List Pa) : ∀ i,(jW A i).length ≤ i * A.length
 | 0=>Nat.zero_le _
 |
  i + 1=>by
  have h1:=IX A i
  have h2:=Rn A i (A.length - (i + 1))
  show (jW A i ++ o9 A i (A.length - (i + 1))).length ≤ (i + 1) * A.length
  rw [List.length_append,Nat.succ_mul];omega
theorem abe {A : List Pa} {i j : Nat} {x : Lk} (h : x ∈ o9 A i j) : ∃ k,i < k ∧ k < A.length ∧ x = Bd (fH A) (A.getD i default) (A.getD k default):=by
 unfold o9 at h
 obtain ⟨b,hb,rfl⟩:=List.mem_map.1 h
 have hb:=List.mem_of_mem_take hb
 obtain ⟨q,hq⟩:=List.mem_iff_getElem?.1 hb
 rw [List.getElem?_drop] at hq
 have hl:=(List.getElem?_eq_some_iff.1 hq).1
 exact ⟨i + 1 + q,by omega,hl,by rw [List.getD_eq_getElem?_getD (i:=i + 1 + q),hq];rfl⟩
theorem IY {A : List Pa} {x : Lk} : ∀ {i : Nat},x ∈ jW A i → ∃ p k,p < i ∧ p < k ∧ k < A.length ∧ x = Bd (fH A) (A.getD p default) (A.getD k default)
 | 0,h=>by cases h
 |
  i + 1,h=>by
  rcases List.mem_append.1 h with h | h
  ·obtain ⟨p,k,h1,h2⟩:=IY h
   exact ⟨p,k,by omega,h2⟩
  ·obtain ⟨k,h1,h2,h3⟩:=abe h
   exact ⟨i,k,by omega,h1,h2,h3⟩
theorem ahH {A : List Pa} : ∀ x ∈ FW A,x.w.cn ∧ x.dx.cn ∧ x.dy.cn:=fun x hx=>by
 obtain ⟨p,k,_,_,_,rfl⟩:=IY hx
 exact ZB _ _ _
def akR (A : List Pa) : Prop:=∀ i j,i < j → j < A.length → (A.getD i default).node < (A.getD j default).node
theorem ZE {A : List Pa} (h : ∀ i,i + 1 < A.length → (A.getD i default).node < (A.getD (i + 1) default).node) : akR A
 | i,0,hij,_=>absurd hij (Nat.not_lt_zero _)
 |
  i,j + 1,hij,hj=>by
  by_cases e : i = j
  ·subst e;exact h i hj
  ·exact Int.lt_trans (ZE h i j (by omega) (by omega)) (h j hj)
theorem zS {v : Int} {A : List Pa} {i : Nat} (h : i < A.length) : (bW v A).ps.getD i default = zO (fH A) (A.getD i default):=by
 show (A.map _).getD i default = _
 rw [List.getD_eq_getElem?_getD,List.getElem?_map,List.getElem?_eq_getElem h,List.getD_eq_getElem?_getD,List.getElem?_eq_getElem h];rfl
theorem akS {v : Int} {A : List Pa} (h : nV (bW v A) = true) : akR A:=by
 have hl : (bW v A).ps.length = A.length:=List.length_map ..
 unfold nV at h
 simp only [Bool.and_eq_true,decide_eq_true_eq] at h
 refine ZE fun i hi=>?_
 have:=h.1.1.1.1 (i + 1) (by rw [hl];exact hi)
 unfold EK at this
 rw [zS hi,Nat.add_sub_cancel,zS (by omega)] at this
 simp only [Bool.and_eq_true,Bool.or_eq_true,decide_eq_true_eq] at this
 rcases this.1.1.1.2 with e | e
 ·omega
 ·exact e
def O9 (S : List Lk) (v : Int) : Bool:=bJ S && inB v 1 9 && nV (bW v (dM S v)) && (FW (dM S v)).all fJ
def Nl (S : List Lk) (v : Int) : Cd:=if O9 S v = true then bW v (dM S v) else ⟨0,R0,[]⟩
def elM (S : List Lk) (v : Int) : List Lk:=if O9 S v = true then FW (dM S v) else []
theorem Pg {S : List Lk} {v : Int} (h : O9 S v = false) : Nl S v = ⟨0,R0,[]⟩ ∧ elM S v = []:=by
 unfold Nl elM;rw [h];exact ⟨rfl,rfl⟩
theorem ahI {S : List Lk} {v : Int} (h : O9 S v = true) : Nl S v = bW v (dM S v) ∧ elM S v = FW (dM S v):=by
 unfold Nl elM;rw [h];exact ⟨rfl,rfl⟩
theorem aey {S : List Lk} (h : bJ S = true) {v : Int} {a : Pa} {k : Nat} (ha : a ∈ CJ S v k) : a.share.ok = true ∧ a.dx.cn ∧ a.dy.cn ∧ 0 ≤ a.node ∧ a.node ≤ 9:=by
 unfold CJ at ha
 obtain ⟨l,hl,e⟩:=List.mem_filterMap.1 ha
 have hk:=qg h (List.mem_of_mem_take hl)
 have h1:=yC hk
 have h2:=sH hk
 unfold Hq at e
 split at e
 ·cases e;exact ⟨h1.1,SK _,SK _,by dsimp only;omega,by dsimp only;omega⟩
 ·split at e
  ·cases e;exact ⟨h1.1,kD h1.2.1,kD h1.2.2.1,by dsimp only;omega,by dsimp only;omega⟩
  ·cases e
def Ro (S : List Lk) (v n : Int) : Pa:=if (O8 S n v).a = v then ⟨n,(O8 S n v).w,negR (O8 S n v).dx,negR (O8 S n v).dy⟩ else ⟨n,(O8 S n v).w,(O8 S n v).dx,(O8 S n v).dy⟩
theorem ahJ {S : List Lk} (h : bJ S = true) {x y : Lk} (hx : x ∈ S) (hy : y ∈ S) (ha : x.a = y.a) (hb : x.b = y.b) : x = y:=by
 have hp:=(lI.1 h).2
 rw [List.pairwise_iff_getElem] at hp
 obtain ⟨i,hi⟩:=List.mem_iff_getElem?.1 hx
 obtain ⟨j,hj⟩:=List.mem_iff_getElem?.1 hy
 obtain ⟨hil,hie⟩:=List.getElem?_eq_some_iff.1 hi
 obtain ⟨hjl,hje⟩:=List.getElem?_eq_some_iff.1 hj
 rcases Nat.lt_trichotomy i j with k | k | k
 ·have:=hp i j hil hjl k
  rw [hie,hje,wO] at this;omega
 ·subst k;rw [← hie,← hje]
 ·have:=hp j i hjl hil k
  rw [hie,hje,wO] at this;omega
theorem ZF {S : List Lk} (h : bJ S = true) {x : Lk} (hx : x ∈ S) {a b : Int} (hp : lkP a b x = true) : ahg S a b = some x:=by
 cases hf : ahg S a b with
 |
  none =>
  have:=List.find?_eq_none.1 hf x hx
  exact absurd hp this
 |
  some y =>
  have hy:=adM hf
  have hq : lkP a b y = true:=List.find?_some hf
  have n1:=sH (qg h hx)
  have n2:=sH (qg h hy)
  unfold lkP at hp hq
  simp only [Bool.or_eq_true,Bool.and_eq_true,decide_eq_true_eq] at hp hq
  rw [ahJ h hy hx (by omega) (by omega)]
theorem V7 {α β : Type} {f g : α → Option β} : ∀ {l : List α},(∀ x ∈ l,f x = g x) → l.filterMap f = l.filterMap g
 | [],_=>rfl
 | x :: l,h=>by rw [List.filterMap_cons,List.filterMap_cons,h x (by simp),V7 fun y hy=>h y (by simp [hy])]
theorem ahK {S : List Lk} (h : bJ S = true) (v : Int) : ((nbI S v S.length).map (Ro S v)) = dM S v:=by
 unfold nbI dM CJ
 rw [List.take_length,List.map_filterMap]
 refine V7 fun l hl=>?_
 have n1:=sH (qg h hl)
 unfold X4 Hq
 by_cases e1 : l.a = v
 ·have hf : O8 S l.b v = l:=by
   unfold O8
   rw [if_pos h,ZF h hl (by unfold lkP;simp only [Bool.or_eq_true,Bool.and_eq_true,decide_eq_true_eq];exact .inr ⟨e1,trivial⟩)];rfl
  rw [if_pos e1,if_pos e1]
  show some (Ro S v l.b) = _
  unfold Ro
  rw [hf,if_pos e1]
 ·rw [if_neg e1,if_neg e1]
  by_cases e2 : l.b = v
  ·have hf : O8 S l.a v = l:=by
    unfold O8
    rw [if_pos h,ZF h hl (by unfold lkP;simp only [Bool.or_eq_true,Bool.and_eq_true,decide_eq_true_eq];exact .inl ⟨trivial,e2⟩)];rfl
   rw [if_pos e2,if_pos e2]
   show some (Ro S v l.a) = _
   unfold Ro
   rw [hf,if_neg e1]
  ·rw [if_neg e2,if_neg e2];rfl
end Go.Ml
end
