/- Contracts of functions. -/
import Derived.Test.YtfkmednjaknmgaaGreatPart3
set_option linter.unusedSimpArgs false
set_option linter.unusedVariables false
set_option maxRecDepth 100000
set_option maxHeartbeats 16000000
section
namespace Go.Ml
def qG:Fn:=⟨2,104,[.cell 4 11 true,.cell 5 3 true,.tmp 6],(.seq (rf 4 [oN 2 (.box (.t 0)),oK 3 1 (.box (.t 1)),oK 4 2 (.alloc I5),oK 5 3 (.alloc uJ),oK 6 4 mF]) (.seq (sr [oN 10 (lT 11 2),oN 11 (cl 83 [10]),oN 12 (nt 11),oW 13 12,oG 13 false 14 (lT 11 3),oG 13 false 15 (cl 83 [14]),oG 13 false 16 (nt 15),oN 17 (.pick (.t 13) (.c (.bool true)) (.t 16)),oW 18 17,oG 18 false 19 (fd 0 2),oG 18 false 20 (lF 1 19),oG 18 false 21 (fd 0 3),oG 18 false 22 (lF 1 21),oG 18 false 23 (bt .neq 20 22),oN 24 (.pick (.t 18) (.c (.bool true)) (.t 23)),oW 25 24,oG 25 false 26 (fd 1 2),oG 25 false 27 (lF 1 26),oG 25 false 28 (fd 1 3),oG 25 false 29 (lF 1 28),oG 25 false 30 (bt .neq 27 29),oN 31 (.pick (.t 25) (.c (.bool true)) (.t 30))] (cd 31 (sr [oN 32 (.build I5 []),oN 33 (.build uJ []),oS (.store 11 (.t 4) (.t 32)),oS (.store 3 (.t 5) (.t 33)),oN 6 mF] .ret) .skip)) (.seq (rf 1 [oK 34 1 (fd 2 2),oK 35 1 (lT 3 34),oK 36 1 (fd 2 3),oK 37 1 (lT 3 36),oK 38 1 (cl 189 [35,37]),oN 7 (.alloc uJ),⟨none,none,1,.store 3 (.t 7) (.t 38),[]⟩]) (.seq (rf 1 [oK 39 1 (fd 0 2),oK 40 1 (lF 1 39),oK 41 1 (fd 1 2),oK 42 1 (lF 1 41),oK 43 1 (lT 3 7),oK 44 1 (.build I5 [(0,1,(.t 40)),(1,1,(.t 42)),(2,3,(.t 43))]),oN 8 (.alloc I5),⟨none,none,1,.store 11 (.t 8) (.t 44),[]⟩]) (.seq (rt 0 [oN 45 (fd 2 2),oA 46 0 (lT 3 45) [0],oN 47 (fd 5 2),oA 48 0 (lT 3 47) [2],oA 49 0 (cl 201 [46,48]) [1,3],oN 50 (fd 2 3),oA 51 0 (lT 3 50) [5],oN 52 (fd 5 3),oA 53 0 (lT 3 52) [7],oA 54 0 (cl 201 [51,53]) [6,8,4],oA 55 0 (cl 189 [49,54]) [4,9,9],oN 56 (lT 3 7),oA 57 0 (cl 200 [55,56]) [10,11,10],oA 58 0 (fd 5 8) [0,1,2,3,4,5,6,7,8,9,10,11,12],⟨none,none,0,.store 3 (.t 58) (.t 57),[13,12,12,0,1,2,3,4,5,6,7,8,9,10,11,12]⟩]) (.seq (rt 0 [oN 59 (fd 2 2),oA 60 0 (lT 3 59) [0],oN 61 (fd 8 2),oA 62 0 (lT 3 61) [2],oA 63 0 (cl 201 [60,62]) [1,3],oN 64 (fd 2 3),oA 65 0 (lT 3 64) [5],oN 66 (fd 8 3),oA 67 0 (lT 3 66) [7],oA 68 0 (cl 201 [65,67]) [6,8,4],oA 69 0 (cl 189 [63,68]) [4,9,9],oN 70 (lT 3 7),oA 71 0 (cl 200 [69,70]) [10,11,10],oA 72 0 (fd 8 8) [0,1,2,3,4,5,6,7,8,9,10,11,12],⟨none,none,0,.store 3 (.t 72) (.t 71),[13,12,12,0,1,2,3,4,5,6,7,8,9,10,11,12]⟩]) (.seq (rt 1 [oK 73 1 (fd 2 2),oA 74 1 (lT 3 73) [0],oK 75 1 (fd 2 3),oA 76 1 (lT 3 75) [2],oA 77 1 (cl 201 [74,76]) [1,3],oK 78 1 (lT 3 7),oA 79 1 (cl 200 [77,78]) [4,5,4],oK 80 1 (fd 5 2),oA 81 1 (lT 3 80) [7],oK 82 1 (fd 5 3),oA 83 1 (lT 3 82) [9],oA 84 1 (cl 203 [81,83]) [8,10,6],oK 85 1 (fd 8 2),oA 86 1 (lT 3 85) [12],oK 87 1 (fd 8 3),oA 88 1 (lT 3 87) [14],oA 89 1 (cl 203 [86,88]) [13,15,11],oA 90 1 (cl 202 [84,89]) [11,16,16],oA 91 1 (cl 201 [79,90]) [6,17,17],oN 9 (.alloc uJ),⟨none,none,1,.store 3 (.t 9) (.t 91),[19,18,18,0,1,2,3,4,5,6,7,8,9,10,11,12,13,14,15,16,17,18,19]⟩]) (.seq (sr [oN 92 (lT 11 8),oN 93 (cl 83 [92]),oN 94 (nt 93),oW 95 94,oG 95 false 96 (lT 3 9),oG 95 false 97 (cl 100 [96]),oG 95 false 98 (nt 97),oN 99 (.pick (.t 95) (.c (.bool true)) (.t 98))] (cd 99 (sr [oN 100 (.build I5 []),oN 101 (.build uJ []),oS (.store 11 (.t 4) (.t 100)),oS (.store 3 (.t 5) (.t 101)),oN 6 mF] .ret) .skip)) (.seq (rt 0 [oN 102 (lT 11 8),oN 103 (lT 3 9),⟨none,none,0,.store 11 (.t 4) (.t 102),[0,0]⟩,⟨none,none,0,.store 3 (.t 5) (.t 103),[1,2,0,1,2]⟩,oA 6 0 mT [3,0,1,2,3]]) .ret)))))))))⟩
structure ER (T:Tb):Prop where
 hT:T 196=some qG
 qR:vT T
 mQ:tK T
 xC:CB T
 Md:LQ T
 tV:Hw T
 UF:EI T
 Rx:LP T
def zV:Fn:=⟨2,91,[.cell 4 11 true,.cell 5 3 true,.tmp 6],(.seq (rf 4 [oN 2 (.box (.t 0)),oK 3 1 (.box (.t 1)),oK 4 2 (.alloc I5),oK 5 3 (.alloc uJ),oK 6 4 mF]) (.seq (rt 2 [oK 12 2 (fd 2 2),oA 13 2 (lT 3 12) [0],oK 14 2 (fd 2 3),oA 15 2 (lT 3 14) [2],oN 7 (.alloc uJ),oK 8 1 (.alloc uJ),⟨none,none,2,.store 3 (.t 7) (.t 13),[4,1,0,1,4,5]⟩,⟨none,none,2,.store 3 (.t 8) (.t 15),[5,3,6,0,1,2,3,4,5,6]⟩]) (.seq (rf 1 [oK 16 1 (lT 3 7),oK 17 1 (lT 3 8),oK 18 1 (cl 131 [16,17]),oN 9 (.alloc uJ),⟨none,none,1,.store 3 (.t 9) (.t 18),[]⟩]) (.seq (rf 1 [oK 19 1 (fd 0 2),oK 20 1 (lF 1 19),oK 21 1 (fd 1 2),oK 22 1 (lF 1 21),oK 23 1 (lT 3 9),oK 24 1 (.build I5 [(0,1,(.t 20)),(1,1,(.t 22)),(2,3,(.t 23))]),oN 10 (.alloc I5),⟨none,none,1,.store 11 (.t 10) (.t 24),[]⟩]) (.seq (rt 0 [oN 25 (lT 3 7),oN 26 (fd 5 2),oA 27 0 (lT 3 26) [1],oA 28 0 (cl 157 [25,27]) [0,2],oN 29 (lT 3 8),oN 30 (fd 5 3),oA 31 0 (lT 3 30) [5],oA 32 0 (cl 157 [29,31]) [4,6,3],oA 33 0 (cl 131 [28,32]) [3,7,7],oN 34 (lT 3 9),oA 35 0 (cl 156 [33,34]) [8,9,8],oA 36 0 (fd 5 10) [0,1,2,3,4,5,6,7,8,9,10],⟨none,none,0,.store 3 (.t 36) (.t 35),[11,10,10,0,1,2,3,4,5,6,7,8,9,10]⟩]) (.seq (rt 0 [oN 37 (lT 3 7),oN 38 (fd 8 2),oA 39 0 (lT 3 38) [1],oA 40 0 (cl 157 [37,39]) [0,2],oN 41 (lT 3 8),oN 42 (fd 8 3),oA 43 0 (lT 3 42) [5],oA 44 0 (cl 157 [41,43]) [4,6,3],oA 45 0 (cl 131 [40,44]) [3,7,7],oN 46 (lT 3 9),oA 47 0 (cl 156 [45,46]) [8,9,8],oA 48 0 (fd 8 10) [0,1,2,3,4,5,6,7,8,9,10],⟨none,none,0,.store 3 (.t 48) (.t 47),[11,10,10,0,1,2,3,4,5,6,7,8,9,10]⟩]) (.seq (rt 1 [oK 49 1 (lT 3 7),oK 50 1 (lT 3 8),oA 51 1 (cl 157 [49,50]) [0,1],oK 52 1 (lT 3 9),oA 53 1 (cl 156 [51,52]) [2,3,2],oK 54 1 (fd 5 2),oA 55 1 (lT 3 54) [5],oK 56 1 (fd 5 3),oA 57 1 (lT 3 56) [7],oA 58 1 (cl 159 [55,57]) [6,8,4],oK 59 1 (fd 8 2),oA 60 1 (lT 3 59) [10],oK 61 1 (fd 8 3),oA 62 1 (lT 3 61) [12],oA 63 1 (cl 159 [60,62]) [11,13,9],oA 64 1 (cl 158 [58,63]) [9,14,14],oA 65 1 (cl 157 [53,64]) [4,15,15],oN 11 (.alloc uJ),⟨none,none,1,.store 3 (.t 11) (.t 65),[17,16,16,0,1,2,3,4,5,6,7,8,9,10,11,12,13,14,15,16,17]⟩]) (.seq (sr [oN 66 (fd 2 10),oN 67 (lT 3 66),oN 68 (cl 132 [67]),oN 69 (nt 68),oW 70 69,oG 70 false 71 (fd 5 10),oG 70 false 72 (lT 3 71),oG 70 false 73 (cl 132 [72]),oG 70 false 74 (nt 73),oN 75 (.pick (.t 70) (.c (.bool true)) (.t 74)),oW 76 75,oG 76 false 77 (fd 8 10),oG 76 false 78 (lT 3 77),oG 76 false 79 (cl 132 [78]),oG 76 false 80 (nt 79),oN 81 (.pick (.t 76) (.c (.bool true)) (.t 80)),oW 82 81,oG 82 false 83 (lT 3 11),oG 82 false 84 (cl 132 [83]),oG 82 false 85 (nt 84),oN 86 (.pick (.t 82) (.c (.bool true)) (.t 85))] (cd 86 (sr [oN 87 (.build I5 []),oN 88 (.build uJ []),oS (.store 11 (.t 4) (.t 87)),oS (.store 3 (.t 5) (.t 88)),oN 6 mF] .ret) .skip)) (.seq (rt 0 [oN 89 (lT 11 10),oN 90 (lT 3 11),⟨none,none,0,.store 11 (.t 4) (.t 89),[0,0]⟩,⟨none,none,0,.store 3 (.t 5) (.t 90),[1,2,0,1,2]⟩,oA 6 0 mT [3,0,1,2,3]]) .ret)))))))))⟩
structure ES (T:Tb):Prop where
 hT:T 140=some zV
 lJ:nM T
 kW:pG T
 uZ:uY T
 l7:qL T
 QY:BK T
 rH:tu T
theorem UG{v w x y:V}{b:Bool}(h:nG v w)(h2:nG x y):nG (.oU [v,x,.bool b]) (.oU [w,y,.bool b]):=by
 simp only [nG,wJ];exact⟨_,rfl,_,_,rfl,h,_,_,rfl,h2,_,_,rfl,rfl,rfl⟩
def rZ(k l:Lk):R:=oC k.w l.w
def IY(k l:Lk):R:=vS (oC (mulR k.w k.dx) (mulR l.w l.dx)) (rZ k l)
def OV(k l:Lk):R:=vS (oC (mulR k.w k.dy) (mulR l.w l.dy)) (rZ k l)
def Ph(k l:Lk):R:=mulR (vS (mulR k.w l.w) (rZ k l)) (sqR (wL k.dx l.dx) (wL k.dy l.dy))
theorem VL(k l:Lk):(rZ k l).cn:=wM _ _
theorem agY(k l:Lk):(IY k l).cn:=N9 _ _
theorem agZ(k l:Lk):(OV k l).cn:=N9 _ _
theorem ag0(k l:Lk):(Ph k l).cn:=Jf _ _
def Ry(k l:Lk):Lk:=⟨k.a,k.b,rZ k l,IY k l,OV k l⟩
def Pj(k l:Lk):Bool:=(rZ k l).ok&&(IY k l).ok&&(OV k l).ok&&(Ph k l).ok
def mgP(k l:Lk):Bool:=ql k&&ql l&&decide (k.a=l.a)&&decide (k.b=l.b)
def Y5(k l:Lk):Bool:=mgP k l&&Pj k l
def ag1(k l:Lk):Lk:=if Y5 k l=true then Ry k l else Lk0
def ag2(k l:Lk):R:=if Y5 k l=true then Ph k l else R0
theorem anj{r s:R}(hr:0<xI r)(hs:0<xI s)(ho:(oC r s).ok=true):0<xI (oC r s):=by
 unfold xI at *;rw [xZ]at ho;rw [SB]at ho ⊢
 cases h1:r.q with
 |none=>rw [h1]at hr;simp [yF]at hr
 |
  some a =>
  cases h2:s.q with
  |none=>rw [h2]at hs;simp [yF]at hs
  |
   some b =>
   simp only [h1,h2]at ho hr hs ⊢;simp only [O8]at ho ⊢;have hf:fits (a+b)=true:=by
    cases hf:fits (a+b)with
    |true=>rfl
    |false=>rw [aaF hf]at ho;exact absurd rfl ho
   rw [zn hf];simp only [yF]at hr hs ⊢;have pos:∀q:Rat,0<sgn q.num↔0<q:=by
    intro q;rw [Rat.lt_iff,show (0:Rat).num=0 from rfl,show (0:Rat).den=1 from rfl,Int.zero_mul,Int.natCast_one,Int.mul_one];unfold sgn;split
    ·constructor<;>intro h<;>omega
    split
    ·constructor<;>intro h<;>omega
    constructor<;>intro h<;>omega
   rw [pos]at hr hs ⊢;have h3:a+0<a+b:=Rat.add_lt_add_left.2 hs;rw [dY]at h3;exact Std.lt_trans hr h3
theorem aeR{k l:Lk}(h:mgP k l=true):ql (Ry k l)=((rZ k l).ok&&(IY k l).ok&&(OV k l).ok):=by
 unfold mgP at h;simp only [aH,aZ]at h;obtain⟨⟨⟨h1,h2⟩,_⟩,_⟩:=h;have p1:=(Bo h1).2.2.2;have p2:=(Bo h2).2.2.2;have h1':=h1;unfold ql at h1';simp only [aH]at h1';unfold ql Ry;rw [h1'.1.1.1.1.1,h1'.1.1.1.1.2,h1'.1.1.1.2]
 cases hw:(rZ k l).ok with
 |
  false =>
  have:¬0<yF (rZ k l).q:=by rw [Bg.1 hw];simp [yF]
  simp [this]
 |
  true =>
  have:0<yF (rZ k l).q:=anj p1 p2 hw;simp [this]
theorem Z8{T:Tb}(h:ER T){k l:Lk}(hk:k.wf:=by exact wfA)(hl:l.wf:=by exact wfA):PF T 196 [Wu k,Wu l] (.oU [Wu (ag1 k l),lD (ag2 k l),.bool (Y5 k l)]):=by
 have ck:=Au h.qR hk;have cl:=Au h.qR hl;have bad:mgP k l=false->nG (.oU [Wu (ag1 k l),lD (ag2 k l),.bool (Y5 k l)]) (.oU [.agg [iv 0,iv 0,.bool false,.kC,.kC,.bool false,.kC,.kC,.bool false,.kC,.kC],.agg [.bool false,.kC,.kC],.bool false]):=by
  intro hp;unfold ag1 ag2 Y5;rw [hp];exact UG LZ sU
 cases h1:ql k
 ·have hp:=bad (by unfold mgP;rw [h1];rfl);rw [h1]at ck;clear bad;refine kX nR h.hT ?_;simp only [qG,Lz];refine ev ?_;refine jK ck ?_;refine ev ?_;exact hp
 rw [h1]at ck
 cases h2:ql l
 ·have hp:=bad (by unfold mgP;rw [h1,h2];rfl);rw [h2]at cl;clear bad;refine kX nR h.hT ?_;simp only [qG,Lz];refine ev ?_;refine jK ck ?_;refine ev ?_;refine jK cl ?_;refine ev ?_;exact hp
 rw [h2]at cl;by_cases h3:k.a=l.a
 case neg =>
  have hp:=bad (by unfold mgP;rw [h1,h2,bH h3];rfl);clear bad;refine kX nR h.hT ?_;simp only [qG,Lz];refine ev ?_;refine jK ck ?_;refine ev ?_;refine jK cl ?_;refine ev1 @h3 ?_;exact hp
 by_cases h4:k.b=l.b
 case neg =>
  have hp:=bad (by unfold mgP;rw [h1,h2,aT h3,bH h4];rfl);have h3':(k.a=l.a)=True:=iy h3;clear bad;refine kX nR h.hT ?_;simp only [qG,Lz];refine ev ?_;refine jK ck ?_;refine ev ?_;refine jK cl ?_;refine xP @h3' @h4 ?_;exact hp
 have hp:mgP k l=true:=by unfold mgP;rw [h1,h2,aT h3,aT h4];rfl
 have hv:=aeR hp;have h3':(k.a=l.a)=True:=iy h3;have h4':(k.b=l.b)=True:=iy h4;clear bad;obtain⟨k1,k2,k3⟩:=hk;obtain⟨l1,l2,l3⟩:=hl;have e1:ag1 k l=if Pj k l=true then Ry k l else Lk0:=by unfold ag1 Y5;rw [hp,cZ]
 have e2:ag2 k l=if Pj k l=true then Ph k l else R0:=by unfold ag2 Y5;rw [hp,cZ]
 have e3:Y5 k l=Pj k l:=by unfold Y5;rw [hp,cZ]
 rw [e1,e2,e3];clear e1 e2 e3;have cv:=Au h.qR (l:=Ry k l) ⟨uy (VL _ _),uy (agY _ _),uy (agZ _ _)⟩;have co:=xY h.mQ (r:=Ph k l) (uy (ag0 _ _));rw [hv]at cv;refine kX nR h.hT ?_;simp only [qG,Lz];refine ev ?_;refine jK ck ?_;refine ev ?_;refine jK cl ?_;refine xP @h3' @h4' ?_;refine jK (Nk h.xC k1 l1) ?_;refine ev ?_;refine jK (DY h.tV k1 k2) ?_;refine ev ?_;refine jK (DY h.tV l1 l2) ?_;refine ev ?_;refine jK (Nk h.xC wfA wfA) ?_;refine ev ?_;refine jK (VB h.Md wfA wfA) ?_;refine ev ?_;refine⟨by unfold sF;decide +kernel,?_⟩;refine ev ?_;refine jK (DY h.tV k1 k3) ?_;refine ev ?_;refine jK (DY h.tV l1 l3) ?_;refine ev ?_;refine jK (Nk h.xC wfA wfA) ?_;refine ev ?_;refine jK (VB h.Md wfA wfA) ?_;refine ev ?_;refine⟨by unfold sF;decide +kernel,?_⟩;refine ev ?_;refine jK (DY h.tV k1 l1) ?_;refine ev ?_;refine jK (VB h.Md wfA wfA) ?_;refine ev ?_;refine jK (aaT h.Rx k2 l2) ?_;refine ev ?_;refine jK (aaT h.Rx k3 l3) ?_;refine ev ?_;refine jK (acf h.UF wfA wfA) ?_;refine ev ?_;refine jK (DY h.tV wfA (uy (amT _ _))) ?_;refine ev ?_;refine⟨by unfold sF;decide +kernel,?_⟩;refine ev ?_;have hG:Pj k l=(((rZ k l).ok&&(IY k l).ok&&(OV k l).ok)&&(Ph k l).ok):=rfl;rw [hG];clear hG
 cases hg:((rZ k l).ok&&(IY k l).ok&&(OV k l).ok)
 ·rw [hg]at cv;refine jK cv ?_;refine ev ?_;exact UG LZ sU
 rw [hg]at cv;refine jK cv ?_;refine ev ?_
 cases hE:(Ph k l).ok
 ·rw [hE]at co;refine jK co ?_;refine ev ?_;exact UG LZ sU
 rw [hE]at co;refine jK co ?_;refine ev ?_;refine⟨by unfold sF;decide +kernel,?_⟩;refine ev ?_;exact kR _
theorem XC{σ:Store}:Fin σ (.oU [.agg [iv 0,iv 0,.bool false,.kC,.kC,.bool false,.kC,.kC,.bool false,.kC,.kC],.agg [.bool false,.kC,.kC],.bool false]) (.oU [Wu Lk0,lD R0,.bool false]) :=
 ⟨.oU [Wu Lk0,lD R0,.bool false],[],UG LZ sU,I7 (qQ (o1:=[]) (ru (KI (KI (qV (qQ (o1:=[]) nP (qQ (o1:=[]) nP (qV (qQ (o1:=[]) nP (qQ (o1:=[]) nP (qV (qQ (o1:=[]) nP (qQ (o1:=[]) nP qm))))))))))))
  (qQ (o1:=[]) (ru (qV (qQ (o1:=[]) nP (qQ (o1:=[]) nP qm)))) (qV qm))),.nil⟩
theorem Rz{T:Tb}(h:ES T){k l:Lk}(hk:k.w.cn/\k.dx.cn/\k.dy.cn)(hl:l.w.cn/\l.dx.cn/\l.dy.cn):PO T 140 [Wu k,Wu l] (.oU [Wu (if Pj k l=true then Ry k l else Lk0),lD (if Pj k l=true then Ph k l else R0),.bool (Pj k l)]):=by
 obtain⟨k1,k2,k3⟩:=hk;obtain⟨l1,l2,l3⟩:=hl;refine mM (fun x d=>(x == 131&&d == 18)||(x == 156&&d == 35)||(x == 156&&d == 47)||(x == 156&&d == 53)||(x == 157&&d == 65)) h.hT ?_;simp only [zV,Lz,St.enter,au,aG,aX];refine ew ?_;refine⟨by unfold sF;decide +kernel,?_⟩;refine ew ?_;refine nH (show PO T 131 [lD k.w,lD l.w] (lD (rZ k l))from yT h.lJ k1 l1) (by (refine ew ?_;try with_reducible exact aC)) ?_;intro r q1 o1 G;have hO:=G.ow;have gn:=G.nd;have gf:=G.fresh;have go:=G.old;have gl:=G.len;clear G;obtain⟨_,rfl,Rt⟩:=hO.lU;obtain⟨x1,x2,rfl⟩:=Rt.rat
 have E:Ep [some ⟨11,[[iv k.a,iv k.b,.bool k.w.neg,ints k.w.mag,ints k.w.den,.bool k.dx.neg,ints k.dx.mag,ints k.dx.den,.bool k.dy.neg,ints k.dy.mag,ints k.dy.den]]⟩,some ⟨11,[[iv l.a,iv l.b,.bool l.w.neg,ints l.w.mag,ints l.w.den,.bool l.dx.neg,ints l.dx.mag,ints l.dx.den,.bool l.dy.neg,ints l.dy.mag,ints l.dy.den]]⟩,some ⟨11,[[iv 0,iv 0,.bool false,.kC,.kC,.bool false,.kC,.kC,.bool false,.kC,.kC]]⟩,some ⟨3,[[.bool false,.kC,.kC]]⟩,some ⟨3,[[.bool k.w.neg,ints k.w.mag,ints k.w.den]]⟩,some ⟨3,[[.bool l.w.neg,ints l.w.mag,ints l.w.den]]⟩] [] [] [] [(0,⟨11,[[iv k.a,iv k.b,.bool k.w.neg,ints k.w.mag,ints k.w.den,.bool k.dx.neg,ints k.dx.mag,ints k.dx.den,.bool k.dy.neg,ints k.dy.mag,ints k.dy.den]]⟩),(1,⟨11,[[iv l.a,iv l.b,.bool l.w.neg,ints l.w.mag,ints l.w.den,.bool l.dx.neg,ints l.dx.mag,ints l.dx.den,.bool l.dy.neg,ints l.dy.mag,ints l.dy.den]]⟩),(2,⟨11,[[iv 0,iv 0,.bool false,.kC,.kC,.bool false,.kC,.kC,.bool false,.kC,.kC]]⟩),(3,⟨3,[[.bool false,.kC,.kC]]⟩),(4,⟨3,[[.bool k.w.neg,ints k.w.mag,ints k.w.den]]⟩),(5,⟨3,[[.bool l.w.neg,ints l.w.mag,ints l.w.den]]⟩)]:=⟨Sl,by simp [jQ]⟩
 have E2:=E.got (s1:=[some ⟨11,[[iv k.a,iv k.b,.bool k.w.neg,ints k.w.mag,ints k.w.den,.bool k.dx.neg,ints k.dx.mag,ints k.dx.den,.bool k.dy.neg,ints k.dy.mag,ints k.dy.den]]⟩,some ⟨11,[[iv l.a,iv l.b,.bool l.w.neg,ints l.w.mag,ints l.w.den,.bool l.dx.neg,ints l.dx.mag,ints l.dx.den,.bool l.dy.neg,ints l.dy.mag,ints l.dy.den]]⟩,some ⟨11,[[iv 0,iv 0,.bool false,.kC,.kC,.bool false,.kC,.kC,.bool false,.kC,.kC]]⟩,some ⟨3,[[.bool false,.kC,.kC]]⟩,some ⟨3,[[.bool k.w.neg,ints k.w.mag,ints k.w.den]]⟩,some ⟨3,[[.bool l.w.neg,ints l.w.mag,ints l.w.den]]⟩]++[none]) (fun q hq=>by first|exact nX hq|(simp only [cO];exact nX hq)) (by simp) (Rt) (by simpa using gn) (by simpa using gf) (by simpa using go);have F0:=E.free (s1:=[some ⟨11,[[iv k.a,iv k.b,.bool k.w.neg,ints k.w.mag,ints k.w.den,.bool k.dx.neg,ints k.dx.mag,ints k.dx.den,.bool k.dy.neg,ints k.dy.mag,ints k.dy.den]]⟩,some ⟨11,[[iv l.a,iv l.b,.bool l.w.neg,ints l.w.mag,ints l.w.den,.bool l.dx.neg,ints l.dx.mag,ints l.dx.den,.bool l.dy.neg,ints l.dy.mag,ints l.dy.den]]⟩,some ⟨11,[[iv 0,iv 0,.bool false,.kC,.kC,.bool false,.kC,.kC,.bool false,.kC,.kC]]⟩,some ⟨3,[[.bool false,.kC,.kC]]⟩,some ⟨3,[[.bool k.w.neg,ints k.w.mag,ints k.w.den]]⟩,some ⟨3,[[.bool l.w.neg,ints l.w.mag,ints l.w.den]]⟩]++[none]) (p:=6) (by simpa using gf) (by simp) (by simp);have hq:7<=q1.length:=by simpa using gl
 clear E gn gf go gl;have E:Ep q1 [.bool (rZ k l).neg,x1,x2] [.bool (rZ k l).neg,ints (rZ k l).mag,ints (rZ k l).den] _ [(0,⟨11,[[iv k.a,iv k.b,.bool k.w.neg,ints k.w.mag,ints k.w.den,.bool k.dx.neg,ints k.dx.mag,ints k.dx.den,.bool k.dy.neg,ints k.dy.mag,ints k.dy.den]]⟩),(1,⟨11,[[iv l.a,iv l.b,.bool l.w.neg,ints l.w.mag,ints l.w.den,.bool l.dx.neg,ints l.dx.mag,ints l.dx.den,.bool l.dy.neg,ints l.dy.mag,ints l.dy.den]]⟩),(2,⟨11,[[iv 0,iv 0,.bool false,.kC,.kC,.bool false,.kC,.kC,.bool false,.kC,.kC]]⟩),(3,⟨3,[[.bool false,.kC,.kC]]⟩),(4,⟨3,[[.bool k.w.neg,ints k.w.mag,ints k.w.den]]⟩),(5,⟨3,[[.bool l.w.neg,ints l.w.mag,ints l.w.den]]⟩)]:=E2;clear E2
 replace E:=E.JG (p:=6) (ob:=⟨3,[[.bool (rZ k l).neg,x1,x2]]⟩) (L':=[(0,⟨11,[[iv k.a,iv k.b,.bool k.w.neg,ints k.w.mag,ints k.w.den,.bool k.dx.neg,ints k.dx.mag,ints k.dx.den,.bool k.dy.neg,ints k.dy.mag,ints k.dy.den]]⟩),(1,⟨11,[[iv l.a,iv l.b,.bool l.w.neg,ints l.w.mag,ints l.w.den,.bool l.dx.neg,ints l.dx.mag,ints l.dx.den,.bool l.dy.neg,ints l.dy.mag,ints l.dy.den]]⟩),(2,⟨11,[[iv 0,iv 0,.bool false,.kC,.kC,.bool false,.kC,.kC,.bool false,.kC,.kC]]⟩),(3,⟨3,[[.bool false,.kC,.kC]]⟩),(4,⟨3,[[.bool k.w.neg,ints k.w.mag,ints k.w.den]]⟩),(5,⟨3,[[.bool l.w.neg,ints l.w.mag,ints l.w.den]]⟩),(6,⟨3,[[.bool (rZ k l).neg,x1,x2]]⟩)]) F0 (by omega) (by simp)
 have R:=ah (E.res1 1 rfl rfl (kM _ _)) (ah (fun x=>(E.snoc (x:=x)).res1 1 rfl rfl (kM _ _)) (ah (E.res1 2 rfl rfl (kM _ _)) (fun x=>(E.snoc (x:=x)).res1 2 rfl rfl (kM _ _))));have LF:=ah (E.leaf 1 rfl rfl) (E.leaf 2 rfl rfl);have LO:=ah (E.at0 (p:=0) (ob:=⟨11,[[iv k.a,iv k.b,.bool k.w.neg,ints k.w.mag,ints k.w.den,.bool k.dx.neg,ints k.dx.mag,ints k.dx.den,.bool k.dy.neg,ints k.dy.mag,ints k.dy.den]]⟩) (by simp)) (ah (E.at0 (p:=1) (ob:=⟨11,[[iv l.a,iv l.b,.bool l.w.neg,ints l.w.mag,ints l.w.den,.bool l.dx.neg,ints l.dx.mag,ints l.dx.den,.bool l.dy.neg,ints l.dy.mag,ints l.dy.den]]⟩) (by simp)) (ah (E.at0 (p:=2) (ob:=⟨11,[[iv 0,iv 0,.bool false,.kC,.kC,.bool false,.kC,.kC,.bool false,.kC,.kC]]⟩) (by simp)) (ah (E.at0 (p:=3) (ob:=⟨3,[[.bool false,.kC,.kC]]⟩) (by simp)) (ah (E.at0 (p:=4) (ob:=⟨3,[[.bool k.w.neg,ints k.w.mag,ints k.w.den]]⟩) (by simp)) (ah (E.at0 (p:=5) (ob:=⟨3,[[.bool l.w.neg,ints l.w.mag,ints l.w.den]]⟩) (by simp)) (E.at0 (p:=6) (ob:=⟨3,[[.bool (rZ k l).neg,x1,x2]]⟩) (by simp)))))));refine D5 @R @LF @LO @kQ @lI @List.set_set.{0} ?_;obtain⟨s1,hs⟩:∃s,(q1.set 6 (some ⟨3,[[.bool (rZ k l).neg,x1,x2]]⟩))=s:=⟨_,rfl⟩;have hls:q1.length=s1.length:=by rw [<-hs];simp
 simp only [hs]at *;clear hs;simp only [hls]at *;clear hls R LF LO;have R:=ah (E.res1 1 rfl rfl (kM _ _)) (ah (fun x=>(E.snoc (x:=x)).res1 1 rfl rfl (kM _ _)) (ah (E.res1 2 rfl rfl (kM _ _)) (fun x=>(E.snoc (x:=x)).res1 2 rfl rfl (kM _ _))));have LF:=ah (E.leaf 1 rfl rfl) (E.leaf 2 rfl rfl);have LO:=ah (E.at0 (p:=0) (ob:=⟨11,[[iv k.a,iv k.b,.bool k.w.neg,ints k.w.mag,ints k.w.den,.bool k.dx.neg,ints k.dx.mag,ints k.dx.den,.bool k.dy.neg,ints k.dy.mag,ints k.dy.den]]⟩) (by simp)) (ah (E.at0 (p:=1) (ob:=⟨11,[[iv l.a,iv l.b,.bool l.w.neg,ints l.w.mag,ints l.w.den,.bool l.dx.neg,ints l.dx.mag,ints l.dx.den,.bool l.dy.neg,ints l.dy.mag,ints l.dy.den]]⟩) (by simp)) (ah (E.at0 (p:=2) (ob:=⟨11,[[iv 0,iv 0,.bool false,.kC,.kC,.bool false,.kC,.kC,.bool false,.kC,.kC]]⟩) (by simp)) (ah (E.at0 (p:=3) (ob:=⟨3,[[.bool false,.kC,.kC]]⟩) (by simp)) (ah (E.at0 (p:=4) (ob:=⟨3,[[.bool k.w.neg,ints k.w.mag,ints k.w.den]]⟩) (by simp)) (ah (E.at0 (p:=5) (ob:=⟨3,[[.bool l.w.neg,ints l.w.mag,ints l.w.den]]⟩) (by simp)) (E.at0 (p:=6) (ob:=⟨3,[[.bool (rZ k l).neg,x1,x2]]⟩) (by simp)))))));refine D5 @R @LF @LO @kQ @lI @List.set_set.{0} ?_;have E2:=E.push (ob:=⟨11,[[.int .i64 k.a,.int .i64 k.b,.bool (rZ k l).neg,x1,x2,.bool false,.kC,.kC,.bool false,.kC,.kC]]⟩);clear E
 have E:Ep ((s1++[none]).set s1.length (some ⟨11,[[.int .i64 k.a,.int .i64 k.b,.bool (rZ k l).neg,x1,x2,.bool false,.kC,.kC,.bool false,.kC,.kC]]⟩)) [.bool (rZ k l).neg,x1,x2] [.bool (rZ k l).neg,ints (rZ k l).mag,ints (rZ k l).den] ([]++o1) [(0,⟨11,[[iv k.a,iv k.b,.bool k.w.neg,ints k.w.mag,ints k.w.den,.bool k.dx.neg,ints k.dx.mag,ints k.dx.den,.bool k.dy.neg,ints k.dy.mag,ints k.dy.den]]⟩),(1,⟨11,[[iv l.a,iv l.b,.bool l.w.neg,ints l.w.mag,ints l.w.den,.bool l.dx.neg,ints l.dx.mag,ints l.dx.den,.bool l.dy.neg,ints l.dy.mag,ints l.dy.den]]⟩),(2,⟨11,[[iv 0,iv 0,.bool false,.kC,.kC,.bool false,.kC,.kC,.bool false,.kC,.kC]]⟩),(3,⟨3,[[.bool false,.kC,.kC]]⟩),(4,⟨3,[[.bool k.w.neg,ints k.w.mag,ints k.w.den]]⟩),(5,⟨3,[[.bool l.w.neg,ints l.w.mag,ints l.w.den]]⟩),(6,⟨3,[[.bool (rZ k l).neg,x1,x2]]⟩),(s1.length,⟨11,[[.int .i64 k.a,.int .i64 k.b,.bool (rZ k l).neg,x1,x2,.bool false,.kC,.kC,.bool false,.kC,.kC]]⟩)]:=by rw [Yt];exact E2
 clear E2 R LF LO;obtain⟨p10,hp⟩:∃p,s1.length=p:=⟨_,rfl⟩;obtain⟨s2,hs⟩:∃s,((s1++[none]).set s1.length (some ⟨11,[[.int .i64 k.a,.int .i64 k.b,.bool (rZ k l).neg,x1,x2,.bool false,.kC,.kC,.bool false,.kC,.kC]]⟩))=s:=⟨_,rfl⟩;have hls:s2.length=p10+1:=by rw [<-hs,<-hp];simp
 simp only [hs]at *;clear hs;simp only [hp]at *;clear hp;have R:=ah (E.res1 1 rfl rfl (kM _ _)) (ah (fun x=>(E.snoc (x:=x)).res1 1 rfl rfl (kM _ _)) (ah (E.res1 2 rfl rfl (kM _ _)) (fun x=>(E.snoc (x:=x)).res1 2 rfl rfl (kM _ _))));have LF:=ah (E.leaf 1 rfl rfl) (E.leaf 2 rfl rfl);have LO:=ah (E.at0 (p:=0) (ob:=⟨11,[[iv k.a,iv k.b,.bool k.w.neg,ints k.w.mag,ints k.w.den,.bool k.dx.neg,ints k.dx.mag,ints k.dx.den,.bool k.dy.neg,ints k.dy.mag,ints k.dy.den]]⟩) (by simp)) (ah (E.at0 (p:=1) (ob:=⟨11,[[iv l.a,iv l.b,.bool l.w.neg,ints l.w.mag,ints l.w.den,.bool l.dx.neg,ints l.dx.mag,ints l.dx.den,.bool l.dy.neg,ints l.dy.mag,ints l.dy.den]]⟩) (by simp)) (ah (E.at0 (p:=2) (ob:=⟨11,[[iv 0,iv 0,.bool false,.kC,.kC,.bool false,.kC,.kC,.bool false,.kC,.kC]]⟩) (by simp)) (ah (E.at0 (p:=3) (ob:=⟨3,[[.bool false,.kC,.kC]]⟩) (by simp)) (ah (E.at0 (p:=4) (ob:=⟨3,[[.bool k.w.neg,ints k.w.mag,ints k.w.den]]⟩) (by simp)) (ah (E.at0 (p:=5) (ob:=⟨3,[[.bool l.w.neg,ints l.w.mag,ints l.w.den]]⟩) (by simp)) (ah (E.at0 (p:=6) (ob:=⟨3,[[.bool (rZ k l).neg,x1,x2]]⟩) (by simp)) (E.at0 (p:=p10) (ob:=⟨11,[[.int .i64 k.a,.int .i64 k.b,.bool (rZ k l).neg,x1,x2,.bool false,.kC,.kC,.bool false,.kC,.kC]]⟩) (by simp))))))));refine jK (uz h.l7 k1 k2) ?_;refine D5 @R @LF @LO @kQ @lI @List.set_set.{0} ?_;refine jK (uz h.l7 l1 l2) ?_;refine D5 @R @LF @LO @kQ @lI @List.set_set.{0} ?_;refine jK (DZ h.lJ Rl Rl) ?_;refine D5 @R @LF @LO @kQ @lI @List.set_set.{0} ?_
 refine vk (fun o=>o∈([]++o1)) (show PO T 156 [lD (oC (mulR k.w k.dx) (mulR l.w l.dx)),lD (rZ k l)] (lD (IY k l))from Oh h.uZ Rl (VL k l)) (by (refine D5 @R @LF @LO @kQ @lI @List.set_set.{0} ?_;try with_reducible exact aC)) ?_ ?_
 ·intro o ho;have ho:o∈reach s2 FD (lD (oC (mulR k.w k.dx) (mulR l.w l.dx)))++(reach s2 (11+1) (.agg [.bool (rZ k l).neg,x1,x2])++[]):=ho;rw [show reach s2 FD (lD (oC (mulR k.w k.dx) (mulR l.w l.dx)))=[]from by (refine ew ?_;try with_reducible exact aC),iU,aU]at ho;obtain⟨c,hc,ho⟩:=xR.1 ho;rcases aI.1 hc with e|hc
  ·rw [e]at ho;simp [reach]at ho
  rcases aI.1 hc with e|hc
  ·rw [e]at ho;exact E.reach 1 rfl rfl _ o ho
  rw [aW.1 hc]at ho;exact E.reach 2 rfl rfl _ o ho
 intro Rr r q3 o3 hRr G;have hO:=G.ow;have gn:=G.nd;have gf:=G.fresh;have go:=G.old;have gl:=G.len;clear G;obtain⟨_,rfl,hQ3⟩:=hO.lU;obtain⟨x3,x4,rfl⟩:=hQ3.rat
 have E2:=E.got (s1:=s2) (fun q hq=>rfl) (aJ _) hQ3 gn gf go;have F:p10∉([]++o1)++o3:=by
  intro hm;rcases aK.1 hm with hm|hm
  ·exact(E.l (p10,⟨11,[[.int .i64 k.a,.int .i64 k.b,.bool (rZ k l).neg,x1,x2,.bool false,.kC,.kC,.bool false,.kC,.kC]]⟩) (by simp)).2 hm
  have:=gf _ hm;omega
 have hq3:p10+1<=q3.length:=by omega
 have hRn:∀o∈Rr,o≠p10:=fun o ho e=>(E.l (p10,⟨11,[[.int .i64 k.a,.int .i64 k.b,.bool (rZ k l).neg,x1,x2,.bool false,.kC,.kC,.bool false,.kC,.kC]]⟩) (by simp)).2 (e▸hRr o ho);clear E gn gf go gl hO R LF LO hRr;have E:Ep q3 [.bool (rZ k l).neg,x1,x2,.bool (IY k l).neg,x3,x4] [.bool (rZ k l).neg,ints (rZ k l).mag,ints (rZ k l).den,.bool (IY k l).neg,ints (IY k l).mag,ints (IY k l).den] (([]++o1)++o3) [(0,⟨11,[[iv k.a,iv k.b,.bool k.w.neg,ints k.w.mag,ints k.w.den,.bool k.dx.neg,ints k.dx.mag,ints k.dx.den,.bool k.dy.neg,ints k.dy.mag,ints k.dy.den]]⟩),(1,⟨11,[[iv l.a,iv l.b,.bool l.w.neg,ints l.w.mag,ints l.w.den,.bool l.dx.neg,ints l.dx.mag,ints l.dx.den,.bool l.dy.neg,ints l.dy.mag,ints l.dy.den]]⟩),(2,⟨11,[[iv 0,iv 0,.bool false,.kC,.kC,.bool false,.kC,.kC,.bool false,.kC,.kC]]⟩),(3,⟨3,[[.bool false,.kC,.kC]]⟩),(4,⟨3,[[.bool k.w.neg,ints k.w.mag,ints k.w.den]]⟩),(5,⟨3,[[.bool l.w.neg,ints l.w.mag,ints l.w.den]]⟩),(6,⟨3,[[.bool (rZ k l).neg,x1,x2]]⟩),(p10,⟨11,[[.int .i64 k.a,.int .i64 k.b,.bool (rZ k l).neg,x1,x2,.bool false,.kC,.kC,.bool false,.kC,.kC]]⟩)]:=E2;clear E2;have R:=ah (E.res1 1 rfl rfl (kM _ _)) (ah (fun x=>(E.snoc (x:=x)).res1 1 rfl rfl (kM _ _)) (ah (E.res1 2 rfl rfl (kM _ _)) (ah (fun x=>(E.snoc (x:=x)).res1 2 rfl rfl (kM _ _)) (ah (E.res1 4 rfl rfl (kM _ _)) (ah (fun x=>(E.snoc (x:=x)).res1 4 rfl rfl (kM _ _)) (ah (E.res1 5 rfl rfl (kM _ _)) (fun x=>(E.snoc (x:=x)).res1 5 rfl rfl (kM _ _))))))))
 have LF:=ah (E.leaf 1 rfl rfl) (ah (E.leaf 2 rfl rfl) (ah (E.leaf 4 rfl rfl) (E.leaf 5 rfl rfl)));have LO:=ah (E.at0 (p:=0) (ob:=⟨11,[[iv k.a,iv k.b,.bool k.w.neg,ints k.w.mag,ints k.w.den,.bool k.dx.neg,ints k.dx.mag,ints k.dx.den,.bool k.dy.neg,ints k.dy.mag,ints k.dy.den]]⟩) (by simp)) (ah (E.at0 (p:=1) (ob:=⟨11,[[iv l.a,iv l.b,.bool l.w.neg,ints l.w.mag,ints l.w.den,.bool l.dx.neg,ints l.dx.mag,ints l.dx.den,.bool l.dy.neg,ints l.dy.mag,ints l.dy.den]]⟩) (by simp)) (ah (E.at0 (p:=2) (ob:=⟨11,[[iv 0,iv 0,.bool false,.kC,.kC,.bool false,.kC,.kC,.bool false,.kC,.kC]]⟩) (by simp)) (ah (E.at0 (p:=3) (ob:=⟨3,[[.bool false,.kC,.kC]]⟩) (by simp)) (ah (E.at0 (p:=4) (ob:=⟨3,[[.bool k.w.neg,ints k.w.mag,ints k.w.den]]⟩) (by simp)) (ah (E.at0 (p:=5) (ob:=⟨3,[[.bool l.w.neg,ints l.w.mag,ints l.w.den]]⟩) (by simp)) (ah (E.at0 (p:=6) (ob:=⟨3,[[.bool (rZ k l).neg,x1,x2]]⟩) (by simp)) (E.at0 (p:=p10) (ob:=⟨11,[[.int .i64 k.a,.int .i64 k.b,.bool (rZ k l).neg,x1,x2,.bool false,.kC,.kC,.bool false,.kC,.kC]]⟩) (by simp))))))));refine D5 @R @LF @LO @kQ @lI @List.set_set.{0} ?_;refine⟨?_,?_⟩
 ·revert Rr
  refine F6 _ (fun R=>∀o∈R,o≠p10) 2 10 rfl (fun _=>rfl) ?_ ?_
  ·intro R hR b hb w hw hm;simp only [aI,bY,or_false]at hb;rcases hb with rfl|rfl|rfl|rfl|rfl|rfl|rfl|rfl|rfl|rfl|rfl|rfl|rfl
   all_goals first|(cases hw;done)|(rw [aW.1 hw]at hm;exact hR _ hm rfl)
  have hn0:7<=p10:=hq;generalize p10=m at hn0 ⊢
  revert m
  refine y7 _ _ 7 (fun n hn=>?_) (fun n hn=>?_) ?_
  ·simp only [sh];split<;>omega
  ·simp [Yy,sh];try omega
  unfold sF;decide +kernel
 clear hRn Rr
 replace E:=E.JG (p:=p10) (ob:=⟨11,[[.int .i64 k.a,.int .i64 k.b,.bool (rZ k l).neg,x1,x2,.bool (IY k l).neg,x3,x4,.bool false,.kC,.kC]]⟩) (L':=[(0,⟨11,[[iv k.a,iv k.b,.bool k.w.neg,ints k.w.mag,ints k.w.den,.bool k.dx.neg,ints k.dx.mag,ints k.dx.den,.bool k.dy.neg,ints k.dy.mag,ints k.dy.den]]⟩),(1,⟨11,[[iv l.a,iv l.b,.bool l.w.neg,ints l.w.mag,ints l.w.den,.bool l.dx.neg,ints l.dx.mag,ints l.dx.den,.bool l.dy.neg,ints l.dy.mag,ints l.dy.den]]⟩),(2,⟨11,[[iv 0,iv 0,.bool false,.kC,.kC,.bool false,.kC,.kC,.bool false,.kC,.kC]]⟩),(3,⟨3,[[.bool false,.kC,.kC]]⟩),(4,⟨3,[[.bool k.w.neg,ints k.w.mag,ints k.w.den]]⟩),(5,⟨3,[[.bool l.w.neg,ints l.w.mag,ints l.w.den]]⟩),(6,⟨3,[[.bool (rZ k l).neg,x1,x2]]⟩),(p10,⟨11,[[.int .i64 k.a,.int .i64 k.b,.bool (rZ k l).neg,x1,x2,.bool (IY k l).neg,x3,x4,.bool false,.kC,.kC]]⟩)]) F (by omega) (by simp;try omega)
 clear R LF LO F;obtain⟨s3,hs⟩:∃s,(q3.set p10 (some ⟨11,[[.int .i64 k.a,.int .i64 k.b,.bool (rZ k l).neg,x1,x2,.bool (IY k l).neg,x3,x4,.bool false,.kC,.kC]]⟩))=s:=⟨_,rfl⟩;have hls:q3.length=s3.length:=by rw [<-hs];simp
 simp only [hs]at *;clear hs;simp only [hls]at *;clear hls;have R:=ah (E.res1 1 rfl rfl (kM _ _)) (ah (fun x=>(E.snoc (x:=x)).res1 1 rfl rfl (kM _ _)) (ah (E.res1 2 rfl rfl (kM _ _)) (ah (fun x=>(E.snoc (x:=x)).res1 2 rfl rfl (kM _ _)) (ah (E.res1 4 rfl rfl (kM _ _)) (ah (fun x=>(E.snoc (x:=x)).res1 4 rfl rfl (kM _ _)) (ah (E.res1 5 rfl rfl (kM _ _)) (fun x=>(E.snoc (x:=x)).res1 5 rfl rfl (kM _ _))))))));have LF:=ah (E.leaf 1 rfl rfl) (ah (E.leaf 2 rfl rfl) (ah (E.leaf 4 rfl rfl) (E.leaf 5 rfl rfl)));have LO:=ah (E.at0 (p:=0) (ob:=⟨11,[[iv k.a,iv k.b,.bool k.w.neg,ints k.w.mag,ints k.w.den,.bool k.dx.neg,ints k.dx.mag,ints k.dx.den,.bool k.dy.neg,ints k.dy.mag,ints k.dy.den]]⟩) (by simp)) (ah (E.at0 (p:=1) (ob:=⟨11,[[iv l.a,iv l.b,.bool l.w.neg,ints l.w.mag,ints l.w.den,.bool l.dx.neg,ints l.dx.mag,ints l.dx.den,.bool l.dy.neg,ints l.dy.mag,ints l.dy.den]]⟩) (by simp)) (ah (E.at0 (p:=2) (ob:=⟨11,[[iv 0,iv 0,.bool false,.kC,.kC,.bool false,.kC,.kC,.bool false,.kC,.kC]]⟩) (by simp)) (ah (E.at0 (p:=3) (ob:=⟨3,[[.bool false,.kC,.kC]]⟩) (by simp)) (ah (E.at0 (p:=4) (ob:=⟨3,[[.bool k.w.neg,ints k.w.mag,ints k.w.den]]⟩) (by simp)) (ah (E.at0 (p:=5) (ob:=⟨3,[[.bool l.w.neg,ints l.w.mag,ints l.w.den]]⟩) (by simp)) (ah (E.at0 (p:=6) (ob:=⟨3,[[.bool (rZ k l).neg,x1,x2]]⟩) (by simp)) (E.at0 (p:=p10) (ob:=⟨11,[[.int .i64 k.a,.int .i64 k.b,.bool (rZ k l).neg,x1,x2,.bool (IY k l).neg,x3,x4,.bool false,.kC,.kC]]⟩) (by simp))))))))
 have aJi:p10+1<=s3.length:=by omega
 refine jK (uz h.l7 k1 k3) ?_;refine D5 @R @LF @LO @kQ @lI @List.set_set.{0} ?_;refine jK (uz h.l7 l1 l3) ?_;refine D5 @R @LF @LO @kQ @lI @List.set_set.{0} ?_;refine jK (DZ h.lJ Rl Rl) ?_;refine D5 @R @LF @LO @kQ @lI @List.set_set.{0} ?_;refine vk (fun o=>o∈(([]++o1)++o3)) (show PO T 156 [lD (oC (mulR k.w k.dy) (mulR l.w l.dy)),lD (rZ k l)] (lD (OV k l))from Oh h.uZ Rl (VL k l)) (by (refine D5 @R @LF @LO @kQ @lI @List.set_set.{0} ?_;try with_reducible exact aC)) ?_ ?_
 ·intro o ho;have ho:o∈reach s3 FD (lD (oC (mulR k.w k.dy) (mulR l.w l.dy)))++(reach s3 (11+1) (.agg [.bool (rZ k l).neg,x1,x2])++[]):=ho;rw [show reach s3 FD (lD (oC (mulR k.w k.dy) (mulR l.w l.dy)))=[]from by (refine ew ?_;try with_reducible exact aC),iU,aU]at ho;obtain⟨c,hc,ho⟩:=xR.1 ho;rcases aI.1 hc with e|hc
  ·rw [e]at ho;simp [reach]at ho
  rcases aI.1 hc with e|hc
  ·rw [e]at ho;exact E.reach 1 rfl rfl _ o ho
  rw [aW.1 hc]at ho;exact E.reach 2 rfl rfl _ o ho
 intro Rr r q5 o5 hRr G;have hO:=G.ow;have gn:=G.nd;have gf:=G.fresh;have go:=G.old;have gl:=G.len;clear G;obtain⟨_,rfl,hQ5⟩:=hO.lU;obtain⟨x5,x6,rfl⟩:=hQ5.rat
 have E2:=E.got (s1:=s3) (fun q hq=>rfl) (aJ _) hQ5 gn gf go;have F:p10∉(([]++o1)++o3)++o5:=by
  intro hm;rcases aK.1 hm with hm|hm
  ·exact(E.l (p10,⟨11,[[.int .i64 k.a,.int .i64 k.b,.bool (rZ k l).neg,x1,x2,.bool (IY k l).neg,x3,x4,.bool false,.kC,.kC]]⟩) (by simp)).2 hm
  have:=gf _ hm;omega
 have hq5:p10+1<=q5.length:=by omega
 have hRn:∀o∈Rr,o≠p10:=fun o ho e=>(E.l (p10,⟨11,[[.int .i64 k.a,.int .i64 k.b,.bool (rZ k l).neg,x1,x2,.bool (IY k l).neg,x3,x4,.bool false,.kC,.kC]]⟩) (by simp)).2 (e▸hRr o ho);clear E gn gf go gl hO R LF LO hRr;have E:Ep q5 [.bool (rZ k l).neg,x1,x2,.bool (IY k l).neg,x3,x4,.bool (OV k l).neg,x5,x6] [.bool (rZ k l).neg,ints (rZ k l).mag,ints (rZ k l).den,.bool (IY k l).neg,ints (IY k l).mag,ints (IY k l).den,.bool (OV k l).neg,ints (OV k l).mag,ints (OV k l).den] ((([]++o1)++o3)++o5) [(0,⟨11,[[iv k.a,iv k.b,.bool k.w.neg,ints k.w.mag,ints k.w.den,.bool k.dx.neg,ints k.dx.mag,ints k.dx.den,.bool k.dy.neg,ints k.dy.mag,ints k.dy.den]]⟩),(1,⟨11,[[iv l.a,iv l.b,.bool l.w.neg,ints l.w.mag,ints l.w.den,.bool l.dx.neg,ints l.dx.mag,ints l.dx.den,.bool l.dy.neg,ints l.dy.mag,ints l.dy.den]]⟩),(2,⟨11,[[iv 0,iv 0,.bool false,.kC,.kC,.bool false,.kC,.kC,.bool false,.kC,.kC]]⟩),(3,⟨3,[[.bool false,.kC,.kC]]⟩),(4,⟨3,[[.bool k.w.neg,ints k.w.mag,ints k.w.den]]⟩),(5,⟨3,[[.bool l.w.neg,ints l.w.mag,ints l.w.den]]⟩),(6,⟨3,[[.bool (rZ k l).neg,x1,x2]]⟩),(p10,⟨11,[[.int .i64 k.a,.int .i64 k.b,.bool (rZ k l).neg,x1,x2,.bool (IY k l).neg,x3,x4,.bool false,.kC,.kC]]⟩)]:=E2;clear E2
 have R:=ah (E.res1 1 rfl rfl (kM _ _)) (ah (fun x=>(E.snoc (x:=x)).res1 1 rfl rfl (kM _ _)) (ah (E.res1 2 rfl rfl (kM _ _)) (ah (fun x=>(E.snoc (x:=x)).res1 2 rfl rfl (kM _ _)) (ah (E.res1 4 rfl rfl (kM _ _)) (ah (fun x=>(E.snoc (x:=x)).res1 4 rfl rfl (kM _ _)) (ah (E.res1 5 rfl rfl (kM _ _)) (ah (fun x=>(E.snoc (x:=x)).res1 5 rfl rfl (kM _ _)) (ah (E.res1 7 rfl rfl (kM _ _)) (ah (fun x=>(E.snoc (x:=x)).res1 7 rfl rfl (kM _ _)) (ah (E.res1 8 rfl rfl (kM _ _)) (fun x=>(E.snoc (x:=x)).res1 8 rfl rfl (kM _ _))))))))))));have LF:=ah (E.leaf 1 rfl rfl) (ah (E.leaf 2 rfl rfl) (ah (E.leaf 4 rfl rfl) (ah (E.leaf 5 rfl rfl) (ah (E.leaf 7 rfl rfl) (E.leaf 8 rfl rfl)))))
 have LO:=ah (E.at0 (p:=0) (ob:=⟨11,[[iv k.a,iv k.b,.bool k.w.neg,ints k.w.mag,ints k.w.den,.bool k.dx.neg,ints k.dx.mag,ints k.dx.den,.bool k.dy.neg,ints k.dy.mag,ints k.dy.den]]⟩) (by simp)) (ah (E.at0 (p:=1) (ob:=⟨11,[[iv l.a,iv l.b,.bool l.w.neg,ints l.w.mag,ints l.w.den,.bool l.dx.neg,ints l.dx.mag,ints l.dx.den,.bool l.dy.neg,ints l.dy.mag,ints l.dy.den]]⟩) (by simp)) (ah (E.at0 (p:=2) (ob:=⟨11,[[iv 0,iv 0,.bool false,.kC,.kC,.bool false,.kC,.kC,.bool false,.kC,.kC]]⟩) (by simp)) (ah (E.at0 (p:=3) (ob:=⟨3,[[.bool false,.kC,.kC]]⟩) (by simp)) (ah (E.at0 (p:=4) (ob:=⟨3,[[.bool k.w.neg,ints k.w.mag,ints k.w.den]]⟩) (by simp)) (ah (E.at0 (p:=5) (ob:=⟨3,[[.bool l.w.neg,ints l.w.mag,ints l.w.den]]⟩) (by simp)) (ah (E.at0 (p:=6) (ob:=⟨3,[[.bool (rZ k l).neg,x1,x2]]⟩) (by simp)) (E.at0 (p:=p10) (ob:=⟨11,[[.int .i64 k.a,.int .i64 k.b,.bool (rZ k l).neg,x1,x2,.bool (IY k l).neg,x3,x4,.bool false,.kC,.kC]]⟩) (by simp))))))));refine D5 @R @LF @LO @kQ @lI @List.set_set.{0} ?_;refine⟨?_,?_⟩
 ·revert Rr
  refine F6 _ (fun R=>∀o∈R,o≠p10) 2 10 rfl (fun _=>rfl) ?_ ?_
  ·intro R hR b hb w hw hm;simp only [aI,bY,or_false]at hb;rcases hb with rfl|rfl|rfl|rfl|rfl|rfl|rfl|rfl|rfl|rfl|rfl|rfl|rfl
   all_goals first|(cases hw;done)|(rw [aW.1 hw]at hm;exact hR _ hm rfl)
  refine Il (L':=p10+1) (by omega) ?_;have hn0:7<=p10:=hq;generalize p10=m at hn0 ⊢
  revert m
  refine y7 _ _ 7 (fun n hn=>?_) (fun n hn=>?_) ?_
  ·simp only [sh];split<;>omega
  ·simp [Yy,sh];try omega
  unfold sF;decide +kernel
 clear hRn Rr
 replace E:=E.JG (p:=p10) (ob:=⟨11,[[.int .i64 k.a,.int .i64 k.b,.bool (rZ k l).neg,x1,x2,.bool (IY k l).neg,x3,x4,.bool (OV k l).neg,x5,x6]]⟩) (L':=[(0,⟨11,[[iv k.a,iv k.b,.bool k.w.neg,ints k.w.mag,ints k.w.den,.bool k.dx.neg,ints k.dx.mag,ints k.dx.den,.bool k.dy.neg,ints k.dy.mag,ints k.dy.den]]⟩),(1,⟨11,[[iv l.a,iv l.b,.bool l.w.neg,ints l.w.mag,ints l.w.den,.bool l.dx.neg,ints l.dx.mag,ints l.dx.den,.bool l.dy.neg,ints l.dy.mag,ints l.dy.den]]⟩),(2,⟨11,[[iv 0,iv 0,.bool false,.kC,.kC,.bool false,.kC,.kC,.bool false,.kC,.kC]]⟩),(3,⟨3,[[.bool false,.kC,.kC]]⟩),(4,⟨3,[[.bool k.w.neg,ints k.w.mag,ints k.w.den]]⟩),(5,⟨3,[[.bool l.w.neg,ints l.w.mag,ints l.w.den]]⟩),(6,⟨3,[[.bool (rZ k l).neg,x1,x2]]⟩),(p10,⟨11,[[.int .i64 k.a,.int .i64 k.b,.bool (rZ k l).neg,x1,x2,.bool (IY k l).neg,x3,x4,.bool (OV k l).neg,x5,x6]]⟩)]) F (by omega) (by simp;try omega)
 clear R LF LO F;obtain⟨s5,hs⟩:∃s,(q5.set p10 (some ⟨11,[[.int .i64 k.a,.int .i64 k.b,.bool (rZ k l).neg,x1,x2,.bool (IY k l).neg,x3,x4,.bool (OV k l).neg,x5,x6]]⟩))=s:=⟨_,rfl⟩;have hls:q5.length=s5.length:=by rw [<-hs];simp
 simp only [hs]at *;clear hs;simp only [hls]at *;clear hls;have R:=ah (E.res1 1 rfl rfl (kM _ _)) (ah (fun x=>(E.snoc (x:=x)).res1 1 rfl rfl (kM _ _)) (ah (E.res1 2 rfl rfl (kM _ _)) (ah (fun x=>(E.snoc (x:=x)).res1 2 rfl rfl (kM _ _)) (ah (E.res1 4 rfl rfl (kM _ _)) (ah (fun x=>(E.snoc (x:=x)).res1 4 rfl rfl (kM _ _)) (ah (E.res1 5 rfl rfl (kM _ _)) (ah (fun x=>(E.snoc (x:=x)).res1 5 rfl rfl (kM _ _)) (ah (E.res1 7 rfl rfl (kM _ _)) (ah (fun x=>(E.snoc (x:=x)).res1 7 rfl rfl (kM _ _)) (ah (E.res1 8 rfl rfl (kM _ _)) (fun x=>(E.snoc (x:=x)).res1 8 rfl rfl (kM _ _))))))))))));have LF:=ah (E.leaf 1 rfl rfl) (ah (E.leaf 2 rfl rfl) (ah (E.leaf 4 rfl rfl) (ah (E.leaf 5 rfl rfl) (ah (E.leaf 7 rfl rfl) (E.leaf 8 rfl rfl)))))
 have LO:=ah (E.at0 (p:=0) (ob:=⟨11,[[iv k.a,iv k.b,.bool k.w.neg,ints k.w.mag,ints k.w.den,.bool k.dx.neg,ints k.dx.mag,ints k.dx.den,.bool k.dy.neg,ints k.dy.mag,ints k.dy.den]]⟩) (by simp)) (ah (E.at0 (p:=1) (ob:=⟨11,[[iv l.a,iv l.b,.bool l.w.neg,ints l.w.mag,ints l.w.den,.bool l.dx.neg,ints l.dx.mag,ints l.dx.den,.bool l.dy.neg,ints l.dy.mag,ints l.dy.den]]⟩) (by simp)) (ah (E.at0 (p:=2) (ob:=⟨11,[[iv 0,iv 0,.bool false,.kC,.kC,.bool false,.kC,.kC,.bool false,.kC,.kC]]⟩) (by simp)) (ah (E.at0 (p:=3) (ob:=⟨3,[[.bool false,.kC,.kC]]⟩) (by simp)) (ah (E.at0 (p:=4) (ob:=⟨3,[[.bool k.w.neg,ints k.w.mag,ints k.w.den]]⟩) (by simp)) (ah (E.at0 (p:=5) (ob:=⟨3,[[.bool l.w.neg,ints l.w.mag,ints l.w.den]]⟩) (by simp)) (ah (E.at0 (p:=6) (ob:=⟨3,[[.bool (rZ k l).neg,x1,x2]]⟩) (by simp)) (E.at0 (p:=p10) (ob:=⟨11,[[.int .i64 k.a,.int .i64 k.b,.bool (rZ k l).neg,x1,x2,.bool (IY k l).neg,x3,x4,.bool (OV k l).neg,x5,x6]]⟩) (by simp))))))));have aJj:p10+1<=s5.length:=by omega
 refine jK (uz h.l7 k1 l1) ?_;refine D5 @R @LF @LO @kQ @lI @List.set_set.{0} ?_;refine vk (fun o=>o∈((([]++o1)++o3)++o5)) (show PO T 156 [lD (mulR k.w l.w),lD (rZ k l)] (lD (vS (mulR k.w l.w) (rZ k l)))from Oh h.uZ Rl (VL k l)) (by (refine D5 @R @LF @LO @kQ @lI @List.set_set.{0} ?_;try with_reducible exact aC)) ?_ ?_
 ·intro o ho;have ho:o∈reach (s5++[none]) FD (lD (mulR k.w l.w))++(reach (s5++[none]) (11+1) (.agg [.bool (rZ k l).neg,x1,x2])++[]):=ho;rw [show reach (s5++[none]) FD (lD (mulR k.w l.w))=[]from by (refine ew ?_;try with_reducible exact aC),iU,aU]at ho;obtain⟨c,hc,ho⟩:=xR.1 ho;rcases aI.1 hc with e|hc
  ·rw [e]at ho;simp [reach]at ho
  rcases aI.1 hc with e|hc
  ·rw [e]at ho;exact E.snoc.reach 1 rfl rfl _ o ho
  rw [aW.1 hc]at ho;exact E.snoc.reach 2 rfl rfl _ o ho
 intro Ra r q7 o7 hRa G;have hO:=G.ow;have gn:=G.nd;have gf:=G.fresh;have go:=G.old;have gl:=G.len;clear G;obtain⟨_,rfl,hQ7⟩:=hO.lU;obtain⟨x7,x8,rfl⟩:=hQ7.rat
 have E2:=E.got (s1:=s5++[none]) (fun q hq=>nX hq) (by simp) hQ7 gn gf go;have F:s5.length∉((([]++o1)++o3)++o5)++o7:=by
  intro hm;rcases aK.1 hm with hm|hm
  ·exact absurd (E.c.lt _ hm) (jg _)
  have:=gf _ hm;simp at this;omega
 have hq7:s5.length+1<=q7.length:=by simpa using gl
 have aEX:∀o∈Ra,o≠s5.length:=fun o ho e=>absurd (E.c.lt _ (e▸hRa o ho)) (jg _);have EL:=E.lt;clear E gn gf go gl hO R LF LO hRa;have E:Ep q7 [.bool (rZ k l).neg,x1,x2,.bool (IY k l).neg,x3,x4,.bool (OV k l).neg,x5,x6,.bool (vS (mulR k.w l.w) (rZ k l)).neg,x7,x8] [.bool (rZ k l).neg,ints (rZ k l).mag,ints (rZ k l).den,.bool (IY k l).neg,ints (IY k l).mag,ints (IY k l).den,.bool (OV k l).neg,ints (OV k l).mag,ints (OV k l).den,.bool (vS (mulR k.w l.w) (rZ k l)).neg,ints (vS (mulR k.w l.w) (rZ k l)).mag,ints (vS (mulR k.w l.w) (rZ k l)).den] (((([]++o1)++o3)++o5)++o7) [(0,⟨11,[[iv k.a,iv k.b,.bool k.w.neg,ints k.w.mag,ints k.w.den,.bool k.dx.neg,ints k.dx.mag,ints k.dx.den,.bool k.dy.neg,ints k.dy.mag,ints k.dy.den]]⟩),(1,⟨11,[[iv l.a,iv l.b,.bool l.w.neg,ints l.w.mag,ints l.w.den,.bool l.dx.neg,ints l.dx.mag,ints l.dx.den,.bool l.dy.neg,ints l.dy.mag,ints l.dy.den]]⟩),(2,⟨11,[[iv 0,iv 0,.bool false,.kC,.kC,.bool false,.kC,.kC,.bool false,.kC,.kC]]⟩),(3,⟨3,[[.bool false,.kC,.kC]]⟩),(4,⟨3,[[.bool k.w.neg,ints k.w.mag,ints k.w.den]]⟩),(5,⟨3,[[.bool l.w.neg,ints l.w.mag,ints l.w.den]]⟩),(6,⟨3,[[.bool (rZ k l).neg,x1,x2]]⟩),(p10,⟨11,[[.int .i64 k.a,.int .i64 k.b,.bool (rZ k l).neg,x1,x2,.bool (IY k l).neg,x3,x4,.bool (OV k l).neg,x5,x6]]⟩)]:=E2;clear E2
 have R:=ah (E.res1 1 rfl rfl (kM _ _)) (ah (fun x=>(E.snoc (x:=x)).res1 1 rfl rfl (kM _ _)) (ah (E.res1 2 rfl rfl (kM _ _)) (ah (fun x=>(E.snoc (x:=x)).res1 2 rfl rfl (kM _ _)) (ah (E.res1 4 rfl rfl (kM _ _)) (ah (fun x=>(E.snoc (x:=x)).res1 4 rfl rfl (kM _ _)) (ah (E.res1 5 rfl rfl (kM _ _)) (ah (fun x=>(E.snoc (x:=x)).res1 5 rfl rfl (kM _ _)) (ah (E.res1 7 rfl rfl (kM _ _)) (ah (fun x=>(E.snoc (x:=x)).res1 7 rfl rfl (kM _ _)) (ah (E.res1 8 rfl rfl (kM _ _)) (ah (fun x=>(E.snoc (x:=x)).res1 8 rfl rfl (kM _ _)) (ah (E.res1 10 rfl rfl (kM _ _)) (ah (fun x=>(E.snoc (x:=x)).res1 10 rfl rfl (kM _ _)) (ah (E.res1 11 rfl rfl (kM _ _)) (fun x=>(E.snoc (x:=x)).res1 11 rfl rfl (kM _ _))))))))))))))));have LF:=ah (E.leaf 1 rfl rfl) (ah (E.leaf 2 rfl rfl) (ah (E.leaf 4 rfl rfl) (ah (E.leaf 5 rfl rfl) (ah (E.leaf 7 rfl rfl) (ah (E.leaf 8 rfl rfl) (ah (E.leaf 10 rfl rfl) (E.leaf 11 rfl rfl)))))))
 have LO:=ah (E.at0 (p:=0) (ob:=⟨11,[[iv k.a,iv k.b,.bool k.w.neg,ints k.w.mag,ints k.w.den,.bool k.dx.neg,ints k.dx.mag,ints k.dx.den,.bool k.dy.neg,ints k.dy.mag,ints k.dy.den]]⟩) (by simp)) (ah (E.at0 (p:=1) (ob:=⟨11,[[iv l.a,iv l.b,.bool l.w.neg,ints l.w.mag,ints l.w.den,.bool l.dx.neg,ints l.dx.mag,ints l.dx.den,.bool l.dy.neg,ints l.dy.mag,ints l.dy.den]]⟩) (by simp)) (ah (E.at0 (p:=2) (ob:=⟨11,[[iv 0,iv 0,.bool false,.kC,.kC,.bool false,.kC,.kC,.bool false,.kC,.kC]]⟩) (by simp)) (ah (E.at0 (p:=3) (ob:=⟨3,[[.bool false,.kC,.kC]]⟩) (by simp)) (ah (E.at0 (p:=4) (ob:=⟨3,[[.bool k.w.neg,ints k.w.mag,ints k.w.den]]⟩) (by simp)) (ah (E.at0 (p:=5) (ob:=⟨3,[[.bool l.w.neg,ints l.w.mag,ints l.w.den]]⟩) (by simp)) (ah (E.at0 (p:=6) (ob:=⟨3,[[.bool (rZ k l).neg,x1,x2]]⟩) (by simp)) (E.at0 (p:=p10) (ob:=⟨11,[[.int .i64 k.a,.int .i64 k.b,.bool (rZ k l).neg,x1,x2,.bool (IY k l).neg,x3,x4,.bool (OV k l).neg,x5,x6]]⟩) (by simp))))))));refine D5 @R @LF @LO @kQ @lI @List.set_set.{0} ?_;refine jK (QF h.rH k2 l2) ?_;refine D5 @R @LF @LO @kQ @lI @List.set_set.{0} ?_;refine jK (QF h.rH k3 l3) ?_;refine D5 @R @LF @LO @kQ @lI @List.set_set.{0} ?_;refine jK (Y0 h.QY Rl Rl) ?_;refine D5 @R @LF @LO @kQ @lI @List.set_set.{0} ?_
 refine vk (fun o=>o∈(((([]++o1)++o3)++o5)++o7)) (show PO T 157 [lD (vS (mulR k.w l.w) (rZ k l)),lD (sqR (wL k.dx l.dx) (wL k.dy l.dy))] (lD (Ph k l))from YZ h.l7 Rl (amT _ _)) (by (refine D5 @R @LF @LO @kQ @lI @List.set_set.{0} ?_;try with_reducible exact aC)) ?_ ?_
 ·intro o ho;have ho:o∈reach q7 (11+1) (.agg [.bool (vS (mulR k.w l.w) (rZ k l)).neg,x7,x8])++(reach q7 FD (lD (sqR (wL k.dx l.dx) (wL k.dy l.dy)))++[]):=ho;rw [show reach q7 FD (lD (sqR (wL k.dx l.dx) (wL k.dy l.dy)))=[]from by (refine ew ?_;try with_reducible exact aC),aU,aU]at ho;obtain⟨c,hc,ho⟩:=xR.1 ho;rcases aI.1 hc with e|hc
  ·rw [e]at ho;simp [reach]at ho
  rcases aI.1 hc with e|hc
  ·rw [e]at ho;exact E.reach 10 rfl rfl _ o ho
  rw [aW.1 hc]at ho;exact E.reach 11 rfl rfl _ o ho
 intro Rb r q9 o9 hRb G;have hO:=G.ow;have gn:=G.nd;have gf:=G.fresh;have go:=G.old;have gl:=G.len;clear G;obtain⟨_,rfl,hQ9⟩:=hO.lU;obtain⟨x9,x10,rfl⟩:=hQ9.rat
 have E2:=E.got (s1:=q7) (fun q hq=>rfl) (aJ _) hQ9 gn gf go;have F9:s5.length∉(((([]++o1)++o3)++o5)++o7)++o9:=by
  intro hm;rcases aK.1 hm with hm|hm
  ·exact F hm
  have:=gf _ hm;omega
 have hq9:s5.length+1<=q9.length:=by omega
 have aEY:∀o∈Rb,o≠s5.length:=fun o ho e=>F (e▸hRb o ho);clear E F gn gf go gl hO R LF LO hRb;have E:Ep q9 [.bool (rZ k l).neg,x1,x2,.bool (IY k l).neg,x3,x4,.bool (OV k l).neg,x5,x6,.bool (vS (mulR k.w l.w) (rZ k l)).neg,x7,x8,.bool (Ph k l).neg,x9,x10] [.bool (rZ k l).neg,ints (rZ k l).mag,ints (rZ k l).den,.bool (IY k l).neg,ints (IY k l).mag,ints (IY k l).den,.bool (OV k l).neg,ints (OV k l).mag,ints (OV k l).den,.bool (vS (mulR k.w l.w) (rZ k l)).neg,ints (vS (mulR k.w l.w) (rZ k l)).mag,ints (vS (mulR k.w l.w) (rZ k l)).den,.bool (Ph k l).neg,ints (Ph k l).mag,ints (Ph k l).den] ((((([]++o1)++o3)++o5)++o7)++o9) [(0,⟨11,[[iv k.a,iv k.b,.bool k.w.neg,ints k.w.mag,ints k.w.den,.bool k.dx.neg,ints k.dx.mag,ints k.dx.den,.bool k.dy.neg,ints k.dy.mag,ints k.dy.den]]⟩),(1,⟨11,[[iv l.a,iv l.b,.bool l.w.neg,ints l.w.mag,ints l.w.den,.bool l.dx.neg,ints l.dx.mag,ints l.dx.den,.bool l.dy.neg,ints l.dy.mag,ints l.dy.den]]⟩),(2,⟨11,[[iv 0,iv 0,.bool false,.kC,.kC,.bool false,.kC,.kC,.bool false,.kC,.kC]]⟩),(3,⟨3,[[.bool false,.kC,.kC]]⟩),(4,⟨3,[[.bool k.w.neg,ints k.w.mag,ints k.w.den]]⟩),(5,⟨3,[[.bool l.w.neg,ints l.w.mag,ints l.w.den]]⟩),(6,⟨3,[[.bool (rZ k l).neg,x1,x2]]⟩),(p10,⟨11,[[.int .i64 k.a,.int .i64 k.b,.bool (rZ k l).neg,x1,x2,.bool (IY k l).neg,x3,x4,.bool (OV k l).neg,x5,x6]]⟩)]:=E2;clear E2
 have R:=ah (E.res1 1 rfl rfl (kM _ _)) (ah (fun x=>(E.snoc (x:=x)).res1 1 rfl rfl (kM _ _)) (ah (E.res1 2 rfl rfl (kM _ _)) (ah (fun x=>(E.snoc (x:=x)).res1 2 rfl rfl (kM _ _)) (ah (E.res1 4 rfl rfl (kM _ _)) (ah (fun x=>(E.snoc (x:=x)).res1 4 rfl rfl (kM _ _)) (ah (E.res1 5 rfl rfl (kM _ _)) (ah (fun x=>(E.snoc (x:=x)).res1 5 rfl rfl (kM _ _)) (ah (E.res1 7 rfl rfl (kM _ _)) (ah (fun x=>(E.snoc (x:=x)).res1 7 rfl rfl (kM _ _)) (ah (E.res1 8 rfl rfl (kM _ _)) (ah (fun x=>(E.snoc (x:=x)).res1 8 rfl rfl (kM _ _)) (ah (E.res1 10 rfl rfl (kM _ _)) (ah (fun x=>(E.snoc (x:=x)).res1 10 rfl rfl (kM _ _)) (ah (E.res1 11 rfl rfl (kM _ _)) (ah (fun x=>(E.snoc (x:=x)).res1 11 rfl rfl (kM _ _)) (ah (E.res1 13 rfl rfl (kM _ _)) (ah (fun x=>(E.snoc (x:=x)).res1 13 rfl rfl (kM _ _)) (ah (E.res1 14 rfl rfl (kM _ _)) (fun x=>(E.snoc (x:=x)).res1 14 rfl rfl (kM _ _))))))))))))))))))));have LF:=ah (E.leaf 1 rfl rfl) (ah (E.leaf 2 rfl rfl) (ah (E.leaf 4 rfl rfl) (ah (E.leaf 5 rfl rfl) (ah (E.leaf 7 rfl rfl) (ah (E.leaf 8 rfl rfl) (ah (E.leaf 10 rfl rfl) (ah (E.leaf 11 rfl rfl) (ah (E.leaf 13 rfl rfl) (E.leaf 14 rfl rfl)))))))))
 have LO:=ah (E.at0 (p:=0) (ob:=⟨11,[[iv k.a,iv k.b,.bool k.w.neg,ints k.w.mag,ints k.w.den,.bool k.dx.neg,ints k.dx.mag,ints k.dx.den,.bool k.dy.neg,ints k.dy.mag,ints k.dy.den]]⟩) (by simp)) (ah (E.at0 (p:=1) (ob:=⟨11,[[iv l.a,iv l.b,.bool l.w.neg,ints l.w.mag,ints l.w.den,.bool l.dx.neg,ints l.dx.mag,ints l.dx.den,.bool l.dy.neg,ints l.dy.mag,ints l.dy.den]]⟩) (by simp)) (ah (E.at0 (p:=2) (ob:=⟨11,[[iv 0,iv 0,.bool false,.kC,.kC,.bool false,.kC,.kC,.bool false,.kC,.kC]]⟩) (by simp)) (ah (E.at0 (p:=3) (ob:=⟨3,[[.bool false,.kC,.kC]]⟩) (by simp)) (ah (E.at0 (p:=4) (ob:=⟨3,[[.bool k.w.neg,ints k.w.mag,ints k.w.den]]⟩) (by simp)) (ah (E.at0 (p:=5) (ob:=⟨3,[[.bool l.w.neg,ints l.w.mag,ints l.w.den]]⟩) (by simp)) (ah (E.at0 (p:=6) (ob:=⟨3,[[.bool (rZ k l).neg,x1,x2]]⟩) (by simp)) (E.at0 (p:=p10) (ob:=⟨11,[[.int .i64 k.a,.int .i64 k.b,.bool (rZ k l).neg,x1,x2,.bool (IY k l).neg,x3,x4,.bool (OV k l).neg,x5,x6]]⟩) (by simp))))))));refine D5 @R @LF @LO @kQ @lI @List.set_set.{0} ?_;refine⟨?_,?_⟩
 ·revert Rb
  refine F6 _ (fun R=>∀o∈R,o≠s5.length) 2 16 rfl (fun _=>rfl) ?_ ?_
  ·intro R hR b hb w hw hm;simp only [aI,bY,or_false]at hb;rcases hb with rfl|rfl|rfl|rfl|rfl|rfl|rfl|rfl|rfl|rfl|rfl|rfl|rfl|rfl|rfl|rfl|rfl|rfl|rfl
   all_goals first|(cases hw;done)|(rw [aW.1 hw]at hm;exact hR _ hm rfl)
  revert Ra
  refine F6 _ (fun R=>∀o∈R,o≠s5.length) 14 4 rfl (fun _=>rfl) ?_ ?_
  ·intro R hR b hb w hw hm;simp only [aI,bY,or_false]at hb;rcases hb with rfl|rfl|rfl|rfl|rfl|rfl|rfl|rfl|rfl|rfl|rfl|rfl|rfl|rfl|rfl|rfl|rfl|rfl|rfl
   all_goals first|(cases hw;done)|(rw [aW.1 hw]at hm;exact hR _ hm rfl)
  have hn0:7<=s5.length:=by omega
  clear EL E hls;generalize s5.length=m at hn0 ⊢
  revert m
  refine y7 _ _ 7 (fun n hn=>?_) (fun n hn=>?_) ?_
  ·simp only [sh];split<;>omega
  ·simp [Yy,sh];try omega
  unfold sF;decide +kernel
 clear aEX aEY Ra Rb
 replace E:=E.JG (p:=s5.length) (ob:=⟨3,[[.bool (Ph k l).neg,x9,x10]]⟩) (L':=[(0,⟨11,[[iv k.a,iv k.b,.bool k.w.neg,ints k.w.mag,ints k.w.den,.bool k.dx.neg,ints k.dx.mag,ints k.dx.den,.bool k.dy.neg,ints k.dy.mag,ints k.dy.den]]⟩),(1,⟨11,[[iv l.a,iv l.b,.bool l.w.neg,ints l.w.mag,ints l.w.den,.bool l.dx.neg,ints l.dx.mag,ints l.dx.den,.bool l.dy.neg,ints l.dy.mag,ints l.dy.den]]⟩),(2,⟨11,[[iv 0,iv 0,.bool false,.kC,.kC,.bool false,.kC,.kC,.bool false,.kC,.kC]]⟩),(3,⟨3,[[.bool false,.kC,.kC]]⟩),(4,⟨3,[[.bool k.w.neg,ints k.w.mag,ints k.w.den]]⟩),(5,⟨3,[[.bool l.w.neg,ints l.w.mag,ints l.w.den]]⟩),(6,⟨3,[[.bool (rZ k l).neg,x1,x2]]⟩),(p10,⟨11,[[.int .i64 k.a,.int .i64 k.b,.bool (rZ k l).neg,x1,x2,.bool (IY k l).neg,x3,x4,.bool (OV k l).neg,x5,x6]]⟩),(s5.length,⟨3,[[.bool (Ph k l).neg,x9,x10]]⟩)]) F9 (by omega) (by simp;try omega)
 clear R LF LO F9 EL;obtain⟨p11,azV⟩:∃p,s5.length=p:=⟨_,rfl⟩;simp only [azV]at *;clear azV;obtain⟨s11,hs⟩:∃s,(q9.set p11 (some ⟨3,[[.bool (Ph k l).neg,x9,x10]]⟩))=s:=⟨_,rfl⟩;have hls:q9.length=s11.length:=by rw [<-hs];simp
 simp only [hs]at *;clear hs;simp only [hls]at *;clear hls;have R:=ah (E.res1 1 rfl rfl (kM _ _)) (ah (fun x=>(E.snoc (x:=x)).res1 1 rfl rfl (kM _ _)) (ah (E.res1 2 rfl rfl (kM _ _)) (ah (fun x=>(E.snoc (x:=x)).res1 2 rfl rfl (kM _ _)) (ah (E.res1 4 rfl rfl (kM _ _)) (ah (fun x=>(E.snoc (x:=x)).res1 4 rfl rfl (kM _ _)) (ah (E.res1 5 rfl rfl (kM _ _)) (ah (fun x=>(E.snoc (x:=x)).res1 5 rfl rfl (kM _ _)) (ah (E.res1 7 rfl rfl (kM _ _)) (ah (fun x=>(E.snoc (x:=x)).res1 7 rfl rfl (kM _ _)) (ah (E.res1 8 rfl rfl (kM _ _)) (ah (fun x=>(E.snoc (x:=x)).res1 8 rfl rfl (kM _ _)) (ah (E.res1 10 rfl rfl (kM _ _)) (ah (fun x=>(E.snoc (x:=x)).res1 10 rfl rfl (kM _ _)) (ah (E.res1 11 rfl rfl (kM _ _)) (ah (fun x=>(E.snoc (x:=x)).res1 11 rfl rfl (kM _ _)) (ah (E.res1 13 rfl rfl (kM _ _)) (ah (fun x=>(E.snoc (x:=x)).res1 13 rfl rfl (kM _ _)) (ah (E.res1 14 rfl rfl (kM _ _)) (fun x=>(E.snoc (x:=x)).res1 14 rfl rfl (kM _ _))))))))))))))))))));have LF:=ah (E.leaf 1 rfl rfl) (ah (E.leaf 2 rfl rfl) (ah (E.leaf 4 rfl rfl) (ah (E.leaf 5 rfl rfl) (ah (E.leaf 7 rfl rfl) (ah (E.leaf 8 rfl rfl) (ah (E.leaf 10 rfl rfl) (ah (E.leaf 11 rfl rfl) (ah (E.leaf 13 rfl rfl) (E.leaf 14 rfl rfl)))))))))
 have LO:=ah (E.at0 (p:=0) (ob:=⟨11,[[iv k.a,iv k.b,.bool k.w.neg,ints k.w.mag,ints k.w.den,.bool k.dx.neg,ints k.dx.mag,ints k.dx.den,.bool k.dy.neg,ints k.dy.mag,ints k.dy.den]]⟩) (by simp)) (ah (E.at0 (p:=1) (ob:=⟨11,[[iv l.a,iv l.b,.bool l.w.neg,ints l.w.mag,ints l.w.den,.bool l.dx.neg,ints l.dx.mag,ints l.dx.den,.bool l.dy.neg,ints l.dy.mag,ints l.dy.den]]⟩) (by simp)) (ah (E.at0 (p:=2) (ob:=⟨11,[[iv 0,iv 0,.bool false,.kC,.kC,.bool false,.kC,.kC,.bool false,.kC,.kC]]⟩) (by simp)) (ah (E.at0 (p:=3) (ob:=⟨3,[[.bool false,.kC,.kC]]⟩) (by simp)) (ah (E.at0 (p:=4) (ob:=⟨3,[[.bool k.w.neg,ints k.w.mag,ints k.w.den]]⟩) (by simp)) (ah (E.at0 (p:=5) (ob:=⟨3,[[.bool l.w.neg,ints l.w.mag,ints l.w.den]]⟩) (by simp)) (ah (E.at0 (p:=6) (ob:=⟨3,[[.bool (rZ k l).neg,x1,x2]]⟩) (by simp)) (ah (E.at0 (p:=p10) (ob:=⟨11,[[.int .i64 k.a,.int .i64 k.b,.bool (rZ k l).neg,x1,x2,.bool (IY k l).neg,x3,x4,.bool (OV k l).neg,x5,x6]]⟩) (by simp)) (E.at0 (p:=p11) (ob:=⟨3,[[.bool (Ph k l).neg,x9,x10]]⟩) (by simp)))))))));have gW:=Jg h.kW (VL k l)
 cases hbW:(rZ k l).ok
 ·rw [hbW]at gW;refine D5 @R @LF @LO @kQ @lI @List.set_set.{0} ?_;refine jK gW ?_;refine D5 @R @LF @LO @kQ @lI @List.set_set.{0} ?_;have hG:Pj k l=false:=by unfold Pj;rw [hbW];simp
  rw [hG];exact XC
 rw [hbW]at gW;refine D5 @R @LF @LO @kQ @lI @List.set_set.{0} ?_;refine jK gW ?_;refine D5 @R @LF @LO @kQ @lI @List.set_set.{0} ?_;have gX:=Jg h.kW (agY k l)
 cases hbX:(IY k l).ok
 ·rw [hbX]at gX
  skip
  refine jK gX ?_;refine D5 @R @LF @LO @kQ @lI @List.set_set.{0} ?_;have hG:Pj k l=false:=by unfold Pj;rw [hbX];simp
  rw [hG];exact XC
 rw [hbX]at gX
 skip
 refine jK gX ?_;refine D5 @R @LF @LO @kQ @lI @List.set_set.{0} ?_;have gY:=Jg h.kW (agZ k l)
 cases hbY:(OV k l).ok
 ·rw [hbY]at gY
  skip
  refine jK gY ?_;refine D5 @R @LF @LO @kQ @lI @List.set_set.{0} ?_;have hG:Pj k l=false:=by unfold Pj;rw [hbY];simp
  rw [hG];exact XC
 rw [hbY]at gY
 skip
 refine jK gY ?_;refine D5 @R @LF @LO @kQ @lI @List.set_set.{0} ?_;have gE:=Jg h.kW (ag0 k l)
 cases hbE:(Ph k l).ok
 ·rw [hbE]at gE
  skip
  refine jK gE ?_;refine D5 @R @LF @LO @kQ @lI @List.set_set.{0} ?_;have hG:Pj k l=false:=by unfold Pj;rw [hbE];simp
  rw [hG];exact XC
 rw [hbE]at gE
 skip
 refine jK gE ?_;refine D5 @R @LF @LO @kQ @lI @List.set_set.{0} ?_;have hG:Pj k l=true:=by unfold Pj;rw [hbW,hbX,hbY,hbE];rfl
 rw [hG];refine⟨?_,?_⟩
 ·refine Il (L':=p11+1) (by omega) ?_;have hn0:7<=p10:=by omega
  have hn1:p10+1<=p11:=by omega
  clear E R LF LO;obtain⟨d,hd⟩:∃d,p11=p10+(d+1):=⟨p11-p10-1,by omega⟩;rw [hd];clear hd hn1;generalize p10=m at hn0 ⊢
  revert m
  refine y7 _ _ 7 (fun n hn=>?_) (fun n hn=>?_) ?_
  ·simp only [sh];split<;>omega
  ·simp [Yy,sh];rw [aN (by omega)];omega
  have hn2:8<=7+(d+1):=by omega
  generalize 7+(d+1)=m at hn2 ⊢
  revert m
  refine y7 _ _ 8 (fun n hn=>?_) (fun n hn=>?_) ?_
  ·simp only [sh];split<;>omega
  ·simp [Yy,sh];try omega
  unfold sF;decide +kernel
 rw [aQ rfl,aQ rfl];have n2:=(E.l (2,⟨11,[[iv 0,iv 0,.bool false,.kC,.kC,.bool false,.kC,.kC,.bool false,.kC,.kC]]⟩) (by simp)).2;have n3:=(E.l (3,⟨3,[[.bool false,.kC,.kC]]⟩) (by simp)).2;have E3:=(E.c.set (o:=2) (x:=some ⟨11,[[.int .i64 k.a,.int .i64 k.b,.bool (rZ k l).neg,x1,x2,.bool (IY k l).neg,x3,x4,.bool (OV k l).neg,x5,x6]]⟩) n2).set (o:=3) (x:=some ⟨3,[[.bool (Ph k l).neg,x9,x10]]⟩) n3;exact avq (c9:=[.bool (rZ k l).neg,x1,x2,.bool (IY k l).neg,x3,x4,.bool (OV k l).neg,x5,x6]) (d3:=[.bool (vS (mulR k.w l.w) (rZ k l)).neg,x7,x8]) (e3:=[.bool (Ph k l).neg,x9,x10]) (t9:=[.bool (rZ k l).neg,ints (rZ k l).mag,ints (rZ k l).den,.bool (IY k l).neg,ints (IY k l).mag,ints (IY k l).den,.bool (OV k l).neg,ints (OV k l).mag,ints (OV k l).den]) (u3:=[.bool (vS (mulR k.w l.w) (rZ k l)).neg,ints (vS (mulR k.w l.w) (rZ k l)).mag,ints (vS (mulR k.w l.w) (rZ k l)).den]) (v3:=[.bool (Ph k l).neg,ints (Ph k l).mag,ints (Ph k l).den]) E3.ow rfl rfl E3.nd
def ET:Fn:=⟨1,58,[.tmp 2],(sr [oN 2 (.qC (cI 0))] (sr [oW 4 0,oW 5 0,oN 6 (.chk (.t 5)),oN 7 (fd 2 6),oN 8 (lF 1 7),oN 9 (bc .mul 8 6364136223846793005),oN 10 (bc .add 9 1442695040888963407),oN 11 (.chk (.t 4)),oN 12 (fd 2 11),oS (.store 1 (.t 12) (.t 10))] (.seq (rt 0 [oW 13 0,oA 14 0 (.chk (.t 13)) [0],oA 15 0 (fd 2 14) [1],oA 16 0 (lF 1 15) [2],oA 17 0 (.bin .shr (.t 16) (.c (.int .u64 33))) [3],oW 18 0,oA 19 0 (.chk (.t 18)) [5],oA 20 0 (fd 2 19) [6],oA 21 0 (lF 1 20) [7],oA 22 0 (.bin .shr (.t 21) (.c (.int .u64 45))) [8],oA 23 0 (bt .xor 17 22) [4,9],oA 24 0 (bc .and 23 255) [10],oA 3 0 (oV 24) [11,0,1,2,3,4,5,6,7,8,9,10,11]]) (.seq (.seq (rt 0 [oW 25 0,oA 26 0 (.chk (.t 25)) [0],oA 27 0 (fd 1 26) [1],oA 28 0 (lF 1 27) [2],oW 29 0,oA 30 0 (.chk (.t 29)) [4],oA 31 0 (fd 0 30) [5],oA 32 0 (lF 1 31) [6],oA 33 0 (ln 32) [7],oA 34 0 (bt .lss 28 33) [3,8]]) (cd 34 (.seq (rt 0 [oW 35 3,oW 36 0,oA 37 0 (.chk (.t 36)) [1],oA 38 0 (fd 0 37) [2],oA 39 0 (lF 1 38) [3],oW 40 0,oA 41 0 (.chk (.t 40)) [5],oA 42 0 (fd 1 41) [6],oA 43 0 (lF 1 42) [7],oA 44 0 (ix 1 39 43) [4,8],oA 45 0 (lF 1 44) [9],oA 46 0 (.conv .i64 (.t 45)) [10],oA 47 0 (bt .add 35 46) [0,11],oA 48 0 (bc .and 47 255) [12],oA 3 0 (oV 48) [13,0,1,2,3,4,5,6,7,8,9,10,11,12,13]]) (rg [oW 49 0,oW 50 0,oN 51 (.chk (.t 50)),oN 52 (fd 1 51),oN 53 (lF 1 52),oN 54 (bc .add 53 1),oN 55 (.chk (.t 49)),oN 56 (fd 1 55),oS (.store 1 (.t 56) (.t 54))])) .skip)) (sr [oW 57 3,oW 2 57] .ret)))))⟩
structure AL (T:Tb):Prop where
 hT:T 129=some ET
def Ia:Fn:=⟨1,32,[.tmp 2],(sr [oN 2 (.qC (.c (.one)))] (sr [oW 5 0,oN 6 (ln 5),oN 7 (.bin .add (cI 1951) (.t 6)),oW 3 7] (.seq (sr [oN 4 (.qC (cI 0))] (.block 0 (.loop (.seq (sr [oW 8 4,oW 9 0,oN 10 (ln 9),oN 11 (bt .lss 8 10),oW 12 11,oG 12 true 13 (oV 4),oG 12 true 14 (bc .lss 13 4000),oN 15 (.pick (.t 12) (.t 14) (.c (.bool false)))] (cd 15 .skip (.exit 0))) (.seq (.block 1 (rg [oW 18 3,oN 19 (bc .mul 18 59),oW 20 0,oW 21 4,oN 22 (ix 1 20 21),oN 23 (lF 1 22),oN 24 (.conv .i64 (.t 23)),oN 25 (bt .add 19 24),oN 26 (bc .add 25 7),oN 27 (bc .and 26 1073741823),oW 3 27])) (rg [oW 16 4,oN 17 (bc .add 16 1),oW 4 17])))))) (.seq (rf 1 [oK 28 1 (oV 0),oK 29 1 (oV 3),oK 30 1 (.build [.kC,.int .i64 0,.int .i64 0] [(0,1,(.t 28)),(2,1,(.t 29))]),oN 31 (.box (.t 30)),oK 2 1 (oV 31)]) .ret))))⟩
structure Ib (T:Tb):Prop where
 hT:T 105=some Ia
def Ic:Fn:=⟨2,17,[.tmp 4],(sr [oN 4 (.qC (.c (.one)))] (sr [oW 7 0,oN 8 (cl 105 [7]),oW 5 8] (.seq (sr [oN 6 (.qC (cI 0))] (.block 0 (.loop (.seq (sr [oW 9 6,oW 10 1,oN 11 (bt .lss 9 10)] (cd 11 .skip (.exit 0))) (.seq (.block 1 (rg [oW 14 5,oN 15 (cl 129 [14])])) (rg [oW 12 6,oN 13 (bc .add 12 1),oW 6 13])))))) (sr [oW 16 5,oW 4 16] .ret))))⟩
structure Me (T:Tb):Prop where
 hT:T 181=some Ic
 MC:Ib T
 J3:AL T
def Dq:Fn:=⟨2,37,[.tmp 4],(sr [oN 4 (.qC (cI 0))] (.seq (sr [oW 9 1,oN 10 (bc .leq 9 0)] (cd 10 (sr [oN 4 (.qC (cI 0))] .ret) .skip)) (.seq (sr [oW 11 1,oN 12 (bc .leq 11 256)] (cd 12 (sr [oW 13 0,oN 14 (cl 129 [13]),oW 15 1,oN 16 (bt .rem 14 15),oW 4 16] .ret) .skip)) (sr [oW 17 0,oN 18 (cl 129 [17]),oW 5 18] (sr [oW 19 0,oN 20 (cl 129 [19]),oW 6 20] (sr [oW 21 0,oN 22 (cl 129 [21]),oW 7 22] (sr [oW 23 0,oN 24 (cl 129 [23]),oW 8 24] (sr [oW 25 5,oN 26 (bc .mul 25 16777216),oW 27 6,oN 28 (bc .mul 27 65536),oN 29 (bt .add 26 28),oW 30 7,oN 31 (bc .mul 30 256),oN 32 (bt .add 29 31),oW 33 8,oN 34 (bt .add 32 33),oW 35 1,oN 36 (bt .rem 34 35),oW 4 36] .ret))))))))⟩
structure wI (T:Tb):Prop where
 hT:T 107=some Dq
 J3:AL T
def EW:Fn:=⟨2,39,[.cell 4 11 true],(.seq (rf 1 [oN 4 (.alloc I5)]) (sr [oW 9 0,oW 10 1,oN 11 (cl 107 [9,10]),oW 5 11] (sr [oW 12 0,oW 13 1,oN 14 (cl 107 [12,13]),oW 6 14] (.seq (sr [oW 15 5,oW 16 6,oN 17 (bt .eql 15 16)] (cd 17 (rg [oW 18 5,oN 19 (bc .add 18 1),oW 20 1,oN 21 (bc .add 20 1),oN 22 (bt .rem 19 21),oW 6 22]) .skip)) (.seq (rf 1 [oK 24 1 (oV 5),oK 25 1 (oV 6),oK 26 1 (oV 0),oK 27 1 (.call 107 [(.t 26),(cI 9)]),oK 28 1 (.bin .add (cI 1) (.t 27)),oK 29 1 (oV 0),oK 30 1 (.call 107 [(.t 29),(cI 41)]),oK 31 1 (bc .sub 30 20),oK 32 1 (oV 0),oK 33 1 (.call 107 [(.t 32),(cI 41)]),oK 34 1 (bc .sub 33 20),oK 35 1 (cl 14 [24,25,28,31,34]),oK 23 1 (oV 35),oK 36 1 (ex 0 23),oK 37 1 (ex 1 23),oN 7 (.alloc I5),⟨none,none,1,.store 11 (.t 7) (.t 36),[]⟩,oK 8 1 (oV 37)]) (sr [oN 38 (lT 11 7),oS (.store 11 (.t 4) (.t 38))] .ret))))))⟩
structure J4 (T:Tb):Prop where
 hT:T 128=some EW
 EX:EJ T
 lZ:wI T
abbrev bytesV(x:List UInt8):V:=.sl 1 (x.map fun b=>[.int .u8 b.toNat])
def cur(x:List UInt8)(i h:Int):Store:=[some ⟨3,[[bytesV x,iv i,iv h]]⟩]
theorem ank(a:Int):0<=KA .i64 a 255/\KA .i64 a 255<=255:=by
 have h:(BitVec.ofInt 64 a &&& BitVec.ofInt 64 255).toNat<=255:=by
  rw [BitVec.toNat_and];exact dw Nat.and_le_right (by decide)
 unfold KA;rw [show IntKind.i64.bits=64 from rfl,w64 ⟨by omega,by omega⟩];omega
theorem akw{T:Tb}(h:AL T){x:List UInt8}{i hh:Int}(hi:0<=i/\i<=x.length)(hx:x.length<=1048576) :
  ∃n i' h':Int,(0<=n/\n<=255)/\(0<=i'/\i'<=x.length)/\Run T (.fn 129 [.ptr 0 0 0] (cur x i hh)) (.fn (iv n) (cur x i' h')):=by
 have:∃r σ',Run T (.fn 129 [.ptr 0 0 0] (cur x i hh)) (.fn r σ')/\∃n i' h':Int,(r=iv n/\σ'=cur x i' h')/\(0<=n/\n<=255)/\(0<=i'/\i'<=x.length):=by
  unfold cur;refine run_end nR h.hT ?_;simp only [ET,Lz,St.enter,au,aG,aX];refine ew ?_;refine lG (fun hc=>?_) fun hc=>?_<;>(refine Ae @hc ?_;try with_reducible exact aC)
  ·have g1:(x.map fun b=>[V.int .u8 b.toNat]).getD i.toNat []=[.int .u8 (x.getD i.toNat default).toNat]:=mg (f:=fun b:UInt8=>[V.int .u8 b.toNat]) (by omega);have hb:(x.getD i.toNat default).toNat<256:=(x.getD i.toNat default).toBitVec.isLt;generalize (x.getD i.toNat default).toNat=b at g1 hb;refine Ae @g1 ?_
   trace_state
   exact⟨_,_,_,⟨rfl,rfl⟩,ank _,by omega⟩
  refine ew ?_;exact⟨_,_,_,⟨rfl,rfl⟩,ank _,hi⟩
 obtain⟨r,σ',h1,n,i',h',⟨rfl,rfl⟩,h2,h3⟩:=this;exact⟨n,i',h',h2,h3,h1⟩
def Xc(x:List UInt8)(i h:Int):Obj:=⟨3,[[bytesV x,iv i,iv h]]⟩
def Pm(s:Store)(b:Nat)(x:List UInt8):Prop:=∃i h:Int,jQ s b=some (Xc x i h)/\0<=i/\i<=x.length
def anl(T:Tb)(f:Nat)(rest:List V)(x:List UInt8)(Q:V->Prop):Prop :=
 ∀i h:Int,0<=i/\i<=x.length->∃(r:V) (i' h':Int),(Q r/\∀g,lS g r=r)/\(0<=i'/\i'<=x.length)/\Run T (.fn f (.ptr 0 0 0::rest) (cur x i h)) (.fn r (cur x i' h'))
theorem Ns(g:Nat->Option Nat)(x:List UInt8)(i h:Int):rD g (Xc x i h)=Xc x i h:=by
 simp [rD,Xc,lS]
theorem aiF{T:Tb}{f:Nat}{rest:List V}{x:List UInt8}{Q:V->Prop}
  (h:∀i h:Int,0<=i/\i<=x.length->∃r σ',Run T (.fn f (.ptr 0 0 0::rest) (cur x i h)) (.fn r σ')/\(Q r/\∀g,lS g r=r)/\Pm σ' 0 x):anl T f rest x Q:=by
 intro i hh hi;obtain⟨r,σ',h1,h2,i',h',h3,h4⟩:=h i hh hi;refine⟨r,i',h',h2,h4,?_⟩;have:=Run.gcF [0] (by simp) (fun k hk=>by
  have hk:k<1:=hk;have e:k=0:=by omega
  rw [e];rfl) h1
 rw [h2.2]at this;have e:Ij [0] σ'=cur x i' h':=by
  simp only [Ij,bT,iQ,h3,dh,Ns];rfl
 rwa [e]at this
theorem qI{T:Tb}{f:Nat}{as:List Src}{dst:Option Nat}{env:Nat->V}{σ:Store}{kp bs:Nat}{rs ms:List Nat}{k:St->Prop}{b:Nat}{x:List UInt8}{rest:List V}{Q:V->Prop}
  (hb:Pm σ b x) (hf:anl T f rest x Q) (ha:(as.map fun s=>s.ev env)=.ptr b 0 0::rest) (hr:∀g,rest.map (lS g)=rest)
  (hk:∀(r:V) (i h:Int),Q r->0<=i/\i<=x.length->k ⟨oO env dst r,σ.set b (some (Xc x i h)),kp,bs,rs,ms⟩):QW T f as dst ⟨env,σ,kp,bs,rs,ms⟩ k:=by
 obtain⟨i,h,hob,hi⟩:=hb;obtain⟨r,i',h',⟨hq,hm⟩,hi',hrun⟩:=hf i h hi;have e:(as.map fun s=>lS (place [b]) (s.ev env))=.ptr 0 0 0::rest:=by
  have:(as.map fun s=>lS (place [b]) (s.ev env))=(as.map fun s=>s.ev env).map (lS (place [b])):=by rw [fQ];rfl
  rw [this,ha,bT,hr];simp [lS,place]
 have e2:Ij [b] σ=cur x i h:=by
  simp only [Ij,bT,iQ,hob,dh,Ns];rfl
 have hlt:=lH hob;have e3:uO [b] σ (cur x i' h')=σ.set b (some (Xc x i' h')):=by
  unfold uO;have:(cur x i' h').drop [b].length=[]:=rfl;rw [this,iQ,aU]
  apply fV
  intro q;rw [kD,fH];by_cases hq:b=q
  ·subst hq;rw [aQ rfl,aQ hlt,ak hlt];simp only [dh,place,if_true];show some ((jQ (cur x i' h') 0).map _)=_;show some (some (rD _ (Xc x i' h')))=_;rw [Ns]
  rw [aN hq]
  cases hg:σ[q]? with
  |none=>rfl
  |some ob=>simp [place,hq]
 refine⟨_,.ref [b] (by simp) (fun o ho=>by rw [aW.1 ho,hob];rfl) (r:=r) (σ':=cur x i' h') (by rw [e,e2];exact hrun),?_⟩;have:=hk r i' h' hq hi';rw [<-e3]at this;have hm2:=hm (back [b] σ.length);show k ⟨oO env dst (lS (back [b] σ.length) r),_,_,_,_,_⟩;rw [hm2];exact this
theorem aa7{T:Tb}(h:AL T){x:List UInt8}(hx:x.length<=1048576):anl T 129 [] x fun r=>∃n:Int,r=iv n/\0<=n/\n<=255:=by
 intro i hh hi;obtain⟨n,i',h',h1,h2,h3⟩:=akw h (hh:=hh) hi hx;exact⟨iv n,i',h',⟨⟨n,rfl,h1⟩,fun g=>rfl⟩,h2,h3⟩
theorem qU{T:Tb}(h:wI T){x:List UInt8}{n:Int}(hn:0<n/\n<=256)(hx:x.length<=1048576):anl T 107 [iv n] x fun r=>∃m:Int,r=iv m/\0<=m/\m<n:=by
 refine aiF fun i hh hi=>?_;have hP:Pm (cur x i hh) 0 x:=⟨i,hh,rfl,hi⟩;have h1:¬n<=0:=by omega
 have hl:(cur x i hh).length=1:=rfl;generalize cur x i hh=s0 at hP hl ⊢;refine run_end (fun x d=>x == 129) h.hT ?_;simp only [Dq,Lz,St.enter,au,aG,aX];refine ew ?_;refine lG (fun hc=>absurd hc h1) fun _=>?_;refine ew ?_;refine lG (fun _=>?_) fun hc=>absurd hn.2 hc;refine ew ?_;refine qI hP (aa7 h.J3 hx) rfl (fun _=>rfl) ?_;rintro _ i2 h2 ⟨m,rfl,hm⟩ hi2;refine ew ?_;exact⟨⟨⟨_,rfl,Int.tmod_nonneg _ hm.1,Int.tmod_lt_of_pos _ hn.1⟩,fun g=>rfl⟩,i2,h2,kY (by omega),hi2⟩
theorem aeS{T:Tb}(h:Ib T){x:List UInt8}(hx:x.length<=1048576):∃hh:Int,Run T (.fn 105 [bytesV x] []) (.fn (.ptr 0 0 0) (cur x 0 hh)):=by
 have:∃r σ',Run T (.fn 105 [bytesV x] []) (.fn r σ')/\∃hh:Int,r=.ptr 0 0 0/\σ'=cur x 0 hh:=by
  refine run_end nR h.hT ?_;simp only [Ia,Lz,St.enter,au,aG,aX];refine ew ?_;refine kZ (fun _ _=>false) (α:=Nat×Int) (fun q=>⟨mJ [bytesV x,.any,.any,iv q.2,iv (q.1:Nat)],[],0,0,[],[]⟩) (fun q=>q.1<=x.length) (fun q=>x.length-q.1) rfl (0,1951+x.length) ?_ ?_ ?_
  ·omega
  ·(refine kS ?_;exact uw)
  rintro⟨k,hh⟩ hk;dsimp only at hk;by_cases hc:(k:Int)<(x.length:Nat)
  ·have hkl:k<x.length:=by omega
   by_cases hc2:(k:Int)<4000
   ·have g1:(x.map fun b=>[V.int .u8 b.toNat]).getD k []=[.int .u8 (x.getD k default).toNat]:=mg (f:=fun b:UInt8=>[V.int .u8 b.toNat]) hkl;have hb:(x.getD k default).toNat<256:=(x.getD k default).toBitVec.isLt;generalize (x.getD k default).toNat=b at g1 hb;refine Dy @hc @hc2 @g1 ?_;exact⟨(k+1,KA IntKind.i64 (IntKind.i64.wrap (IntKind.i64.wrap (IntKind.i64.wrap (hh*59)+b)+7)) 1073741823),by dsimp only;omega,by dsimp only;omega,by (refine kS ?_;exact uw)⟩
   refine AZ @hc @hc2 ?_;exact⟨_,rfl⟩
  refine Ae @hc ?_;exact⟨_,rfl⟩
 obtain⟨r,σ',h1,hh,rfl,rfl⟩:=this;exact⟨hh,h1⟩
theorem akx{x:List UInt8}{i h:Int}{s:Store}(hi:0<=i/\i<=x.length):Pm (zW s (cur x i h)) s.length x:=by
 refine⟨i,h,?_,hi⟩;rw [rO,aN (jg _),kT];show (some (Xc x i h)).map _=_;rw [dh,Ns]
theorem anm{T:Tb}(h:Me T){x:List UInt8}{n:Int}(hn:n<=1000)(hx:x.length<=1048576):∃i hh:Int,(0<=i/\i<=x.length)/\Run T (.fn 181 [bytesV x,iv n] []) (.fn (.ptr 0 0 0) (cur x i hh)):=by
 obtain⟨h0,rn⟩:=aeS h.MC hx;have:∃r σ',Run T (.fn 181 [bytesV x,iv n] []) (.fn r σ')/\(r=.ptr 0 0 0/\Pm σ' 0 x):=by
  refine run_end (fun x d=>x == 105||x == 129) h.hT ?_;simp only [Ic,Lz,St.enter,au,aG,aX];refine ew ?_;refine Jv rn (by (refine ew ?_;try with_reducible exact aC)) (by (refine ew ?_;try with_reducible exact aC)) ?_;have hP:=akx (x:=x) (i:=0) (h:=h0) (s:=[]) (by omega);rw [aG]at hP;rw [show lS (mV ([]:Store).length) (.ptr 0 0 0)=.ptr 0 0 0 from rfl];generalize zW [] (cur x 0 h0)=s0 at hP ⊢;refine ew ?_;refine kZ (fun x d=>x == 105||x == 129) (α:=Nat×Store) (fun q=>⟨mJ [.any,iv n,.any,.any,.any,.ptr 0 0 0,iv (q.1:Nat)],q.2,0,0,[],[]⟩) (fun q=>q.1<=1000/\Pm q.2 0 x) (fun q=>1000-q.1) rfl (0,s0) ?_ ?_ ?_
  ·exact⟨by omega,hP⟩
  ·(refine kS ?_;exact uw)
  clear hP;rintro⟨k,s⟩ ⟨hk,hP⟩;dsimp only at hk hP;refine ew ?_;refine lG (fun hc=>?_) fun hc=>?_<;>(refine Ae @hc ?_;try with_reducible exact aC)
  ·refine qI hP (aa7 h.J3 hx) rfl (fun _=>rfl) ?_;rintro _ i2 h2 ⟨m,rfl,hm⟩ hi2;refine ew ?_;have hlt:0<s.length:=by obtain⟨_,_,ho,_⟩:=hP;exact lH ho
   exact⟨(k+1,s.set 0 (some (Xc x i2 h2))),by dsimp only;omega,⟨by dsimp only;omega,⟨i2,h2,kY hlt,hi2⟩⟩,by (refine kS ?_;exact uw)⟩
  exact hP
 obtain⟨r,σ',h1,rfl,i',h',h3,h4⟩:=this;refine⟨i',h',h4,?_⟩;have:=Run.gcF [0] (by simp) (fun k hk=>absurd hk (dB _)) h1;have e:Ij [0] σ'=cur x i' h':=by
  simp only [Ij,bT,iQ,h3,dh,Ns];rfl
 rwa [e]at this
structure SmL (l:Lk):Prop where
 ab:0<=l.a/\l.a<l.b/\l.b<=3
 w:∃n:Int,(1<=n/\n<=9)/\l.w=lC n
 dx:∃n:Int,(-20<=n/\n<=20)/\l.dx=lC n
 dy:∃n:Int,(-20<=n/\n<=20)/\l.dy=lC n
theorem aiG(g:Nat->Option Nat)(l:Lk):lS g (Wu l)=Wu l:=by simp [lS,lS.IZ]
def Ht(a:Rat)(N:Nat):Prop:=a.num.natAbs<=N/\a.den<=N
theorem Oo{n:Int}{d N:Nat}(h:d≠0)(h1:n.natAbs<=N)(h2:d<=N):Ht (Rat.normalize n d h) N:=by
 rw [Rat.normalize_eq];refine⟨?_,dw (Nat.div_le_self _ _) h2⟩;show (n / (n.natAbs.gcd d:Nat)).natAbs<=N;refine dw ?_ h1;have hd:((n.natAbs.gcd d:Nat):Int)∣n:=Int.ofNat_dvd_left.2 (Nat.gcd_dvd_left _ _);rw [Int.natAbs_ediv_of_dvd hd];exact Nat.div_le_self _ _
theorem avR{a:Rat}{N:Nat}(h:Ht a N):1<=N:=by
 have:=a.den_pos;have:=h.2;omega
theorem ano{a b:Rat}{M N:Nat}(ha:Ht a M)(hb:Ht b N):Ht (a*b) (M*N):=by
 rw [Rat.mul_def];refine Oo _ ?_ (iO ha.2 hb.2);rw [iW];exact iO ha.1 hb.1
theorem anp{a b:Rat}{M N:Nat}(ha:Ht a M)(hb:Ht b N):Ht (a+b) (2*(M*N)):=by
 rw [Rat.add_def];have h1:(a.num*(b.den:Int)).natAbs<=M*N:=by
  rw [iW,dF];exact iO ha.1 hb.2
 have h2:(b.num*(a.den:Int)).natAbs<=M*N:=by
  rw [iW,dF,dS];exact iO ha.2 hb.1
 have h3:=iO ha.2 hb.2;refine Oo _ ?_ (by omega);have:=Int.natAbs_add_le (a.num*(b.den:Int)) (b.num*(a.den:Int));omega
theorem avS{a:Rat}{N:Nat}(h:Ht a N):Ht (-a) N:=by
 unfold Ht;rw [Rat.neg_num,Rat.neg_den,Int.natAbs_neg];exact h
theorem avT{a b:Rat}{M N:Nat}(ha:Ht a M)(hb:Ht b N):Ht (a-b) (2*(M*N)):=by
 rw [Rat.sub_eq_add_neg];exact anp ha (avS hb)
theorem avU{a:Rat}{N:Nat}(h:Ht a N):Ht a⁻¹ N:=by
 unfold Ht;rw [Rat.num_inv,Rat.den_inv];refine⟨?_,?_⟩
 ·rw [iW,dF];have hs:a.num.sign.natAbs<=1:=by
   rcases Int.lt_trichotomy a.num 0 with h|h|h
   ·rw [Int.sign_eq_neg_one_of_neg h];decide
   ·rw [h];decide
   rw [Int.sign_eq_one_of_pos h];decide
  have:=iO hs (aJ a.den);have:=h.2;omega
 split
 ·exact avR h
 exact h.1
theorem avV{a b:Rat}{M N:Nat}(ha:Ht a M)(hb:Ht b N):Ht (a / b) (M*N):=by
 rw [eF];exact ano ha (avU hb)
theorem anq{n:Int}{N:Nat}(h:n.natAbs<=N)(h1:1<=N):Ht (n:Rat) N:=by
 unfold Ht;rw [Rat.num_intCast,Rat.den_intCast];exact⟨h,h1⟩
theorem XD{a:Rat}{N:Nat}(h:Ht a N)(hN:N<1000000000 ^ 24):fits a=true:=by
 unfold fits;rw [aT (iG h.1 hN),aT (iG h.2 hN)];rfl
theorem Ht.mono{a:Rat}{M N:Nat}(h:Ht a M)(hl:M<=N):Ht a N:=⟨dw h.1 hl,dw h.2 hl⟩
structure Rv (r:R) (a:Rat) (N:Nat):Prop where
 q:r.q=some a
 h:Ht a N
theorem Rv.add{r s:R}{a b:Rat}{M N:Nat}(h1:Rv r a M)(h2:Rv s b N)(hN:2*(M*N)<1000000000 ^ 24:=by decide):Rv (oC r s) (a+b) (2*(M*N)):=by
 have h:=anp h1.h h2.h;refine⟨?_,h⟩;rw [SB,h1.q,h2.q];show norm (a+b)=_;exact zn (XD h hN)
theorem Rv.sub{r s:R}{a b:Rat}{M N:Nat}(h1:Rv r a M)(h2:Rv s b N)(hN:2*(M*N)<1000000000 ^ 24:=by decide):Rv (wL r s) (a-b) (2*(M*N)):=by
 have h:=avT h1.h h2.h;refine⟨?_,h⟩;rw [YL,h1.q,h2.q];show norm (a + -b)=_;rw [<-Rat.sub_eq_add_neg];exact zn (XD h hN)
theorem Rv.mul{r s:R}{a b:Rat}{M N:Nat}(h1:Rv r a M)(h2:Rv s b N)(hN:M*N<1000000000 ^ 24:=by decide):Rv (mulR r s) (a*b) (M*N):=by
 have h:=ano h1.h h2.h;refine⟨?_,h⟩;rw [YM,h1.q,h2.q];show norm (a*b)=_;exact zn (XD h hN)
theorem Rv.div{r s:R}{a b:Rat}{M N:Nat}(h1:Rv r a M)(h2:Rv s b N)(hb:b≠0)(hN:M*N<1000000000 ^ 24:=by decide):Rv (vS r s) (a / b) (M*N):=by
 have h:=avV h1.h h2.h;refine⟨?_,h⟩;rw [YN,h1.q,h2.q];show (if b=0 then none else norm (a / b))=_;rw [aN hb];exact zn (XD h hN)
theorem Qn{n:Int}{N:Nat}(h:n.natAbs<=N)(h1:1<=N)(hN:N<1000000000 ^ 24:=by decide):Rv (lC n) (n:Rat) N :=
 ⟨JM (iG h hN),anq h h1⟩
theorem Rv.ok{r:R}{a:Rat}{N:Nat}(h:Rv r a N):r.ok=true:=by
 rw [xZ,h.q];simp
theorem Rv.eq{r s:R}{a b:Rat}{M N:Nat}(h1:Rv r a M)(h2:Rv s b N)(hr:r.cn)(hs:s.cn)(e:a=b):r=s:=by
 rw [<-hr,<-hs,h1.q,h2.q,e]
theorem Rv.of_eq{r s:R}{a:Rat}{N:Nat}(h:Rv s a N)(e:r=s):Rv r a N:=e▸h
theorem aro{l:Lk}{w:Rat}{N:Nat}(h:0<=l.a/\l.a<l.b/\l.b<=9)(hw:Rv l.w w N)(hp:0<w)(hx:l.dx.ok=true)(hy:l.dy.ok=true):ql l=true:=by
 have hs:0<xI l.w:=by
  unfold xI;rw [hw.q];show 0<sgn w.num;have:0<w.num:=by
   rw [Rat.lt_iff,show (0:Rat).num=0 from rfl,show (0:Rat).den=1 from rfl,Int.zero_mul,Int.natCast_one,Int.mul_one]at hp;exact hp
  unfold sgn;rw [aN (by omega),aN (by omega)]
  decide
 unfold xI at hs;unfold ql nd;rw [aT hs,hx,hy,aT h.2.1,aT h.1,aT h.2.2,aT (show 0<=l.b by omega),aT (show l.a<=9 by omega)];rfl
abbrev MQ:=Nat->Nat->Rat
def Bv(f:Nat->Rat):Nat->Rat
 |0=>0
 |n+1=>Bv f n+f n
theorem EY{f g:Nat->Rat}:∀{n:Nat},(∀i,i<n->f i=g i)->Bv f n=Bv g n
 |0,_=>rfl
 |
  n+1,h=>by
  show Bv f n+f n=Bv g n+g n;rw [EY fun i hi=>h i (by omega),h n (by omega)]
theorem aeT(f g:Nat->Rat)(c:Rat):∀n,Bv (fun j=>f j-g j*c) n=Bv f n-Bv g n*c
 |0=>by show (0:Rat)=0-0*c;grind
 |
  n+1=>by
  show Bv (fun j=>f j-g j*c) n+(f n-g n*c)=Bv f n+f n-(Bv g n+g n)*c;rw [aeT f g c n];grind
theorem aeU(f:Nat->Rat)(c:Rat):∀n,Bv (fun j=>f j / c) n=Bv f n / c
 |0=>by show (0:Rat)=0 / c;grind
 |
  n+1=>by
  show Bv (fun j=>f j / c) n+f n / c=(Bv f n+f n) / c;rw [aeU f c n];grind
theorem Oq(f:Nat->Rat)(i:Nat):∀n,Bv (fun j=>(if i=j then(1:Rat)else 0)*f j) n=if i<n then f i else 0
 |0=>rfl
 |
  n+1=>by
  show Bv (fun j=>(if i=j then(1:Rat)else 0)*f j) n+(if i=n then(1:Rat)else 0)*f n=_;rw [Oq f i n];by_cases h:i=n
  ·subst h;rw [aN (jg _),aQ rfl,aQ (Nat.lt_succ_self _)];grind
  rw [aN h];by_cases h2:i<n
  ·rw [aQ h2,aQ (by omega)];grind
  rw [aN h2,aN (by omega)];grind
def FC(A:MQ)(k p:Nat):MQ:=fun i=>if i=p then A k else if i=k then A p else A i
def Pn(A:MQ)(k:Nat):MQ:=fun i j=>if i=k then A k j / A k k else A i j
def Xd(A:MQ)(k:Nat):MQ:=fun i j=>if i=k then A k j else A i j-A k j*A i k
def Jo(A:MQ)(k p:Nat):MQ:=Xd (Pn (FC A k p) k) k
def mqP(A:MQ)(k:Nat):Nat->Nat->Nat
 |0,p=>p
 |f+1,p=>if A p k=0 then mqP A k f (p+1)else p
theorem ag3(A:MQ)(k:Nat):∀f p,(p<=mqP A k f p/\mqP A k f p<=p+f)/\(mqP A k f p<p+f->A (mqP A k f p) k≠0)
 |0,p=>⟨⟨aJ _,aJ _⟩,fun h=>absurd h (jg _)⟩
 |
  f+1,p=>by
  unfold mqP;have:=ag3 A k f (p+1);split
  ·exact⟨by omega,fun h=>this.2 (by omega)⟩
  rename_i h0;exact⟨by omega,fun _=>h0⟩
def zf(n:Nat)(A:MQ)(k:Nat):Nat:=mqP A k (n-k) k
theorem acr{n:Nat}{A:MQ}{k:Nat}(hk:k<n)(h:zf n A k<n):k<=zf n A k/\A (zf n A k) k≠0:=by
 have:=ag3 A k (n-k) k;unfold zf at *;exact⟨this.1.1,this.2 (by omega)⟩
def IL(n:Nat)(A:MQ):Nat->Option MQ
 |0=>some A
 |k+1=>(IL n A k).bind fun B=>if zf n B k<n then some (Jo B k (zf n B k))else none
def MqE(n:Nat)(A B:MQ):Prop:=∀i,i<n->∀j,j<n->A i j=B i j
theorem ant{n k:Nat}{A B:MQ}(h:MqE n A B)(hk:k<n):∀f p,p+f<=n->mqP A k f p=mqP B k f p
 |0,_,_=>rfl
 |
  f+1,p,hp=>by
  unfold mqP;rw [h p (by omega) k hk,ant h hk f (p+1) (by omega)]
theorem arp{n k:Nat}{A B:MQ}(h:MqE n A B)(hk:k<n):zf n A k=zf n B k:=ant h hk _ _ (by omega)
theorem arq{n k p:Nat}{A B:MQ}(h:MqE n A B)(hk:k<n)(hp:p<n):MqE n (Jo A k p) (Jo B k p):=by
 have h1:MqE n (FC A k p) (FC B k p):=fun i hi j hj=>by
  unfold FC;by_cases e1:i=p
  ·rw [aQ e1,aQ e1];exact h k hk j hj
  rw [aN e1,aN e1];by_cases e2:i=k
  ·rw [aQ e2,aQ e2];exact h p hp j hj
  rw [aN e2,aN e2];exact h i hi j hj
 have h2:MqE n (Pn (FC A k p) k) (Pn (FC B k p) k):=fun i hi j hj=>by
  unfold Pn;rw [h1 k hk j hj,h1 k hk k hk,h1 i hi j hj]
 intro i hi j hj;unfold Jo Xd;rw [h2 k hk j hj,h2 i hi j hj,h2 i hi k hk]
theorem acs{n:Nat}{A B:MQ}(h:MqE n A B):∀k,k<=n->(IL n A k=none/\IL n B k=none)\/∃A' B',IL n A k=some A'/\IL n B k=some B'/\MqE n A' B'
 |0,_=>.inr ⟨A,B,rfl,rfl,h⟩
 |
  k+1,hk=>by
  unfold IL;rcases acs h k (by omega)with ⟨e1,e2⟩|⟨A',B',e1,e2,h'⟩
  ·rw [e1,e2];exact .inl ⟨rfl,rfl⟩
  rw [e1,e2];show ((if zf n A' k<n then some (Jo A' k (zf n A' k))else none)=none/\(if zf n B' k<n then some (Jo B' k (zf n B' k))else none)=none)\/∃X Y,(if zf n A' k<n then some (Jo A' k (zf n A' k))else none)=some X/\(if zf n B' k<n then some (Jo B' k (zf n B' k))else none)=some Y/\MqE n X Y;rw [arp h' (by omega)];by_cases hp:zf n B' k<n
  ·rw [aQ hp,aQ hp];exact .inr ⟨_,_,rfl,rfl,arq h' (by omega) hp⟩
  rw [aN hp,aN hp];exact .inl ⟨rfl,rfl⟩
def yH(A:MQ)(n:Nat)(y:Nat->Rat)(c i:Nat):Rat:=Bv (fun j=>A i j*y j) n-A i c
theorem anu{A:MQ}{n k p:Nat}{y:Nat->Rat}{c:Nat}(hk:k<n)(hp:p<n)(h0:A p k≠0)(h:∀i,i<n->yH (Jo A k p) n y c i=0):∀i,i<n->yH A n y c i=0:=by
 have hd:FC A k p k k≠0:=by
  unfold FC;by_cases e:k=p
  ·subst e;rw [aQ rfl];exact h0
  rw [aN e,aQ rfl];exact h0
 generalize hS:FC A k p=S at hd;have hT:Jo A k p=Xd (Pn S k) k:=by unfold Jo;rw [hS]
 have rk:yH (Pn S k) n y c k=yH S n y c k / S k k:=by
  unfold yH Pn;simp only [if_true];rw [EY (g:=fun j=>S k j*y j / S k k) fun j _=>by grind,aeU]
  grind
 have tk:yH (Jo A k p) n y c k=yH (Pn S k) n y c k:=by
  rw [hT];unfold yH Xd;simp only [if_true]
 have zk:yH (Pn S k) n y c k=0:=by rw [<-tk];exact h k hk
 have sk:yH S n y c k=0:=by
  rw [rk]at zk;generalize yH S n y c k=a at zk ⊢;generalize S k k=b at zk hd
  grind
 have si:∀i,i<n->yH S n y c i=0:=by
  intro i hi;by_cases e:i=k
  ·rw [e];exact sk
  have ti:yH (Jo A k p) n y c i=yH S n y c i-yH (Pn S k) n y c k*S i k:=by
   rw [hT];unfold yH Xd Pn;simp only [if_true,aN e];rw [EY (g:=fun j=>S i j*y j-S k j / S k k*y j*S i k) fun j _=>by grind,aeT]
   grind
  have:=h i hi;rw [ti,zk]at this
  grind
 intro i hi;by_cases e1:i=k
 ·subst e1;have:=si p hp;rw [<-hS]at this;unfold yH FC at this;simp only [if_true]at this;exact this
 by_cases e2:i=p
 ·subst e2;have:=si k hk;rw [<-hS]at this;unfold yH FC at this;simp only [aN (fun e=>e1 (Eq.symm e)),if_true]at this;exact this
 have:=si i hi;rw [<-hS]at this;unfold yH FC at this;simp only [aN e1,aN e2]at this;exact this
theorem Y6{n:Nat}{A:MQ}{y:Nat->Rat}{c:Nat}:∀k {B:MQ},k<=n->IL n A k=some B->(∀i,i<n->yH B n y c i=0)->∀i,i<n->yH A n y c i=0
 |0,B,_,e,h=>by cases e;exact h
 |
  k+1,B,hk,e,h=>by
  unfold IL at e
  cases e1:IL n A k with
  |none=>rw [e1]at e;cases e
  |
   some C =>
   rw [e1]at e;have e:(if zf n C k<n then some (Jo C k (zf n C k))else none)=some B:=e;split at e
   ·rename_i hp
    cases e
    exact Y6 k (by omega) e1 (anu (by omega) hp (acr (by omega) hp).2 h)
   cases e
def MqU(n k:Nat)(A:MQ):Prop:=∀i,i<n->∀j,j<k->A i j=if i=j then 1 else 0
theorem avW{A:MQ}{n k p:Nat}(hk:k<n)(hp:p<n)(hkp:k<=p)(h0:A p k≠0)(h:MqU n k A):MqU n (k+1) (Jo A k p):=by
 have hd:FC A k p k k≠0:=by
  unfold FC;by_cases e:k=p
  ·subst e;rw [aQ rfl];exact h0
  rw [aN e,aQ rfl];exact h0
 have hS:MqU n k (FC A k p):=fun i hi j hj=>by
  unfold FC;by_cases e1:i=p
  ·rw [aQ e1,h k hk j hj,aN (by omega),aN (by omega)]
  rw [aN e1];by_cases e2:i=k
  ·rw [aQ e2,h p hp j hj,aN (by omega),aN (by omega)]
  rw [aN e2];exact h i hi j hj
 unfold Jo;generalize FC A k p=S at hd hS;intro i hi j hj;unfold Xd Pn;simp only [if_true];by_cases ek:i=k
 ·subst ek;rw [aQ rfl];by_cases ej:j=i
  ·subst ej;rw [aQ rfl];grind
  rw [hS i hi j (by omega),aN (show ¬i=j by omega)];grind
 rw [aN ek,aN ek,aN ek];by_cases ej:j=k
 ·subst ej;rw [aN ek];grind
 rw [hS k hk j (by omega),aN (by omega),hS i hi j (by omega)];grind
theorem ag4{n:Nat}{A:MQ}:∀k {B:MQ},k<=n->IL n A k=some B->MqU n k B
 |0,_,_,_=>fun _ _ _ hj=>absurd hj (dB _)
 |
  k+1,B,hk,e=>by
  unfold IL at e
  cases e1:IL n A k with
  |none=>rw [e1]at e;cases e
  |
   some C =>
   rw [e1]at e;have e:(if zf n C k<n then some (Jo C k (zf n C k))else none)=some B:=e;split at e
   ·rename_i hp
    cases e
    have:=acr (by omega) hp;exact avW (by omega) hp this.1 this.2 (ag4 k (by omega) e1)
   cases e
theorem anv{n:Nat}{A B:MQ}(h:IL n A n=some B)(c i:Nat)(hi:i<n):Bv (fun j=>A i j*B j c) n=A i c:=by
 have hU:=ag4 n (aJ _) h;have:=Y6 (y:=fun j=>B j c) (c:=c) n (aJ _) h (fun i hi=>by
  unfold yH;rw [EY (g:=fun j=>(if i=j then(1:Rat)else 0)*B j c) fun j hj=>by rw [hU i hi j hj],Oq,aQ hi]
  grind) i hi
 unfold yH at this
 grind
structure RvM (n c:Nat) (M:MF) (A:MQ) (N:Nat):Prop where
 len:∀i,i<n->(M i).length=c
 rv:∀i,i<n->∀j,j<c->Rv (L6 M i j) (A i j) N
theorem Rv.mono{r:R}{a:Rat}{M N:Nat}(h:Rv r a M)(hl:M<=N):Rv r a N:=⟨h.q,h.h.mono hl⟩
theorem RvM.sw{n c k p N:Nat}{M:MF}{A:MQ}(h:RvM n c M A N)(hk:k<n)(hp:p<n):RvM n c (BL M k p) (FC A k p) N:=by
 refine⟨fun i hi=>?_,fun i hi j hj=>?_⟩
 ·unfold BL;split
  ·exact h.len k hk
  split
  ·exact h.len p hp
  exact h.len i hi
 unfold L6 BL FC;by_cases e1:i=p
 ·rw [aQ e1,aQ e1];exact h.rv k hk j hj
 rw [aN e1,aN e1];by_cases e2:i=k
 ·rw [aQ e2,aQ e2];exact h.rv p hp j hj
 rw [aN e2,aN e2];exact h.rv i hi j hj
theorem RvM.Qj{n c N:Nat}{M:MF}{A:MQ}(h:RvM n c M A N):Qj n M=true:=by
 refine VK.2 fun i hi=>bg.2 fun x hx=>?_;obtain⟨j,hj⟩:=bJ.1 hx;have hl:=(aP.1 hj).1;rw [h.len i hi]at hl;have:=(h.rv i hi j hl).ok;unfold L6 at this
 rwa [aj,hj]at this
structure azX (n:Nat) (m:List (List R)) (a:MQ):Prop where
 len:m.length=n
 row:∀i,i<n->(m.getD i default).length=n
 rv:∀i,i<n->∀j,j<n->Rv (mEl m i j) (a i j) 10
theorem anw{n c N:Nat}{w:List (List R)}{A:MQ}{ci:Int}(hl:w.length=n)(hr:∀i,i<n->(w.getD i default).length=c)(hv:∀i,i<n->∀j,j<c->Rv (mEl w i j) (A i j) N)(hn:n<=10)(hci:ci=c):CJ w ci=true:=by
 rw [ab7,aT (by omega)];intro i hi;unfold Rn;rw [aT (by rw [hr i (by omega)];omega),cZ];exact SE fun j hj=>(hv i (by omega) j (by rw [<-hr i (by omega)];exact hj)).ok
theorem azX.ok{n:Nat}{m:List (List R)}{a:MQ}(h:azX n m a)(hn:n<=10):CJ m m.length=true:=anw h.len h.row h.rv hn (by rw [h.len])
theorem ag5{α:Type}{a b:List α}{d:α}{j:Nat}(h:j<a.length):(a++b).getD j d=a.getD j d:=by
 rw [aj,aj,bK h]
theorem ag6{α:Type}{a b:List α}{d:α}{j:Nat}(h:a.length<=j):(a++b).getD j d=b.getD (j-a.length) d:=by
 rw [aj,aj,bW h]
theorem aa8{α:Type}{f:Nat->α}{d:α}{n j:Nat}(h:j<n):((List.range n).map f).getD j d=f j:=by
 rw [aj,bP,dM h];rfl
def Ie:Fn:=⟨1,20,[.tmp 2],(sr [oN 2 mN] (.seq (rf 1 [oN 6 (.nO 11 I5 0 []),oK 3 1 (oV 6)]) (.seq (sr [oW 7 0,oN 8 (ln 7),oN 9 (.qC (cI 0))] (.block 0 (.loop (sr [oN 10 (bt .lss 9 8)] (.seq (cd 10 .skip (.exit 0)) (.seq (.block 1 (.seq (rf 1 [oK 11 1 (ix 11 7 9),oK 12 1 (lT 11 11),oN 5 (.alloc I5),⟨none,none,1,.store 11 (.t 5) (.t 12),[]⟩]) (rf 2 [oK 13 2 (oV 3),oK 14 2 (lT 11 5),oK 15 2 (cl 197 [14]),oN 16 (.nO 11 I5 1 [(0,(.t 15))]),oK 17 1 (.app 11 184 (.t 13) (.t 16)),oK 3 2 (oV 17)]))) (rg [oN 18 (bc .add 9 1),oW 9 18]))))))) (sr [oW 19 3,oW 2 19] .ret))))⟩
structure MG (T:Tb):Prop where
 hT:T 194=some Ie
 AO:EH T
def vZ:Fn:=⟨2,86,[.tmp 4,.cell 5 3 true,.tmp 6],(.seq (rf 2 [oN 3 (.box (.t 1)),oK 4 2 mN,oK 5 1 (.alloc uJ),oK 6 2 mF]) (.seq (sr [oW 13 0,oN 14 (cl 193 [13]),oN 15 (nt 14),oW 16 15,oG 16 false 17 (lT 11 3),oG 16 false 18 (cl 83 [17]),oG 16 false 19 (nt 18),oN 20 (.pick (.t 16) (.c (.bool true)) (.t 19))] (cd 20 (sr [oN 21 (.build uJ []),oN 4 mN,oS (.store 3 (.t 5) (.t 21)),oN 6 mF] .ret) .skip)) (sr [oW 22 0,oN 23 (cl 194 [22]),oW 7 23] (sr [oN 8 (.qC (cI 0))] (.seq (.block 0 (.loop (.seq (.seq (rt 0 [oW 24 8,oW 25 7,oA 26 0 (ln 25) [1],oA 27 0 (bt .lss 24 26) [0,2],oA 28 0 (oV 27) [3],oH 28 true 29 0 (oV 7) [4],oH 28 true 30 0 (oV 8) [4],oH 28 true 31 0 (ix 11 29 30) [5,6,4],oH 28 true 32 0 (lT 11 31) [7,4],oH 28 true 33 0 (lT 11 3) [4],oH 28 true 34 0 (cl 195 [32,33]) [8,9,4,4],oA 35 0 (.pick (.t 28) (.t 34) (.c (.bool false))) [4,10]]) (cd 35 .skip (.exit 0))) (.block 1 (rg [oW 36 8,oN 37 (bc .add 36 1),oW 8 37]))))) (.seq (.seq (rt 0 [oW 38 8,oW 39 7,oA 40 0 (ln 39) [1],oA 41 0 (bt .lss 38 40) [0,2],oA 42 0 (oV 41) [3],oH 42 true 43 0 (lT 11 3) [4],oH 42 true 44 0 (oV 7) [4],oH 42 true 45 0 (oV 8) [4],oH 42 true 46 0 (ix 11 44 45) [6,7,4],oH 42 true 47 0 (lT 11 46) [8,4],oH 42 true 48 0 (cl 195 [43,47]) [5,9,4,4],oH 42 true 49 0 (nt 48) [10,4],oA 50 0 (.pick (.t 42) (.t 49) (.c (.bool false))) [4,11]]) (cd 50 (.seq (rt 2 [oK 52 2 (oV 7),oK 53 2 (oV 8),oA 54 2 (ix 11 52 53) [0,1],oA 55 2 (lT 11 54) [2],oK 56 2 (lT 11 3),oA 57 2 (cl 196 [55,56]) [3,4],oA 51 2 (oV 57) [5],oA 58 2 (ex 0 51) [6],oA 59 2 (ex 1 51) [6],oA 60 2 (ex 2 51) [6],oN 9 (.alloc I5),oK 10 1 (.alloc uJ),⟨none,none,2,.store 11 (.t 9) (.t 58),[10,7,5,0,1,2,3,4,5,6,7,10,11]⟩,⟨none,none,2,.store 3 (.t 10) (.t 59),[11,8,12,0,1,2,3,4,5,6,7,8,10,11,12]⟩,oA 11 2 (oV 60) [9,13,0,1,2,3,4,5,6,7,8,9,10,11,12,13]]) (.seq (sr [oW 61 11,oN 62 (nt 61)] (cd 62 (sr [oN 63 (.build uJ []),oN 4 mN,oS (.store 3 (.t 5) (.t 63)),oN 6 mF] .ret) .skip)) (sr [oW 64 7,oW 65 8,oN 66 (lT 11 9),oN 67 (ix 11 64 65),oS (.store 11 (.t 67) (.t 66))] (.seq (rt 0 [oW 68 7,oN 69 (lT 3 10),oA 4 0 (oV 68) [0,0],⟨none,none,0,.store 3 (.t 5) (.t 69),[1,2,0,1,2]⟩,oA 6 0 mT [3,0,1,2,3]]) .ret)))) .skip)) (.seq (rf 2 [oN 70 (.nO 11 I5 0 []),oK 71 2 (oV 7),oK 72 2 (oV 8),oK 73 2 (.slice 11 (.t 71) none (some (.t 72))),oK 74 1 (.app 11 184 (.t 70) (.t 73)),oK 12 2 (oV 74)]) (.seq (rf 2 [oK 75 2 (oV 12),oK 76 2 (lT 11 3),oK 77 2 (cl 197 [76]),oN 78 (.nO 11 I5 1 [(0,(.t 77))]),oK 79 1 (.app 11 184 (.t 75) (.t 78)),oK 12 2 (oV 79)]) (.seq (rf 1 [oK 80 1 (oV 12),oK 81 1 (oV 7),oK 82 1 (oV 8),oK 83 1 (.slice 11 (.t 81) (some (.t 82)) none),oN 84 (.app 11 184 (.t 80) (.t 83)),oK 85 1 (.call 36 [(cI 0)]),oK 4 1 (oV 84),⟨none,none,1,.store 3 (.t 5) (.t 85),[]⟩,oK 6 1 mT]) .ret)))))))))⟩
structure J5 (T:Tb):Prop where
 hT:T 188=some vZ
 nI:wQ T
 qR:vT T
 Gf:Bl T
 Z9:MG T
 Ez:Ey T
 UH:ER T
 AO:EH T
def EZ:Fn:=⟨2,77,[.tmp 4,.cell 5 3 true,.tmp 6],(.seq (rf 2 [oN 3 (.box (.t 1)),oK 4 2 mN,oK 5 1 (.alloc uJ),oK 6 2 mF]) (sr [oN 7 (.qC (cI 0))] (.seq (.block 0 (.loop (.seq (.seq (rt 0 [oW 12 7,oW 13 0,oA 14 0 (ln 13) [1],oA 15 0 (bt .lss 12 14) [0,2],oA 16 0 (oV 15) [3],oH 16 true 17 0 (oV 0) [4],oH 16 true 18 0 (oV 7) [4],oH 16 true 19 0 (ix 11 17 18) [5,6,4],oH 16 true 20 0 (lT 11 19) [7,4],oH 16 true 21 0 (lT 11 3) [4],oH 16 true 22 0 (cl 111 [20,21]) [8,9,4,4],oA 23 0 (.pick (.t 16) (.t 22) (.c (.bool false))) [4,10]]) (cd 23 .skip (.exit 0))) (.block 1 (rg [oW 24 7,oN 25 (bc .add 24 1),oW 7 25]))))) (.seq (rf 2 [oN 26 (.nO 11 I5 0 []),oK 27 2 (oV 0),oK 28 2 (oV 7),oK 29 2 (.slice 11 (.t 27) none (some (.t 28))),oK 30 1 (.app 11 184 (.t 26) (.t 29)),oK 8 2 (oV 30)]) (.seq (.seq (rt 0 [oW 31 7,oW 32 0,oA 33 0 (ln 32) [1],oA 34 0 (bt .eql 31 33) [0,2],oA 35 0 (oV 34) [3],oH 35 false 36 0 (lT 11 3) [4],oH 35 false 37 0 (oV 0) [4],oH 35 false 38 0 (oV 7) [4],oH 35 false 39 0 (ix 11 37 38) [6,7,4],oH 35 false 40 0 (lT 11 39) [8,4],oH 35 false 41 0 (cl 111 [36,40]) [5,9,4,4],oA 42 0 (.pick (.t 35) (.c (.bool true)) (.t 41)) [4,10]]) (cd 42 (.seq (rf 2 [oK 43 2 (oV 8),oK 44 2 (lT 11 3),oN 45 (.nO 11 I5 1 [(0,(.t 44))]),oK 46 1 (.app 11 184 (.t 43) (.t 45)),oK 8 2 (oV 46)]) (.seq (rf 1 [oK 47 1 (oV 8),oK 48 1 (oV 0),oK 49 1 (oV 7),oK 50 1 (.slice 11 (.t 48) (some (.t 49)) none),oN 51 (.app 11 184 (.t 47) (.t 50)),oK 52 1 (.call 39 [(cI 0)]),oK 4 1 (oV 51),⟨none,none,1,.store 3 (.t 5) (.t 52),[]⟩,oK 6 1 mT]) .ret)) .skip)) (.seq (rt 2 [oK 54 2 (oV 0),oK 55 2 (oV 7),oA 56 2 (ix 11 54 55) [0,1],oA 57 2 (lT 11 56) [2],oK 58 2 (lT 11 3),oA 59 2 (cl 140 [57,58]) [3,4],oA 53 2 (oV 59) [5],oA 60 2 (ex 0 53) [6],oA 61 2 (ex 1 53) [6],oA 62 2 (ex 2 53) [6],oN 9 (.alloc I5),oK 10 1 (.alloc uJ),⟨none,none,2,.store 11 (.t 9) (.t 60),[10,7,5,0,1,2,3,4,5,6,7,10,11]⟩,⟨none,none,2,.store 3 (.t 10) (.t 61),[11,8,12,0,1,2,3,4,5,6,7,8,10,11,12]⟩,oA 11 2 (oV 62) [9,13,0,1,2,3,4,5,6,7,8,9,10,11,12,13]]) (.seq (sr [oW 63 11,oN 64 (nt 63)] (cd 64 (sr [oN 65 (.build uJ []),oN 4 mN,oS (.store 3 (.t 5) (.t 65)),oN 6 mF] .ret) .skip)) (.seq (rf 2 [oK 66 2 (oV 8),oK 67 2 (lT 11 9),oN 68 (.nO 11 I5 1 [(0,(.t 67))]),oK 69 1 (.app 11 184 (.t 66) (.t 68)),oK 8 2 (oV 69)]) (.seq (rt 1 [oK 70 1 (oV 8),oK 71 1 (oV 0),oK 72 1 (oV 7),oA 73 1 (bc .add 72 1) [2],oA 74 1 (.slice 11 (.t 71) (some (.t 73)) none) [1,3],oA 75 0 (.app 11 184 (.t 70) (.t 74)) [0,4],oK 76 1 (lT 3 10),oA 4 1 (oV 75) [5,5,0,1,2,3,4,5],⟨none,none,1,.store 3 (.t 5) (.t 76),[6,7,0,1,2,3,4,5,6,7]⟩,oA 6 1 mT [8,0,1,2,3,4,5,6,7,8]]) .ret)))))))))⟩
structure J6 (T:Tb):Prop where
 hT:T 130=some EZ
 lK:nV T
 yQ:yP T
 KU:ES T
def FH(l:Lk):List Lk->Nat
 | []=>0
 |x::xs=>if lW x l=true then FH l xs+1 else 0
theorem KW(l:Lk):∀s:List Lk,FH l s<=s.length
 | []=>aJ _
 |
  x::xs=>by
  have:=KW l xs;unfold FH;split<;>simp<;>omega
theorem acu{l:Lk}:∀{s:List Lk} {i:Nat},i<=FH l s->i<s.length->lW (s.getD i default) l=decide (i<FH l s)
 | [],i,_,h=>absurd h (dB _)
 |
  x::xs,0,h,_=>by
  unfold FH
  cases hx:lW x l
  ·simp [hx]
  simp [hx]
 |
  x::xs,i+1,h,hi=>by
  unfold FH at h ⊢;split at h
  ·rename_i hx;have:=acu (s:=xs) (i:=i) (l:=l) (by omega) (by simpa using hi);rw [List.getD_cons_succ,this,aQ hx];simp
  omega
def Ot(s:List Lk)(l:Lk):Option (List Lk×R) :=
 let i:=FH l s
 if i=s.length\/lW l (s.getD i default)=true then some (s.take i++l::s.drop i,lC 0)
 else if Pj (s.getD i default) l=true then some (s.take i++Ry (s.getD i default) l::s.drop (i+1),Ph (s.getD i default) l)else none
def UJ(s:List Lk)(l:Lk):Bool:=lN s&&ql l&&(Ot s l).isSome
def adV(s:List Lk)(l:Lk):List Lk:=if lN s=true/\ql l=true then((Ot s l).map (·.1)).getD []else []
def adE(s:List Lk)(l:Lk):R:=if lN s=true/\ql l=true then((Ot s l).map (·.2)).getD R0 else R0
theorem ag8{s:List Lk}{l:Lk}(h:¬(lN s=true/\ql l=true)):adV s l=[]/\adE s l=R0/\UJ s l=false:=by
 refine⟨aN h,aN h,?_⟩;unfold UJ
 cases h1:lN s
 ·rfl
 cases h2:ql l
 ·rfl
 exact absurd ⟨h1,h2⟩ h
theorem KX{s:List Lk}{l:Lk}(h1:lN s=true)(h2:ql l=true):adV s l=((Ot s l).map (·.1)).getD []/\adE s l=((Ot s l).map (·.2)).getD R0/\UJ s l=(Ot s l).isSome :=
 ⟨aQ ⟨h1,h2⟩,aQ ⟨h1,h2⟩,by unfold UJ;rw [h1,h2];rfl⟩
theorem anx{T:Tb}(h:MG T){l:List Lk}(hz:NS Lk.sz l<=1048576):Run T (.fn 194 [nZ l] []) (.fn (slV l.length) (slS 11 (l.map Lk.cells))):=by
 have hl:l.length<=1048576:=by have:=P7 Lk.sz l;omega
 have:∃r σ',Run T (.fn 194 [nZ l] []) (.fn r σ')/\(r=slV l.length/\σ'=slS 11 (l.map Lk.cells)):=by
  refine run_end nR h.hT ?_;simp only [Ie,Lz,St.enter,au,aG,aX];refine ew ?_;refine kZ (fun _ _=>false) (α:=Nat×List Lk) (fun q=>⟨mJ [.any,.any,.any,slV q.2.length,.any,.any,.any,nZ l,iv (l.length:Nat),iv (q.1:Nat)],slS 11 (q.2.map Lk.cells),0,0,[],[]⟩) (fun q=>q.1<=l.length/\q.2=l.take q.1) (fun q=>l.length-q.1) rfl (0,[]) ?_ ?_ ?_
  ·exact⟨by omega,by simp⟩
  ·exact aiq
  rintro⟨i,xs⟩ ⟨hi,hx0⟩;dsimp only at hi hx0;have hx:xs.length<=1048576:=by rw [hx0];simp;omega
  by_cases hc:(i:Int)<(l.length:Nat)
  ·have hil:i<l.length:=by omega
   have es:l.take (i+1)=l.take i++[l.getD i default]:=by
    rw [iY,ak hil,aj,ak hil];rfl
   rw [<-hx0]at es;have hys:=Ui (f:=Lk.sz) hz (getD_mem hil);obtain⟨y,hy⟩:∃y,l.getD i default=y:=⟨_,rfl⟩;rw [hy]at es hys;have cc:=QH h.AO hys
   (rcases xs with _|⟨x,xs⟩<;>simp only [aG,au,xG,wF,iQ,bT,asP,ame]at hx ⊢)
   ·refine Dy @hc @mg @hy ?_;refine jK cc ?_;refine ew ?_;exact⟨by omega,(i+1,([])++[y]),by dsimp only;omega,⟨by dsimp only;omega,es.symm⟩,by (simp only [List.map_append,List.map_cons,List.map_nil];refine KH (k:=2) (by simp only [aia,ad5,ah9,and_true,true_and];(repeat' (first|exact IX _|exact amn _|refine⟨?_,?_⟩))) rfl ?_;(try (refine ew ?_;try with_reducible exact True.intro));(repeat' (first|exact True.intro|omega|exact DT (by simp) (by simp) (by simp)|refine⟨?_,?_⟩|exact pW rfl (by simp))))⟩
   refine Dy @hc @mg @hy ?_;refine jK cc ?_;refine ew ?_;exact⟨by omega,(i+1,(x::xs)++[y]),by dsimp only;omega,⟨by dsimp only;omega,es.symm⟩,by (simp only [List.map_append,List.map_cons,List.map_nil];refine KH (k:=3) (by simp only [aia,ad5,ah9,and_true,true_and];(repeat' (first|exact IX _|exact amn _|refine⟨?_,?_⟩))) rfl ?_;(try (refine ew ?_;try with_reducible exact True.intro));(repeat' (first|exact True.intro|omega|exact DT (by simp) (by simp) (by simp)|refine⟨?_,?_⟩|exact pW rfl (by simp))))⟩
  have hie:i=l.length:=by omega
  rw [hie,bI]at hx0;have hx1:l=xs:=hx0.symm;subst hx1;clear hx0 hie;rcases l with _|⟨x,xs⟩<;>simp only [aG,au,xG,wF,iQ,bT,asP,ame]at hc ⊢
  ·(refine Ae @hc ?_;try with_reducible exact aC)
  (refine Ae @hc ?_;try with_reducible exact aC)
 obtain⟨r,σ',h1,rfl,rfl⟩:=this;exact h1
theorem QK:nG (.oU [nZ [],lD R0,.bool false]) (.oU [.kC,.agg [.bool false,.kC,.kC],.bool false]):=by
 simp only [nG,wJ];exact⟨_,rfl,_,_,rfl,.inl ⟨rfl,.inl rfl⟩,_,_,rfl,sU,_,_,rfl,rfl,rfl⟩
theorem ars{n m:Nat}{s:Store}{rows:List (List V)}(h:nU rows)(hs:s.length=m):zW s [some ⟨n,rows⟩]=s++[some ⟨n,rows⟩]:=by
 unfold zW;simp only [bT,iQ,dh,rD]
 congr 4
 have:∀r∈rows,r.map (lS (mV s.length))=r:=fun r hr=>by
  conv=>rhs;rw [<-List.map_id r]
  apply gu
  intro v hv;exact Yz (h r hr v hv)
 conv=>rhs;rw [<-List.map_id rows]
 apply gu
 intro r hr;exact this r hr
theorem acv{σ:Store}{rows:List (List V)}{L:List Lk}{n:Nat}{r:R}{b:Bool}{t:V}(hrow:rows=L.map Lk.cells)(hn:n=L.length)(ht:t=.oU [nZ L,lD r,.bool b]) :
  oZ (Option.map V.oU (match Ri σ 0 n (some ⟨11,rows⟩)with
   |
    some d=>(match (match resolve σ 11 (.agg r.cells)with
    |some d=>some [d,V.bool b]
    |none=>none)with
    |some ds=>some (d::ds)
    |none=>none)
   |none=>none)) (nG t):=by
 subst hrow hn ht;have h1:Ri σ 0 L.length (some ⟨11,L.map Lk.cells⟩)=some (.sl 11 (L.map Lk.cells)):=by
  rw [Yo (IX L) (by simp),dA,bG (by simp)]
 have h2:resolve σ 11 (.agg r.cells)=some (.agg r.cells):=by
  show resolve σ (10+1) (.agg r.cells)=_;rw [resolve,FY (n:=9) (fun v hv=>agh [r] _ (by simp) v hv)];rfl
 rw [h1,h2];exact kR _
theorem ag9{T:Tb}(h:J5 T){s:List Lk}{l:Lk}(hw:DR Lk.wf s:=by exact rF)(hl:l.wf:=by exact wfA)(hz:NS Lk.sz s<=1048576:=by exact rF)(hz2:l.sz<=1048576:=by exact rF):PF T 188 [nZ s,Wu l] (.oU [nZ (adV s l),lD (adE s l),.bool (UJ s l)]):=by
 have hll:s.length<=1048576:=by have:=P7 Lk.sz s;omega
 have ci:=Ur h.Gf hw;have cl:=Au h.qR hl
 cases h1:lN s
 ·rw [h1]at ci;obtain⟨e1,e2,e3⟩:=ag8 (s:=s) (l:=l) (by rw [h1];simp);rw [e1,e2,e3];refine kX nR h.hT ?_;simp only [vZ,Lz];refine ev ?_;refine jK ci ?_;refine ev ?_;exact QK
 rw [h1]at ci
 cases h2:ql l
 ·rw [h2]at cl;obtain⟨e1,e2,e3⟩:=ag8 (s:=s) (l:=l) (by rw [h2];simp);rw [e1,e2,e3];refine kX nR h.hT ?_;simp only [vZ,Lz];refine ev ?_;refine jK ci ?_;refine ev ?_;refine jK cl ?_;refine ev ?_;exact QK
 rw [h2]at cl;have ra:=anx h.Z9 hz;obtain⟨e1,e2,e3⟩:=KX h1 h2;rw [e1,e2,e3];clear e1 e2 e3;have hst:=IX s;rcases s with _|⟨s0,s⟩
 ·have ra:Run T (.fn 194 [nZ []] []) (.fn .kC []):=ra;have c6:=QH h.AO hz2;have c0:=rG h.nI (n:=0) (by omega);refine kX (fun x d=>x == 194) h.hT ?_;simp only [vZ,Lz];refine ew ?_;refine jK ci ?_;refine ew ?_;refine jK cl ?_;refine ew ?_;refine Jv ra (by (refine ew ?_;try with_reducible exact aC)) (by (refine ew ?_;try with_reducible exact aC)) ?_;rw [show ∀s:Store,zW s []=s from fun s=>by simp [zW]];rw [show ∀g,lS g .kC=.kC from fun g=>rfl];refine ew ?_;refine akc (fun x d=>x == 194) rfl ?_;have h00:((0:Int)<((0:Nat):Int))=False:=by simp
  refine Ae @h00 ?_;refine jK c6 ?_;refine ew ?_;refine⟨by omega,?_⟩;refine jK c0 ?_;refine ew ?_;have aeV:Ot [] l=some ([l],lC 0):=by
   unfold Ot FH;exact aQ (.inl rfl)
  rw [aeV];exact kR _
 simp only [au,wF,bT,ame]at ra;generalize hS:s0::s=S at *;have hSl:S.length=s.length+1:=by rw [<-hS];rfl
 have hSm:s0.cells::s.map Lk.cells=S.map Lk.cells:=by rw [<-hS];rfl
 rw [hSm,<-hSl]at ra;refine kX (fun x d=>x == 194) h.hT ?_;simp only [vZ,Lz];refine ew ?_;refine jK ci ?_;refine ew ?_;refine jK cl ?_;refine ew ?_;refine Jv ra (by (refine ew ?_;try with_reducible exact aC)) (by (refine ew ?_;try with_reducible exact aC)) ?_;rw [ars hst (m:=2) rfl];rw [show lS (mV ([some ⟨11,[l.cells]⟩,some ⟨3,[[.bool false,.kC,.kC]]⟩]:Store).length) (.lQ 0 0 S.length)=.lQ 2 0 S.length from rfl];refine ew ?_;have hpl:=KW l S;refine kZ (fun x d=>x == 194) (α:=Nat) (fun i=>⟨mJ [.any,.any,.any,.ptr 0 0 0,.any,.ptr 1 0 0,.any,.lQ 2 0 S.length,iv (i:Nat)],[some ⟨11,[l.cells]⟩,some ⟨3,[[.bool false,.kC,.kC]]⟩,some ⟨11,S.map Lk.cells⟩],0,0,[],[]⟩) (fun i=>i<=FH l S) (fun i=>FH l S-i) rfl 0 ?_ ?_ ?_
 ·omega
 ·(refine kS ?_;exact uw)
 intro i hi;have hT:∀k,List.take k (S.map Lk.cells)=(S.take k).map Lk.cells:=fun k=>List.map_take.symm;have hD:∀k,List.drop k (S.map Lk.cells)=(S.drop k).map Lk.cells:=fun k=>kP.symm;have hap:(∀A,A.map Lk.cells++[l.cells]=(A++[l]).map Lk.cells)/\∀A B:List Lk,A.map Lk.cells++B.map Lk.cells=(A++B).map Lk.cells:=⟨fun A=>by simp,fun A B=>by simp⟩;by_cases hc:(i:Int)<(S.length:Nat)
 ·have hil:i<S.length:=by omega
  have hpa:=acu hi hil;have hrow:=mg? (f:=Lk.cells) hil;generalize hx:S.getD i default=x at hpa hrow;have cl1:=VD h.Ez (k:=x) (l:=l);rw [hpa]at cl1;refine AZ @hc @hrow ?_;refine jK cl1 ?_;by_cases hip:i<FH l S
  ·rw [aT hip];refine ew ?_;exact⟨i+1,by omega,by omega,by (refine kS ?_;exact uw)⟩
  rw [bH hip];have hie:i=FH l S:=by omega
  have cl2:=VD h.Ez (k:=l) (l:=x);refine AZ @hc @hrow ?_;refine jK cl2 ?_;have c6:=QH h.AO hz2;have c0:=rG h.nI (n:=0) (by omega);have aeV:lW l x=true->Ot S l=some (S.take i++l::S.drop i,lC 0):=fun h=>by
   unfold Ot;dsimp only;rw [<-hie,hx];exact aQ (.inr h)
  cases hlx:lW l x
  ·refine AZ @hc @hrow ?_;have hxo:ql x=true:=hx▸wS h1 hil;have hxw:x.wf:=by
    have:=hw.2 x (by rw [<-hx,aj,ak hil];exact jy hil);exact this
   have hab:x.a=l.a/\x.b=l.b:=by
    rw [bH hip]at hpa;unfold lW at hpa hlx;simp at hpa hlx;omega
   have hP:mgP x l=true:=by unfold mgP;rw [hxo,h2,aT hab.1,aT hab.2];rfl
   have anz:Ot S l=if Pj x l=true then some (S.take i++Ry x l::S.drop (i+1),Ph x l)else none:=by
    unfold Ot;dsimp only;rw [<-hie,hx,aN (by rw [hlx];simp;omega)]
   have cm:=Z8 h.UH hxw hl;have e1:Y5 x l=Pj x l:=by unfold Y5;rw [hP,cZ]
   have e2:ag1 x l=if Pj x l=true then Ry x l else Lk0:=by unfold ag1;rw [e1]
   have e3:ag2 x l=if Pj x l=true then Ph x l else R0:=by unfold ag2;rw [e1]
   rw [e1,e2,e3]at cm;rw [anz]
   cases hg:Pj x l
   ·rw [hg,aN (by simp),aN (by simp)]at cm;refine jK cm ?_;refine ew ?_;refine⟨by unfold sF;decide +kernel,?_⟩;exact QK
   rw [hg,aQ rfl,aQ rfl]at cm;generalize Ry x l=mm at cm ⊢;generalize Ph x l=me at cm ⊢;refine jK cm ?_;refine ew ?_;have hset:(List.map Lk.cells S).set i mm.cells=List.map Lk.cells (S.take i++mm::S.drop (i+1)):=by
    rw [List.set_eq_take_append_cons_drop,aQ (by simpa using hil),bU,bT,List.map_take,kP]
   refine⟨by unfold sF;decide +kernel,?_⟩;have hLl:(S.take i++mm::S.drop (i+1)).length=S.length:=by simp;omega
   generalize S.take i++mm::S.drop (i+1)=L' at hset hLl ⊢;have htk:List.take S.length L'=L':=bG (by omega);refine Dy @hrow @hset @htk ?_;refine⟨by unfold sF;decide +kernel,?_⟩;refine Ae @htk ?_;exact acv rfl hLl.symm rfl
  rw [aeV hlx];have hd:(List.map Lk.cells (List.drop i S)=[])=False:=iD (by intro e;have:=congrArg List.length e;rw [aV,iK]at this;have h9:([]:List (List V)).length=0:=rfl;omega);have hl1:(List.drop i S).length<=1048576:=by rw [iK];omega
  have hl2:(List.take i S).length<=1048576:=by rw [eu];omega
  rcases iw i with h0|h0
  ·have hn:(List.map Lk.cells (List.take i S)=[])=True:=iy (by rw [h0];rfl);refine D5 @hc @hrow @hT @hD @hn @hd ?_;refine jK c6 ?_;refine D6 @hT @hD @hn @hd ?_;refine⟨by omega,?_⟩;refine⟨by omega,?_⟩;refine jK c0 ?_;refine D6 @hT @hD @hn @hd ?_;exact acv (L:=S.take i++l::S.drop i) (by rw [h0];simp) (by rw [h0];simp;omega) rfl
  have hn:(List.map Lk.cells (List.take i S)=[])=False:=iD (by intro e;have:=congrArg List.length e;rw [aV,eu]at this;have h9:([]:List (List V)).length=0:=rfl;omega);refine D5 @hc @hrow @hT @hD @hn @hd ?_;refine⟨by omega,?_⟩;refine jK c6 ?_;refine Ku @hT @hD @hn @hd @hap ?_;refine⟨by omega,?_⟩;refine⟨by simp only [aS,au,aG];omega,?_⟩;refine jK c0 ?_;refine Ku @hT @hD @hn @hd @hap ?_;exact acv (L:=S.take i++l::S.drop i) (by simp) (by simp;omega) rfl
 have hie:i=S.length:=by omega
 have c6:=QH h.AO hz2;have c0:=rG h.nI (n:=0) (by omega);have aeV:Ot S l=some (S++[l],lC 0):=by
  unfold Ot;dsimp only;have hpe:FH l S=S.length:=by omega
  rw [hpe,aQ (.inl rfl),bI,jA]
 rw [aeV];have hS1:(List.map Lk.cells S=[])=False:=iD (by intro e;have:=congrArg List.length e;rw [aV]at this;have h9:([]:List (List V)).length=0:=rfl;omega);refine D6 @hc @hT @hD @hS1 ?_;refine⟨by omega,?_⟩;refine jK c6 ?_;have hd:(List.map Lk.cells (List.drop i S)=[])=True:=iy (by rw [eP (by omega)];rfl);refine Ku @hT @hD @hS1 @hap @hd ?_;refine⟨by omega,?_⟩;refine jK c0 ?_;refine Ku @hT @hD @hS1 @hap @hd ?_;exact acv (L:=S++[l]) (by simp) (by simp) rfl
theorem XE{σ:Store}{p n:Nat}{L:List Lk}(h:jQ σ p=some ⟨11,L.map Lk.cells⟩)(hn:n=L.length):resolve σ FD (.lQ p 0 n)=some (nZ L):=by
 have:=Ug (n:=10) h (IX L);rw [aV]at this;rw [hn];exact this
theorem aa9(env:Nat->V)(n:Nat)(x:Src)(lo hi:Option Src):I.reads env (.slice n x lo hi)=sH (x.ev env):=by simp [I.reads,I.yC]
theorem abb{σ:Store}{v u e t:V}{b:Bool}{os:List Nat}(hr:resolve σ FD v=some u)(h:mP σ e t os)(hn:os.Nodup):agr σ (.oU [v,e,.bool b]) [(false,u),(true,t),(false,.bool b)]:=by
 refine⟨[v,e,.bool b],os,kR _,?_,hn⟩;simp only [Xr,if_true,bM,if_false];exact⟨v,[e,.bool b],[],os,rfl,rfl,⟨hr,rfl⟩,e,[.bool b],os,[],rfl,by simp,h,.bool b,[],[],[],rfl,rfl,⟨rfl,rfl⟩,rfl,rfl⟩
theorem acw{σ:Store}:agr σ (.oU [.kC,.agg [.bool false,.kC,.kC],.bool false]) [(false,nZ []),(true,lD R0),(false,.bool false)]:=by
 refine⟨[.sl 11 [],lD R0,.bool false],[],?_,?_,.nil⟩
 ·exact QK
 simp only [Xr,if_true,bM,if_false];refine⟨_,_,[],[],rfl,rfl,⟨rfl,rfl⟩,_,_,[],[],rfl,rfl,?_,_,[],[],[],rfl,rfl,⟨rfl,rfl⟩,rfl,rfl⟩;exact ru (qV (qQ (o1:=[]) nP (qQ (o1:=[]) nP qm)))
theorem acy{σ:Store}{p n:Nat}{A B:List Lk}{m:Lk}{y:R}{c3 c4 c6 c7 c9 c10 e1 e2:V}{os:List Nat}(C:Cs σ [iv m.a,iv m.b,.bool m.w.neg,c3,c4,.bool m.dx.neg,c6,c7,.bool m.dy.neg,c9,c10,.bool y.neg,e1,e2] (m.cells++y.cells) os)
  (h:jQ σ p=some ⟨11,A.map Lk.cells++([iv m.a,iv m.b,.bool m.w.neg,c3,c4,.bool m.dx.neg,c6,c7,.bool m.dy.neg,c9,c10]::B.map Lk.cells)⟩) (hn:n=A.length+(B.length+1)) :
  agr σ (.oU [.lQ p 0 n,.agg [.bool y.neg,e1,e2],.bool true]) [(false,nZ (A++m::B)),(true,lD y),(false,.bool true)]:=by
 obtain⟨a1,a2,o1,o2,e,rfl,k1,k2⟩:=pV C.ow;obtain⟨rfl,rfl⟩:=fO (show [iv m.a,iv m.b,.bool m.w.neg,c3,c4,.bool m.dx.neg,c6,c7,.bool m.dy.neg,c9,c10]++[.bool y.neg,e1,e2]=a1++a2 from e) k1.len.symm;have nd:=(bf.1 C.nd);refine abb ?_ (ru k2) nd.2.1;have hm:resolve σ 12 (.agg [iv m.a,iv m.b,.bool m.w.neg,c3,c4,.bool m.dx.neg,c6,c7,.bool m.dy.neg,c9,c10])=some (.agg m.cells):=P9 12 (ru k1) (avp 9 m);rw [resolve]at hm;have hr:[iv m.a,iv m.b,.bool m.w.neg,c3,c4,.bool m.dx.neg,c6,c7,.bool m.dy.neg,c9,c10].mapM (resolve σ 11)=some m.cells:=by
  obtain⟨w,hw,e⟩:=aO.1 hm;rw [hw];exact congrArg some (V.agg.inj e)
 show resolve σ (11+1) _=_;rw [resolve];have hl:(A.map Lk.cells++([iv m.a,iv m.b,.bool m.w.neg,c3,c4,.bool m.dx.neg,c6,c7,.bool m.dy.neg,c9,c10]::B.map Lk.cells)).length=n:=by simp;omega
 simp only [h,aX,hl,aJ,if_true,dA];rw [bG (by omega),List.mapM_append,bZ,hr,yD (IX A),yD (IX B)];simp
def adT(s:List Lk)(l:Lk):List (Bool×V):=[(false,nZ (((Ot s l).map (·.1)).getD [])),(true,lD (((Ot s l).map (·.2)).getD R0)),(false,.bool (Ot s l).isSome)]
theorem aha{T:Tb}(h:J6 T){S:List Lk}{l:Lk}(hw:DR Lk.wf S)(h1:lN S=true)(h2:ql l=true)(hz:S.length<=1048576):PX T 130 [nZ S,Wu l] (adT S l):=by
 unfold adT;have hpl:=KW l S;refine Uf (fun x d=>(x == 39&&d == 52)||(x == 140&&d == 59)) h.hT ?_;simp only [EZ,Lz,St.enter,au,aG,aX];refine ew ?_;refine kZ (fun x d=>(x == 39&&d == 52)||(x == 140&&d == 59)) (α:=Nat) (fun i=>⟨mJ [nZ S,.any,.any,.ptr 0 0 0,.any,.ptr 1 0 0,.any,iv (i:Nat)],[some ⟨11,[l.cells]⟩,some ⟨3,[[.bool false,.kC,.kC]]⟩],0,0,[],[]⟩) (fun i=>i<=FH l S) (fun i=>FH l S-i) rfl 0 ?_ ?_ ?_
 ·omega
 ·(refine kS ?_;exact uw)
 intro i hi;have hT:∀k,List.take k (S.map Lk.cells)=(S.take k).map Lk.cells:=fun k=>List.map_take.symm;have hD:∀k,List.drop k (S.map Lk.cells)=(S.drop k).map Lk.cells:=fun k=>kP.symm;have hap:(∀A,A.map Lk.cells++[l.cells]=(A++[l]).map Lk.cells)/\∀A B:List Lk,A.map Lk.cells++B.map Lk.cells=(A++B).map Lk.cells:=⟨fun A=>by simp,fun A B=>by simp⟩;have hl2:(List.take i S).length<=1048576:=by rw [eu];omega
 have hl1:(List.drop i S).length<=1048576:=by rw [iK];omega
 have hnT:i=0->(List.map Lk.cells (List.take i S)=[])=True:=fun h0=>iy (by rw [h0];rfl);have hnF:0<i->(List.map Lk.cells (List.take i S)=[])=False:=fun h0=>iD (by intro e;have:=congrArg List.length e;rw [aV,eu]at this;have h9:([]:List (List V)).length=0:=rfl;omega);by_cases hc:(i:Int)<(S.length:Nat)
 ·have hil:i<S.length:=by omega
  have hne:¬(i:Int)=(S.length:Nat):=by omega
  have hpa:=acu hi hil;have hrow:=mg (f:=Lk.cells) hil;have hdF:(List.map Lk.cells (List.drop i S)=[])=False:=iD (by intro e;have:=congrArg List.length e;rw [aV,iK]at this;have h9:([]:List (List V)).length=0:=rfl;omega);generalize hx:S.getD i default=x at hpa hrow;have cl1:=LX h.yQ (k:=x) (l:=l);rw [hpa]at cl1;refine AZ @hc @hrow ?_;refine jK cl1 ?_;by_cases hip:i<FH l S
  ·rw [aT hip];refine ew ?_;exact⟨i+1,by omega,by omega,by (refine kS ?_;exact uw)⟩
  rw [bH hip];have hie:i=FH l S:=by omega
  have cl2:=LX h.yQ (k:=l) (l:=x);have aeV:lW l x=true->Ot S l=some (S.take i++l::S.drop i,lC 0):=fun h=>by
   unfold Ot;dsimp only;rw [<-hie,hx];exact aQ (.inr h)
  rcases iw i with h0|h0
  ·have hn:=hnT h0;refine Ku @hc @hrow @hT @hn @hne ?_;refine jK cl2 ?_
   cases hlx:lW l x
   ·refine Ku @hc @hrow @hT @hn @hne ?_;have hxo:ql x=true:=hx▸wS h1 hil;have hab:x.a=l.a/\x.b=l.b:=by
     rw [bH hip]at hpa;unfold lW at hpa hlx;simp at hpa hlx;omega
    have anz:Ot S l=if Pj x l=true then some (S.take i++Ry x l::S.drop (i+1),Ph x l)else none:=by
     unfold Ot;dsimp only;rw [<-hie,hx,aN (by rw [hlx];simp;omega)]
    rw [anz];have po:=Rz h.KU (Oi hxo) (Oi h2);refine sK po (by (refine ew ?_;try with_reducible exact aC)) (by (refine ew ?_;try with_reducible exact aC)) ?_
    cases hg:Pj x l
    ·intro r q os G;obtain⟨c3,c4,c6,c7,c9,c10,e1,e2,rfl,hO⟩:=G.aic;rw [aN (by decide),aN (by decide)]at hO ⊢;have L3:=hO.leaf (by rfl);simp only [dD,dU,dJ,aH]at L3;have gl:6<=q.length:=by have:=G.len;simp at this;omega
     have O0:=(G.old 1 (by simp)).trans rfl;refine AZ @L3 @O0 ?_;refine⟨by unfold sF;decide +kernel,?_⟩;exact .inl acw
    intro r q os G;obtain⟨c3,c4,c6,c7,c9,c10,e1,e2,rfl,hO⟩:=G.aic;rw [aQ rfl,aQ rfl]at hO ⊢;have L3:=hO.leaf (by rfl);simp only [dD,dU,dJ,aH]at L3;have gl:6<=q.length:=by have:=G.len;simp at this;omega
    have O0:=(G.old 1 (by simp)).trans rfl;refine AZ @L3 @O0 ?_;refine⟨by unfold sF;decide +kernel,?_⟩;have hl3:(List.drop (i+1) S).length<=1048576:=by rw [iK];omega
    have hln:(List.drop (i+1) S).length=S.length-(i+1):=by rw [iK]
    have hb1:((i:Int)+1<=(S.length:Nat))=True:=iy (by omega);have hb0:(0<=(i:Int)+1)=True:=iy (by omega);have ht1:((i:Int)+1).toNat=i+1:=by omega
    have TD:=ah @aa9 (ah (ah hT hD) (ah hb1 (ah hb0 ht1)));have hti:(List.take i S).length=i:=by rw [eu];omega
    by_cases hde:List.map Lk.cells (List.drop (i+1) S)=[]
    ·have hdz:(List.drop (i+1) S).length=0:=by have:=congrArg List.length hde;rw [aV]at this;exact this
     refine Dy @hde @O0 @TD ?_;refine⟨by (try simp only [aS,aV,au,aG]);omega,?_⟩;refine Dy @hde @O0 @TD ?_;rw [aQ (by rw [L3.2.2.2.2.2.2.2.2.2.2.2.2.1,L3.2.2.2.2.2.2.2.2.2.2.2.2.2];rfl)];refine⟨?_,?_⟩
     ·have hn0:6<=List.length q:=gl;generalize List.length q=m at hn0 ⊢
      revert m
      refine y7 _ _ 6 (fun n hn=>?_) (fun n hn=>?_) ?_
      ·simp only [sh];split<;>omega
      ·simp [Yy,sh];try omega
      unfold sF;decide +kernel
     have hlt:=hO.lt;have hfr:=G.fresh;refine .inl (acy (A:=S.take i) (B:=S.drop (i+1)) (Cs.frame (⟨hO,G.nd⟩:Cs q _ _ os) fun o ho=>?_) ?_ ?_)
     ·have k1:=hlt o ho;have k2:=hfr o ho;simp only [au,aG]at k2;simp (disch:=first|omega|(simp;done)|(simp;omega)) only [kN,kV]
     ·simp (disch:=first|omega|(simp;done)|(simp;omega)) only [kN,kY,kV];rw [show List.map Lk.cells (List.take i S)=[]from gV hn];first|rfl|(rw [hde];rfl)|simp
     (try simp only [aS,aV,au,aG]);omega
    refine Dy @hde @O0 @TD ?_;refine⟨by (try simp only [aS,aV,au,aG]);omega,?_⟩;refine Dy @hde @O0 @TD ?_;refine⟨by (try simp only [aS,aV,au,aG]);omega,?_⟩;rw [aQ (by rw [L3.2.2.2.2.2.2.2.2.2.2.2.2.1,L3.2.2.2.2.2.2.2.2.2.2.2.2.2];rfl)];refine⟨?_,?_⟩
    ·have hn0:6<=List.length q:=gl;generalize List.length q=m at hn0 ⊢
     revert m
     refine y7 _ _ 6 (fun n hn=>?_) (fun n hn=>?_) ?_
     ·simp only [sh];split<;>omega
     ·simp [Yy,sh];try omega
     unfold sF;decide +kernel
    have hlt:=hO.lt;have hfr:=G.fresh;refine .inl (acy (A:=S.take i) (B:=S.drop (i+1)) (Cs.frame (⟨hO,G.nd⟩:Cs q _ _ os) fun o ho=>?_) ?_ ?_)
    ·have k1:=hlt o ho;have k2:=hfr o ho;simp only [au,aG]at k2;simp (disch:=first|omega|(simp;done)|(simp;omega)) only [kN,kV]
    ·simp (disch:=first|omega|(simp;done)|(simp;omega)) only [kN,kY,kV];rw [show List.map Lk.cells (List.take i S)=[]from gV hn];first|rfl|(rw [hde];rfl)|simp
    (try simp only [aS,aV,au,aG]);omega
   rw [aeV hlx];refine D5 @hrow @hT @hD @hn @hdF @hap ?_;refine⟨by omega,by omega,?_⟩;refine nH (qM h.lK (n:=0)) (by (refine ew ?_;try with_reducible exact aC)) ?_;intro r q os G;have gl:7<=q.length:=by have:=G.len;simp at this;omega
   have hop:jQ q 6=some ⟨11,l.cells::List.map Lk.cells (List.drop i S)⟩:=(G.old 6 (by simp)).trans rfl;have ho1:=(G.old 1 (by simp)).trans rfl;have n1:1∉os:=fun hm=>by have:=G.fresh 1 hm;simp at this
   obtain⟨_,rfl,hQ⟩:=G.ow.lU;obtain⟨y1,y2,rfl⟩:=hQ.rat
   have E:Ep q [.bool (lC 0).neg,y1,y2] [.bool (lC 0).neg,ints (lC 0).mag,ints (lC 0).den] os []:=⟨⟨hQ,G.nd⟩,by simp⟩;have LF:=ah (E.leaf 1 rfl rfl) (E.leaf 2 rfl rfl);have C:=E.c.set (o:=1) (x:=some ⟨3,[[.bool (lC 0).neg,y1,y2]]⟩) n1;refine AZ @LF @ho1 ?_;refine .inl (abb (XE (L:=S.take i++l::S.drop i) ?_ ?_) (ru C.ow) C.nd)
   ·rw [kN (by decide)];refine hop.trans ?_;rw [h0];simp
   rw [h0];simp;omega
  have hn:=hnF h0;refine Ku @hc @hrow @hT @hn @hne ?_;refine D5 @hrow @hT @hD @hn @hdF @hap ?_;refine⟨by omega,?_⟩;refine jK cl2 ?_
  cases hlx:lW l x
  ·refine Ae @hrow ?_;have hxo:ql x=true:=hx▸wS h1 hil;have hab:x.a=l.a/\x.b=l.b:=by
    rw [bH hip]at hpa;unfold lW at hpa hlx;simp at hpa hlx;omega
   have anz:Ot S l=if Pj x l=true then some (S.take i++Ry x l::S.drop (i+1),Ph x l)else none:=by
    unfold Ot;dsimp only;rw [<-hie,hx,aN (by rw [hlx];simp;omega)]
   rw [anz];have po:=Rz h.KU (Oi hxo) (Oi h2);refine sK po (by (refine ew ?_;try with_reducible exact aC)) (by (refine ew ?_;try with_reducible exact aC)) ?_
   cases hg:Pj x l
   ·intro r q os G;obtain⟨c3,c4,c6,c7,c9,c10,e1,e2,rfl,hO⟩:=G.aic;rw [aN (by decide),aN (by decide)]at hO ⊢;have L3:=hO.leaf (by rfl);simp only [dD,dU,dJ,aH]at L3;have gl:6<=q.length:=by have:=G.len;simp at this;omega
    have O0:=(G.old 1 (by simp)).trans rfl;have O3:jQ q 3=some ⟨11,List.map Lk.cells (List.take i S)⟩:=(G.old 3 (by simp)).trans rfl;refine AZ @L3 @O0 ?_;refine⟨by unfold sF;decide +kernel,?_⟩;exact .inl acw
   intro r q os G;obtain⟨c3,c4,c6,c7,c9,c10,e1,e2,rfl,hO⟩:=G.aic;rw [aQ rfl,aQ rfl]at hO ⊢;have L3:=hO.leaf (by rfl);simp only [dD,dU,dJ,aH]at L3;have gl:6<=q.length:=by have:=G.len;simp at this;omega
   have O0:=(G.old 1 (by simp)).trans rfl;have O3:jQ q 3=some ⟨11,List.map Lk.cells (List.take i S)⟩:=(G.old 3 (by simp)).trans rfl;refine AZ @L3 @O0 ?_;refine⟨by unfold sF;decide +kernel,?_⟩;have hl3:(List.drop (i+1) S).length<=1048576:=by rw [iK];omega
   have hln:(List.drop (i+1) S).length=S.length-(i+1):=by rw [iK]
   have hb1:((i:Int)+1<=(S.length:Nat))=True:=iy (by omega);have hb0:(0<=(i:Int)+1)=True:=iy (by omega);have ht1:((i:Int)+1).toNat=i+1:=by omega
   have TD:=ah @aa9 (ah (ah hT hD) (ah hb1 (ah hb0 ht1)));have hti:(List.take i S).length=i:=by rw [eu];omega
   by_cases hde:List.map Lk.cells (List.drop (i+1) S)=[]
   ·have hdz:(List.drop (i+1) S).length=0:=by have:=congrArg List.length hde;rw [aV]at this;exact this
    refine Dy @hde ((ah O0 O3)) @TD ?_;refine⟨by (try simp only [aS,aV,au,aG]);omega,?_⟩;refine Dy @hde ((ah O0 O3)) @TD ?_;rw [aQ (by rw [L3.2.2.2.2.2.2.2.2.2.2.2.2.1,L3.2.2.2.2.2.2.2.2.2.2.2.2.2];rfl)];refine⟨?_,?_⟩
    ·have hn0:6<=List.length q:=gl;generalize List.length q=m at hn0 ⊢
     revert m
     refine y7 _ _ 6 (fun n hn=>?_) (fun n hn=>?_) ?_
     ·simp only [sh];split<;>omega
     ·simp [Yy,sh];try omega
     unfold sF;decide +kernel
    have hlt:=hO.lt;have hfr:=G.fresh;refine .inl (acy (A:=S.take i) (B:=S.drop (i+1)) (Cs.frame (⟨hO,G.nd⟩:Cs q _ _ os) fun o ho=>?_) ?_ ?_)
    ·have k1:=hlt o ho;have k2:=hfr o ho;simp only [au,aG]at k2;simp (disch:=first|omega|(simp;done)|(simp;omega)) only [kN,kV]
    ·simp (disch:=first|omega|(simp;done)|(simp;omega)) only [kN,kY,kV]
     first|rfl|(rw [hde];rfl)|(simp;done)|(simp;omega)
    (try simp only [aS,aV,au,aG]);omega
   refine Dy @hde ((ah O0 O3)) @TD ?_;refine⟨by (try simp only [aS,aV,au,aG]);omega,?_⟩;refine Dy @hde ((ah O0 O3)) @TD ?_;refine⟨by (try simp only [aS,aV,au,aG]);omega,?_⟩;rw [aQ (by rw [L3.2.2.2.2.2.2.2.2.2.2.2.2.1,L3.2.2.2.2.2.2.2.2.2.2.2.2.2];rfl)];refine⟨?_,?_⟩
   ·have hn0:6<=List.length q:=gl;generalize List.length q=m at hn0 ⊢
    revert m
    refine y7 _ _ 6 (fun n hn=>?_) (fun n hn=>?_) ?_
    ·simp only [sh];split<;>omega
    ·simp [Yy,sh];try omega
    unfold sF;decide +kernel
   have hlt:=hO.lt;have hfr:=G.fresh;refine .inl (acy (A:=S.take i) (B:=S.drop (i+1)) (Cs.frame (⟨hO,G.nd⟩:Cs q _ _ os) fun o ho=>?_) ?_ ?_)
   ·have k1:=hlt o ho;have k2:=hfr o ho;simp only [au,aG]at k2;simp (disch:=first|omega|(simp;done)|(simp;omega)) only [kN,kV]
   ·simp (disch:=first|omega|(simp;done)|(simp;omega)) only [kN,kY,kV]
    first|rfl|(rw [hde];rfl)|(simp;done)|(simp;omega)
   (try simp only [aS,aV,au,aG]);omega
  rw [aeV hlx];refine D5 @hrow @hT @hD @hn @hdF @hap ?_;refine⟨by omega,by simp only [aS,au,aG];omega,?_⟩;refine nH (qM h.lK (n:=0)) (by (refine ew ?_;try with_reducible exact aC)) ?_;intro r q os G;have gl:7<=q.length:=by have:=G.len;simp at this;omega
  have hop:jQ q 6=some ⟨11,List.map Lk.cells (List.take i S++[l]++List.drop i S)⟩:=(G.old 6 (by simp)).trans rfl;have ho1:=(G.old 1 (by simp)).trans rfl;have n1:1∉os:=fun hm=>by have:=G.fresh 1 hm;simp at this
  obtain⟨_,rfl,hQ⟩:=G.ow.lU;obtain⟨y1,y2,rfl⟩:=hQ.rat
  have E:Ep q [.bool (lC 0).neg,y1,y2] [.bool (lC 0).neg,ints (lC 0).mag,ints (lC 0).den] os []:=⟨⟨hQ,G.nd⟩,by simp⟩;have LF:=ah (E.leaf 1 rfl rfl) (E.leaf 2 rfl rfl);have C:=E.c.set (o:=1) (x:=some ⟨3,[[.bool (lC 0).neg,y1,y2]]⟩) n1;refine AZ @LF @ho1 ?_;refine .inl (abb (XE (L:=S.take i++l::S.drop i) ?_ ?_) (ru C.ow) C.nd)
  ·rw [kN (by decide)];refine hop.trans ?_;simp
  simp;omega
 have hie:i=S.length:=by omega
 have hpe:FH l S=S.length:=by omega
 have aE1:Ot S l=some (S++[l],lC 0):=by
  unfold Ot;dsimp only;rw [hpe,aQ (.inl rfl),bI,jA]
 have hde:List.map Lk.cells (List.drop i S)=[]:=by rw [eP (by omega)];rfl
 have htk:List.take i S=S:=bG (by omega);have hci:((i:Int)=(S.length:Nat))=True:=iy (by omega);rw [aE1];have hd0:(List.drop i (List.map Lk.cells S)=[])=True:=iy (by rw [eP (by simp;omega)]);rcases iw i with h0|h0
 ·have hn:(List.map Lk.cells S=[])=True:=iy (by have:=gV (hnT h0);rw [htk]at this;exact this);refine D6 @hc @hci @hn @hd0 ?_;refine⟨by omega,?_⟩;refine D6 @hc @hci @hn @hd0 ?_;refine nH (qM h.lK (n:=0)) (by (refine ew ?_;try with_reducible exact aC)) ?_;intro r q os G;have gl:6<=q.length:=by have:=G.len;simp at this;omega
  have hop:jQ q 5=some ⟨11,[l.cells]⟩:=(G.old 5 (by simp)).trans rfl;have ho1:=(G.old 1 (by simp)).trans rfl;have n1:1∉os:=fun hm=>by have:=G.fresh 1 hm;simp at this
  obtain⟨_,rfl,hQ⟩:=G.ow.lU;obtain⟨y1,y2,rfl⟩:=hQ.rat
  have E:Ep q [.bool (lC 0).neg,y1,y2] [.bool (lC 0).neg,ints (lC 0).mag,ints (lC 0).den] os []:=⟨⟨hQ,G.nd⟩,by simp⟩;have LF:=ah (E.leaf 1 rfl rfl) (E.leaf 2 rfl rfl);have C:=E.c.set (o:=1) (x:=some ⟨3,[[.bool (lC 0).neg,y1,y2]]⟩) n1;refine AZ @LF @ho1 ?_;refine .inl (abb (XE (L:=S++[l]) ?_ ?_) (ru C.ow) C.nd)
  ·rw [kN (by decide)];refine hop.trans ?_;rw [bU,gV hn];rfl
  have:=congrArg List.length (gV hn);simp at this ⊢;simp [this]
 have hn:(List.map Lk.cells S=[])=False:=iD (by have:=of_eq_false (hnF h0);rw [htk]at this;exact this);refine D6 @hc @hci @hn @hd0 ?_;refine⟨by omega,?_⟩;refine D6 @hc @hci @hn @hd0 ?_;refine⟨by (try simp only [aS,aV,au,aG]);omega,?_⟩;refine nH (qM h.lK (n:=0)) (by (refine ew ?_;try with_reducible exact aC)) ?_;intro r q os G;have gl:6<=q.length:=by have:=G.len;simp at this;omega
 have hop:jQ q 5=some ⟨11,List.map Lk.cells S++[l.cells]⟩:=(G.old 5 (by simp)).trans rfl;have ho1:=(G.old 1 (by simp)).trans rfl;have n1:1∉os:=fun hm=>by have:=G.fresh 1 hm;simp at this
 obtain⟨_,rfl,hQ⟩:=G.ow.lU;obtain⟨y1,y2,rfl⟩:=hQ.rat
 have E:Ep q [.bool (lC 0).neg,y1,y2] [.bool (lC 0).neg,ints (lC 0).mag,ints (lC 0).den] os []:=⟨⟨hQ,G.nd⟩,by simp⟩;have LF:=ah (E.leaf 1 rfl rfl) (E.leaf 2 rfl rfl);have C:=E.c.set (o:=1) (x:=some ⟨3,[[.bool (lC 0).neg,y1,y2]]⟩) n1;refine AZ @LF @ho1 ?_;refine .inl (abb (XE (L:=S++[l]) ?_ ?_) (ru C.ow) C.nd)
 ·rw [kN (by decide)];refine hop.trans ?_;rw [bU];rfl
 simp
theorem abd{l:List Lk}(h:lN l=true):∀i,i<l.length->(i:Int)<=10*(l.getD i default).a+(l.getD i default).b
 |
  0,hi=>by
  have:=qp (wS h hi);omega
 |
  i+1,hi=>by
  have k1:=abd h i (by omega);have k2:=aaZ h hi;have k3:=qp (wS h hi);have k4:=qp (wS h (show i<l.length by omega));unfold lW at k2;simp only [dX,aH,aZ]at k2;omega
theorem VN{l:List Lk}(h:lN l=true):l.length<=100:=by
 rcases dW 100 l.length with hl|hl
 ·have k1:=abd h (l.length-1) (by omega);have k3:=qp (wS h (show l.length-1<l.length by omega));omega
 exact hl
theorem aru{s:List Lk}{l:Lk}{t:List Lk}{e:R}(h:Ot s l=some (t,e))(h1:lN s=true)(h2:ql l=true):(∀x∈t,x.w.cn/\x.dx.cn/\x.dy.cn)/\e.cn/\t.length<=s.length+1:=by
 unfold Ot at h;dsimp only at h;have hp:=KW l s;have hs:∀x∈s,x.w.cn/\x.dx.cn/\x.dy.cn:=fun x hx=>Oi (oL h1 hx);split at h
 ·cases h
  refine⟨fun x hx=>?_,wO (by decide),by simp;omega⟩;simp only [aK,aI]at hx;rcases hx with hx|rfl|hx
  ·exact hs x (dH hx)
  ·exact Oi h2
  exact hs x (fC hx)
 rename_i hc;split at h
 ·cases h
  refine⟨fun x hx=>?_,ag0 _ _,by simp;omega⟩;simp only [aK,aI]at hx;rcases hx with hx|rfl|hx
  ·exact hs x (dH hx)
  ·exact⟨VL _ _,agY _ _,agZ _ _⟩
  exact hs x (fC hx)
 cases h
theorem anA{x:Lk}(h:x.w.cn/\x.dx.cn/\x.dy.cn):x.sz<=144:=by
 have a:=Qc h.1;have b:=Qc h.2.1;have c:=Qc h.2.2;unfold Lk.sz R.sz;omega
theorem ahb(s:List Lk)(l:Lk):(∀x∈adV s l,x.w.cn/\x.dx.cn/\x.dy.cn)/\(adE s l).cn/\(adV s l).length<=101:=by
 by_cases h:lN s=true/\ql l=true
 ·obtain⟨e1,e2,_⟩:=KX h.1 h.2;have hl:=VN h.1;rw [e1,e2]
  cases hr:Ot s l with
  |none=>exact⟨by simp,ab6,by simp⟩
  |
   some p =>
   obtain⟨k1,k2,k3⟩:=aru (t:=p.1) (e:=p.2) hr h.1 h.2;exact⟨k1,k2,by simp only [dh,jF];omega⟩
 obtain⟨e1,e2,_⟩:=ag8 h;rw [e1,e2];exact⟨by simp,ab6,by simp⟩
theorem KY{σ:Store}{n k:Nat}{w:V}{rows:List (List V)}(h:resolve σ (n+1) w=some (.sl k rows)):w.leaf=true:=by
 cases w with
 |lQ=>rfl
 |sl=>rfl
 |ptr o r off=>obtain⟨_,_,e⟩:=ahY h;cases e
 |agg cs=>simp only [resolve]at h;obtain⟨_,_,e⟩:=aO.1 h;cases e
 |oU cs=>simp only [resolve]at h;obtain⟨_,_,e⟩:=aO.1 h;cases e
 |_=>simp only [resolve]at h;cases h
def Bz:Fn:=⟨1,41,[.tmp 2,.cell 3 3 true,.tmp 4],(.seq (rf 1 [oK 2 1 mN,oN 3 (.alloc uJ),oK 4 1 mF]) (.seq (rf 1 [oN 12 (.nO 11 I5 0 []),oK 5 1 (oV 12)]) (.seq (rf 1 [oK 13 1 (.call 36 [(cI 0)]),oN 6 (.alloc uJ),⟨none,none,1,.store 3 (.t 6) (.t 13),[]⟩]) (.seq (sr [oW 14 0,oN 15 (ln 14),oN 16 (.qC (cI 0))] (.block 0 (.loop (sr [oN 17 (bt .lss 16 15)] (.seq (cd 17 .skip (.exit 0)) (.seq (.block 1 (.seq (rf 1 [oK 18 1 (ix 11 14 16),oK 19 1 (lT 11 18),oN 8 (.alloc I5),⟨none,none,1,.store 11 (.t 8) (.t 19),[]⟩]) (.seq (rf 1 [oK 21 1 (oV 5),oK 22 1 (lT 11 8),oK 23 1 (cl 188 [21,22]),oK 20 1 (oV 23),oK 24 1 (ex 0 20),oK 25 1 (ex 1 20),oK 26 1 (ex 2 20),oN 10 (.alloc uJ),oK 9 1 (oV 24),⟨none,none,1,.store 3 (.t 10) (.t 25),[]⟩,oK 11 1 (oV 26)]) (.seq (sr [oW 27 11,oN 28 (nt 27)] (cd 28 (sr [oN 29 (.build uJ []),oN 2 mN,oS (.store 3 (.t 3) (.t 29)),oN 4 mF] .ret) .skip)) (sr [oW 30 9,oW 5 30] (rg [oN 31 (lT 3 6),oN 32 (lT 3 10),oN 33 (cl 189 [31,32]),oS (.store 3 (.t 6) (.t 33))])))))) (rg [oN 34 (bc .add 16 1),oW 16 34]))))))) (.seq (sr [oN 35 (lT 3 6),oN 36 (cl 100 [35]),oN 37 (nt 36)] (cd 37 (sr [oN 38 (.build uJ []),oN 2 mN,oS (.store 3 (.t 3) (.t 38)),oN 4 mF] .ret) .skip)) (.seq (rt 0 [oW 39 5,oN 40 (lT 3 6),oA 2 0 (oV 39) [0,0],⟨none,none,0,.store 3 (.t 3) (.t 40),[1,2,0,1,2]⟩,oA 4 0 mT [3,0,1,2,3]]) .ret))))))⟩
structure Gi (T:Tb):Prop where
 hT:T 179=some Bz
 nI:wQ T
 mQ:tK T
 Y7:J5 T
 xC:CB T
def BA:Fn:=⟨1,42,[.tmp 2,.cell 3 3 true,.tmp 4],(.seq (rf 1 [oK 2 1 mN,oN 3 (.alloc uJ),oK 4 1 mF]) (.seq (rf 1 [oN 12 (.nO 11 I5 0 []),oK 5 1 (oV 12)]) (.seq (rf 1 [oK 13 1 (.call 39 [(cI 0)]),oN 6 (.alloc uJ),⟨none,none,1,.store 3 (.t 6) (.t 13),[]⟩]) (.seq (sr [oW 14 0,oN 15 (ln 14),oN 16 (.qC (cI 0))] (.block 0 (.loop (sr [oN 17 (bt .lss 16 15)] (.seq (cd 17 .skip (.exit 0)) (.seq (.block 1 (.seq (rf 1 [oK 18 1 (ix 11 14 16),oK 19 1 (lT 11 18),oN 8 (.alloc I5),⟨none,none,1,.store 11 (.t 8) (.t 19),[]⟩]) (.seq (rf 1 [oK 21 1 (oV 5),oK 22 1 (lT 11 8),oK 23 1 (cl 130 [21,22]),oK 20 1 (oV 23),oK 24 1 (ex 0 20),oK 25 1 (ex 1 20),oK 26 1 (ex 2 20),oN 10 (.alloc uJ),oK 9 1 (oV 24),⟨none,none,1,.store 3 (.t 10) (.t 25),[]⟩,oK 11 1 (oV 26)]) (sr [oN 27 (lT 3 6),oN 28 (lT 3 10),oN 29 (cl 131 [27,28]),oS (.store 3 (.t 6) (.t 29))] (.seq (sr [oW 30 11,oN 31 (nt 30),oW 32 31,oG 32 false 33 (lT 3 6),oG 32 false 34 (cl 132 [33]),oG 32 false 35 (nt 34),oN 36 (.pick (.t 32) (.c (.bool true)) (.t 35))] (cd 36 (sr [oN 37 (.build uJ []),oN 2 mN,oS (.store 3 (.t 3) (.t 37)),oN 4 mF] .ret) .skip)) (rg [oW 38 9,oW 5 38])))))) (rg [oN 39 (bc .add 16 1),oW 16 39]))))))) (.seq (rt 0 [oW 40 5,oN 41 (lT 3 6),oA 2 0 (oV 40) [0,0],⟨none,none,0,.store 3 (.t 3) (.t 41),[1,2,0,1,2]⟩,oA 4 0 mT [3,0,1,2,3]]) .ret)))))⟩
structure Gj (T:Tb):Prop where
 hT:T 109=some BA
 lK:nV T
 Y8:J6 T
 lJ:nM T
 kW:pG T
theorem rU{l:List Lk}:lN l=true↔(∀x∈l,ql x=true)/\l.Pairwise fun k l=>lW k l=true:=by
 constructor
 ·intro h;exact⟨fun x hx=>oL h hx,(aeB h).imp fun h=>h.1⟩
 rintro⟨h1,h2⟩;unfold lN;refine SE fun i hi=>?_;have a:=h1 (l.getD i default) (getD_mem hi);unfold KR;rw [fU]at h2;rcases iw i with h0|h0
 ·subst h0;rw [a,aT rfl];rfl
 have:=h2 (i-1) i (by omega) hi (by omega);have e1:l.getD (i-1) default=l[i-1]:=by rw [aj,ak];rfl
 have e2:l.getD i default=l[i]:=by rw [aj,ak];rfl
 rw [<-e1,<-e2]at this;rw [a,this,Bool.or_true];rfl
theorem Tf(k:Lk):lW k k=false:=by simp [lW]
theorem Ou{k l:Lk}(h1:lW k l=false)(h2:lW l k=false):k.a=l.a/\k.b=l.b:=by
 unfold lW at h1 h2;simp at h1 h2;omega
theorem acz{k l m:Lk}(ha:l.a=m.a)(hb:l.b=m.b):lW k l=lW k m/\lW l k=lW m k:=by
 unfold lW;rw [ha,hb];exact⟨rfl,rfl⟩
theorem aeW{l:Lk}:∀{s:List Lk} {x:Lk},x∈s.take (FH l s)->lW x l=true
 | [],x,h=>by simp [FH]at h
 |
  y::s,x,h=>by
  unfold FH at h;split at h
  ·rename_i hy;rw [jO]at h;rcases aI.1 h with rfl|h
   ·exact hy
   exact aeW h
  simp at h
theorem QL{l:Lk}{s:List Lk}(h:s.Pairwise fun k l=>lW k l=true):∀x∈s.drop (FH l s),lW x l=false:=by
 induction s with
 |nil=>intro x hx;simp at hx
 |
  cons y s ih =>
  rw [fB]at h;intro x hx;unfold FH at hx;split at hx
  ·rw [List.drop_succ_cons]at hx;exact ih h.2 x hx
  rename_i hy;rw [dA]at hx;have hy:lW y l=false:=by simpa using hy
  rcases aI.1 hx with rfl|hx
  ·exact hy
  cases hxl:lW x l
  ·rfl
  have:=Jk (h.1 x hx) hxl;rw [this]at hy;cases hy
theorem anB{A B:List Lk}{m:Lk}(h:(A++B).Pairwise fun k l=>lW k l=true)(h1:∀x∈A,lW x m=true)(h2:∀x∈B,lW m x=true):(A++m::B).Pairwise fun k l=>lW k l=true:=by
 rw [jG]at h ⊢;refine⟨h.1,fB.2 ⟨h2,h.2.1⟩,fun x hx y hy=>?_⟩;rcases aI.1 hy with rfl|hy
 ·exact h1 x hx
 exact h.2.2 x hx y hy
theorem avX{s:List Lk}{l:Lk}{t:List Lk}{e:R}(h:Ot s l=some (t,e))(h1:lN s=true)(h2:ql l=true):lN t=true:=by
 obtain⟨hv,hp⟩:=rU.1 h1;have hpl:=KW l s;have hpre:=@aeW l s;have hpost:=QL (l:=l) hp;unfold Ot at h;dsimp only at h;generalize FH l s=i at *;have hsp:s.take i++s.drop i=s:=gZ i s;split at h
 ·rename_i hc
  cases h
  refine rU.2 ⟨fun x hx=>?_,anB (by rw [hsp];exact hp) (fun x hx=>hpre hx) fun x hx=>?_⟩
  ·simp only [aK,aI]at hx;rcases hx with hx|rfl|hx
   ·exact hv x (dH hx)
   ·exact h2
   exact hv x (fC hx)
  rcases hc with hc|hc
  ·rw [hc,jA]at hx;cases hx
  by_cases hi:i<s.length
  ·have hd:s.drop i=s.getD i default::s.drop (i+1):=by
    rw [dK hi,aj,ak hi];rfl
   rw [hd]at hx;rcases aI.1 hx with rfl|hx
   ·exact hc
   have hpd:=hp.drop (i:=i);rw [hd,fB]at hpd;exact Jk hc (hpd.1 x hx)
  rw [eP (by omega)]at hx;cases hx
 rename_i hc;split at h
 ·rename_i hg
  cases h
  have hi:i<s.length:=by
   rcases dW i s.length with k|k
   ·exact k
   exact absurd (.inl (by omega)) hc
  have hd:s.drop i=s.getD i default::s.drop (i+1):=by
   rw [dK hi,aj,ak hi];rfl
  have hx0:=hpost (s.getD i default) (by rw [hd];simp);have hxl:lW l (s.getD i default)=false:=by
   cases hq:lW l (s.getD i default)
   ·rfl
   exact absurd (.inr hq) hc
  have hsm:=getD_mem (l:=s) hi;generalize s.getD i default=x at *;obtain⟨ea,eb⟩:=Ou hx0 hxl;have hP:mgP x l=true:=by unfold mgP;rw [hv x hsm,h2,aT ea,aT eb];rfl
  have hm:ql (Ry x l)=true:=by
   rw [aeR hP];unfold Pj at hg;simp only [aH]at hg ⊢;exact hg.1
  have hcg:=fun k=>acz (k:=k) (l:=Ry x l) (m:=x) rfl rfl;have hp2:(s.take i++x::s.drop (i+1)).Pairwise fun k l=>lW k l=true:=by rw [<-hd,hsp];exact hp
  rw [jG]at hp2;refine rU.2 ⟨fun y hy=>?_,anB ?_ (fun y hy=>?_) fun y hy=>?_⟩
  ·simp only [aK,aI]at hy;rcases hy with hy|rfl|hy
   ·exact hv y (dH hy)
   ·exact hm
   exact hv y (fC hy)
  ·rw [jG];exact⟨hp2.1,(fB.1 hp2.2.1).2,fun a ha b hb=>hp2.2.2 a ha b (gG _ hb)⟩
  ·rw [(hcg y).1];exact hp2.2.2 y hy x (by simp)
  rw [(hcg y).2];exact(fB.1 hp2.2.1).1 y hy
 cases h
theorem ahc{s:List Lk}{l:Lk}(h:UJ s l=true):lN (adV s l)=true/\lN s=true/\ql l=true:=by
 unfold UJ at h;simp only [aH]at h;obtain⟨⟨h1,h2⟩,h3⟩:=h;refine⟨?_,h1,h2⟩;rw [(KX h1 h2).1]
 cases hr:Ot s l with
 |none=>rw [hr]at h3;cases h3
 |some p=>exact avX (t:=p.1) (e:=p.2) hr h1 h2
def OW(l:List Lk):Nat->Option (List Lk×R)
 |0=>some ([],lC 0)
 |
  k+1=>match OW l k with
  |none=>none
  |some p=>if UJ p.1 (l.getD k default)=true then some (adV p.1 (l.getD k default),oC p.2 (adE p.1 (l.getD k default)))else none
def U5(l:List Lk):Option (List Lk×R):=match OW l l.length with
 |none=>none
 |some p=>if p.2.ok=true then some p else none
def Gl(l:List Lk):Bool:=(U5 l).isSome
def Pq(l:List Lk):List Lk:=((U5 l).map (·.1)).getD []
def VO(l:List Lk):R:=((U5 l).map (·.2)).getD R0
theorem aeX{l:List Lk}{k:Nat}(h:OW l k=none):∀n,k<=n->OW l n=none
 |0,hn=>by rw [Nat.le_zero.1 hn]at h;exact h
 |
  n+1,hn=>by
  rcases dW k (n+1)with hk|hk
  ·simp only [OW,aeX h n (by omega)]
  rw [show n+1=k by omega];exact h
theorem UK{r s:R}(h:r.ok=false):(oC r s).ok=false:=by
 rw [Bg,SB,Bg.1 h,aem]
theorem aiI{l:List Lk}{k:Nat}{p:List Lk×R}(h:OW l k=some p)(hb:p.2.ok=false):∀n,k<=n->∀q,OW l n=some q->q.2.ok=false
 |0,hn,q,hq=>by rw [Nat.le_zero.1 hn]at h;rw [h]at hq;cases hq;exact hb
 |
  n+1,hn,q,hq=>by
  rcases dW k (n+1)with hk|hk
  ·simp only [OW]at hq
   cases hf:OW l n with
   |none=>rw [hf]at hq;cases hq
   |
    some r =>
    rw [hf]at hq;dsimp only at hq;split at hq
    ·cases hq
     exact UK (aiI h hb n (by omega) r hf)
    cases hq
  rw [show n+1=k by omega]at hq;rw [h]at hq;cases hq;exact hb
theorem UL{l:List Lk}:∀{k:Nat} {p:List Lk×R},OW l k=some p->lN p.1=true/\p.2.cn/\(∀x∈p.1,x.w.cn/\x.dx.cn/\x.dy.cn)/\p.1.length<=101
 |0,p,h=>by cases h;exact⟨by decide,wO (by decide),by simp,by simp⟩
 |
  k+1,p,h=>by
  simp only [OW]at h
  cases hf:OW l k with
  |none=>rw [hf]at h;cases h
  |
   some r =>
   rw [hf]at h;dsimp only at h;split at h
   ·rename_i hk
    cases h
    have:=ahb r.1 (l.getD k default);exact⟨(ahc hk).1,wM _ _,this.1,this.2.2⟩
   cases h
theorem J7{l:List Lk}(h:U5 l=none):Pq l=[]/\VO l=R0/\Gl l=false:=by
 unfold Pq VO Gl;rw [h];exact⟨rfl,rfl,rfl⟩
theorem WI{l:List Lk}{k:Nat}(h:OW l k=none)(hk:k<=l.length):U5 l=none:=by
 unfold U5;rw [aeX h l.length hk]
theorem ahd{l:List Lk}{k:Nat}{p:List Lk×R}(h:OW l k=some p)(hb:p.2.ok=false)(hk:k<=l.length):U5 l=none:=by
 unfold U5
 cases hf:OW l l.length with
 |none=>rfl
 |some q=>dsimp only;rw [if_neg (by rw [aiI h hb _ hk q hf];simp)]
theorem Ti{l:List Lk}:(∀x∈Pq l,x.w.cn/\x.dx.cn/\x.dy.cn)/\(VO l).cn/\(Pq l).length<=101/\lN (Pq l)=true:=by
 cases hg:U5 l with
 |
  none =>
  obtain⟨e1,e2,_⟩:=J7 hg;rw [e1,e2];exact⟨by simp,ab6,by simp,by decide⟩
 |
  some p =>
  have e1:Pq l=p.1:=by unfold Pq;rw [hg];rfl
  have e2:VO l=p.2:=by unfold VO;rw [hg];rfl
  rw [e1,e2];unfold U5 at hg
  cases hf:OW l l.length with
  |none=>rw [hf]at hg;cases hg
  |
   some q =>
   rw [hf]at hg;dsimp only at hg;split at hg
   ·cases hg
    obtain⟨a,b,c,d⟩:=UL hf;exact⟨c,b,d,a⟩
   cases hg
theorem Y9{s:List Lk}(h:∀x∈s,x.w.cn/\x.dx.cn/\x.dy.cn)(hl:s.length<=101):NS Lk.sz s<=20000:=by
 have:=Si (f:=Lk.sz) (k:=144) fun x hx=>anA (h x hx);omega
theorem VP{s:List Lk}(h:∀x∈s,x.w.cn/\x.dx.cn/\x.dy.cn)(hl:s.length<=101):DR Lk.wf s :=
 ⟨by omega,fun x hx=>⟨uy (h x hx).1,uy (h x hx).2.1,uy (h x hx).2.2⟩⟩
theorem avY(σ:Store)(r:R):resolve σ 11 (.agg r.cells)=some (.agg r.cells):=by
 show resolve σ (10+1) (.agg r.cells)=_;rw [resolve,FY (n:=9) (fun v hv=>agh [r] _ (by simp) v hv)];rfl
theorem acA{T:Tb}(h:Gi T){l:List Lk}(hw:DR Lk.wf l:=by exact rF)(hz:NS Lk.sz l<=1048576:=by exact rF):PF T 179 [nZ l] (.oU [nZ (Pq l),lD (VO l),.bool (Gl l)]):=by
 have hl:l.length<=1048576:=by have:=P7 Lk.sz l;omega
 refine kX nR h.hT ?_;simp only [Bz,Lz];refine ev ?_;refine jK (rG h.nI (n:=0)) ?_;refine ev ?_;refine kZ (fun _ _=>false) (α:=Nat×List Lk×R) (fun q=>⟨mJ [nZ l,.any,.any,.ptr 0 0 0,.any,nZ q.2.1,.ptr 1 0 0,.any,.any,.any,.any,.any,.any,.any,nZ l,iv (l.length:Nat),iv (q.1:Nat)],[some ⟨3,[[.bool false,.kC,.kC]]⟩,some ⟨3,[q.2.2.cells]⟩],0,0,[],[]⟩) (fun q=>q.1<=l.length/\OW l q.1=some (q.2.1,q.2.2)) (fun q=>l.length-q.1) rfl (0,[],lC 0) ?_ ?_ ?_
 ·exact⟨by omega,rfl⟩
 ·(refine Rh [(0,_),(2,_)] (by simp) (by intro p hp;simp only [aI,bY,or_false]at hp;rcases hp with rfl|rfl<;>refine⟨rfl,?_⟩<;>first|exact uM _|simp [nU,V.still]) rfl ?_)<;>(try (refine ev ?_;try with_reducible exact aC))<;>(repeat' (first|exact aC|omega|exact Ac rfl (by simp)|refine⟨?_,?_⟩|exact gV (BO _ _ _)|exact pW rfl (by simp;done)|exact pW rfl rfl|(refine qK rfl ?_ rfl;simp [kU];done)|(refine qK rfl ?_ rfl;simp [kU];omega)|(refine D8 ?_ ?_;(focus ((refine ev ?_;try with_reducible exact aC);done));(intro q hq k s0 l0;simp;done))))
 rintro⟨k,S,e⟩ ⟨hk,hf⟩;dsimp only at hk hf;obtain⟨i1,i2,i3,i4⟩:=UL hf;dsimp only at i1 i2 i3 i4;by_cases hc:(k:Int)<(l.length:Nat)
 ·have hkl:k<l.length:=by omega
  have hxw:=acg hw hkl;have hxz:=Ui (f:=Lk.sz) hz (getD_mem hkl);have hs:OW l (k+1)=if UJ S (l.getD k default)=true then some (adV S (l.getD k default),oC e (adE S (l.getD k default)))else none:=by simp only [OW,hf]
  have hmx:(l.map Lk.cells).getD k []=(l.getD k default).cells:=mg hkl;have hbad:OW l (k+1)=none->U5 l=none:=fun h=>WI h (by omega);generalize l.getD k default=x at hs hxw hxz hmx;have ca:=ag9 h.Y7 (s:=S) (l:=x) (VP i3 i4) hxw (by have:=Y9 i3 i4;omega) hxz;have hac:=ahb S x
  cases ho:UJ S x
  ·rw [ho]at hs ca;obtain⟨e1,e2,e3⟩:=J7 (hbad hs);rw [e1,e2,e3];refine xP @hc @hmx ?_;refine jK ca ?_;refine ev ?_;exact QK
  rw [ho,aQ rfl]at hs;rw [ho]at ca;generalize adV S x=S' at hs ca hac;generalize adE S x=e' at hs ca hac;refine xP @hc @hmx ?_;refine jK ca ?_;refine ev ?_;refine jK (Nk h.xC (uy i2) (uy hac.2.1)) ?_;refine ev ?_;exact⟨(k+1,S',oC e e'),by dsimp only;omega,⟨by dsimp only;omega,hs⟩,by exact avx⟩
 have hie:k=l.length:=by omega
 have hg:U5 l=if e.ok=true then some (S,e)else none:=by unfold U5;rw [<-hie,hf]
 have co:=xY h.mQ (uy i2)
 cases hb:e.ok
 ·rw [hb]at co hg;obtain⟨e1,e2,e3⟩:=J7 hg;rw [e1,e2,e3];refine ev1 @hc ?_;refine jK co ?_;refine ev ?_;exact QK
 rw [hb,aQ rfl]at hg;have e1:Pq l=S:=by unfold Pq;rw [hg];rfl
 have e2:VO l=e:=by unfold VO;rw [hg];rfl
 have e3:Gl l=true:=by unfold Gl;rw [hg];rfl
 rw [e1,e2,e3];rw [hb]at co;refine ev1 @hc ?_;refine jK co ?_;refine ev ?_;refine⟨by unfold sF;decide +kernel,?_⟩;rw [avY];exact kR _
def AP:Nat->V->Prop
 |0,_=>False
 |n+1,.sl _ rows=>∀r∈rows,∀c∈r,AP n c
 |n+1,.agg cs=>∀c∈cs,AP n c
 |n+1,.oU cs=>∀c∈cs,AP n c
 |_+1,.qw _ _=>False
 |_+1,_=>True
theorem AP.le:∀{n:Nat} {v:V},AP n v->oI n v
 |0,_,h=>h
 |
  n+1,v,h=>by
  cases v with
  |sl k rows=>simp only [AP,oI]at h ⊢;exact fun r hr c hc=>(h r hr c hc).le
  |agg cs=>simp only [AP,oI]at h ⊢;exact fun c hc=>(h c hc).le
  |oU cs=>simp only [AP,oI]at h ⊢;exact fun c hc=>(h c hc).le
  |_=>simp [oI]
theorem acB(n:Nat)(q:IntKind)(k:Int):AP (n+1) (.int q k):=by simp [AP]
theorem Ig(n:Nat)(b:Bool):AP (n+1) (.bool b):=by simp [AP]
theorem xK(n:Nat)(l:List Int):AP (n+2) (ints l):=by
 simp only [AP];intro r hr c hc;simp only [kU,bF]at hr;obtain⟨x,_,rfl⟩:=hr;simp only [aI,bY,or_false]at hc;subst hc;simp [AP]
theorem anC{n:Nat}{cs:List V}(h:∀c∈cs,AP n c):AP (n+1) (.agg cs):=by simpa only [AP]using h
theorem anD(n:Nat)(x:R):AP (n+3) (lD x):=by
 refine anC ?_;simp only [fM];exact⟨Ig _ _,xK _ _,xK _ _,by simp⟩
theorem anE(n:Nat)(l:List Lk):AP (n+3) (nZ l):=by
 simp only [AP];intro r hr c hc;obtain⟨x,_,rfl⟩:=bF.1 hr
 revert c
 simp only [fM];exact⟨acB _ _ _,acB _ _ _,Ig _ _,xK _ _,xK _ _,Ig _ _,xK _ _,xK _ _,Ig _ _,xK _ _,xK _ _,by simp⟩
theorem aiJ{σ:Store}:∀(n:Nat) {v t:V},resolve σ (n+1) v=some t->AP n t->resolve σ n v=some t
 |0,v,t,_,hd=>by simp [AP]at hd
 |
  n+1,v,t,h,hd=>by
  have ih:=@aiJ σ n;have hl:∀(l l':List V),l.mapM (resolve σ (n+1))=some l'->(∀c∈l',AP n c)->l.mapM (resolve σ n)=some l':=by
   intro l
   induction l with
   |nil=>intro l' h _;exact h
   |
    cons x l ihl =>
    intro l' h hd;rw [bZ]at h ⊢
    cases hx:resolve σ (n+1) x with
    |none=>rw [hx]at h;cases h
    |
     some y =>
     rw [hx]at h
     cases hl:l.mapM (resolve σ (n+1))with
     |none=>rw [hl]at h;cases h
     |
      some ys =>
      rw [hl]at h
      cases h
      rw [ih hx (hd y (by simp)),ihl ys hl fun c hc=>hd c (by simp [hc])];rfl
  have hr:∀(l:List (List V)) (l':List (List V)),(l.mapM fun (r:List V)=>r.mapM (resolve σ (n+1)))=some l'->(∀r∈l',∀c∈r,AP n c)->(l.mapM fun (r:List V)=>r.mapM (resolve σ n))=some l':=by
   intro l
   induction l with
   |nil=>intro l' h _;exact h
   |
    cons x l ihl =>
    intro l' h hd;rw [bZ]at h ⊢
    cases hx:x.mapM (resolve σ (n+1))with
    |none=>rw [hx]at h;cases h
    |
     some y =>
     rw [hx]at h
     cases hl':l.mapM fun (r:List V)=>r.mapM (resolve σ (n+1))with
     |none=>rw [hl']at h;cases h
     |
      some ys =>
      rw [hl']at h
      cases h
      rw [hl x y hx (hd y (by simp)),ihl ys hl' fun c hc=>hd c (by simp [hc])];rfl
  cases v with
  |
   lQ o s l =>
   simp only [resolve]at h ⊢
   cases ho:jQ σ o with
   |none=>rw [ho]at h;cases h
   |
    some ob =>
    rw [ho]at h;dsimp only at h ⊢;split at h
    ·rename_i hle;rw [aQ hle];obtain⟨rows,h1,rfl⟩:=aO.1 h;rw [hr _ _ h1 (by simpa only [AP]using hd)];rfl
    cases h
  |
   ptr o r off =>
   simp only [resolve]at h ⊢
   cases ho:jQ σ o with
   |none=>rw [ho]at h;cases h
   |
    some ob =>
    rw [ho]at h;dsimp only at h ⊢
    cases hro:ob.rows[r]? with
    |none=>rw [hro]at h;cases h
    |
     some row =>
     rw [hro]at h;dsimp only at h ⊢;obtain⟨rows,h1,rfl⟩:=aO.1 h;simp [AP]at hd
  |
   agg cs =>
   simp only [resolve]at h ⊢;obtain⟨rows,h1,rfl⟩:=aO.1 h;rw [hl _ _ h1 (by simpa only [AP]using hd)];rfl
  |
   oU cs =>
   simp only [resolve]at h ⊢;obtain⟨rows,h1,rfl⟩:=aO.1 h;rw [hl _ _ h1 (by simpa only [AP]using hd)];rfl
  |_=>simpa only [resolve]using h
theorem aiK{σ:Store}:∀{ts:List (Bool×V)} {vs:List V} {os:List Nat},Xr σ vs ts os->(∀p∈ts,AP 11 p.2)->vs.mapM (resolve σ 11)=some (ts.map (·.2))
 |
  [],vs,os,h,_=>by
  simp only [Xr]at h;obtain⟨rfl,rfl⟩:=h;rfl
 |
  (b,t)::ts,vs,os,h,hd=>by
  simp only [Xr]at h;obtain⟨v,vs',o1,o2,rfl,rfl,h1,h2⟩:=h;have e2:=aiK h2 fun p hp=>hd p (by simp [hp]);have hdt:AP 11 t:=hd (b,t) (by simp);have e1:resolve σ 11 v=some t:=by
   cases b with
   |true=>exact P9 11 (by simpa using h1) hdt.le
   |
    false =>
    have h1:resolve σ FD v=some t/\o1=[]:=by simpa using h1
    exact aiJ 11 h1.1 hdt
  rw [bZ,e1,e2];rfl
theorem PX.XZ{T:Tb}{f:Nat}{args:List V}{ts:List (Bool×V)}(h:PX T f args ts)(hd:∀p∈ts,AP 11 p.2):PF T f args (.oU (ts.map (·.2))):=by
 obtain⟨vs,σ',os,h1,h2,h3⟩:=h;refine .XZ h1 ?_;show resolve σ' (11+1) _=_;rw [resolve,aiK h2 hd];rfl
def joT(l:List Lk):List (Bool×V):=[(false,nZ (Pq l)),(true,lD (VO l)),(false,.bool (Gl l))]
theorem Ep.fr{s S1:Store}{cs ts:List V}{os:List Nat}{L:List (Nat×Obj)}(E:Ep s cs ts os L)(h1:∀o,o<s.length->jQ S1 o=jQ s o):Ep S1 cs ts os L :=
 ⟨E.c.frame fun o ho=>h1 o (E.c.lt o ho),fun q hq=>⟨(h1 _ (E.lt q hq)).trans (E.l q hq).1,(E.l q hq).2⟩⟩
theorem anF(sz:Nat):EvV (.sl sz []) .kC=True:=iy (KG sz)
theorem acC{T:Tb}(h:Gj T){l:List Lk}(hw:DR Lk.wf l)(ha:l.all ql=true)(hl:l.length<=1048576):PX T 109 [nZ l] (joT l):=by
 unfold joT;refine Uf (fun x d=>(x == 39&&d == 13)||(x == 131&&d == 29)) h.hT ?_;simp only [BA,Lz,St.enter,au,aG,aX];refine ew ?_;refine nH (qM h.lK (n:=0)) (by (refine ew ?_;try with_reducible exact aC)) ?_;intro r q1 o1 G;obtain⟨_,rfl,Rt⟩:=G.ow.lU;obtain⟨x1,x2,rfl⟩:=Rt.rat
 have E:Ep [some ⟨3,[[.bool false,.kC,.kC]]⟩] [] [] [] [(0,⟨3,[[.bool false,.kC,.kC]]⟩)]:=⟨Sl,by simp [jQ]⟩;have E2:=E.got (s1:=[some ⟨3,[[.bool false,.kC,.kC]]⟩]++[none,none]) (fun q hq=>by first|exact nX hq|(simp only [cO];exact nX hq)) (by simp) Rt G.nd G.fresh G.old;have F0:=E.free (s1:=[some ⟨3,[[.bool false,.kC,.kC]]⟩]++[none,none]) (p:=2) G.fresh (by simp) (by simp);have hq:3<=q1.length:=by simpa using G.len
 clear E G;have E:Ep q1 [.bool (lC 0).neg,x1,x2] [.bool (lC 0).neg,ints (lC 0).mag,ints (lC 0).den] _ [(0,⟨3,[[.bool false,.kC,.kC]]⟩)]:=E2;clear E2
 replace E:=E.JG (p:=2) (ob:=⟨3,[[.bool (lC 0).neg,x1,x2]]⟩) (L':=[(0,⟨3,[[.bool false,.kC,.kC]]⟩),(2,⟨3,[[.bool (lC 0).neg,x1,x2]]⟩)]) F0 (by omega) (by simp)
 have LF:=ah (E.leaf 1 rfl rfl) (E.leaf 2 rfl rfl);refine D6 @LF @kQ @lI @List.set_set.{0} ?_;clear LF;refine kZ (fun x d=>(x == 39&&d == 13)||(x == 131&&d == 29)) (α:=Nat×Store×List Lk×R×V×V×List Nat) (fun q=>⟨mJ [nZ l,.any,.any,.ptr 0 0 0,.any,nZ q.2.2.1,.ptr 2 0 0,.any,.any,.any,.any,.any,.any,.any,nZ l,iv (l.length:Nat),iv (q.1:Nat)],q.2.1,0,0,[],[]⟩) (fun q=>(q.1<=l.length/\OW l q.1=some (q.2.2.1,q.2.2.2.1)/\q.2.2.2.1.ok=true)/\Ep q.2.1 [.bool q.2.2.2.1.neg,q.2.2.2.2.1,q.2.2.2.2.2.1] [.bool q.2.2.2.1.neg,ints q.2.2.2.1.mag,ints q.2.2.2.1.den] q.2.2.2.2.2.2 [(0,⟨3,[[.bool false,.kC,.kC]]⟩),(2,⟨3,[[.bool q.2.2.2.1.neg,q.2.2.2.2.1,q.2.2.2.2.2.1]]⟩)]) (fun q=>l.length-q.1) rfl (0,(q1.set 2 (some ⟨3,[[.bool (lC 0).neg,x1,x2]]⟩)),[],lC 0,x1,x2,[]++o1) ?_ ?_ ?_
 ·exact⟨⟨by omega,rfl,show (lC 0).ok=true by decide +kernel⟩,E⟩
 ·dsimp only;rw [show nZ []=.sl 11 []from rfl]
  (refine kS ?_)<;>(try (refine Ae @anF ?_;try with_reducible exact aC))<;>(repeat' (first|refine⟨?_,?_⟩|exact NK (by omega)|exact P5 (by simp)|exact KG _))
 clear E;rintro⟨k,s,S,e,x1,x2,os⟩ ⟨⟨hk,hf,he⟩,E⟩;dsimp only at hk hf he E;obtain⟨i1,i2,i3,i4⟩:=UL hf;dsimp only at i1 i2 i3 i4;have L0:=E.at0 (p:=0) (ob:=⟨3,[[.bool false,.kC,.kC]]⟩) (by simp);have L1:=E.at0 (p:=2) (ob:=⟨3,[[.bool e.neg,x1,x2]]⟩) (by simp);have LFx:=ah (E.leaf 1 rfl rfl) (E.leaf 2 rfl rfl);by_cases hc:(k:Int)<(l.length:Nat)
 ·have hkl:k<l.length:=by omega
  have hxw:=acg hw hkl;have hxo:ql (l.getD k default)=true:=bg.1 ha _ (getD_mem hkl);have hs:OW l (k+1)=if UJ S (l.getD k default)=true then some (adV S (l.getD k default),oC e (adE S (l.getD k default)))else none:=by simp only [OW,hf]
  have hmx:(l.map Lk.cells).getD k []=(l.getD k default).cells:=mg hkl;have hbad:OW l (k+1)=none->U5 l=none:=fun h=>WI h (by omega);have hbd2:∀p,OW l (k+1)=some p->p.2.ok=false->U5 l=none:=fun p h h2=>ahd h h2 (by omega);generalize l.getD k default=x at hs hxw hxo hmx;have ca:=(aha h.Y8 (S:=S) (l:=x) (VP i3 i4) i1 hxo (by omega)).XZ (by
   intro p hp;simp only [adT,aI,bY,or_false]at hp;rcases hp with rfl|rfl|rfl
   ·exact anE _ _
   ·exact anD _ _
   exact Ig _ _)
  have hac:=ahb S x;obtain⟨g1,g2,g3⟩:=KX i1 hxo;simp only [adT,bT,iQ]at ca;rw [<-g1,<-g2,<-g3]at ca;clear g1 g2 g3;generalize hS':adV S x=S' at hs ca hac;generalize he':adE S x=e' at hs ca hac;generalize ho:UJ S x=ok at hs ca;refine AZ @hc @hmx ?_;refine jK ca ?_;have hp2:¬(s.length+1=s.length):=by omega
  refine Ku @L0 @L1 @LFx @kQ @lI ?_;obtain⟨S1,hS1⟩:∃S1,(List.set (s++[some ⟨11,[x.cells]⟩]++[none]) (s.length+1) (some ⟨3,[[.bool false,.kC,.kC]]⟩)).set (s.length+1) (some ⟨3,[e'.cells]⟩)=S1:=⟨_,rfl⟩;have h1:∀o,o<s.length->jQ S1 o=jQ s o:=fun o ho=>by
   rw [<-hS1,kN (by omega),kN (by omega),cO,nX ho]
  have hl1:S1.length=s.length+2:=by rw [<-hS1];simp
  rw [hS1];clear hS1;have E1:=E.fr h1;have R:=ah (E1.res1 1 rfl rfl (kM _ _)) (E1.res1 2 rfl rfl (kM _ _));refine nH (yT h.lJ i2 hac.2.1) (by (refine Dy @R @kQ @lI ?_;try with_reducible exact aC)) ?_;intro r q2 o2 G;have gl:s.length+2<=q2.length:=by have:=G.len;omega
  obtain⟨_,rfl,hQ⟩:=G.ow.lU;obtain⟨y1,y2,rfl⟩:=hQ.rat
  have F1:2∉o2:=fun hm=>by have h1:=G.fresh 2 hm;have:=L1.2;omega
  have E2:=E1.renew (fun q hq=>rfl) (aJ _) hQ G.nd G.fresh G.old;have avZ:=wM e e';have hbd2:=fun (hs:OW l (k+1)=some (S',oC e e'))=>hbd2 (S',oC e e') hs;dsimp only at hbd2;generalize oC e e'=e2 at *;have LF:=ah (E2.leaf 1 rfl rfl) (E2.leaf 2 rfl rfl);have M0:=E2.at0 (p:=0) (ob:=⟨3,[[.bool false,.kC,.kC]]⟩) (by simp);have M1:=E2.at0 (p:=2) (ob:=⟨3,[[.bool e.neg,x1,x2]]⟩) (by simp);refine Ku @LF @M0 @M1 @kQ @lI ?_;have E3:=E2.JG (p:=2) (ob:=⟨3,[[.bool e2.neg,y1,y2]]⟩) (L':=[(0,⟨3,[[.bool false,.kC,.kC]]⟩),(2,⟨3,[[.bool e2.neg,y1,y2]]⟩)]) F1 M1.2 (by simp);generalize hq3:q2.set 2 (some ⟨3,[[.bool e2.neg,y1,y2]]⟩)=q3 at *;have N0:=E3.at0 (p:=0) (ob:=⟨3,[[.bool false,.kC,.kC]]⟩) (by simp);have N1:=E3.at0 (p:=2) (ob:=⟨3,[[.bool e2.neg,y1,y2]]⟩) (by simp);have R3:=ah (E3.res1 1 rfl rfl (kM _ _)) (E3.res1 2 rfl rfl (kM _ _))
  cases ok
  ·obtain⟨e1,e2,e3⟩:=J7 (hbad (by rw [hs];rfl));rw [e1,e2,e3];refine Ku @N0 @N1 @LF @kQ @lI ?_;exact .inl acw
  have cg:=Jg h.kW avZ;refine D5 @N0 @N1 @LF @R3 @kQ @lI ?_;refine jK cg ?_
  cases hb:e2.ok
  ·obtain⟨e1,e2,e3⟩:=J7 (hbd2 (by rw [hs];rfl) hb);rw [e1,e2,e3];refine Ku @N0 @N1 @LF @kQ @lI ?_;exact .inl acw
  refine Ku @N0 @N1 @LF @kQ @lI ?_;refine⟨(k+1,q3,S',e2,y1,y2,o2),by dsimp only;omega,⟨⟨by dsimp only;omega,by dsimp only;rw [hs];rfl,hb⟩,E3⟩,?_⟩;dsimp only
  (refine kS ?_;exact uw)
 have hie:k=l.length:=by omega
 have hg:U5 l=some (S,e):=by unfold U5;rw [<-hie,hf];exact aQ he
 have e1:Pq l=S:=by unfold Pq;rw [hg];rfl
 have e2:VO l=e:=by unfold VO;rw [hg];rfl
 have e3:Gl l=true:=by unfold Gl;rw [hg];rfl
 rw [e1,e2,e3];refine D5 @hc @L0 @L1 @LFx @kQ @lI ?_;refine⟨by unfold sF;rfl,.inl (abb rfl ?_ E.c.nd)⟩;have n0:=(E.l (0,⟨3,[[.bool false,.kC,.kC]]⟩) (by simp)).2;exact ru (E.c.set (o:=0) (x:=some ⟨3,[[.bool e.neg,x1,x2]]⟩) n0).ow
def E8:Fn:=⟨2,51,[.tmp 4],(sr [oN 4 mN] (.seq (rf 1 [oN 10 (.nO 11 I5 0 []),oK 5 1 (oV 10)]) (.seq (sr [oN 6 (.qC (cI 1))] (.block 0 (.loop (.seq (sr [oW 11 6,oW 12 1,oN 13 (bt .leq 11 12)] (cd 13 .skip (.exit 0))) (.seq (.block 1 (.seq (rf 1 [oK 17 1 (oV 0),oK 18 1 (oV 6),oK 19 1 (cl 107 [17,18]),oK 20 1 (oV 6),oK 21 1 (oV 0),oK 22 1 (.call 107 [(.t 21),(cI 9)]),oK 23 1 (.bin .add (cI 1) (.t 22)),oK 24 1 (oV 0),oK 25 1 (.call 107 [(.t 24),(cI 41)]),oK 26 1 (bc .sub 25 20),oK 27 1 (oV 0),oK 28 1 (.call 107 [(.t 27),(cI 41)]),oK 29 1 (bc .sub 28 20),oK 30 1 (cl 14 [19,20,23,26,29]),oK 16 1 (oV 30),oK 31 1 (ex 0 16),oK 32 1 (ex 1 16),oN 7 (.alloc I5),⟨none,none,1,.store 11 (.t 7) (.t 31),[]⟩,oK 8 1 (oV 32)]) (rf 2 [oK 33 2 (oV 5),oK 34 2 (lT 11 7),oN 35 (.nO 11 I5 1 [(0,(.t 34))]),oK 36 1 (.app 11 184 (.t 33) (.t 35)),oK 5 2 (oV 36)]))) (rg [oW 14 6,oN 15 (bc .add 14 1),oW 6 15])))))) (.seq (sr [oW 37 0,oN 38 (.call 107 [(.t 37),(cI 4)]),oW 9 38] (.block 2 (.loop (.seq (sr [oW 39 9,oN 40 (bc .gtr 39 0)] (cd 40 .skip (.exit 2))) (.seq (.block 3 (rf 2 [oK 43 2 (oV 5),oK 44 2 (oV 0),oK 45 2 (oV 1),oK 46 2 (bc .add 45 1),oK 47 2 (cl 128 [44,46]),oN 48 (.nO 11 I5 1 [(0,(.t 47))]),oK 49 1 (.app 11 184 (.t 43) (.t 48)),oK 5 2 (oV 49)])) (rg [oW 41 9,oN 42 (bc .sub 41 1),oW 9 42])))))) (sr [oW 50 5,oW 4 50] .ret)))))⟩
structure J8 (T:Tb):Prop where
 hT:T 106=some E8
 EX:EJ T
 lZ:wI T
 Za:J4 T
def BD:Fn:=⟨1,11,[.tmp 2],(sr [oN 2 mN] (sr [oW 4 0,oN 5 (cl 105 [4]),oW 3 5] (sr [oW 6 3,oW 7 3,oN 8 (.call 107 [(.t 7),(cI 4)]),oN 9 (.bin .add (cI 1) (.t 8)),oN 10 (cl 106 [6,9]),oW 2 10] .ret)))⟩
structure Gm (T:Tb):Prop where
 hT:T 87=some BD
 MC:Ib T
 Zb:J8 T
 lZ:wI T
structure SmN (n:Int) (l:Lk):Prop where
 ab:0<=l.a/\l.a<l.b/\l.b<=n
 w:∃n:Int,(1<=n/\n<=9)/\l.w=lC n
 dx:∃n:Int,(-20<=n/\n<=20)/\l.dx=lC n
 dy:∃n:Int,(-20<=n/\n<=20)/\l.dy=lC n
theorem SmN.mono{n m:Int}{l:Lk}(h:SmN n l)(hm:n<=m):SmN m l:=⟨⟨h.ab.1,h.ab.2.1,by have:=h.ab.2.2;omega⟩,h.w,h.dx,h.dy⟩
theorem ahe{n a b w x y:Int}(hn:n<=9)(ha:0<=a/\a<=n)(hb:0<=b/\b<=n)(hne:a≠b)(hw:1<=w/\w<=9)(hx : -20<=x/\x<=20)(hy : -20<=y/\y<=20):SmN n (nlV a b w x y)/\(a<b->(nlV a b w x y).b=b):=by
 have hok:aku a b w x y=true:=by
  unfold aku nd inC wtC;simp;omega
 unfold nlV;rw [aQ hok];split
 ·exact⟨⟨⟨by dsimp only;omega,by dsimp only;omega,by dsimp only;omega⟩,⟨w,hw,rfl⟩,⟨-x,by omega,rfl⟩,⟨-y,by omega,rfl⟩⟩,fun h=>by omega⟩
 exact⟨⟨⟨by dsimp only;omega,by dsimp only;omega,by dsimp only;omega⟩,⟨w,hw,rfl⟩,⟨x,hx,rfl⟩,⟨y,hy,rfl⟩⟩,fun _=>rfl⟩
theorem ahf{T:Tb}(h:J4 T){x:List UInt8}{n:Int}(hn:1<=n/\n<=5)(hx:x.length<=1048576):anl T 128 [iv n] x fun r=>∃l:Lk,r=Wu l/\SmN n l:=by
 refine aiF fun i hh hi=>?_;unfold cur;refine run_end (fun x d=>x == 107) h.hT ?_;simp only [EW,Lz,St.enter,au,aG,aX];refine ew ?_;refine qI (b:=0) (rest:=[iv n]) ⟨i,hh,rfl,hi⟩ (qU h.lZ (n:=n) (by omega) hx) rfl (fun _=>rfl) ?_;rintro _ i2 h2 ⟨a,rfl,ha⟩ hi2;refine ew ?_;refine qI (b:=0) (rest:=[iv n]) ⟨i2,h2,rfl,hi2⟩ (qU h.lZ (n:=n) (by omega) hx) rfl (fun _=>rfl) ?_;rintro _ i3 h3 ⟨b,rfl,hb⟩ hi3;refine ew ?_;refine lG (fun hc=>?_) fun hc=>?_
 ·have hw1:IntKind.i64.wrap (n+1)=n+1:=w64 (by omega);have hr:(a+1).tmod (n+1)=a+1:=Int.tmod_eq_of_lt (by omega) (by omega);refine Ae @hr ?_;refine qI (b:=0) (rest:=[iv 9]) ⟨i3,h3,rfl,hi3⟩ (qU h.lZ (n:=9) (by omega) hx) rfl (fun _=>rfl) ?_;rintro _ i4 h4 ⟨w,rfl,hw⟩ hi4;refine ew ?_;refine qI (b:=0) (rest:=[iv 41]) ⟨i4,h4,rfl,hi4⟩ (qU h.lZ (n:=41) (by omega) hx) rfl (fun _=>rfl) ?_;rintro _ i5 h5 ⟨dx,rfl,hdx⟩ hi5;refine ew ?_;refine qI (b:=0) (rest:=[iv 41]) ⟨i5,h5,rfl,hi5⟩ (qU h.lZ (n:=41) (by omega) hx) rfl (fun _=>rfl) ?_;rintro _ i6 h6 ⟨dy,rfl,hdy⟩ hi6;refine ew ?_;have hS:=ahe (n:=n) (a:=a) (b:=a+1) (w:=1+w) (x:=dx-20) (y:=dy-20) (by omega) (by omega) (by omega) (by omega) (by omega) (by omega) (by omega);refine jK (Td h.EX (a:=a) (b:=a+1) (w:=1+w) (x:=dx-20) (y:=dy-20)) ?_;generalize nlV a (a+1) (1+w) (dx-20) (dy-20)=l at hS ⊢;refine ew ?_;exact⟨⟨⟨l,rfl,hS.1⟩,fun g=>aiG g _⟩,i6,h6,rfl,hi6⟩
 refine ew ?_;refine qI (b:=0) (rest:=[iv 9]) ⟨i3,h3,rfl,hi3⟩ (qU h.lZ (n:=9) (by omega) hx) rfl (fun _=>rfl) ?_;rintro _ i4 h4 ⟨w,rfl,hw⟩ hi4;refine ew ?_;refine qI (b:=0) (rest:=[iv 41]) ⟨i4,h4,rfl,hi4⟩ (qU h.lZ (n:=41) (by omega) hx) rfl (fun _=>rfl) ?_;rintro _ i5 h5 ⟨dx,rfl,hdx⟩ hi5;refine ew ?_;refine qI (b:=0) (rest:=[iv 41]) ⟨i5,h5,rfl,hi5⟩ (qU h.lZ (n:=41) (by omega) hx) rfl (fun _=>rfl) ?_;rintro _ i6 h6 ⟨dy,rfl,hdy⟩ hi6;refine ew ?_;have hS:=ahe (n:=n) (a:=a) (b:=b) (w:=1+w) (x:=dx-20) (y:=dy-20) (by omega) (by omega) (by omega) (by omega) (by omega) (by omega) (by omega);refine jK (Td h.EX (a:=a) (b:=b) (w:=1+w) (x:=dx-20) (y:=dy-20)) ?_;generalize nlV a (b) (1+w) (dx-20) (dy-20)=l at hS ⊢;refine ew ?_;exact⟨⟨⟨l,rfl,hS.1⟩,fun g=>aiG g _⟩,i6,h6,rfl,hi6⟩
structure abe (n:Nat) (L:List Lk):Prop where
 rn:1<=n/\n<=4
 len:n<=L.length/\L.length<=n+3
 sm:∀l∈L,SmN ((n:Int)+1) l
 base:∀k,k<n->(L.getD k default).b=(k:Int)+1
theorem abf{xs:List Lk}{l:Lk}{k:Nat}:(xs++[l]).getD k default=if k<xs.length then xs.getD k default else if k=xs.length then l else default:=by
 rw [aj,aj];split
 ·rename_i h;rw [bK h]
 rename_i h;split
 ·rename_i e;subst e;simp
 rw [bC (by simp<;>omega)];rfl
def akz(s:Store)(v:V)(xs:List Lk):Prop:=(xs=[]/\v=.kC)\/∃p,v=.lQ p 0 xs.length/\jQ s p=some ⟨11,xs.map Lk.cells⟩/\p≠0
theorem akz.fr{s s2:Store}{v:V}{xs:List Lk}(h:akz s v xs)(hf:∀p,p≠0->p<s.length->jQ s2 p=jQ s p):akz s2 v xs:=by
 rcases h with h|⟨p,h1,h2,h3⟩
 ·exact .inl h
 exact .inr ⟨p,h1,(hf p h3 (lH h2)).trans h2,h3⟩
theorem Pm.fr{s s2:Store}{x:List UInt8}(h:Pm s 0 x)(hf:jQ s2 0=jQ s 0):Pm s2 0 x:=by
 obtain⟨i,hh,h1,h2⟩:=h;exact⟨i,hh,hf.trans h1,h2⟩
theorem Pm.lt{s:Store}{x:List UInt8}(h:Pm s 0 x):0<s.length:=by obtain⟨i,hh,h1,h2⟩:=h;exact lH h1
theorem akA{T:Tb}(h:J8 T){x:List UInt8}(hx:x.length<=1048576){n:Nat}(hn:1<=n/\n<=4){i hh:Int}(hi:0<=i/\i<=x.length) :
  ∃r σ',Run T (.fn 106 [.ptr 0 0 0,iv n] (cur x i hh)) (.fn r σ')/\(∃L,abe n L/\resolve σ' FD r=some (nZ L))/\1<=σ'.length:=by
 have hP:Pm (cur x i hh) 0 x:=⟨i,hh,rfl,hi⟩;generalize cur x i hh=s0 at hP ⊢;have hP0:=hP.lt;refine run_end (fun x d=>x == 107||x == 128) h.hT ?_;simp only [E8,Lz,St.enter,au,aG,aX];refine ew ?_;refine kZ (fun x d=>x == 107||x == 128) (α:=Nat×Store×V×List Lk) (fun q=>⟨mJ [.ptr 0 0 0,iv n,.any,.any,.any,q.2.2.1,iv ((q.1:Nat)+1)],q.2.1,s0.length,0,[],[]⟩) (fun q=>(q.1<=n/\Pm q.2.1 0 x)/\akz q.2.1 q.2.2.1 q.2.2.2/\q.2.2.2.length=q.1/\(∀l∈q.2.2.2,SmN ((n:Int)+1) l)/\∀j,j<q.1->(q.2.2.2.getD j default).b=(j:Int)+1) (fun q=>n-q.1) rfl (0,s0++[none],.kC,[]) ?_ ?_ ?_
 ·exact⟨⟨by omega,hP.fr (kV hP0)⟩,.inl ⟨rfl,rfl⟩,rfl,by simp,by intro q hq;omega⟩
 ·(refine kS ?_;exact uw)
 generalize s0.length=kp;clear hP hP0;rintro⟨k,s,v,xs⟩ ⟨⟨hk,hP⟩,hLs,hxl,hsm,hb⟩;dsimp only at hk hP hLs hxl hsm hb;by_cases hc:(k:Int)+1<=(n:Int)
 ·refine Ae @hc ?_;refine qI (b:=0) (rest:=[iv (k+1)]) (hP.fr (kV hP.lt)) (qU h.lZ (n:=(k:Int)+1) (by omega) hx) rfl (fun _=>rfl) ?_;rintro _ i1 h1 ⟨a,rfl,ha⟩ hi1;refine ew ?_;refine qI (b:=0) (rest:=[iv 9]) ⟨_,_,kY (by simp),hi1⟩ (qU h.lZ (n:=9) (by omega) hx) rfl (fun _=>rfl) ?_;rintro _ i2 h2 ⟨w,rfl,hw⟩ hi2;refine ew ?_;refine qI (b:=0) (rest:=[iv 41]) ⟨_,_,kY (by simp),hi2⟩ (qU h.lZ (n:=41) (by omega) hx) rfl (fun _=>rfl) ?_;rintro _ i3 h3 ⟨dx,rfl,hdx⟩ hi3;refine ew ?_;refine qI (b:=0) (rest:=[iv 41]) ⟨_,_,kY (by simp),hi3⟩ (qU h.lZ (n:=41) (by omega) hx) rfl (fun _=>rfl) ?_;rintro _ i4 h4 ⟨dy,rfl,hdy⟩ hi4;have hS:=ahe (n:=(n:Int)+1) (a:=a) (b:=(k:Int)+1) (w:=1+w) (x:=dx-20) (y:=dy-20) (by omega) (by omega) (by omega) (by omega) (by omega) (by omega) (by omega);have cn:=Td h.EX (a:=a) (b:=(k:Int)+1) (w:=1+w) (x:=dx-20) (y:=dy-20);generalize nlV a ((k:Int)+1) (1+w) (dx-20) (dy-20)=l at hS cn;generalize aku a ((k:Int)+1) (1+w) (dx-20) (dy-20)=ok at cn;refine ew ?_;refine jK cn ?_;obtain⟨S,hSe⟩:∃S,((((s++[none]).set 0 (some (Xc x i1 h1))).set 0 (some (Xc x i2 h2))).set 0 (some (Xc x i3 h3))).set 0 (some (Xc x i4 h4))=S:=⟨_,rfl⟩;rw [hSe];have hSl:S.length=s.length+1:=by rw [<-hSe];simp
  have hS0:jQ S 0=some (Xc x i4 h4):=by rw [<-hSe];exact kY (by simp)
  have hSo:∀p,p≠0->p<s.length->jQ S p=jQ s p:=fun p h0 hp=>by
   rw [<-hSe,kN h0,kN h0,kN h0,kN h0,kV hp]
  have hSm:jQ S s.length=none:=by
   rw [<-hSe];have h0:=hP.lt;rw [kN (by omega),kN (by omega),kN (by omega),kN (by omega),rP]
  have hm0:=hP.lt;have hLs:=hLs.fr hSo;clear hSe hSo hP;have hs0:s.length<S.length:=by omega
  generalize s.length=m at *;have hxs:xs.length<=1048576:=by omega
  have arv:∀l'∈xs++[l],SmN ((n:Int)+1) l':=fun l' hl'=>by
   rcases aK.1 hl' with hl'|hl'
   ·exact hsm l' hl'
   rw [aW.1 hl'];exact hS.1
  have hb2:∀j,j<k+1->((xs++[l]).getD j default).b=(j:Int)+1:=fun j hj=>by
   rw [abf];split
   ·exact hb j (by omega)
   rw [aQ (by omega),hS.2 (by omega)];omega
  rcases hLs with ⟨rfl,rfl⟩|⟨p,rfl,hp,hp0⟩
  ·refine AZ @hS0 @hSl ?_;refine⟨by omega,?_⟩;generalize hB:List.set (_++[none]) (m+1+1) (some (⟨11,[l.cells]⟩:Obj))=B;have hB0:jQ B 0=some (Xc x i4 h4):=by
    rw [<-hB,kN (by omega),kV (by simp [hSl]<;>omega),kN (by omega),kV (by simp [hSl]<;>omega),kN (by omega),kN (by omega),hS0]
   have hBp:jQ B (m+1+1)=some ⟨11,[l.cells]⟩:=by rw [<-hB];exact kY (by simp [hSl]<;>omega)
   refine⟨(k+1,B,.lQ (m+1+1) 0 1,[]++[l]),by dsimp only;omega,⟨⟨by dsimp only;omega,i4,h4,hB0,hi4⟩,.inr ⟨m+1+1,rfl,(by dsimp only [List.nil_append,List.map_cons,List.map_nil];exact hBp),by omega⟩,by dsimp only;simp;simp at hxl;omega,arv,hb2⟩,?_⟩;dsimp only
   (refine kS ?_;exact uw)
  have hpl:=lH hp;have hpm:p≠m:=fun e=>by rw [e,hSm]at hp;cases hp
  refine Dy @hS0 @hp @hSl ?_;refine⟨by omega,?_⟩;generalize hB:List.set _ (m+1+1) (some (⟨11,List.map Lk.cells xs++[l.cells]⟩:Obj))=B;have hB0:jQ B 0=some (Xc x i4 h4):=by
   rw [<-hB,kN (by omega),kV (by simp<;>omega),kN (by omega),kN (by omega),kV (by simp [hSl]<;>omega),kN (by omega),kN (by omega),hS0]
  have hBp:jQ B (m+1+1)=some ⟨11,List.map Lk.cells xs++[l.cells]⟩:=by rw [<-hB];exact kY (by simp [hSl]<;>omega)
  refine⟨(k+1,B,.lQ (m+1+1) 0 (xs.length+1),xs++[l]),by dsimp only;omega,⟨⟨by dsimp only;omega,i4,h4,hB0,hi4⟩,.inr ⟨m+1+1,by dsimp only;simp,(by dsimp only;rw [List.map_append];exact hBp),by omega⟩,by dsimp only;simp;omega,arv,hb2⟩,?_⟩;dsimp only
  (refine kS ?_;exact uw)
 have hkn:k=n:=by omega
 subst hkn;have hP0:=hP.lt;refine Ae @hc ?_;refine qI (b:=0) (rest:=[iv 4]) hP (qU h.lZ (n:=4) (by omega) hx) rfl (fun _=>rfl) ?_;rintro _ i1 h1 ⟨mm,rfl,hmm⟩ hi1;obtain⟨S,hSe⟩:∃S,s.set 0 (some (Xc x i1 h1))=S:=⟨_,rfl⟩;have hPS:Pm S 0 x:=⟨i1,h1,by rw [<-hSe];exact kY hP0,hi1⟩;have hLS:akz S v xs:=hLs.fr fun p h0 hp=>by rw [<-hSe];exact kN h0
 rw [hSe];clear hSe hP hLs hP0;have hlen:xs.length+mm.toNat<=k+3:=by omega
 refine ew ?_;refine kZ (fun x d=>x == 107||x == 128) (α:=Nat×Store×V×List Lk) (fun q=>⟨mJ [.ptr 0 0 0,iv k,.any,.any,.any,q.2.2.1,.any,.any,.any,iv (q.1:Nat)],q.2.1,kp,0,[],[]⟩) (fun q=>Pm q.2.1 0 x/\akz q.2.1 q.2.2.1 q.2.2.2/\(k<=q.2.2.2.length/\q.2.2.2.length+q.1<=k+3)/\(∀l∈q.2.2.2,SmN ((k:Int)+1) l)/\∀j,j<k->(q.2.2.2.getD j default).b=(j:Int)+1) (fun q=>q.1) rfl (mm.toNat,S,v,xs) ?_ ?_ ?_
 ·exact⟨hPS,hLS,⟨by dsimp only;omega,hlen⟩,hsm,hb⟩
 ·(refine kS ?_;exact uw)
 clear hPS hLS hsm hb hlen hxl;rintro⟨r,s,v,xs⟩ ⟨hP,hLs,⟨hxl,hxr⟩,hsm,hb⟩;dsimp only at hP hLs hxl hxr hsm hb;by_cases hc2:(r:Int)>0
 ·refine Ae @hc2 ?_;refine qI (b:=0) (rest:=[iv ((k:Int)+1)]) (hP.fr (by have:=hP.lt;rw [cO,nX this])) (ahf h.Za (n:=(k:Int)+1) (by omega) hx) rfl (fun _=>rfl) ?_;rintro _ i4 h4 ⟨l,rfl,hS⟩ hi4;obtain⟨S,hSe⟩:∃S,List.set (s++[none]++[none]) 0 (some (Xc x i4 h4))=S:=⟨_,rfl⟩;rw [hSe];have hm0:=hP.lt;have hSl:S.length=s.length+2:=by rw [<-hSe];simp
  have hS0:jQ S 0=some (Xc x i4 h4):=by rw [<-hSe];exact kY (by simp)
  have hSo:∀p,p≠0->p<s.length->jQ S p=jQ s p:=fun p h0 hp=>by
   rw [<-hSe,kN h0,cO,nX hp]
  have hpl:∀p,p≠0->jQ s p≠none->p<s.length:=fun p _ h=>by
   rcases dW p s.length with k|k
   ·exact k
   exact absurd (by unfold jQ;rw [bC k];rfl) h
  have hLs:(xs=[]/\v=.kC)\/∃p,v=.lQ p 0 xs.length/\jQ S p=some ⟨11,xs.map Lk.cells⟩/\p≠0/\p<s.length:=by
   rcases hLs with h|⟨p,h1,h2,h3⟩
   ·exact .inl h
   exact .inr ⟨p,h1,(hSo p h3 (lH h2)).trans h2,h3,lH h2⟩
  clear hSe hSo hP hpl;generalize s.length=m at *;have arv:∀l'∈xs++[l],SmN ((k:Int)+1) l':=fun l' hl'=>by
   rcases aK.1 hl' with hl'|hl'
   ·exact hsm l' hl'
   rw [aW.1 hl'];exact hS
  have hb2:∀j,j<k->((xs++[l]).getD j default).b=(j:Int)+1:=fun j hj=>by
   rw [abf,aQ (by omega)];exact hb j hj
  rcases hLs with ⟨rfl,rfl⟩|⟨p,rfl,hp,hp0,hpm⟩
  ·simp at hxl;omega
  refine Dy @hS0 @hp @hSl ?_;refine⟨by omega,?_⟩;generalize hB:List.set _ (m+1) (some (⟨11,List.map Lk.cells xs++[l.cells]⟩:Obj))=B;have hB0:jQ B 0=some (Xc x i4 h4):=by
   rw [<-hB,kN (by omega),kN (by omega),kN (by omega),hS0]
  have hBp:jQ B (m+1)=some ⟨11,List.map Lk.cells xs++[l.cells]⟩:=by rw [<-hB];exact kY (by simp [hSl])
  refine⟨(r-1,B,.lQ (m+1) 0 (xs.length+1),xs++[l]),by dsimp only;omega,⟨⟨i4,h4,hB0,hi4⟩,.inr ⟨m+1,by dsimp only;simp,(by dsimp only;rw [List.map_append];exact hBp),by omega⟩,by dsimp only;simp;omega,arv,hb2⟩,?_⟩;dsimp only
  (refine kS ?_;exact uw)
 refine Ae @hc2 ?_;rcases hLs with ⟨rfl,rfl⟩|⟨p,rfl,hp,hp0⟩
 ·simp at hxl;omega
 exact⟨⟨xs,⟨hn,⟨hxl,by omega⟩,hsm,hb⟩,au1 (fun x hx=>IX xs _ (jh hx)) hp⟩,hP.lt⟩
theorem aeZ(x:List UInt8)(i h:Int):zW [] (cur x i h)=cur x i h:=by
 show []++[some (rD (mV 0) (Xc x i h))]=_;rw [Ns];rfl
theorem ae0{T:Tb}(h:Gm T){x:List UInt8}(hx:x.length<=1048576):∃n L,abe n L/\PF T 87 [bytesV x] (nZ L):=by
 obtain⟨h0,rn⟩:=aeS h.MC hx;have:∃r σ',Run T (.fn 87 [bytesV x] []) (.fn r σ')/\∃n L,abe n L/\resolve σ' FD r=some (nZ L):=by
  refine run_end (fun x d=>x == 105||x == 107||x == 106) h.hT ?_;simp only [BD,Lz,St.enter,au,aG,aX];refine ew ?_;refine Jv rn (by (refine ew ?_;try with_reducible exact aC)) (by (refine ew ?_;try with_reducible exact aC)) ?_;rw [show lS (mV ([]:Store).length) (.ptr 0 0 0)=.ptr 0 0 0 from rfl,aeZ];refine ew ?_;refine qI (b:=0) (rest:=[iv 4]) ⟨0,h0,rfl,by omega⟩ (qU h.lZ (n:=4) (by omega) hx) rfl (fun _=>rfl) ?_;rintro _ i1 h1 ⟨m,rfl,hm⟩ hi1;rw [show (cur x 0 h0).set 0 (some (Xc x i1 h1))=cur x i1 h1 from rfl];obtain⟨r,σ',h2,⟨L,h3,h4⟩,h5⟩:=akA h.Zb hx (n:=(1+m).toNat) (by omega) (hh:=h1) hi1;rw [show (((1+m).toNat:Nat):Int)=1+m by omega]at h2;refine ew ?_;refine Xq h2 rfl h5 (aJ _) ?_;refine ew ?_;exact⟨_,L,h3,h4⟩
 obtain⟨r,σ',h1,n,L,h2,h3⟩:=this;exact⟨n,L,h2,.XZ h1 h3⟩
theorem XF{a b:Rat}(h:norm a=some b):a=b:=by
 unfold norm at h;split at h
 ·cases h;rfl
 cases h
theorem UM{r:R}(h:r.ok=true):∃a,r.q=some a:=by
 cases hq:r.q with
 |none=>exact absurd hq (xZ.1 h)
 |some a=>exact⟨a,rfl⟩
theorem Tj{r s:R}{a b:Rat}(hr:r.q=some a)(hs:s.q=some b)(ho:(oC r s).ok=true):(oC r s).q=some (a+b):=by
 obtain⟨c,hc⟩:=UM ho;rw [hc];rw [SB,hr,hs]at hc;rw [XF hc]
theorem acD{r s:R}{a b:Rat}(hr:r.q=some a)(hs:s.q=some b)(ho:(wL r s).ok=true):(wL r s).q=some (a-b):=by
 obtain⟨c,hc⟩:=UM ho;rw [hc];rw [YL,hr,hs]at hc;have:norm (a + -b)=some c:=hc;rw [Rat.sub_eq_add_neg,XF this]
theorem Ov{r s:R}{a b:Rat}(hr:r.q=some a)(hs:s.q=some b)(ho:(mulR r s).ok=true):(mulR r s).q=some (a*b):=by
 obtain⟨c,hc⟩:=UM ho;rw [hc];rw [YM,hr,hs]at hc;rw [XF hc]
theorem acE{r s:R}{a b:Rat}(hr:r.q=some a)(hs:s.q=some b)(ho:(vS r s).ok=true):(vS r s).q=some (a / b)/\b≠0:=by
 obtain⟨c,hc⟩:=UM ho;rw [hc];rw [YN,hr,hs]at hc;have:(if b=0 then none else norm (a / b))=some c:=hc;split at this
 ·cases this
 rename_i h0;rw [XF this];exact⟨rfl,h0⟩
theorem Nu{r s:R}(h:(oC r s).ok=true):r.ok=true/\s.ok=true:=by
 constructor
 ·cases hr:r.ok
  ·rw [UK hr]at h;cases h
  rfl
 cases hr:s.ok
 ·rw [akg,UK hr]at h;cases h
 rfl
theorem UN{r s:R}(h:(mulR r s).ok=true):r.ok=true/\s.ok=true:=by
 rw [xZ,YM]at h;constructor
 ·rw [xZ];intro e;rw [e]at h;exact h rfl
 rw [xZ];intro e;rw [e,WC]at h;exact h rfl
theorem UO{r s:R}(h:(vS r s).ok=true):r.ok=true/\s.ok=true:=by
 rw [xZ,YN]at h;constructor
 ·rw [xZ];intro e;rw [e]at h;exact h rfl
 rw [xZ];intro e;rw [e,WE]at h;exact h rfl
theorem ae1{r s:R}(h:(wL r s).ok=true):r.ok=true/\s.ok=true:=by
 rw [xZ,YL]at h;constructor
 ·rw [xZ];intro e;rw [e]at h;exact h rfl
 rw [xZ];intro e;rw [e,WG]at h;exact h rfl
def R.v(r:R):Rat:=r.q.getD 0
theorem R.Jp{r:R}{a:Rat}(h:r.q=some a):r.v=a:=by unfold R.v;rw [h];rfl
theorem R.IQ{r:R}(h:r.ok=true):r.q=some r.v:=by obtain⟨a,ha⟩:=UM h;rw [ha,R.Jp ha]
def mW(l:Lk):Rat:=l.w.v
def mX(l:Lk):Rat:=l.w.v*l.dx.v
def mY(l:Lk):Rat:=l.w.v*l.dy.v
def mZ(l:Lk):Rat:=l.w.v*(l.dx.v*l.dx.v+l.dy.v*l.dy.v)
theorem aiL{n:Int}(h:0<sgn n):0<n:=by
 unfold sgn at h;split at h
 ·omega
 split at h<;>omega
theorem UQ{l:Lk}(h:ql l=true):0<l.w.v:=by
 have hk:=Bo h;have hs:=hk.2.2.2;unfold xI at hs;rw [R.IQ hk.1]at hs;have:0<sgn l.w.v.num:=hs;rw [Rat.lt_iff,show (0:Rat).num=0 from rfl,show (0:Rat).den=1 from rfl,Int.zero_mul,Int.natCast_one,Int.mul_one];exact aiL this
theorem av1(v w a b c d:Rat)(h:v+w≠0):(v+w)*((v*a+w*b) / (v+w)*((v*a+w*b) / (v+w))+(v*c+w*d) / (v+w)*((v*c+w*d) / (v+w)))+v*w / (v+w)*((a-b)*(a-b)+(c-d)*(c-d))=v*(a*a+c*c)+w*(b*b+d*d):=by
 grind
theorem anG(s t:Rat)(h:t≠0):t*(s / t)=s:=by grind
theorem anH{k l:Lk}(h1:ql k=true)(h2:ql l=true)(hg:Pj k l=true) :
  mW (Ry k l)=mW k+mW l/\mX (Ry k l)=mX k+mX l/\mY (Ry k l)=mY k+mY l/\mZ (Ry k l)+(Ph k l).v=mZ k+mZ l:=by
 have k1:=Bo h1;have k2:=Bo h2;have kw:=R.IQ k1.1;have kx:=R.IQ k1.2.1;have ky:=R.IQ k1.2.2.1;have lw:=R.IQ k2.1;have lx:=R.IQ k2.2.1;have ly:=R.IQ k2.2.2.1;unfold Pj at hg;simp only [aH]at hg;obtain⟨⟨⟨gW,gX⟩,gY⟩,gE⟩:=hg;have eW:=Tj kw lw gW;obtain⟨gX1,_⟩:=UO gX;obtain⟨gX2,gX3⟩:=Nu gX1;obtain⟨eX,hne⟩:=acE (Tj (Ov kw kx gX2) (Ov lw lx gX3) gX1) eW gX;obtain⟨gY1,_⟩:=UO gY;obtain⟨gY2,gY3⟩:=Nu gY1;obtain⟨eY,_⟩:=acE (Tj (Ov kw ky gY2) (Ov lw ly gY3) gY1) eW gY;obtain⟨gE1,gE2⟩:=UN gE;obtain⟨gE3,_⟩:=UO gE1;obtain⟨gE4,gE5⟩:=Nu gE2;obtain⟨gE6,_⟩:=UN gE4;obtain⟨gE7,_⟩:=UN gE5;have sx:=acD kx lx gE6;have sy:=acD ky ly gE7;have eE:=Ov (acE (Ov kw lw gE3) eW gE1).1 (Tj (Ov sx sx gE4) (Ov sy sy gE5) gE2) gE;have vW:(Ry k l).w.v=k.w.v+l.w.v:=R.Jp eW;have vX:(Ry k l).dx.v=(k.w.v*k.dx.v+l.w.v*l.dx.v) / (k.w.v+l.w.v):=R.Jp eX;have vY:(Ry k l).dy.v=(k.w.v*k.dy.v+l.w.v*l.dy.v) / (k.w.v+l.w.v):=R.Jp eY;have vE:(Ph k l).v=k.w.v*l.w.v / (k.w.v+l.w.v)*((k.dx.v-l.dx.v)*(k.dx.v-l.dx.v)+(k.dy.v-l.dy.v)*(k.dy.v-l.dy.v)):=R.Jp eE;unfold mW mX mY mZ;rw [vW,vX,vY,vE];exact⟨rfl,anG _ _ hne,anG _ _ hne,av1 _ _ _ _ _ _ hne⟩
def Tm(f:Lk->Rat)(i j:Int):List Lk->Rat
 | []=>0
 |x::L=>(if x.a=i/\x.b=j then f x else 0)+Tm f i j L
def tot(f:Lk->Rat):List Lk->Rat
 | []=>0
 |x::L=>f x+tot f L
theorem UR(f:Lk->Rat)(i j:Int):∀A B:List Lk,Tm f i j (A++B)=Tm f i j A+Tm f i j B
 | [],B=>by simp [Tm,iR]
 |x::A,B=>by simp only [dI,Tm,UR f i j A B,Rat.add_assoc]
theorem Dt(f:Lk->Rat):∀A B:List Lk,tot f (A++B)=tot f A+tot f B
 | [],B=>by simp [tot,iR]
 |x::A,B=>by simp only [dI,tot,Dt f A B,Rat.add_assoc]
theorem aiM(f:Lk->Rat)(i j:Int):∀A:List Lk,Tm f i j A.reverse=Tm f i j A
 | []=>rfl
 |x::A=>by rw [List.reverse_cons,UR,aiM f i j A];simp only [Tm,dY];rw [Rat.add_comm]
theorem aiN(f:Lk->Rat):∀A:List Lk,tot f A.reverse=tot f A
 | []=>rfl
 |x::A=>by rw [List.reverse_cons,Dt,aiN f A];simp only [tot,dY];rw [Rat.add_comm]
theorem arw{s:List Lk}{l:Lk}{t:List Lk}{e:R}(h:Ot s l=some (t,e))(h1:lN s=true)(h2:ql l=true) :
  (∀f,(f=mW\/f=mX\/f=mY)->∀i j,Tm f i j t=Tm f i j s+Tm f i j [l])/\tot mZ t+e.v=tot mZ s+mZ l:=by
 obtain⟨hv,hp⟩:=rU.1 h1;have hpost:=QL (l:=l) hp;have hpl:=KW l s;unfold Ot at h;dsimp only at h;generalize FH l s=i at *;have hsp:s.take i++s.drop i=s:=gZ i s;split at h
 ·cases h
  have e0:(lC 0).v=0:=R.Jp (a:=((0:Int):Rat)) (JM (by decide));refine⟨fun f _ a b=>?_,?_⟩
  ·conv=>rhs;rw [<-hsp]
   simp only [UR,Tm,dY]
   grind
  rw [e0]
  conv=>rhs;rw [<-hsp]
  simp only [Dt,tot]
  grind
 rename_i hc;split at h
 ·rename_i hg
  cases h
  have hi:i<s.length:=by
   rcases dW i s.length with k|k
   ·exact k
   exact absurd (.inl (by omega)) hc
  have hd:s.drop i=s.getD i default::s.drop (i+1):=by
   rw [dK hi,aj,ak hi];rfl
  have hx0:=hpost (s.getD i default) (by rw [hd];simp);have hxl:lW l (s.getD i default)=false:=by
   cases hq:lW l (s.getD i default)
   ·rfl
   exact absurd (.inr hq) hc
  have hsm:=getD_mem (l:=s) hi;generalize s.getD i default=x at *;obtain⟨ea,eb⟩:=Ou hx0 hxl;obtain⟨m1,m2,m3,m4⟩:=anH (hv x hsm) h2 hg;have hpa:(Ry x l).a=x.a:=rfl;have hpb:(Ry x l).b=x.b:=rfl;refine⟨fun f hf a b=>?_,?_⟩
  ·have hm:f (Ry x l)=f x+f l:=by rcases hf with rfl|rfl|rfl<;>assumption
   conv=>rhs;rw [<-hsp,hd]
   simp only [UR,Tm,dY,hpa,hpb,<-ea,<-eb];split
   ·rw [hm];grind
   grind
  conv=>rhs;rw [<-hsp,hd]
  simp only [Dt,tot]
  grind
 cases h
theorem Qo{f:Lk->Rat}{i j:Int}:∀{S:List Lk},(∀y∈S,¬(y.a=i/\y.b=j))->Tm f i j S=0
 | [],_=>rfl
 |
  y::S,h=>by
  simp only [Tm];rw [aN (h y (by simp)),Qo fun z hz=>h z (by simp [hz]),iR]
theorem acH{f:Lk->Rat}{x:Lk}:∀{S:List Lk},(S.Pairwise fun k l=>lW k l=true)->x∈S->Tm f x.a x.b S=f x
 | [],_,h=>by cases h
 |
  y::S,hp,h=>by
  rw [fB]at hp;simp only [Tm];rcases aI.1 h with rfl|h
  ·rw [aQ ⟨rfl,rfl⟩,Qo fun z hz hh=>?_,dY];have:=hp.1 z hz;rw [xB]at this;omega
  have:=hp.1 x h;rw [xB]at this;rw [aN (by omega),acH hp.2 h,iR]
theorem anI:∀{l m:List Lk},(l.Pairwise fun k l=>lW k l=true)->(m.Pairwise fun k l=>lW k l=true)->(∀a,a∈l↔a∈m)->l=m
 | [],[],_,_,_=>rfl
 | [],y::m,_,_,h=>absurd ((h y).2 (by simp)) (by simp)
 |x::l,[],_,_,h=>absurd ((h x).1 (by simp)) (by simp)
 |
  x::l,y::m,hl,hm,h=>by
  rw [fB]at hl hm;have e:x=y:=by
   rcases aI.1 ((h x).1 (by simp))with h1|h1
   ·exact h1
   rcases aI.1 ((h y).2 (by simp))with h2|h2
   ·exact h2.symm
   have a1:=hl.1 y h2;have a2:=hm.1 x h1;have:=Jk a1 a2;rw [Tf]at this;cases this
  subst e
  congr 1
  refine anI hl.2 hm.2 fun a=>?_;constructor
  ·intro ha;rcases aI.1 ((h a).1 (by simp [ha]))with h1|h1
   ·have:=hl.1 a ha;rw [h1,Tf]at this;cases this
   exact h1
  intro ha;rcases aI.1 ((h a).2 (by simp [ha]))with h1|h1
  ·have:=hm.1 a ha;rw [h1,Tf]at this;cases this
  exact h1
theorem R.akB{r s:R}(hr:r.ok=true)(hs:s.ok=true)(h:r.v=s.v):r=s:=avu (CG hr) (CG hs) (by rw [R.IQ hr,R.IQ hs,h])
theorem aiO{S S':List Lk}(h:lN S=true)(h':lN S'=true)(hm:∀f,(f=mW\/f=mX\/f=mY)->∀i j,Tm f i j S=Tm f i j S'):∀x∈S,x∈S':=by
 obtain⟨hv,hp⟩:=rU.1 h;obtain⟨hv',hp'⟩:=rU.1 h';intro x hx;have hpos:=UQ (hv x hx);have w1:=hm mW (.inl rfl) x.a x.b;rw [acH hp hx]at w1;have:∃y∈S',y.a=x.a/\y.b=x.b:=by
  refine iC fun hne=>?_;rw [Qo fun y hy hh=>hne ⟨y,hy,hh⟩]at w1;unfold mW at w1;rw [w1]at hpos;exact absurd hpos (Rat.lt_irrefl)
 obtain⟨y,hy,ha,hb⟩:=this;have aE4:=hv' y hy;have at':=fun f=>acH (f:=f) hp' hy;rw [ha,hb]at at';rw [at']at w1;have w2:=hm mX (.inr (.inl rfl)) x.a x.b;have w3:=hm mY (.inr (.inr rfl)) x.a x.b;rw [acH hp hx,at']at w2 w3;unfold mW at w1;unfold mX at w2;unfold mY at w3;have k1:=Bo (hv x hx);have k2:=Bo aE4;rw [<-w1]at w2 w3;have hne:x.w.v≠0:=fun e=>by rw [e]at hpos;exact absurd hpos Rat.lt_irrefl
 have c2:x.dx.v=y.dx.v:=by grind
 have c3:x.dy.v=y.dy.v:=by grind
 have e:x=y:=Lk.ext' ha.symm hb.symm (R.akB k1.1 k2.1 w1) (R.akB k1.2.1 k2.2.1 c2) (R.akB k1.2.2.1 k2.2.2.1 c3);rw [e];exact hy
theorem arx{S S':List Lk}(h:lN S=true)(h':lN S'=true)(hm:∀f,(f=mW\/f=mX\/f=mY)->∀i j,Tm f i j S=Tm f i j S'):S=S' :=
 anI (rU.1 h).2 (rU.1 h').2 fun a=>⟨aiO h h' hm a,aiO h' h (fun f hf i j=>(hm f hf i j).symm) a⟩
theorem aiP{l:List Lk}:∀{k:Nat} {S:List Lk} {e:R},k<=l.length->OW l k=some (S,e)->e.ok=true ->
  (∀f,(f=mW\/f=mX\/f=mY)->∀i j,Tm f i j S=Tm f i j (l.take k))/\tot mZ S+e.v=tot mZ (l.take k)
 |
  0,S,e,_,h,_=>by
  cases h
  have e0:(lC 0).v=0:=R.Jp (a:=((0:Int):Rat)) (JM (by decide));rw [e0];exact⟨fun f _ i j=>by simp,by simp [tot,iR]⟩
 |
  k+1,S,e,hk,h,he=>by
  simp only [OW]at h
  cases hf:OW l k with
  |none=>rw [hf]at h;cases h
  |
   some p =>
   rw [hf]at h;dsimp only at h;split at h
   ·rename_i ho
    cases h
    obtain⟨o1,o2⟩:=Nu he;obtain⟨m1,m2⟩:=aiP (k:=k) (S:=p.1) (e:=p.2) (by omega) hf o1;obtain⟨a1,a2,a3⟩:=ahc ho;obtain⟨g1,g2,g3⟩:=KX a2 a3;have es:=take_snoc (l:=l) (i:=k) (by omega);generalize l.getD k default=x at *
    cases hr:Ot p.1 x with
    |none=>rw [hr]at g3;rw [g3]at ho;cases ho
    |
     some t =>
     rw [hr]at g1 g2;have g1:adV p.1 x=t.1:=g1;have g2:adE p.1 x=t.2:=g2;obtain⟨n1,n2⟩:=arw (t:=t.1) (e:=t.2) hr a2 a3;rw [g2]at o2 he ⊢;rw [g1,es];have ev:=R.Jp (Tj (R.IQ o1) (R.IQ o2) he);refine⟨fun f hf i j=>?_,?_⟩
     ·rw [n1 f hf,UR,m1 f hf]
     rw [ev,Dt,<-m2];simp only [tot,dY]
     grind
   cases h
theorem XG{l:List Lk}(h:Gl l=true):(∀f,(f=mW\/f=mX\/f=mY)->∀i j,Tm f i j (Pq l)=Tm f i j l)/\tot mZ (Pq l)+(VO l).v=tot mZ l/\(VO l).ok=true:=by
 unfold Gl at h
 cases hg:U5 l with
 |none=>rw [hg]at h;cases h
 |
  some p =>
  have e1:Pq l=p.1:=by unfold Pq;rw [hg];rfl
  have e2:VO l=p.2:=by unfold VO;rw [hg];rfl
  rw [e1,e2];unfold U5 at hg
  cases hf:OW l l.length with
  |none=>rw [hf]at hg;cases hg
  |
   some q =>
   rw [hf]at hg;dsimp only at hg;split at hg
   ·rename_i ho
    cases hg
    have:=aiP (S:=p.1) (e:=p.2) (aJ _) hf ho;rw [bI]at this;exact⟨this.1,this.2,ho⟩
   cases hg
theorem av2{l:List Lk}(h:Gl l=true)(h':Gl l.reverse=true):Pq l=Pq l.reverse/\VO l=VO l.reverse:=by
 obtain⟨a1,a2,a3⟩:=XG h;obtain⟨b1,b2,b3⟩:=XG h';have e:=arx (Ti (l:=l)).2.2.2 (Ti (l:=l.reverse)).2.2.2 fun f hf i j=>by rw [a1 f hf,b1 f hf,aiM]
 refine⟨e,R.akB a3 b3 ?_⟩;rw [aiN,<-a2,<-e]at b2
 grind
theorem aiQ{s:List Lk}{l:Lk}(h1:lN s=true)(h2:ql l=true)(hm:∀x∈s,x.a=l.a->x.b=l.b->Pj x l=true) :
  ∃t e,Ot s l=some (t,e)/\(((∀y∈t,y∈s\/y=l)/\e=lC 0)\/∃x∈s,x.a=l.a/\x.b=l.b/\(∀y∈t,y∈s\/y=Ry x l)/\e=Ph x l):=by
 obtain⟨hv,hp⟩:=rU.1 h1;have hpost:=QL (l:=l) hp;have hpl:=KW l s;unfold Ot;dsimp only;generalize FH l s=i at *;by_cases hc:i=s.length\/lW l (s.getD i default)=true
 ·rw [aQ hc];refine⟨_,_,rfl,.inl ⟨fun y hy=>?_,rfl⟩⟩;simp only [aK,aI]at hy;rcases hy with hy|rfl|hy
  ·exact .inl (dH hy)
  ·exact .inr rfl
  exact .inl (fC hy)
 rw [aN hc];have hi:i<s.length:=by
  rcases dW i s.length with k|k
  ·exact k
  exact absurd (.inl (by omega)) hc
 have hd:s.drop i=s.getD i default::s.drop (i+1):=by
  rw [dK hi,aj,ak hi];rfl
 have hx0:=hpost (s.getD i default) (by rw [hd];simp);have hxl:lW l (s.getD i default)=false:=by
  cases hq:lW l (s.getD i default)
  ·rfl
  exact absurd (.inr hq) hc
 have hsm:=getD_mem (l:=s) hi;generalize s.getD i default=x at *;obtain⟨ea,eb⟩:=Ou hx0 hxl;rw [aQ (hm x hsm ea eb)];refine⟨_,_,rfl,.inr ⟨x,hsm,ea,eb,fun y hy=>?_,rfl⟩⟩;simp only [aK,aI]at hy;rcases hy with hy|rfl|hy
 ·exact .inl (dH hy)
 ·exact .inr rfl
 exact .inl (fC hy)
structure Jn (B:Int) (x:Lk):Prop where
 ex:∃n p q:Int,(1<=n/\n<=9*B)/\(-(180*B)<=p/\p<=180*B)/\(-(180*B)<=q/\q<=180*B)/\x.w.q=some (n:Rat)/\x.dx.q=some ((p:Rat) / (n:Rat))/\x.dy.q=some ((q:Rat) / (n:Rat))
theorem Jn.mono{B C:Int}{x:Lk}(h:Jn B x)(hl:B<=C):Jn C x:=by
 obtain⟨n,p,q,h1,h2,h3,h4⟩:=h.ex;exact⟨n,p,q,by omega,by omega,by omega,h4⟩
theorem aiR{p n:Int}{N:Nat}(hp:p.natAbs<=N)(hn:1<=n)(h:n<=N):Ht ((p:Rat) / (n:Rat)) N:=by
 obtain⟨e,rfl⟩:∃e:Nat,n=(e:Int):=⟨n.toNat,by omega⟩;rw [<-Rat.divInt_eq_div];show Ht (mkRat p e) N;unfold mkRat
 rw [dif_neg (by omega)];exact Oo _ hp (by omega)
theorem acI{r:R}{n:Int}(e:r=lC n)(h:n.natAbs<1000000000 ^ 24):r.q=some (n:Rat):=by rw [e];exact JM h
theorem Jn.of{n:Int}{l:Lk}(h:SmN n l):Jn 1 l:=by
 obtain⟨w,hw,ew⟩:=h.w;obtain⟨x,hx,ex⟩:=h.dx;obtain⟨y,hy,ey⟩:=h.dy;have hne:(w:Rat)≠0:=fun e=>by have:=Rat.intCast_eq_zero_iff.1 e;omega
 have b1 : -180<=w*x/\w*x<=180:=by
  constructor
  ·have:w*(-20)<=w*x:=fK hx.1 (by omega);omega
  have:w*x<=w*20:=fK hx.2 (by omega);omega
 have b2 : -180<=w*y/\w*y<=180:=by
  constructor
  ·have:w*(-20)<=w*y:=fK hy.1 (by omega);omega
  have:w*y<=w*20:=fK hy.2 (by omega);omega
 refine⟨w,w*x,w*y,by omega,by omega,by omega,acI ew (by omega),?_,?_⟩
 ·rw [acI ex (by omega),dZ];congr 1;grind
 rw [acI ey (by omega),dZ];congr 1;grind
theorem aiS{n:Int}{l:Lk}(hn:n<=9)(h:SmN n l):ql l=true:=by
 obtain⟨w,hw,ew⟩:=h.w;obtain⟨x,hx,ex⟩:=h.dx;obtain⟨y,hy,ey⟩:=h.dy;have kw:Rv l.w (w:Rat) 9:=(Qn (by omega) (by omega)).of_eq ew;have kx:Rv l.dx (x:Rat) 20:=(Qn (by omega) (by omega)).of_eq ex;have ky:Rv l.dy (y:Rat) 20:=(Qn (by omega) (by omega)).of_eq ey;exact aro ⟨h.ab.1,h.ab.2.1,by have:=h.ab.2.2;omega⟩ kw (Rat.intCast_pos.2 (by omega)) kx.ok ky.ok
theorem anJ(n p m d:Rat)(h0:n≠0)(h:n+m≠0):(n*(p / n)+m*d) / (n+m)=(p+m*d) / (n+m):=by grind
theorem anK{B N:Int}{x l:Lk}(hB:B<=6)(hx:Jn B x)(hl:SmN N l):Pj x l=true/\Jn (B+1) (Ry x l)/\∃a,Rv (Ph x l) a (10 ^ 26):=by
 obtain⟨n,p,q,hn,hp,hq,en,ep,eq⟩:=hx.ex;obtain⟨m,hm,em⟩:=hl.w;obtain⟨d,hd,ed⟩:=hl.dx;obtain⟨c,hc,ec⟩:=hl.dy;have kw:Rv x.w (n:Rat) 63:=⟨en,anq (by omega) (by omega)⟩;have kx:Rv x.dx ((p:Rat) / (n:Rat)) 1260:=⟨ep,aiR (by omega) hn.1 (by omega)⟩;have ky:Rv x.dy ((q:Rat) / (n:Rat)) 1260:=⟨eq,aiR (by omega) hn.1 (by omega)⟩;have lw:Rv l.w (m:Rat) 9:=(Qn (by omega) (by omega)).of_eq em;have lx:Rv l.dx (d:Rat) 20:=(Qn (by omega) (by omega)).of_eq ed;have ly:Rv l.dy (c:Rat) 20:=(Qn (by omega) (by omega)).of_eq ec;have hn0:(n:Rat)≠0:=fun e=>by have:=Rat.intCast_eq_zero_iff.1 e;omega
 have h0:(n:Rat)+(m:Rat)≠0:=by
  rw [<-Rat.intCast_add];intro e;have:=Rat.intCast_eq_zero_iff.1 e;omega
 have rW:Rv (rZ x l) _ _:=kw.add lw;have rX:Rv (IY x l) _ _:=((kw.mul kx).add (lw.mul lx)).div rW h0;have rY:Rv (OV x l) _ _:=((kw.mul ky).add (lw.mul ly)).div rW h0;have sx:=kx.sub lx;have sy:=ky.sub ly;have rE:Rv (Ph x l) _ _:=((kw.mul lw).div rW h0).mul ((sx.mul sx).add (sy.mul sy));have b1 : -180<=m*d/\m*d<=180:=by
  constructor
  ·have:m*(-20)<=m*d:=fK hd.1 (by omega);omega
  have:m*d<=m*20:=fK hd.2 (by omega);omega
 have b2 : -180<=m*c/\m*c<=180:=by
  constructor
  ·have:m*(-20)<=m*c:=fK hc.1 (by omega);omega
  have:m*c<=m*20:=fK hc.2 (by omega);omega
 refine⟨by unfold Pj;rw [rW.ok,rX.ok,rY.ok,rE.ok];rfl,⟨n+m,p+m*d,q+m*c,by omega,by omega,by omega,?_,?_,?_⟩,_,rE.q,rE.h.mono (by decide)⟩
 ·show (rZ x l).q=_;rw [rW.q,Rat.intCast_add]
 ·show (IY x l).q=_;rw [rX.q,Rat.intCast_add,Rat.intCast_add,dZ,anJ _ _ _ _ hn0 h0]
 show (OV x l).q=_;rw [rY.q,Rat.intCast_add,Rat.intCast_add,dZ,anJ _ _ _ _ hn0 h0]
def Eb:Nat->Nat
 |0=>1
 |k+1=>2*(Eb k*10 ^ 26)
theorem az0:∀k,k<=7->Eb k<1000000000 ^ 24:=by decide +kernel
theorem Zc{N:Int}{L:List Lk}(hN:N<=9)(hl:L.length<=7)(hs:∀l∈L,SmN N l):∀k,k<=L.length->∃S e a,OW L k=some (S,e)/\(∀x∈S,Jn k x)/\Rv e a (Eb k)
 |0,_=>⟨[],lC 0,((0:Int):Rat),rfl,by simp,Qn (by decide) (by decide)⟩
 |
  k+1,hk=>by
  obtain⟨S,e,a,hf,hj,he⟩:=Zc hN hl hs k (by omega);have hx:=hs _ (getD_mem (l:=L) (i:=k) (by omega));have i1:=(UL hf).1;dsimp only at i1;generalize hxe:L.getD k default=x at hx;have hxo:=aiS hN hx;have hmg:=fun y (hy:y∈S)=>anK (by omega:(k:Int)<=6) (hj y hy) hx;obtain⟨t,e',hr,hc⟩:=aiQ i1 hxo fun y hy _ _=>(hmg y hy).1;obtain⟨g1,g2,g3⟩:=KX i1 hxo;rw [hr]at g1 g2 g3;have g1:adV S x=t:=g1;have g2:adE S x=e':=g2;have g3:UJ S x=true:=g3;have hE:=az0 (k+1) (by omega);refine⟨t,oC e e',?_⟩;have hb:∃b,Rv e' b (10 ^ 26):=by
   rcases hc with ⟨_,rfl⟩|⟨y,hy,_,_,_,rfl⟩
   ·exact⟨((0:Int):Rat),Qn (by decide) (by decide)⟩
   exact(hmg y hy).2.2
  obtain⟨b,hb⟩:=hb;refine⟨a+b,by simp only [OW,hf,hxe,g3,if_true,g1,g2],fun y hy=>?_,he.add hb hE⟩;have ec:((k+1:Nat):Int)=(k:Int)+1:=by omega
  rw [ec];rcases hc with ⟨h,_⟩|⟨z,hz,_,_,h,_⟩
  ·rcases h y hy with h|rfl
   ·exact(hj y h).mono (by omega)
   exact(Jn.of hx).mono (by omega)
  rcases h y hy with h|rfl
  ·exact(hj y h).mono (by omega)
  exact(hmg z hz).2.1
theorem abg{N:Int}{L:List Lk}(hN:N<=9)(hl:L.length<=7)(hs:∀l∈L,SmN N l):Gl L=true:=by
 obtain⟨S,e,a,hf,_,he⟩:=Zc hN hl hs L.length (aJ _);unfold Gl U5;rw [hf];dsimp only;rw [aQ he.ok];rfl
theorem ahg{n:Nat}{L:List Lk}(h:abe n L):Gl L=true/\Gl L.reverse=true/\Pq L=Pq L.reverse/\VO L=VO L.reverse:=by
 have h1:=h.rn;have h2:=h.len;have o1:=abg (N:=(n:Int)+1) (by omega) (by omega) h.sm;have o2:=abg (N:=(n:Int)+1) (L:=L.reverse) (by omega) (by simp;omega) fun l hl=>h.sm l (List.mem_reverse.1 hl);exact⟨o1,o2,av2 o1 o2⟩
abbrev nbA(s:List Lk)(x:Int):List Int:=nbI s x s.length
inductive Rch (s:List Lk) (v:Int):Int->Prop
 |base:Rch s v v
 |step {a b:Int}:Rch s v a->b∈nbA s a->Rch s v b
theorem arA{s:List Lk}{x b:Int}:b∈nbA s x↔∃l∈s,agL x l=some b:=by
 unfold nbA nbI;rw [bI,List.mem_filterMap]
theorem av3{s:List Lk}(h:lN s=true){x b:Int}(hb:b∈nbA s x):0<=b/\b<10/\0<=x/\x<10:=by
 obtain⟨l,hl,e⟩:=arA.1 hb;have:=qp (oL h hl);unfold agL at e;split at e
 ·cases e;omega
 split at e
 ·cases e;omega
 cases e
theorem anL{s:List Lk}(h:lN s=true){v b:Int}(hr:Rch s v b):b=v\/(0<=b/\b<10/\0<=v/\v<10):=by
 induction hr with
 |base=>exact .inl rfl
 |
  step ha hb ih =>
  have:=av3 h hb;rcases ih with rfl|ih
  ·exact .inr ⟨this.1,this.2.1,this.2.2⟩
  exact .inr ⟨this.1,this.2.1,ih.2.2⟩
theorem aiT{s:List Lk}(h:lN s=true){v:Int}{l:List Int}(hn:l.Nodup)(hl:∀a∈l,Rch s v a):l.length<=10:=by
 by_cases hv:0<=v/\v<10
 ·have:=EC (a:=l) (b:=[0,1,2,3,4,5,6,7,8,9]) hn fun a ha=>by
   have hb:0<=a/\a<10:=by
    rcases anL h (hl a ha)with rfl|k
    ·exact hv
    exact⟨k.1,k.2.1⟩
   simp only [aI,bY,or_false];omega
  simpa using this
 have:=EC (a:=l) (b:=[v]) hn fun a ha=>by
  rcases anL h (hl a ha)with rfl|k
  ·simp
  exact absurd k.2.2 hv
 simp at this;omega
def aiU(s:List Lk)(out:List Int)(x:Int):List Int:=(nbA s x).foldl IJ out
def arB(s:List Lk)(out:List Int):List Int:=out.foldl (aiU s) out
def cpS(s:List Lk)(v:Int):Nat->List Int
 |0=>[v]
 |n+1=>arB s (cpS s v n)
theorem ae2:∀(l out:List Int) (a:Int),a∈l.foldl IJ out↔a∈out\/a∈l
 | [],out,a=>by simp
 |
  x::l,out,a=>by
  rw [iE,ae2 l,JQ,aI];constructor
  ·rintro((h|h)|h)
   ·exact .inr (.inl h)
   ·exact .inl h
   exact .inr (.inr h)
  rintro(h|h|h)
  ·exact .inl (.inr h)
  ·exact .inl (.inl h)
  exact .inr h
theorem ae3:∀(l out:List Int),Asc out->Asc (l.foldl IJ out)
 | [],out,h=>h
 |x::l,out,h=>ae3 l _ (Nl h)
theorem QM{s:List Lk}:∀(l out:List Int) (a:Int),a∈l.foldl (aiU s) out↔a∈out\/∃x∈l,a∈nbA s x
 | [],out,a=>by simp
 |
  x::l,out,a=>by
  rw [iE,QM l];unfold aiU;rw [ae2,or_assoc];simp only [aI,exists_eq_or_imp]
theorem aiV{s:List Lk}:∀(l out:List Int),Asc out->Asc (l.foldl (aiU s) out)
 | [],out,h=>h
 |x::l,out,h=>aiV l _ (ae3 _ _ h)
theorem XH(s:List Lk)(v:Int):∀n,Asc (cpS s v n)
 |0=>by unfold Asc cpS;simp
 |n+1=>aiV _ _ (XH s v n)
theorem XI(s:List Lk)(v:Int):∀n,∀a∈cpS s v n,Rch s v a
 |0,a,h=>by simp [cpS]at h;subst h;exact .base
 |
  n+1,a,h=>by
  rcases(QM _ _ _).1 h with h|⟨x,hx,h⟩
  ·exact XI s v n a h
  exact .step (XI s v n x hx) h
theorem ae4(s:List Lk)(v:Int):∀n,v∈cpS s v n
 |0=>by simp [cpS]
 |n+1=>(QM _ _ _).2 (.inl (ae4 s v n))
theorem arC{s:List Lk}(h:lN s=true)(v:Int)(n:Nat):(cpS s v n).length<=10:=aiT h (Jw (XH s v n)) (XI s v n)
def Closed(s:List Lk)(l:List Int):Prop:=∀a∈l,∀b∈nbA s a,b∈l
theorem ae5{s:List Lk}(v:Int):∀n,Closed s (cpS s v n)\/n+1<=(cpS s v n).length
 |0=>.inr (by simp [cpS])
 |
  n+1=>by
  have hsub:∀a∈cpS s v n,a∈cpS s v (n+1):=fun a ha=>(QM _ _ _).2 (.inl ha);rcases Classical.em (Closed s (cpS s v n))with hc|hc
  ·left;intro a ha b hb;have ha':a∈cpS s v n:=by
    rcases(QM _ _ _).1 ha with h|⟨x,hx,h⟩
    ·exact h
    exact hc x hx a h
   exact hsub b (hc a ha' b hb)
  right;have hl:=(ae5 v n).resolve_left hc;have:∃a∈cpS s v n,∃b∈nbA s a,b∉cpS s v n:=by
   refine iC fun hne=>hc fun a ha b hb=>iC fun hnb=>hne ⟨a,ha,b,hb,hnb⟩
  obtain⟨a,ha,b,hb,hnb⟩:=this;have:=EC (a:=b::cpS s v n) (b:=cpS s v (n+1)) (eU.2 ⟨hnb,Jw (XH s v n)⟩) fun x hx=>by
   rcases aI.1 hx with rfl|hx
   ·exact(QM _ _ _).2 (.inr ⟨a,ha,hb⟩)
   exact hsub x hx
  simp only [au]at this;omega
theorem ahh{s:List Lk}(h:lN s=true)(v:Int):Closed s (cpS s v 10):=by
 rcases ae5 (s:=s) v 10 with hc|hc
 ·exact hc
 have:=arC h v 10;omega
def cpV(s:List Lk)(v:Int):List Int:=cpS s v 10
theorem arD{s:List Lk}(h:lN s=true){v a:Int}:a∈cpV s v↔Rch s v a:=by
 constructor
 ·exact XI s v 10 a
 intro hr
 induction hr with
 |base=>exact ae4 s v 10
 |step _ hb ih=>exact ahh h v _ ih _ hb
theorem akD{l:List Int}(hn:l.Nodup):Asc (Wh l):=by
 have h1:(Wh l).Pairwise fun a b=>(decide (a<=b))=true:=by
  unfold Wh;exact List.pairwise_mergeSort (fun a b c h1 h2=>by simp at *;omega) (fun a b=>by simp;omega) l
 have h2:(Wh l).Nodup:=(List.mergeSort_perm l _).nodup_iff.2 hn;unfold Asc;refine(h1.and h2).imp fun ⟨h,hne⟩=>?_;have:_<=_:=of_decide_eq_true h;omega
theorem akE{l:List Int}{a:Int}:a∈Wh l↔a∈l:=(List.mergeSort_perm l _).mem_iff
theorem arE{s:List Lk}(h:lN s=true){v:Int}{l:List Int}(hn:l.Nodup)(hv:v∈l)(hr:∀a∈l,Rch s v a)(hc:Closed s l):Wh l=cpV s v:=by
 refine Xw (akD hn) (XH s v 10) fun a=>?_;rw [akE,arD h];constructor
 ·exact hr a
 intro hra
 induction hra with
 |base=>exact hv
 |step _ hb ih=>exact hc _ ih _ hb
def addN(l:List Int)(u:Int):List Int:=if u∈l then l else l++[u]
theorem anM{l:List Int}{u a:Int}:a∈addN l u↔a∈l\/a=u:=by
 unfold addN;split
 ·rename_i h;constructor
  ·exact .inl
  rintro(k|rfl)
  ·exact k
  exact h
 simp
theorem arG{l:List Int}{u:Int}(h:l.Nodup):(addN l u).Nodup:=by
 unfold addN;split
 ·exact h
 rename_i hu;rw [bf];exact⟨h,by simp,fun a ha b hb e=>by simp at hb;subst hb;exact hu (e▸ha)⟩
theorem ae6:∀(us l:List Int) (a:Int),a∈us.foldl addN l↔a∈l\/a∈us
 | [],l,a=>by simp
 |
  u::us,l,a=>by
  rw [iE,ae6 us,anM,aI,or_assoc]
theorem aiW:∀(us l:List Int),l.Nodup->(us.foldl addN l).Nodup
 | [],l,h=>h
 |u::us,l,h=>aiW us _ (arG h)
theorem ae7:∀(us l:List Int),∃r,us.foldl addN l=l++r
 | [],l=>⟨[],by simp⟩
 |
  u::us,l=>by
  obtain⟨r,e⟩:=ae7 us (addN l u);rw [iE,e];unfold addN;split
  ·exact⟨r,rfl⟩
  exact⟨u::r,by simp⟩
structure Bfs (s:List Lk) (v:Int) (i:Nat) (l:List Int):Prop where
 nd:l.Nodup
 mem:v∈l
 rch:∀a∈l,Rch s v a
 le:i<=l.length
 cl:∀j,j<i->∀b∈nbA s (l.getD j 0),b∈l
theorem Bfs.start(s:List Lk)(v:Int):Bfs s v 0 [v]:=⟨by simp,by simp,fun a h=>by simp at h;subst h;exact .base,by simp,fun j h=>absurd h (dB _)⟩
theorem Bfs.next{s:List Lk}{v:Int}{i:Nat}{l:List Int}(h:Bfs s v i l)(hi:i<l.length):Bfs s v (i+1) ((nbA s (l.getD i 0)).foldl addN l):=by
 obtain⟨r,e⟩:=ae7 (nbA s (l.getD i 0)) l;have hm:=ae6 (nbA s (l.getD i 0)) l;have hli:l.getD i 0∈l:=by rw [aj,ak hi];exact jy hi
 refine⟨aiW _ _ h.nd,(hm v).2 (.inl h.mem),fun a ha=>?_,by rw [e,aS];omega,fun j hj b hb=>?_⟩
 ·rcases(hm a).1 ha with ha|ha
  ·exact h.rch a ha
  exact .step (h.rch _ hli) ha
 have hjl:j<l.length:=by omega
 have ej:((nbA s (l.getD i 0)).foldl addN l).getD j 0=l.getD j 0:=by
  rw [e,aj,aj,bK hjl]
 rw [ej]at hb;by_cases hji:j=i
 ·subst hji;exact(hm b).2 (.inr hb)
 exact(hm b).2 (.inl (h.cl j (by omega) b hb))
theorem Bfs.len{s:List Lk}(hk:lN s=true){v:Int}{i:Nat}{l:List Int}(h:Bfs s v i l):l.length<=10:=aiT hk h.nd h.rch
theorem Bfs.fin{s:List Lk}(hk:lN s=true){v:Int}{l:List Int}(h:Bfs s v l.length l):Wh l=cpV s v :=
 arE hk h.nd h.mem h.rch fun a ha b hb=>by
  obtain⟨j,hj⟩:=bJ.1 ha;have hjl:=(aP.1 hj).1;exact h.cl j hjl b (by rw [aj,hj];exact hb)
def Fa:Fn:=⟨1,14,[.tmp 2],(sr [oN 2 mN] (.seq (rf 1 [oK 7 1 (oV 0),oK 8 1 (cl 87 [7]),oK 9 1 (cl 179 [8]),oK 6 1 (oV 9),oK 10 1 (ex 0 6),oK 11 1 (ex 1 6),oK 12 1 (ex 2 6),oN 4 (.alloc uJ),oK 3 1 (oV 10),⟨none,none,1,.store 3 (.t 4) (.t 11),[]⟩,oK 5 1 (oV 12)]) (sr [oW 13 3,oW 2 13] .ret)))⟩
structure J9 (T:Tb):Prop where
 hT:T 171=some Fa
 VQ:Gm T
 VR:Gi T
theorem ahi{i j:Int}:∀{L:List Lk},(∀x∈L,ql x=true)->0<=Tm mW i j L/\((∃x∈L,x.a=i/\x.b=j)->0<Tm mW i j L)
 | [],_=>⟨by simp [Tm],fun ⟨x,hx,_⟩=>by cases hx⟩
 |
  y::L,h=>by
  have ih:=ahi (i:=i) (j:=j) (L:=L) fun x hx=>h x (by simp [hx]);have hy:0<mW y:=UQ (h y (by simp));simp only [Tm];by_cases e:y.a=i/\y.b=j
  ·rw [aQ e];have h1:=ih.1;have:0<mW y+Tm mW i j L:=by grind
   exact⟨by grind,fun _=>this⟩
  rw [aN e,iR];refine⟨ih.1,fun ⟨x,hx,hh⟩=>ih.2 ⟨x,?_,hh⟩⟩;rcases aI.1 hx with rfl|hx
  ·exact absurd hh e
  exact hx
theorem acJ{L:List Lk}(hok:Gl L=true)(hL:∀x∈L,ql x=true)(i j:Int):(∃x∈Pq L,x.a=i/\x.b=j)↔∃x∈L,x.a=i/\x.b=j:=by
 have hm:=(XG hok).1 mW (.inl rfl) i j;have hS:=rU.1 (Ti (l:=L)).2.2.2;have p1:=ahi (i:=i) (j:=j) hS.1;have p2:=ahi (i:=i) (j:=j) hL;constructor
 ·intro h;refine iC fun hne=>?_;have e:=Qo (f:=mW) (i:=i) (j:=j) (S:=L) fun y hy hh=>hne ⟨y,hy,hh⟩;have:=p1.2 h;rw [hm,e]at this;exact absurd this Rat.lt_irrefl
 intro h;refine iC fun hne=>?_;have e:=Qo (f:=mW) (i:=i) (j:=j) (S:=Pq L) fun y hy hh=>hne ⟨y,hy,hh⟩;have:=p2.2 h;rw [<-hm,e]at this;exact absurd this Rat.lt_irrefl
theorem av4{n:Int}{l:Lk}(h:SmN n l):(l.w.cn/\l.dx.cn/\l.dy.cn)/\l.wf:=by
 obtain⟨_,⟨a,ha,e1⟩,⟨b,hb,e2⟩,⟨c,hc,e3⟩⟩:=h;unfold Lk.wf;rw [e1,e2,e3];have h1:=wO (n:=a) (by omega);have h2:=wO (n:=b) (by omega);have h3:=wO (n:=c) (by omega);exact⟨⟨h1,h2,h3⟩,uy h1,uy h2,uy h3⟩
structure OX (n:Nat) (S:List Lk):Prop where
 L:∃L,abe n L/\S=Pq L
 ok:lN S=true
 cn:∀x∈S,x.w.cn/\x.dx.cn/\x.dy.cn
 len:S.length<=101
 ab:∀x∈S,0<=x.a/\x.a<x.b/\x.b<=(n:Int)+1
 base:∀k,k<n->∃x∈S,x.a<=(k:Int)/\x.b=(k:Int)+1
 rn:1<=n/\n<=4
theorem OX.wf{n:Nat}{S:List Lk}(h:OX n S):DR Lk.wf S:=VP h.cn h.len
theorem OX.sz{n:Nat}{S:List Lk}(h:OX n S):NS Lk.sz S<=20000:=Y9 h.cn h.len
theorem az1{n:Nat}{L:List Lk}(h:abe n L):OX n (Pq L):=by
 obtain⟨hok,_⟩:=ahg h;have hc:=Ti (l:=L);have hrn:=h.rn;have az2:∀x∈L,ql x=true:=fun x hx=>aiS (n:=(n:Int)+1) (by omega) (h.sm x hx);refine⟨⟨L,h,rfl⟩,hc.2.2.2,hc.1,hc.2.2.1,fun x hx=>?_,fun k hk=>?_,h.rn⟩
 ·obtain⟨y,hy,h1,h2⟩:=(acJ hok az2 x.a x.b).1 ⟨x,hx,rfl,rfl⟩;have:=(h.sm y hy).ab;omega
 have hl:=h.len;have hm:=getD_mem (l:=L) (i:=k) (by omega);have hb:=h.base k hk;generalize L.getD k default=y at hm hb;obtain⟨x,hx,h1,h2⟩:=(acJ hok az2 y.a y.b).2 ⟨y,hm,rfl,rfl⟩;have:=(h.sm y hm).ab;exact⟨x,hx,by omega,by omega⟩
theorem akF{T:Tb}(h:J9 T){x:List UInt8}(hx:x.length<=1048576):∃n S,OX n S/\PF T 171 [bytesV x] (nZ S):=by
 obtain⟨n,L,hL,cm⟩:=ae0 h.VQ hx;have hrn:=hL.rn;have hl:=hL.len;have cL:∀x∈L,x.w.cn/\x.dx.cn/\x.dy.cn:=fun x hx=>(av4 (hL.sm x hx)).1;have cj:=acA h.VR (l:=L) (VP cL (by omega)) (by have:=Y9 cL (by omega);omega);refine⟨n,Pq L,az1 hL,?_⟩;clear hL hrn hl cL;generalize Pq L=S at cj;generalize VO L=e at cj;generalize Gl L=b at cj;refine lV nR h.hT ?_;simp only [Fa,Lz];refine ev ?_;refine jK cm ?_;refine ev ?_;refine jK cj ?_
 (refine ev ?_;try with_reducible exact aC)
def H2(a:Rat)(P N:Nat):Prop:=a.num.natAbs<=P/\a.den<=N
theorem Ox{n:Int}{d P N:Nat}(h:d≠0)(h1:n.natAbs<=P)(h2:d<=N):H2 (Rat.normalize n d h) P N:=by
 rw [Rat.normalize_eq];refine⟨?_,dw (Nat.div_le_self _ _) h2⟩;show (n / (n.natAbs.gcd d:Nat)).natAbs<=P;refine dw ?_ h1;have hd:((n.natAbs.gcd d:Nat):Int)∣n:=Int.ofNat_dvd_left.2 (Nat.gcd_dvd_left _ _);rw [Int.natAbs_ediv_of_dvd hd];exact Nat.div_le_self _ _
theorem av5{a b:Rat}{P Q M N:Nat}(ha:H2 a P N)(hb:H2 b Q M):H2 (a*b) (P*Q) (N*M):=by
 rw [Rat.mul_def];refine Ox _ ?_ (iO ha.2 hb.2);rw [iW];exact iO ha.1 hb.1
theorem anN{a b:Rat}{P Q M N:Nat}(ha:H2 a P N)(hb:H2 b Q M):H2 (a+b) (P*M+Q*N) (N*M):=by
 rw [Rat.add_def];have h1:(a.num*(b.den:Int)).natAbs<=P*M:=by
  rw [iW,dF];exact iO ha.1 hb.2
 have h2:(b.num*(a.den:Int)).natAbs<=Q*N:=by
  rw [iW,dF];exact iO hb.1 ha.2
 refine Ox _ ?_ (iO ha.2 hb.2);have:=Int.natAbs_add_le (a.num*(b.den:Int)) (b.num*(a.den:Int));omega
theorem anO{a:Rat}{P N:Nat}(h:H2 a P N):H2 (-a) P N:=by
 unfold H2;rw [Rat.neg_num,Rat.neg_den,Int.natAbs_neg];exact h
theorem av6{a b:Rat}{P Q M N:Nat}(ha:H2 a P N)(hb:H2 b Q M):H2 (a-b) (P*M+Q*N) (N*M):=by
 rw [Rat.sub_eq_add_neg];exact anN ha (anO hb)
theorem arI{p n:Int}{P N:Nat}(hp:p.natAbs<=P)(hn:1<=n)(h:n<=N):H2 ((p:Rat) / (n:Rat)) P N:=by
 obtain⟨e,rfl⟩:∃e:Nat,n=(e:Int):=⟨n.toNat,by omega⟩;rw [<-Rat.divInt_eq_div];show H2 (mkRat p e) P N;unfold mkRat
 rw [dif_neg (by omega)];exact Ox _ hp (by omega)
theorem XJ{a:Rat}{P N:Nat}(h:H2 a P N)(hP:P<1000000000 ^ 24)(hN:N<1000000000 ^ 24):fits a=true:=by
 unfold fits;rw [aT (iG h.1 hP),aT (iG h.2 hN)];rfl
theorem H2.mono{a:Rat}{P N P' N':Nat}(h:H2 a P N)(hP:P<=P')(hN:N<=N'):H2 a P' N':=⟨dw h.1 hP,dw h.2 hN⟩
def Ft(P N:Nat):Bool:=decide (P<1000000000 ^ 24)&&decide (N<1000000000 ^ 24)
theorem acK{P N:Nat}(h:Ft P N=true):P<1000000000 ^ 24/\N<1000000000 ^ 24:=by
 unfold Ft at h;simp only [aH,aZ]at h;exact h
structure Rw (r:R) (a:Rat) (P N:Nat):Prop where
 q:r.q=some a
 h:H2 a P N
theorem Rw.add{r s:R}{a b:Rat}{P Q M N:Nat}(h1:Rw r a P N)(h2:Rw s b Q M)(hN:Ft (P*M+Q*N) (N*M)=true:=by decide +kernel):Rw (oC r s) (a+b) (P*M+Q*N) (N*M):=by
 have h:=anN h1.h h2.h;refine⟨?_,h⟩;rw [SB,h1.q,h2.q];exact zn (XJ h (acK hN).1 (acK hN).2)
theorem Rw.sub{r s:R}{a b:Rat}{P Q M N:Nat}(h1:Rw r a P N)(h2:Rw s b Q M)(hN:Ft (P*M+Q*N) (N*M)=true:=by decide +kernel):Rw (wL r s) (a-b) (P*M+Q*N) (N*M):=by
 have h:=av6 h1.h h2.h;refine⟨?_,h⟩;rw [YL,h1.q,h2.q];show norm (a + -b)=_;rw [<-Rat.sub_eq_add_neg];exact zn (XJ h (acK hN).1 (acK hN).2)
theorem Rw.mul{r s:R}{a b:Rat}{P Q M N:Nat}(h1:Rw r a P N)(h2:Rw s b Q M)(hN:Ft (P*Q) (N*M)=true:=by decide +kernel):Rw (mulR r s) (a*b) (P*Q) (N*M):=by
 have h:=av5 h1.h h2.h;refine⟨?_,h⟩;rw [YM,h1.q,h2.q];exact zn (XJ h (acK hN).1 (acK hN).2)
theorem Rw.neg{r:R}{a:Rat}{P N:Nat}(h:Rw r a P N)(hN:Ft P N=true:=by decide +kernel):Rw (negR r) (-a) P N:=by
 refine⟨?_,anO h.h⟩;rw [agA,h.q];rfl
theorem Rw.ok{r:R}{a:Rat}{P N:Nat}(h:Rw r a P N):r.ok=true:=by
 rw [xZ,h.q];simp
theorem Rw.v{r:R}{a:Rat}{P N:Nat}(h:Rw r a P N):r.v=a:=R.Jp h.q
theorem Rw.mono{r:R}{a:Rat}{P N P' N':Nat}(h:Rw r a P N)(hP:P<=P':=by decide +kernel)(hN:N<=N':=by decide +kernel):Rw r a P' N':=⟨h.q,h.h.mono hP hN⟩
theorem Rw.rv{r:R}{a:Rat}{P N M:Nat}(h:Rw r a P N)(hP:P<=M:=by decide +kernel)(hN:N<=M:=by decide +kernel):Rv r a M:=⟨h.q,dw h.h.1 hP,dw h.h.2 hN⟩
theorem Rw.val{r:R}{a b:Rat}{P N:Nat}(h:Rw r a P N)(e:a=b):Rw r b P N:=e▸h
theorem Rw.re{r:R}{a:Rat}{P N P' N':Nat}(h:Rw r a P N)(k:H2 a P' N'):Rw r a P' N':=⟨h.q,k⟩
theorem Rw.eq{r s:R}{a b:Rat}{P Q M N:Nat}(h1:Rw r a P N)(h2:Rw s b Q M)(hr:r.cn)(hs:s.cn)(e:a=b):r=s:=by
 rw [<-hr,<-hs,h1.q,h2.q,e]
def hb(P N:Nat):Nat->Nat×Nat
 |0=>(0,1)
 |k+1=>((hb P N k).1*N+P*(hb P N k).2,(hb P N k).2*N)
def enV(l:Lk)(p q:Pt):Rat:=l.w.v*((q.x.v-p.x.v-l.dx.v)*(q.x.v-p.x.v-l.dx.v)+(q.y.v-p.y.v-l.dy.v)*(q.y.v-p.y.v-l.dy.v))
theorem Zd(f:Lk->Rat){l:List Lk}{k:Nat}(h:k<l.length):tot f (l.take (k+1))=tot f (l.take k)+f (l.getD k default):=by
 rw [take_snoc h,Dt];show _+(f _+0)=_;rw [dY]
def Ze(l:List Lk)(a b:Int):Lk:=if lN l=true then(aq3 l a b).getD Lk0 else Lk0
def RD(v:Int)(l:Lk):Option Pa:=if l.a=v then some ⟨l.b,l.w,negR l.dx,negR l.dy⟩else if l.b=v then some ⟨l.a,l.w,l.dx,l.dy⟩else none
def MH(S:List Lk)(v:Int)(k:Nat):List Pa:=(S.take k).filterMap (RD v)
def pO(S:List Lk)(v:Int):List Pa:=MH S v S.length
theorem av7(S:List Lk)(v:Int):MH S v 0=[]:=by simp [MH]
theorem av8(S:List Lk)(v:Int){i:Nat}(h:i<S.length):MH S v (i+1)=MH S v i++(match RD v (S.getD i default)with|some n=>[n]|none=>[]):=by
 unfold MH;rw [take_snoc h,List.filterMap_append,List.filterMap_cons]
 cases RD v (S.getD i default)<;>rfl
theorem anP(S:List Lk)(v:Int)(k:Nat):(MH S v k).length<=k:=by
 unfold MH;exact dw (List.length_filterMap_le _ _) (by simp;omega)
def rQ(A:List Pa):R:=Ob A A.length
def Ky(t:R)(a:Pa):Pa:=⟨a.node,vS a.share t,a.dx,a.dy⟩
def pI(v:Int)(A:List Pa):Cd:=⟨v,rQ A,A.map (Ky (rQ A))⟩
def MI(t:R)(a b:Pa):Lk:=⟨a.node,b.node,vS (mulR a.share b.share) t,wL a.dx b.dx,wL a.dy b.dy⟩
def xH(A:List Pa)(i j:Nat):List Lk:=((A.drop (i+1)).take j).map (MI (rQ A) (A.getD i default))
def uo(A:List Pa):Nat->List Lk
 |0=>[]
 |i+1=>uo A i++xH A i (A.length-(i+1))
def Oy(A:List Pa):List Lk:=uo A A.length
theorem ae8(A:List Pa):(rQ A).cn:=Uw _ _
theorem aiX(t:R)(a b:Pa):(MI t a b).w.cn/\(MI t a b).dx.cn/\(MI t a b).dy.cn:=⟨N9 _ _,KQ _ _,KQ _ _⟩
theorem XK(A:List Pa)(i:Nat):xH A i 0=[]:=by simp [xH]
theorem acL(A:List Pa){i j:Nat}(h:i+1+j<A.length):xH A i (j+1)=xH A i j++[MI (rQ A) (A.getD i default) (A.getD (i+1+j) default)]:=by
 unfold xH;rw [iY,bU]
 congr 1
 rw [dV,ak (by omega),aj (i:=i+1+j),ak (by omega)];rfl
theorem abh(A:List Pa)(i j:Nat):(xH A i j).length<=j:=by unfold xH;simp;omega
theorem Tq(A:List Pa):∀i,(uo A i).length<=i*A.length
 |0=>eH _
 |
  i+1=>by
  have h1:=Tq A i;have h2:=abh A i (A.length-(i+1));show (uo A i++xH A i (A.length-(i+1))).length<=(i+1)*A.length;rw [aS,fA];omega
theorem abj{A:List Pa}{i j:Nat}{x:Lk}(h:x∈xH A i j):∃k,i<k/\k<A.length/\x=MI (rQ A) (A.getD i default) (A.getD k default):=by
 unfold xH at h;obtain⟨b,hb,rfl⟩:=bF.1 h;have hb:=dH hb;obtain⟨q,hq⟩:=bJ.1 hb;rw [dV]at hq;have hl:=(aP.1 hq).1;exact⟨i+1+q,by omega,hl,by rw [aj (i:=i+1+q),hq];rfl⟩
theorem Ko{A:List Pa}{x:Lk}:∀{i:Nat},x∈uo A i->∃p k,p<i/\p<k/\k<A.length/\x=MI (rQ A) (A.getD p default) (A.getD k default)
 |0,h=>by cases h
 |
  i+1,h=>by
  rcases aK.1 h with h|h
  ·obtain⟨p,k,h1,h2⟩:=Ko h;exact⟨p,k,by omega,h2⟩
  obtain⟨k,h1,h2,h3⟩:=abj h;exact⟨i,k,by omega,h1,h2,h3⟩
theorem arJ{A:List Pa}:∀x∈Oy A,x.w.cn/\x.dx.cn/\x.dy.cn:=fun x hx=>by
 obtain⟨p,k,_,_,_,rfl⟩:=Ko hx;exact aiX _ _ _
def akG(A:List Pa):Prop:=∀i j,i<j->j<A.length->(A.getD i default).node<(A.getD j default).node
theorem aiY{A:List Pa}(h:∀i,i+1<A.length->(A.getD i default).node<(A.getD (i+1) default).node):akG A
 |i,0,hij,_=>absurd hij (dB _)
 |
  i,j+1,hij,hj=>by
  by_cases e:i=j
  ·subst e;exact h i hj
  exact Int.lt_trans (aiY h i j (by omega) (by omega)) (h j hj)
theorem ae9{A:List Pa}(h:akG A){i:Nat}:∀j,i+1+j<=A.length->(xH A i j).Pairwise fun k l=>lW k l=true
 |0,_=>by rw [XK];exact .nil
 |
  j+1,hj=>by
  rw [acL A (by omega),jG];refine⟨ae9 h j (by omega),by simp,fun x hx y hy=>?_⟩;rw [aW.1 hy];unfold xH at hx;obtain⟨b,hb,rfl⟩:=bF.1 hx;obtain⟨q,hq⟩:=bJ.1 hb;rw [List.getElem?_take]at hq;split at hq
  ·rw [dV]at hq;have e:b=A.getD (i+1+q) default:=by rw [aj,hq];rfl
   rw [xB];refine .inr ⟨rfl,?_⟩;rw [e];exact h _ _ (by omega) (by omega)
  cases hq
theorem abk{A:List Pa}(h:akG A):∀i,i<=A.length->(uo A i).Pairwise fun k l=>lW k l=true
 |0,_=>.nil
 |
  i+1,hi=>by
  show (uo A i++xH A i (A.length-(i+1))).Pairwise _;rw [jG];refine⟨abk h i (by omega),ae9 h _ (by omega),fun x hx y hy=>?_⟩;obtain⟨p,k,h1,_,_,rfl⟩:=Ko hx;obtain⟨q,_,_,rfl⟩:=abj hy;rw [xB];exact .inl (h _ _ h1 (by omega))
theorem Fb{v:Int}{A:List Pa}{i:Nat}(h:i<A.length):(pI v A).ps.getD i default=Ky (rQ A) (A.getD i default):=by
 show (A.map _).getD i default=_;rw [aj,bP,ak h,aj,ak h];rfl
theorem av9{v:Int}{A:List Pa}(h:xA (pI v A)=true):akG A:=by
 have hl:(pI v A).ps.length=A.length:=aV ..;unfold xA at h;simp only [aH,aZ]at h;refine aiY fun i hi=>?_;have:=h.1.1.1.1 (i+1) (by rw [hl];exact hi);unfold O9 at this;rw [Fb hi,Nat.add_sub_cancel,Fb (by omega)]at this;simp only [aH,dX,aZ]at this;rcases this.1.1.1.2 with e|e
 ·omega
 exact e
def XL(S:List Lk)(v:Int):Bool:=lN S&&inB v 1 9&&xA (pI v (pO S v))&&(Oy (pO S v)).all ql
def elC(S:List Lk)(v:Int):Cd:=if XL S v=true then pI v (pO S v)else⟨0,R0,[]⟩
def elM(S:List Lk)(v:Int):List Lk:=if XL S v=true then Oy (pO S v)else []
theorem anQ{S:List Lk}{v:Int}(h:XL S v=false):elC S v=⟨0,R0,[]⟩/\elM S v=[]:=by
 unfold elC elM;rw [h];exact⟨rfl,rfl⟩
theorem afa{S:List Lk}{v:Int}(h:XL S v=true):elC S v=pI v (pO S v)/\elM S v=Oy (pO S v):=by
 unfold elC elM;rw [h];exact⟨rfl,rfl⟩
theorem anR{S:List Lk}(h:lN S=true){v:Int}{a:Pa}{k:Nat}(ha:a∈MH S v k):a.share.ok=true/\a.dx.cn/\a.dy.cn/\0<=a.node/\a.node<=9:=by
 unfold MH at ha;obtain⟨l,hl,e⟩:=List.mem_filterMap.1 ha;have hk:=oL h (dH hl);have h1:=Bo hk;have h2:=qp hk;unfold RD at e;split at e
 ·cases e;exact⟨h1.1,Xv _,Xv _,by dsimp only;omega,by dsimp only;omega⟩
 split at e
 ·cases e;exact⟨h1.1,CG h1.2.1,CG h1.2.2.1,by dsimp only;omega,by dsimp only;omega⟩
 cases e
def Zf(S:List Lk)(v n:Int):Pa:=if (Ze S n v).a=v then⟨n,(Ze S n v).w,negR (Ze S n v).dx,negR (Ze S n v).dy⟩else⟨n,(Ze S n v).w,(Ze S n v).dx,(Ze S n v).dy⟩
theorem arK{S:List Lk}(h:lN S=true){x y:Lk}(hx:x∈S)(hy:y∈S)(ha:x.a=y.a)(hb:x.b=y.b):x=y:=by
 have hp:=(rU.1 h).2;rw [fU]at hp;obtain⟨i,hi⟩:=bJ.1 hx;obtain⟨j,hj⟩:=bJ.1 hy;obtain⟨hil,hie⟩:=aP.1 hi;obtain⟨hjl,hje⟩:=aP.1 hj;rcases Nat.lt_trichotomy i j with k|k|k
 ·have:=hp i j hil hjl k;rw [hie,hje,xB]at this;omega
 ·subst k;rw [<-hie,<-hje]
 have:=hp j i hjl hil k;rw [hie,hje,xB]at this;omega
theorem aiZ{S:List Lk}(h:lN S=true){x:Lk}(hx:x∈S){a b:Int}(hp:lkP a b x=true):aq3 S a b=some x:=by
 cases hf:aq3 S a b with
 |
  none =>
  have:=List.find?_eq_none.1 hf x hx;exact absurd hp this
 |
  some y =>
  have hy:=amQ hf;have hq:lkP a b y=true:=List.find?_some hf;have n1:=qp (oL h hx);have n2:=qp (oL h hy);unfold lkP at hp hq;simp only [dX,aH,aZ]at hp hq;rw [arK h hy hx (by omega) (by omega)]
theorem afb{α β:Type}{f g:α->Option β}:∀{l:List α},(∀x∈l,f x=g x)->l.filterMap f=l.filterMap g
 | [],_=>rfl
 |x::l,h=>by rw [List.filterMap_cons,List.filterMap_cons,h x (by simp),afb fun y hy=>h y (by simp [hy])]
theorem ai0{S:List Lk}(h:lN S=true)(v:Int):((nbI S v S.length).map (Zf S v))=pO S v:=by
 unfold nbI pO MH;rw [bI,List.map_filterMap];refine afb fun l hl=>?_;have n1:=qp (oL h hl);unfold agL RD;by_cases e1:l.a=v
 ·have hf:Ze S l.b v=l:=by
   unfold Ze;rw [aQ h,aiZ h hl (by unfold lkP;simp only [dX,aH,aZ];exact .inr ⟨e1,trivial⟩)];rfl
  rw [aQ e1,aQ e1];show some (Zf S v l.b)=_;unfold Zf;rw [hf,aQ e1]
 rw [aN e1,aN e1];by_cases e2:l.b=v
 ·have hf:Ze S l.a v=l:=by
   unfold Ze;rw [aQ h,aiZ h hl (by unfold lkP;simp only [dX,aH,aZ];exact .inl ⟨trivial,e2⟩)];rfl
  rw [aQ e2,aQ e2];show some (Zf S v l.a)=_;unfold Zf;rw [hf,aN e1]
 rw [aN e2,aN e2];rfl
def LnA(s:Store)(v:V)(L:List Lk):Prop:=(L=[]/\v=.kC)\/∃p,v=.lQ p 0 L.length/\jQ s p=some ⟨11,L.map Lk.cells⟩
theorem LnA.fr{s s2:Store}{v:V}{L:List Lk}(h:LnA s v L)(hf:∀p,p<s.length->jQ s2 p=jQ s p):LnA s2 v L :=
 h.imp id fun ⟨q,e,hq⟩=>⟨q,e,(hf q (lH hq)).trans hq⟩
theorem rrE{m:List (List R)}{c:Int}(h0:m.length=0)(hc:0<=c):rrM m c=[]/\rrB m c=true:=by
 have em:m=[]:=aY h0;subst em;have hC:rrC [] c=true:=by
  unfold rrC;rw [aT (by simpa using hc),dJ];rfl
 obtain⟨e1,e2⟩:=Qk hC (M:=yu []) rfl;exact⟨e1,e2⟩
theorem XM{ops:List qJ}{L:Nat}{acc:List Acc}(l:List Nat)(l0:List Acc)(hn:l.Nodup)(hl:∀o∈l,o<L)(he:acc=l0.map (WZ (gN l L)))(h:sF l.length ops l0):sF L ops acc:=aiz (anb hl hn) (aiA hl) he h
theorem OY{T:Tb}(h:DJ T){m:List (List R)}{b:List R}(wm:DR (DR R.wf) m)(wb:DR R.wf b):PO T 231 [sG m,pK b] (.oU [pK (Xb m b),.bool (Z7 m b)]):=by
 have lm:=wm.1;have lb:=wb.1;have c1:=WH h.IK (m:=m) (cols:=(m.length:Nat)) wm (by omega)
 cases hc:ssC m b
 ·obtain⟨e1,e2⟩:=azT hc;rw [e1,e2];unfold ssC at hc;generalize CJ m (m.length:Nat)=x at c1 hc;have hx:x=false\/x=true:=by cases x<;>simp
  refine mM nR h.hT ?_;simp only [sQ,Lz,St.enter,au,aG,aX];refine ew ?_;refine jK c1 ?_;rcases hx with hx|hx
  ·refine Ae @hx ?_;exact(qF (sz:=3)).Ba
  have hlt:(((b.length:Nat):Int)=(m.length:Nat))=False:=iD fun e=>by
   rw [hx,cZ,decide_eq_false_iff_not]at hc;omega
  refine AZ @hx @hlt ?_;exact(qF (sz:=3)).Ba
 obtain⟨h10,hbl,hmo,hml⟩:=avO hc;rw [hmo]at c1;have hlt:(((b.length:Nat):Int)=(m.length:Nat))=True:=iy (by omega);have wW:=avP wm wb hml hbl h10;have hWl:(ZH m b).length=m.length:=QJ _ _;have PR:=Y2 h.UE (m:=ZH m b) (c:=(m.length:Nat)+1) wW (fun hc=>avN (by omega) hc) (by omega);clear lm lb wm wb;rcases iw m.length with h0|h0
 ·obtain⟨e1,e2⟩:=rrE (m:=ZH m b) (c:=(m.length:Nat)+1) (by omega) (by omega);obtain⟨e3,e4⟩:=aiB hc e2;rw [e3,e4,e1];rw [e1,e2]at PR;have PR0:=avQ (as':=[.kC,iv ((m.length:Nat)+1)]) PR (by
   rw [show ZH m b=[]from aY (by omega)];simp only [wJ,nG];exact⟨_,_,rfl,.inl ⟨rfl,.inl rfl⟩,_,_,rfl,rfl,rfl⟩)
  refine mM (fun x d=>x == 243) h.hT ?_;simp only [sQ,Lz,St.enter,au,aG,aX];refine ew ?_;refine jK c1 ?_;refine Ae @hlt ?_;refine kZ (fun x d=>x == 243) (α:=Nat) (fun i=>⟨mJ [.any,.any,.any,.any,.any,.any,iv (m.length:Nat),.kC,.any,.any,.any,.any,.any,.any,.any,.any,.any,.any,.any,.any,.any,.any,.any,.any,.any,.any,.any,.any,sG m,iv (m.length:Nat),iv (i:Nat)],[none],0,0,[],[]⟩) (fun i=>i=0) (fun i=>i) rfl 0 ?_ ?_ ?_
  ·rfl
  ·(refine kS ?_;exact uw)
  rintro i hi;have hcc:¬((i:Int)<(m.length:Nat)):=by omega
  refine Ae @hcc ?_;refine nH PR0 (by (refine ew ?_;try with_reducible exact aC)) ?_;intro r s1 o1 G;obtain⟨v,rfl,G1⟩:=G.Ba;have hv:=G1.ow;rcases hv.Yw with ⟨_,rfl,_⟩|⟨p,R0,os,rfl,hp,_⟩
  ·refine ew ?_;refine kZ (fun x d=>x == 243) (α:=Nat) (fun k=>⟨mJ [.any,.any,.any,.any,.any,.any,.any,.any,.any,.any,.any,.any,.kC,.any,.any,.any,.any,.any,.any,.any,.any,.any,.any,.any,.any,.any,.any,.any,.any,.any,.any,.any,.any,.any,.any,.any,.any,.any,.any,.any,.any,.any,.any,.any,.any,.any,.any,.any,.any,.any,.any,.any,.any,.any,.any,.any,.any,.any,.sl 1 [],iv 0,iv (k:Nat)],s1++[none],0,0,[],[]⟩) (fun k=>k=0) (fun k=>k) rfl 0 ?_ ?_ ?_
   ·rfl
   ·(refine kS ?_;exact uw)
   rintro k hk;have hcc:¬((k:Int)<0):=by omega
   refine Ae @hcc ?_;exact(qF (sz:=3)).Ba
  refine Ae @hp ?_;refine kZ (fun x d=>x == 243) (α:=Nat) (fun k=>⟨mJ [.any,.any,.any,.any,.any,.any,.any,.any,.any,.any,.any,.any,.kC,.any,.any,.any,.any,.any,.any,.any,.any,.any,.any,.any,.any,.any,.any,.any,.any,.any,.any,.any,.any,.any,.any,.any,.any,.any,.any,.any,.any,.any,.any,.any,.any,.any,.any,.any,.any,.any,.any,.any,.any,.any,.any,.any,.any,.any,.lQ p 0 0,iv 0,iv (k:Nat)],s1++[none],0,0,[],[]⟩) (fun k=>k=0) (fun k=>k) rfl 0 ?_ ?_ ?_
  ·rfl
  ·(refine kS ?_;exact uw)
  rintro k hk;have hcc:¬((k:Int)<0):=by omega
  refine Ae @hcc ?_;exact(qF (sz:=3)).Ba
 refine mM (fun x d=>x == 243) h.hT ?_;simp only [sQ,Lz,St.enter,au,aG,aX];refine ew ?_;refine jK c1 ?_;refine Ae @hlt ?_;refine kZ (fun x d=>x == 243) (α:=Nat×Store×V×Nat×(Nat->Nat)) (fun q=>⟨mJ [.any,pK b,.any,.any,.any,.any,iv (m.length:Nat),q.2.2.1,.any,.any,.any,.any,.any,.any,.any,.any,.any,.any,.any,.any,.any,.any,.any,.any,.any,.any,.any,.any,sG m,iv (m.length:Nat),iv (q.1:Nat)],q.2.1,0,0,[],[]⟩) (fun q=>q.1<=m.length/\((q.1=0/\q.2.2.1=.kC)\/(0<q.1/\q.2.2.1=.lQ q.2.2.2.1 0 q.1/\NC q.2.1 q.2.2.2.1 q.1 (m.length+1) q.2.2.2.2 (fun x=>(ssW m b x).map R.cells) (ssW m b)))) (fun q=>m.length-q.1) rfl (0,[none],.kC,0,fun _=>0) ?_ ?_ ?_
 ·exact⟨by omega,.inl ⟨rfl,rfl⟩⟩
 ·(refine kS ?_;exact uw)
 rintro⟨i,s,v7,qo,rp⟩ ⟨hi,hM⟩;dsimp only at hi hM;by_cases hcc:(i:Int)<(m.length:Nat)
 ·have hil:i<m.length:=by omega
  have hib:(i:Int)<(b.length:Nat):=by omega
  have hai:(m.map fun r=>[pK r]).getD i []=[pK (m.getD i default)]:=mg (f:=fun r:List R=>[pK r]) hil;have hbi:(b.map R.cells).getD i []=(b.getD i default).cells:=mg (by omega);have hri:=hml i hil;have emf:(ssW m b i).map R.cells=(m.getD i default).map R.cells++[(b.getD i default).cells]:=by unfold ssW;rw [bU];rfl
  generalize m.getD i default=r at *;generalize b.getD i default=y at *;have hne:(r.map R.cells=[])=False:=iD fun e=>by
   have:=congrArg List.length e;simp at this;subst this;simp at hri;omega
  rcases hM with ⟨rfl,rfl⟩|⟨hi0,rfl,hM⟩
  ·refine Dy @hcc (ah hai hbi) @hne ?_;refine⟨⟨by omega,by omega⟩,⟨by omega,by omega⟩,by decide,?_,?_⟩
   ·have hn0:0<=List.length s:=eH _;generalize List.length s=z at hn0 ⊢
    revert z
    refine y7 _ _ 0 (fun n hn=>?_) (fun n hn=>?_) ?_
    ·simp only [sh];split<;>omega
    ·simp [Yy,sh];try omega
    unfold sF;decide +kernel
   refine⟨(0+1,?st,.lQ (s.length+5) 0 1,s.length+5,fun x=>if x=0 then s.length+3 else rp x),?c1,⟨?c2,.inr ⟨by omega,rfl,?c4⟩⟩,?c3⟩
   case c3=>dsimp only;(refine kS ?_;exact uw)
   case c1=>dsimp only;omega
   case c2=>dsimp only;omega
   case c4 =>
    dsimp only;refine QI (s:=s) (q:=0) (.inl rfl) ?_ ?_ (by omega) (fun o ho _=>?_)
    ·rw [kY (by simp)];rw [hri];rfl
    ·rw [emf];exact DV
    exact DV
  have hq:=hM.out;have hql:=hM.lt.1;have hoc:=Nr i (m.length+1) rp;refine Ku @hcc (ah hai hbi) @hne @hq @hoc ?_;refine⟨⟨by omega,by omega⟩,⟨by omega,by omega⟩,⟨by omega,by omega⟩,?_,?_⟩
  ·refine XM [qo,s.length+1,s.length+2,s.length+3,s.length+4,s.length+5] [⟨12,[],[],false⟩,⟨11,[0,4],[0,5],false⟩,⟨10,[],[4],false⟩,⟨9,[1,2],[1,3],false⟩,⟨8,[],[2],false⟩,⟨7,[],[],false⟩,⟨6,[],[],false⟩,⟨5,[],[],false⟩,⟨4,[],[],false⟩,⟨3,[],[1],false⟩,⟨2,[],[],false⟩,⟨1,[],[],false⟩,⟨0,[],[],false⟩] ?_ ?_ rfl ?_
   ·simp;omega
   ·simp;omega
   show sF 6 _ _;unfold sF;decide +kernel
  refine⟨(i+1,?st2,.lQ (s.length+5) 0 (i+1),s.length+5,fun x=>if x=i then s.length+3 else rp x),?c1,⟨?c2,.inr ⟨by omega,rfl,?c4⟩⟩,?c3⟩
  case c3=>dsimp only;(refine kS ?_;exact uw)
  case c1=>dsimp only;omega
  case c2=>dsimp only;omega
  case c4 =>
   dsimp only;refine QI (s:=s) (q:=qo) (.inr hM) ?_ ?_ (by omega) (fun o ho hne=>?_)
   ·rw [kY (by simp)];rw [hri]
   ·rw [emf];have:s.length+3≠qo:=by omega
    exact DV
   exact DV
 have hie:i=m.length:=by omega
 subst hie;rcases hM with ⟨h1,_⟩|⟨_,rfl,hM⟩
 ·omega
 have Rf:=hM.res fun i hi=>by unfold ssW;rw [aS,hml i hi];rfl
 have Rf:resolve s FD (.lQ qo 0 m.length)=some (sG (ZH m b)):=Rf;refine AZ @hcc @Rf ?_;refine nH PR (by (refine Ae @Rf ?_;try with_reducible exact aC)) ?_;intro r s1 o1 G
 cases hb:rrB (ZH m b) ((m.length:Nat)+1)
 ·obtain⟨e1,e2⟩:=azU hb;rw [e1,e2];rw [hb]at G;obtain⟨v,rfl,G1⟩:=G.Ba;refine ew ?_;exact(qF (sz:=3)).Ba
 obtain⟨e1,e2⟩:=aiB hc hb;rw [e1,e2];rw [hb]at G;obtain⟨v,rfl,G1⟩:=G.Ba;obtain⟨M,eM,hOM,_⟩:=anh hb;rw [hWl]at eM hOM;have hlM:∀i,i<m.length->(M i).length=m.length+1:=fun i hi=>by have:=(hOM i hi).1;omega
 have hRl:(rrM (ZH m b) ((m.length:Nat)+1)).length=m.length:=by rw [eM];simp
 obtain⟨q2,rp2,A,f,rfl,hM2,hO,hfo⟩:=ark (c:=m.length+1) (by omega) G1.ow G1.nd (fun r hr=>by
  rw [eM]at hr;obtain⟨i,hi,rfl⟩:=bF.1 hr;exact hlM i (fF.1 hi)) (by omega)
 rw [hRl]at hM2 hO hfo ⊢;have hmf:∀i,i<m.length->yu (rrM (ZH m b) ((m.length:Nat)+1)) i=M i:=fun i hi=>by rw [eM];exact Y4 hi
 have hM2:=hM2.ext hmf;have hO:=hO.ext (M2:=M) (S2:=fun i=>i<m.length) fun i hi=>⟨hi,hmf i hi⟩;have hq2:=hM2.out;have avM:=hM2.lt.1;rw [eM,fQ];clear hM Rf eM hmf PR;refine Ae @hq2 ?_;refine kZ (fun x d=>x == 243) (α:=Nat×Store×V×Nat) (fun q=>⟨mJ [.any,.any,.any,.any,.any,.any,iv (m.length:Nat),.any,.any,.any,.any,.any,q.2.2.1,.any,.any,.any,.any,.any,.any,.any,.any,.any,.any,.any,.any,.any,.any,.any,.any,.any,.any,.any,.any,.any,.any,.any,.any,.any,.any,.any,.any,.any,.any,.any,.any,.any,.any,.any,.any,.any,.any,.any,.any,.any,.any,.any,.any,.any,.lQ q2 0 m.length,iv (m.length:Nat),iv (q.1:Nat)],q.2.1,0,0,[],[]⟩) (fun q=>q.1<=m.length/\((q.1=0/\q.2.2.1=.kC)\/(0<q.1/\q.2.2.1=.lQ q.2.2.2 0 q.1/\jQ q.2.1 q.2.2.2=some ⟨3,(List.range q.1).map fun x=>(A x).getD m.length []⟩/\s1.length<=q.2.2.2))/\(∀o,o<s1.length->jQ q.2.1 o=jQ s1 o)/\s1.length<=q.2.1.length) (fun q=>m.length-q.1) rfl (0,s1++[none],.kC,0) ?_ ?_ ?_
 ·exact⟨eH _,.inl ⟨rfl,rfl⟩,fun o ho=>kV ho,by simp⟩
 ·(refine kS ?_;exact uw)
 rintro⟨i,u,v12,p⟩ ⟨hi,hL,huo,hul⟩;dsimp only at hi hL huo hul;by_cases hci:(i:Int)<(m.length:Nat)
 ·have hil:i<m.length:=by omega
  obtain⟨a1,a2,gA,ka1,ka2⟩:=hM2.cell hlM hil (j:=m.length) (by omega);have gA2:(A i)[m.length]? = some ((A i).getD m.length []):=anf (by rw [(hM2.cel i hil).1,hlM i hil];omega);have eA:(A i).getD m.length []=[.bool (L6 M i m.length).neg,a1,a2]:=by
   rw [gA]at gA2;exact(Option.some.inj gA2).symm
  have hqu:=(huo q2 avM).trans hq2;have hru:=(huo _ (hM2.lt.2 i hil)).trans (hM2.row i hil);have gi:=KT (c:=m.length+1) (rp:=rp2) hil;have lx:=ah ka1.leaf ka2.leaf;have es:((List.range (i+1)).map fun x=>(A x).getD m.length [])=((List.range i).map fun x=>(A x).getD m.length [])++[[.bool (L6 M i m.length).neg,a1,a2]]:=by
   rw [iV,bU,bT,iQ,eA]
  generalize L6 M i m.length=x at *;have hnn:(m.length:Int)<(m.length:Nat)+1:=by omega
  rcases hL with ⟨rfl,rfl⟩|⟨hi0,rfl,hp,hpl⟩
  ·refine D6 @hci (ah hqu hru) (ah gi gA) @lx ?_;refine⟨by omega,?_⟩;refine⟨(0+1,?st3,.lQ (u.length+1) 0 1,u.length+1),?c1,⟨?c2,.inr ⟨by omega,rfl,?c4,?c5⟩,?c6,?c7⟩,?c3⟩
   case c3=>dsimp only;(refine kS ?_;exact uw)
   case c1=>dsimp only;omega
   case c2=>dsimp only;omega
   case c4 =>
    dsimp only;rw [es];exact kY (by simp<;>omega)
   case c5=>dsimp only;omega
   case c6 =>
    dsimp only;intro o ho;rw [<-huo o ho];exact DV
   case c7=>simp;omega
  have hpu:=lH hp;have hrl:((List.range i).map fun x=>(A x).getD m.length []).length=i:=by simp
  refine D5 @hci (ah hqu hru) (ah gi gA) @lx @hp @hrl ?_;refine⟨by omega,?_⟩;refine⟨(i+1,?st4,.lQ (u.length+1) 0 (i+1),u.length+1),?c1,⟨?c2,.inr ⟨by omega,rfl,?c4,?c5⟩,?c6,?c7⟩,?c3⟩
  case c3=>dsimp only;(refine kS ?_;exact uw)
  case c1=>dsimp only;omega
  case c2=>dsimp only;omega
  case c4 =>
   dsimp only;rw [es];exact kY (by simp<;>omega)
  case c5=>dsimp only;omega
  case c6 =>
   dsimp only;intro o ho;have:o≠p:=by omega
   rw [<-huo o ho];exact DV
  case c7=>simp;omega
 have hie:i=m.length:=by omega
 rcases hL with ⟨h1,_⟩|⟨_,rfl,hp,hpl⟩
 ·omega
 obtain⟨os,k1,k2,k3⟩:=hO.col hlM (j:=m.length) (by omega) m.length (aJ _);have hlt:∀o∈os,o<s1.length:=fun o ho=>k1.lt o ho;subst hie;refine Ae @hci ?_;refine Fin.Ba (xg (os:=p::os) ?_ (eU.2 ⟨fun hm=>by have:=hlt p hm;omega,k2⟩));unfold pK;simp only [mP];refine .inr ⟨p,_,os,by simp,hp,rfl,?_⟩;exact k1.frame fun o ho=>huo o (hlt o ho)
def zh:Fn:=⟨1,58,[.tmp 2,.tmp 3],(sr [oN 2 mN,oN 3 mF] (.seq (sr [oW 11 0,oN 12 (cl 273 [11]),oN 13 (nt 12)] (cd 13 (sr [oN 2 mN,oN 3 mF] .ret) .skip)) (sr [oN 4 (.qC (cI 0))] (.seq (sr [oW 14 0,oN 15 (ln 14),oN 16 (.qC (cI 0))] (.block 0 (.loop (sr [oN 17 (bt .lss 16 15)] (.seq (cd 17 .skip (.exit 0)) (.seq (.block 1 (.seq (rf 1 [oK 18 1 (ix 5 14 16),oK 19 1 (lT 5 18),oN 6 (.alloc zz4),⟨none,none,1,.store 5 (.t 6) (.t 19),[]⟩]) (rg [oW 20 4,oN 21 (fd 0 6),oN 22 (lF 1 21),oN 23 (.max (.t 20) (.t 22)),oW 4 23]))) (rg [oN 24 (bc .add 16 1),oW 16 24]))))))) (.seq (rf 1 [oK 25 1 (oV 4),oK 26 1 (bc .add 25 1),oN 27 (.make zz6 112 (.t 26)),oK 7 1 (oV 27)]) (sr [oW 28 7,oN 29 (.call 186 []),oN 30 (.idx 6 (.t 28) (cI 0)),oS (.store 6 (.t 30) (.t 29))] (.seq (sr [oW 31 0,oN 32 (ln 31),oN 33 (bc .sub 32 1),oW 8 33] (.block 2 (.loop (.seq (sr [oW 34 8,oN 35 (bc .geq 34 0)] (cd 35 .skip (.exit 2))) (.seq (.block 3 (.seq (rf 1 [oK 39 1 (oV 0),oK 40 1 (oV 8),oK 41 1 (ix 5 39 40),oK 42 1 (lT 5 41),oK 43 1 (oV 7),oK 44 1 (cl 176 [42,43]),oK 38 1 (oV 44),oK 45 1 (ex 0 38),oK 46 1 (ex 1 38),oN 9 (.alloc zz6),⟨none,none,1,.store 6 (.t 9) (.t 45),[]⟩,oK 10 1 (oV 46)]) (.seq (sr [oW 47 10,oN 48 (nt 47)] (cd 48 (sr [oN 2 mN,oN 3 mF] .ret) .skip)) (rt 0 [oW 49 7,oW 50 0,oW 51 8,oA 52 0 (ix 5 50 51) [1,2],oA 53 0 (fd 0 52) [3],oA 54 0 (lF 1 53) [4],oN 55 (lT 6 9),oA 56 0 (ix 6 49 54) [0,5,0,1,2,3,4,5,6],⟨none,none,0,.store 6 (.t 56) (.t 55),[7,6,0,1,2,3,4,5,6]⟩])))) (rg [oW 36 8,oN 37 (bc .sub 36 1),oW 8 37])))))) (sr [oW 57 7,oW 2 57,oN 3 mT] .ret))))))))⟩
structure IU (T:Tb):Prop where
 hT:T 272=some zh
 Nv:yh T
 vH:yg T
 Oz:Jj T
def svC(l:List Cd)(k:Nat):Cd:=l.getD (l.length-1-k) default
def ZI(l:List Cd):Nat->Nat
 |0=>0
 |k+1=>max (ZI l k) (l.getD k default).node.toNat
def svP(m:Nat):List Pt:=(List.replicate (m+1) ⟨R0,R0⟩).set 0 ⟨lC 0,lC 0⟩
def Ih(l:List Cd):Nat->List Pt
 |0=>svP (ZI l l.length)
 |k+1=>(Ih l k).set (svC l k).node.toNat (acV (svC l k) (Ih l k))
noncomputable def svG(l:List Cd):Bool:=JR l&&(List.range l.length).all fun k=>Kw (svC l k) (Ih l k)
noncomputable def XO(l:List Cd):List Pt:=if svG l=true then Ih l l.length else []
theorem acM{l:List Cd}(h:svG l=false):XO l=[]:=by unfold XO;rw [h];rfl
theorem Nw{l:List Cd}(h:svG l=true):XO l=Ih l l.length:=by unfold XO;rw [aQ h]
theorem acN{l:List Cd}(h:JR l=false):svG l=false:=by unfold svG;rw [h];rfl
theorem awc{l:List Cd}{k:Nat}(hk:k<l.length)(h:Kw (svC l k) (Ih l k)=false):svG l=false:=by
 unfold svG;rw [ku.2 ⟨k,fF.2 hk,by rw [h];simp⟩,jI]
theorem ai2{l:List Cd}(hn:JR l=true)(h:∀k,k<l.length->Kw (svC l k) (Ih l k)=true):svG l=true:=by
 unfold svG;rw [hn,cZ,bg];intro k hk;exact h k (fF.1 hk)
theorem Tt{l:List Cd}(h:JR l=true){i:Nat}(hi:i<l.length):1<=(l.getD i default).node/\(l.getD i default).node<=9:=by
 have h1:=(of_decide_eq_true h i hi).1;unfold xA inB at h1;simp only [aH,aZ]at h1;exact h1.1.1.1.2
theorem ahk{l:List Cd}(h:JR l=true):∀k,k<=l.length->ZI l k<=9
 |0,_=>eH _
 |
  k+1,hk=>by
  have:=ahk h k (by omega);have:=Tt h (i:=k) (by omega);unfold ZI;omega
theorem acO{l:List Cd}:∀k,∀i,i<k->(l.getD i default).node.toNat<=ZI l k
 |0,i,hi=>by omega
 |
  k+1,i,hi=>by
  unfold ZI;by_cases e:i=k
  ·subst e;omega
  have:=acO (l:=l) k i (by omega);omega
theorem QN(l:List Cd):∀k,(Ih l k).length=ZI l l.length+1
 |0=>by unfold Ih svP;simp
 |k+1=>by unfold Ih;rw [bV,QN l k]
theorem ahl(l:List Cd):∀k,∀q∈Ih l k,q.x.cn/\q.y.cn
 |
  0,q,hq=>by
  unfold Ih svP at hq;rcases jd hq with hq|rfl
  ·rw [(List.mem_replicate.1 hq).2];exact⟨ab6,ab6⟩
  exact⟨wO (by decide),wO (by decide)⟩
 |
  k+1,q,hq=>by
  unfold Ih at hq;rcases jd hq with hq|rfl
  ·exact ahl l k q hq
  exact avC _ _
theorem anT{l:List Pt}(h:∀q∈l,q.x.cn/\q.y.cn)(hl:l.length<=1048576):DR Pt.wf l:=⟨by omega,fun q hq=>⟨uy (h q hq).1,uy (h q hq).2⟩⟩
theorem anU{l:List Cd}(h:JR l=true){k:Nat}(hk:k<l.length):1<=(svC l k).node/\(svC l k).node.toNat<=ZI l l.length:=by
 unfold svC;exact⟨(Tt h (by omega)).1,acO l.length _ (by omega)⟩
theorem awd(l:List Cd):NS Pt.sz (XO l)<=100000/\DR Pt.wf (XO l):=by
 cases h:svG l
 ·rw [acM h];exact⟨by simp [NS],by simp [DR]⟩
 rw [Nw h];have hn:JR l=true:=by
  cases hn:JR l
  ·rw [acN hn]at h;cases h
  rfl
 have hm:=ahk hn l.length (aJ _);have hl:=QN l l.length;have hc:=ahl l l.length;refine⟨?_,anT hc (by omega)⟩;have:=Si (f:=Pt.sz) (k:=200) (l:=Ih l l.length) fun q hq=>by
  have h1:=Qc (hc q hq).1;have h2:=Qc (hc q hq).2;unfold Pt.sz R.sz;omega
 omega
def XP:List V:=[.bool false,.kC,.kC,.bool false,.kC,.kC]
theorem arM(W:Px)(σ:Store):yB W σ XP (⟨R0,R0⟩:Pt).cells:=by
 simp only [XP,yB,yA,Pt.cells];exact⟨_,_,rfl,rfl,_,_,rfl,.inr ⟨1,rfl⟩,_,_,rfl,.inr ⟨1,rfl⟩,_,_,rfl,rfl,_,_,rfl,.inr ⟨1,rfl⟩,_,_,rfl,.inr ⟨1,rfl⟩,rfl⟩
theorem awe(m:Nat):(svP m).map Pt.cells=(⟨lC 0,lC 0⟩:Pt).cells::(List.replicate m (⟨R0,R0⟩:Pt).cells):=by
 simp [svP,kH]
theorem anV{W:Px}{σ:Store}{m:Nat}{c c2:List V}(hc:yB W σ c c2)(i:Nat)(r r2:List V)(h1:(c::List.replicate m XP)[i]? = some r)
  (h2:(c2::List.replicate m (⟨R0,R0⟩:Pt).cells)[i]? = some r2):yB W σ r r2:=by
 cases i with
 |
  zero =>
  simp at h1 h2;subst h1;subst h2;exact hc
 |
  succ i =>
  simp [jr]at h1 h2;obtain⟨_,rfl⟩:=h1;obtain⟨_,rfl⟩:=h2;exact arM W σ
def FN(σ:Store)(p:Nat)(ob:Obj)(os:List Nat):Store:=(List.range σ.length).map fun k=>if k=p then some ob else if k∈os then jQ σ k else none
def keepW(σ:Store)(p n:Nat)(os:List Nat):Px:=(List.range σ.length).map fun k=>if k=p then some (p,0,n)else if k∈os then(jQ σ k).map (fun ob=>(k,0,ob.rows.length))else none
theorem yw{σ:Store}{p:Nat}{ob:Obj}{os:List Nat}{k:Nat}(hk:k<σ.length):jQ (FN σ p ob os) k=if k=p then some ob else if k∈os then jQ σ k else none:=by
 simp only [jQ,FN,bP,dM hk];rfl
theorem Fe{σ:Store}{p n:Nat}{os:List Nat}{k:Nat}(hk:k<σ.length):(keepW σ p n os)[k]? = some (if k=p then some (p,0,n)else if k∈os then(jQ σ k).map (fun ob=>(k,0,ob.rows.length))else none):=by
 unfold keepW;rw [bP,dM hk];rfl
theorem Gn{σ:Store}{p n:Nat}{os:List Nat}{k o s l:Nat}(h:(keepW σ p n os)[k]? = some (some (o,s,l))):k<σ.length/\o=k/\s=0/\((k=p/\l=n)\/(k≠p/\k∈os/\∃ob,jQ σ k=some ob/\l=ob.rows.length)):=by
 have hk:k<σ.length:=by
  have:=(aP.1 h).1;unfold keepW at this;simpa using this
 rw [Fe hk]at h;refine⟨hk,?_⟩;by_cases e:k=p
 ·rw [aQ e]at h;simp only [aB,Prod.mk.injEq]at h;exact⟨by omega,h.2.1.symm,.inl ⟨e,h.2.2.symm⟩⟩
 rw [aN e]at h;by_cases m:k∈os
 ·rw [aQ m]at h;simp only [aB,aO]at h;obtain⟨ob,h1,h2⟩:=h;simp only [Prod.mk.injEq]at h2;exact⟨h2.1.symm,h2.2.1.symm,.inr ⟨e,m,ob,h1,h2.2.2.symm⟩⟩
 rw [aN m]at h
 cases h
theorem anW{p n:Nat}{vs:List V}{env:Nat->V}{σ:Store}{b1 b2:Nat}{r1 r2 m1 m2:List Nat}{A A':List (List V)}{os:List Nat}(h:jQ σ p=some ⟨n,A⟩)(hl:A'.length=A.length)
  (hs:∀o∈os,∀ob,jQ σ o=some ob->nU ob.rows)
  (hr:∀(i:Nat) (r r2:List V),A[i]? = some r->A'[i]? = some r2->yB (keepW σ p A.length os) σ r r2) (he:Lc (keepW σ p A.length os) σ vs 0 env) :
  Fg ⟨mJ vs,FN σ p ⟨n,A'⟩ os,0,b1,r1,m1⟩ ⟨env,σ,0,b2,r2,m2⟩:=by
 refine .re (keepW σ p A.length os) ⟨⟨by unfold FN keepW;simp,?_,?_,?_⟩,rfl,fun i hi=>absurd hi (dB _),fun t=>by have:=he.at_ t;rwa [aX]at this⟩
 ·intro i j o s l s' l' hi hj;rw [<-(Gn hi).2.1,<-(Gn hj).2.1]
 ·intro k o s l hk;obtain⟨hlt,rfl,rfl,hk2⟩:=Gn hk;rcases hk2 with ⟨rfl,rfl⟩|⟨e,m,ob,h1,rfl⟩
  ·refine⟨_,⟨n,A'⟩,h,by simp,by show jQ (FN _ _ _ _) _=_;rw [yw hlt,aQ rfl],rfl,hl,fun i r r2 h1 h2=>hr i r r2 (by simpa using h1) h2⟩
  refine⟨ob,ob,h1,by simp,by show jQ (FN _ _ _ _) _=_;rw [yw hlt,aN e,aQ m,h1],rfl,rfl,fun i r r2 h2 h3=>?_⟩;rw [aX,h3]at h2;simp only [aB]at h2;subst h2;exact JE fun v hv=>hs o m ob h1 r2 (bn h3) v hv
 intro k hk;have hlt:k<σ.length:=by
  have:=(aP.1 hk).1;unfold keepW at this;simpa using this
 rw [Fe hlt]at hk;show jQ (FN _ _ _ _) _=_;rw [yw hlt];by_cases e:k=p
 ·rw [aQ e]at hk;cases hk
 rw [aN e]at hk ⊢;by_cases m:k∈os
 ·rw [aQ m]at hk ⊢
  cases ho:jQ σ k
  ·rfl
  rw [ho]at hk;cases hk
 rw [aN m]
theorem BF{σ:Store}{v:V}{l:List Int}{os os2:List Nat}{p n:Nat}(h:mP σ v (ints l) os)(hm:∀o∈os,o∈os2/\o≠p):yA (keepW σ p n os2) σ v v:=by
 rcases h.yZ with ⟨_,rfl,_⟩|⟨o,rfl,h1,rfl⟩
 ·exact FZ rfl
 obtain⟨m1,m2⟩:=hm o (by simp);simp only [yA];refine .inl ⟨o,0,l.length,?_,eH _,by omega,by rw [Nat.sub_zero]⟩;rw [Fe (lH h1),aN m2,aQ m1,h1];simp [vK]
theorem Zg{σ:Store}{b b2:Bool}{x1 x2 x3 x4:V}{l1 l2 l3 l4:List Int}{os:List Nat}(h:nC σ [.bool b,x1,x2,.bool b2,x3,x4] [.bool b,ints l1,ints l2,.bool b2,ints l3,ints l4] os) :
  ∃o1 o2 o3 o4,os=o1++(o2++(o3++o4))/\mP σ x1 (ints l1) o1/\mP σ x2 (ints l2) o2/\mP σ x3 (ints l3) o3/\mP σ x4 (ints l4) o4:=by
 simp only [nC]at h;obtain⟨_,_,_,_,e1,rfl,h1,_,_,_,_,e2,rfl,h2,_,_,_,_,e3,rfl,h3,_,_,_,_,e4,rfl,h4,_,_,_,_,e5,rfl,h5,_,_,_,_,e6,rfl,h6,e7,rfl⟩:=h;simp only [iF]at e1;obtain⟨rfl,rfl⟩:=e1;simp only [iF]at e2;obtain⟨rfl,rfl⟩:=e2;simp only [iF]at e3;obtain⟨rfl,rfl⟩:=e3;simp only [iF]at e4;obtain⟨rfl,rfl⟩:=e4;simp only [iF]at e5;obtain⟨rfl,rfl⟩:=e5;simp only [iF]at e6;obtain⟨rfl,rfl⟩:=e6;have kb:∀{b:Bool} {o:List Nat},mP σ (.bool b) (.bool b) o->o=[]:=fun h=>by simp only [mP]at h;exact h.2
 obtain rfl:=kb h1;obtain rfl:=kb h4;exact⟨_,_,_,_,by simp,h2,h3,h5,h6⟩
theorem Fh{σ:Store}{v:V}{l:List Int}{os:List Nat}(h:mP σ v (ints l) os):∀o∈os,∀ob,jQ σ o=some ob->nU ob.rows:=by
 rcases h.yZ with ⟨_,_,rfl⟩|⟨o,rfl,h1,rfl⟩
 ·intro o ho;cases ho
 intro q hq ob hob;rw [aW.1 hq,h1]at hob
 cases hob
 exact uM _
theorem acP{σ:Store}{b b2:Bool}{x1 x2 x3 x4:V}{l1 l2 l3 l4:List Int}{os:List Nat}(h:nC σ [.bool b,x1,x2,.bool b2,x3,x4] [.bool b,ints l1,ints l2,.bool b2,ints l3,ints l4] os):∀o∈os,∀ob,jQ σ o=some ob->nU ob.rows:=by
 obtain⟨o1,o2,o3,o4,rfl,h1,h2,h3,h4⟩:=Zg h;intro o ho;simp only [aK]at ho;rcases ho with ho|ho|ho|ho
 ·exact Fh h1 o ho
 ·exact Fh h2 o ho
 ·exact Fh h3 o ho
 exact Fh h4 o ho
theorem ahm{σ:Store}{b b2:Bool}{x1 x2 x3 x4:V}{l1 l2 l3 l4:List Int}{os os2:List Nat}{p n:Nat}(h:nC σ [.bool b,x1,x2,.bool b2,x3,x4] [.bool b,ints l1,ints l2,.bool b2,ints l3,ints l4] os)(hm:∀o∈os,o∈os2/\o≠p) :
  yB (keepW σ p n os2) σ [.bool b,x1,x2,.bool b2,x3,x4] [.bool b,x1,x2,.bool b2,x3,x4]:=by
 obtain⟨o1,o2,o3,o4,rfl,h1,h2,h3,h4⟩:=Zg h;have k1:=BF (n:=n) h1 fun o ho=>hm o (by simp [ho]);have k2:=BF (n:=n) h2 fun o ho=>hm o (by simp [ho]);have k3:=BF (n:=n) h3 fun o ho=>hm o (by simp [ho]);have k4:=BF (n:=n) h4 fun o ho=>hm o (by simp [ho]);have kb:∀b:Bool,yA (keepW σ p n os2) σ (.bool b) (.bool b):=fun b=>FZ rfl;simp only [yB];exact⟨_,_,rfl,kb _,_,_,rfl,k1,_,_,rfl,k2,_,_,rfl,kb _,_,_,rfl,k3,_,_,rfl,k4,rfl⟩
theorem anX{σ:Store}:nC σ (⟨R0,R0⟩:Pt).cells (⟨R0,R0⟩:Pt).cells [] :=
 qV (qQ (o1:=[]) nP (qQ (o1:=[]) nP (qV (qQ (o1:=[]) nP (qQ (o1:=[]) nP qm)))))
theorem ai3{σ:Store}:∀m:Nat,nC σ (List.replicate m (⟨R0,R0⟩:Pt).cells).flatten (List.replicate m (⟨R0,R0⟩:Pt).cells).flatten []
 |0=>qm
 |
  m+1=>by
  rw [kH,dO];exact(nD anX (ai3 m):nC σ _ _ ([]++[]))
theorem anY{σ:Store}{p m:Nat}{x1 x2 x3 x4:V}{os:List Nat}(h:nC σ [.bool (lC 0).neg,x1,x2,.bool (lC 0).neg,x3,x4] (⟨lC 0,lC 0⟩:Pt).cells os)(nd:os.Nodup)(hp:p∉os)(hl:p<σ.length) :
  Ep (FN σ p ⟨6,[.bool (lC 0).neg,x1,x2,.bool (lC 0).neg,x3,x4]::List.replicate m (⟨R0,R0⟩:Pt).cells⟩ os)
   ([.bool (lC 0).neg,x1,x2,.bool (lC 0).neg,x3,x4]::List.replicate m (⟨R0,R0⟩:Pt).cells).flatten ((svP m).map Pt.cells).flatten os
   [(p,⟨6,[.bool (lC 0).neg,x1,x2,.bool (lC 0).neg,x3,x4]::List.replicate m (⟨R0,R0⟩:Pt).cells⟩)]:=by
 have hat:∀o∈os,jQ (FN σ p ⟨6,[.bool (lC 0).neg,x1,x2,.bool (lC 0).neg,x3,x4]::List.replicate m (⟨R0,R0⟩:Pt).cells⟩ os) o=jQ σ o:=fun o ho=>by
  rw [yw (h.lt o ho),aN (fun e=>hp (by rw [<-e];exact ho)),aQ ho]
 refine⟨⟨?_,nd⟩,fun q hq=>?_⟩
 ·rw [awe,dO,dO];have:=nD (h.frame hat) (ai3 (σ:=FN σ p ⟨6,[.bool (lC 0).neg,x1,x2,.bool (lC 0).neg,x3,x4]::List.replicate m (⟨R0,R0⟩:Pt).cells⟩ os) m)
  rwa [aU]at this
 rw [aW.1 hq];exact⟨by rw [yw hl,aQ rfl],hp⟩
def GnA(n:Nat)(s:Store)(v:V)(A:List (List V)):Prop:=(A=[]/\v=.kC)\/∃p,v=.lQ p 0 A.length/\jQ s p=some ⟨n,A⟩/\3<=p/\0<A.length
theorem GnA.fr{n:Nat}{s s2:Store}{v:V}{A:List (List V)}(h:GnA n s v A)(hf:∀p,3<=p->p<s.length->jQ s2 p=jQ s p):GnA n s2 v A:=by
 rcases h with h|⟨p,h1,h2,h3⟩
 ·exact .inl h
 exact .inr ⟨p,h1,(hf p h3.1 (lH h2)).trans h2,h3⟩
def paZ(a:Pa):List V:=[iv a.node,.bool false,.kC,.kC]++a.dx.cells++a.dy.cells
def Pa.wc(a:Pa):List V:=a.share.cells
structure ElI (s:Store) (v:Int) (X:R) (pv wv:V) (P:List (List V)) (W:List (List V)):Prop where
 a0:jQ s 0=some ⟨5,[[iv 0,.bool false,.kC,.kC,.kC]]⟩
 a1:jQ s 1=some ⟨5,[[iv v,.bool X.neg,ints X.mag,ints X.den,pv]]⟩
 p:GnA 10 s pv P
 w:GnA 3 s wv W
theorem ElI.lt{s:Store}{v:Int}{X:R}{pv wv:V}{P W:List (List V)}(h:ElI s v X pv wv P W):2<=s.length:=lH h.a1
theorem QO{σ:Store}:oZ (Option.map V.oU (match resolve σ 11 (V.agg [V.int .i64 0,V.bool false,V.kC,V.kC,V.kC])with|some d=>some [d,V.kC,V.bool false]|none=>none)) (nG (V.oU [cdV ⟨0,R0,[]⟩,nZ [],V.bool false])):=by
 have e:resolve σ 11 (V.agg [V.int .i64 0,V.bool false,V.kC,V.kC,V.kC])=some (V.agg [V.int .i64 0,V.bool false,V.kC,V.kC,V.kC]):=by simp [resolve]
 rw [e];show nG _ _;simp only [nG,wJ];exact⟨_,rfl,_,_,rfl,⟨_,rfl,_,_,rfl,rfl,_,_,rfl,rfl,_,_,rfl,.inl ⟨rfl,.inl rfl⟩,_,_,rfl,.inl ⟨rfl,.inl rfl⟩,_,_,rfl,.inl ⟨rfl,.inl rfl⟩,rfl⟩,_,_,rfl,.inl ⟨rfl,.inl rfl⟩,_,_,rfl,rfl,rfl⟩
theorem OB{σ:Store}{q n l:Nat}{rows:List (List V)}(h:jQ σ q=some ⟨n,rows⟩)(hs:nU rows):∀p∈reach σ FD (.lQ q 0 l),p=q:=fun p hp=>by
 have hp:p∈reach σ (11+1) (.lQ q 0 l):=hp;unfold reach at hp;rcases aI.1 hp with e|hp
 ·exact e
 exfalso;dsimp only at hp;rw [h]at hp;obtain⟨r,hr,hp⟩:=fZ.1 hp;obtain⟨v,hv,hp⟩:=fZ.1 hp;rw [show reach σ 11 v=[]from KF (hs r hr v hv)]at hp
 cases hp
theorem Zh{A:List Pa}{i:Nat}:∀{m:Nat},i<=m->∀x∈uo A i,x∈uo A m
 |0,h,x,hx=>by
           have:i=0:=by omega
           subst this;exact hx
 |
  m+1,h,x,hx=>by
  by_cases e:i=m+1
  ·subst e;exact hx
  exact aK.2 (.inl (Zh (m:=m) (by omega) x hx))
theorem anZ{A:List Pa}{i k:Nat}(hi:i<k)(hk:k<A.length):MI (rQ A) (A.getD i default) (A.getD k default)∈Oy A:=by
 refine Zh (i:=i+1) (by omega) _ (aK.2 (.inr ?_));unfold xH;rw [bG (by simp)];refine bF.2 ⟨A.getD k default,bJ.2 ⟨k-(i+1),?_⟩,rfl⟩;rw [dV,show i+1+(k-(i+1))=k by omega,ak hk,aj,ak hk];rfl
theorem an0{A:List Pa}{i k:Nat}(hi:i<k)(hk:k<A.length)(h:ql (MI (rQ A) (A.getD i default) (A.getD k default))=false):(Oy A).all ql=false :=
 ku.2 ⟨_,anZ hi hk,by rw [h];simp⟩
theorem awf{s σ:Store}{c:Cd}{cs:List V}{mv:V}{M:List Lk}{o1:Obj}(he:c.cells=cs)(hst:∀v∈c.cells,v.still=true)(hL:LnA s mv M)(h1:jQ σ 1=jQ s 1)(hx:jQ s 1=some o1)(hf:∀p,p≠0->jQ σ p=jQ s p)(h0:∃z,jQ s 0=some ⟨5,z⟩) :
  oZ (Option.map V.oU (match resolve σ 11 (V.agg cs)with|some d=>(match (match resolve σ 11 mv with|some d=>some [d,V.bool true]|none=>none)with|some ds=>some (d::ds)|none=>none)|none=>none)) (nG (V.oU [cdV c,nZ M,V.bool true])):=by
 subst he;have e1:resolve σ 11 (V.agg c.cells)=some (cdV c):=by
  show (c.cells.mapM (resolve σ (9+1))).map _=_;rw [FY hst];rfl
 have e2:∃u,resolve σ 11 mv=some u/\nG (nZ M) u:=by
  rcases hL with ⟨rfl,rfl⟩|⟨p,rfl,hp⟩
  ·exact⟨.kC,rfl,gV (qg 11)⟩
  have hp0:p≠0:=fun e=>by
   obtain⟨z,hz⟩:=h0;rw [e,hz]at hp;cases hp
  have:=Ug (n:=9) ((hf p hp0).trans hp) (IX M);rw [aV]at this;exact⟨_,this,kR _⟩
 obtain⟨u,e2,e3⟩:=e2;rw [e1,e2];have k:∀x y z:V,nG y z->nG (V.oU [x,y,V.bool true]) (V.oU [x,z,V.bool true]):=fun x y z h=>by
  simp only [nG,wJ];exact⟨_,rfl,_,_,rfl,kR _,_,_,rfl,h,_,_,rfl,rfl,rfl⟩
 exact k _ _ _ e3
theorem OC(A:List Pa)(a:Pa):rQ (A++[a])=oC (rQ A) a.share:=by
 unfold rQ Ob;rw [bI,bI,jZ];rfl
end Go.Ml
end
