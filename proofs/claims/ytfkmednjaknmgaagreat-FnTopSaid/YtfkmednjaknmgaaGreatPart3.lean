/- Contracts of functions. -/
import Derived.Test.YtfkmednjaknmgaaGreatPart2
set_option linter.unusedSimpArgs false
set_option linter.unusedVariables false
set_option maxRecDepth 100000
set_option maxHeartbeats 16000000
section
namespace Go.Ml
theorem Uu{r:R}(h:0<xI r):r.ok=true:=by
 rw [xZ];intro e;unfold xI at h;rw [e]at h;simp [yF]at h
def inB(a lo hi:Int):Bool:=decide (lo<=a)&&decide (a<=hi)
def O9(c:Cd)(i:Nat):Bool :=
 inB (c.ps.getD i default).node 0 9 && !decide ((c.ps.getD i default).node=c.node)&&(decide (i=0)||decide ((c.ps.getD (i-1) default).node<(c.ps.getD i default).node)) &&
  decide (0<xI (c.ps.getD i default).share)&&(c.ps.getD i default).dx.ok&&(c.ps.getD i default).dy.ok
def Ob(l:List Pa)(n:Nat):R:=(l.take n).foldl (fun s p=>oC s p.share) (lC 0)
theorem ab8(l:List Pa):Ob l 0=lC 0:=by simp [Ob]
theorem ab9(l:List Pa){i:Nat}(h:i<l.length):Ob l (i+1)=oC (Ob l i) (l.getD i default).share:=by
 unfold Ob;rw [iY,ak h,aj,ak h];simp only [Option.toList,Option.getD,jZ,iE,jf]
theorem aew{α:Type}{f:α->R}:∀(l:List α) (a:R),a.cn->(l.foldl (fun s p=>oC s (f p)) a).cn
 | [],_,h=>h
 |_::l,_,_=>aew l _ (wM _ _)
theorem Uw(l:List Pa)(i:Nat):(Ob l i).cn:=aew _ _ (wO (by decide))
def aq2(c:Cd):Prop:=∀i,i<c.ps.length->O9 c i=true
instance (c:Cd):Decidable (aq2 c):=inferInstanceAs (Decidable (∀i,i<c.ps.length->O9 c i=true))
def xA(c:Cd):Bool:=decide (aq2 c)&&inB c.node 1 9&&decide (0<xI c.total) && !c.ps.isEmpty&&decide (Ob c.ps c.ps.length=lC 1)
theorem Oc{c:Cd}{i:Nat}(hi:i<c.ps.length)(h:O9 c i=false):xA c=false:=by
 unfold xA;rw [bH (fun k=>by rw [k i hi]at h;cases h)];rfl
theorem amJ{c:Cd}(h:aq2 c):xA c=(inB c.node 1 9&&decide (0<xI c.total) && !c.ps.isEmpty&&decide (Ob c.ps c.ps.length=lC 1)):=by
 unfold xA;rw [aT h,cZ]
def ni:Fn:=⟨1,86,[.tmp 2],(.seq (rf 1 [oN 1 (.box (.t 0)),oK 2 1 mF]) (.seq (sr [oN 6 (fd 0 1),oN 7 (lF 1 6),oN 8 (bc .lss 7 1),oW 9 8,oG 9 false 10 (fd 0 1),oG 9 false 11 (lF 1 10),oG 9 false 12 (bc .geq 11 10),oN 13 (.pick (.t 9) (.c (.bool true)) (.t 12)),oW 14 13,oG 14 false 15 (fd 1 1),oG 14 false 16 (lT 3 15),oG 14 false 17 (cl 101 [16]),oG 14 false 18 (bc .leq 17 0),oN 19 (.pick (.t 14) (.c (.bool true)) (.t 18)),oW 20 19,oG 20 false 21 (fd 4 1),oG 20 false 22 (lF 1 21),oG 20 false 23 (ln 22),oG 20 false 24 (bc .eql 23 0),oN 25 (.pick (.t 20) (.c (.bool true)) (.t 24))] (cd 25 (sr [oN 2 mF] .ret) .skip)) (.seq (rf 1 [oK 26 1 (.call 39 [(cI 0)]),oN 3 (.alloc uJ),⟨none,none,1,.store 3 (.t 3) (.t 26),[]⟩]) (.seq (sr [oN 27 (fd 4 1),oN 28 (lF 1 27),oN 29 (ln 28),oN 30 (.qC (cI 0))] (.block 0 (.loop (sr [oN 31 (bt .lss 30 29)] (.seq (cd 31 .skip (.exit 0)) (.seq (.block 1 (.seq (rf 1 [oK 32 1 (oV 30),oK 33 1 (ix 10 28 30),oK 34 1 (lT 10 33),oN 5 (.alloc zz5),oK 4 1 (oV 32),⟨none,none,1,.store 10 (.t 5) (.t 34),[]⟩]) (.seq (.seq (rt 0 [oN 35 (fd 0 5),oA 36 0 (lF 1 35) [0],oA 37 0 (cl 37 [36]) [1],oA 38 0 (nt 37) [2],oA 39 0 (oV 38) [3,2],oH 39 false 40 0 (fd 0 5) [4],oH 39 false 41 0 (lF 1 40) [5,4],oH 39 false 42 0 (fd 0 1) [4],oH 39 false 43 0 (lF 1 42) [7,4],oH 39 false 44 0 (bt .eql 41 43) [6,8,4],oA 45 0 (.pick (.t 39) (.c (.bool true)) (.t 44)) [4,9],oA 46 0 (oV 45) [10,4],oH 46 false 47 0 (oV 4) [11],oH 46 false 48 0 (bc .gtr 47 0) [12,11],oH 46 false 49 0 (oV 48) [13,11,11],oH 49 true 50 0 (fd 4 1) [14],oH 49 true 51 0 (lF 1 50) [15,14],oH 49 true 52 0 (oV 4) [14],oH 49 true 53 0 (bc .sub 52 1) [17,14],oH 49 true 54 0 (ix 10 51 53) [16,18,14],oH 49 true 55 0 (fd 0 54) [19,14],oH 49 true 56 0 (lF 1 55) [20,14],oH 49 true 57 0 (fd 0 5) [14],oH 49 true 58 0 (lF 1 57) [22,14],oH 49 true 59 0 (bt .geq 56 58) [21,23,14],oH 46 false 60 0 (.pick (.t 49) (.t 59) (.c (.bool false))) [14,24,11],oA 61 0 (.pick (.t 46) (.c (.bool true)) (.t 60)) [11,25]]) (cd 61 (sr [oN 2 mF] .ret) .skip)) (.seq (sr [oN 62 (fd 1 5),oN 63 (lT 3 62),oN 64 (cl 101 [63]),oN 65 (bc .leq 64 0),oW 66 65,oG 66 false 67 (fd 4 5),oG 66 false 68 (lT 3 67),oG 66 false 69 (cl 102 [68]),oG 66 false 70 (nt 69),oN 71 (.pick (.t 66) (.c (.bool true)) (.t 70)),oW 72 71,oG 72 false 73 (fd 7 5),oG 72 false 74 (lT 3 73),oG 72 false 75 (cl 102 [74]),oG 72 false 76 (nt 75),oN 77 (.pick (.t 72) (.c (.bool true)) (.t 76))] (cd 77 (sr [oN 2 mF] .ret) .skip)) (rg [oN 78 (lT 3 3),oN 79 (fd 1 5),oN 80 (lT 3 79),oN 81 (cl 131 [78,80]),oS (.store 3 (.t 3) (.t 81))]))))) (rg [oN 82 (bc .add 30 1),oW 30 82]))))))) (.seq (rt 0 [oN 83 (lT 3 3),oN 84 (.call 39 [(cI 1)]),oA 85 0 (cl 32 [83,84]) [0,1,1],oA 2 0 (oV 85) [2,2,0,1,2]]) .ret)))))⟩
structure qA (T:Tb):Prop where
 hT:T 185=some ni
 CZ:CY T
 HY:Hz T
 lK:nV T
 Ew:Eo T
 qP:yK T
 lJ:nM T
theorem azz(a:Int):nd a=inB a 0 9:=rfl
theorem avx{a b:St}(h:Fg a b:=by
 (refine Rh [(0,_),(1,_)] (by simp) (by intro p hp;simp only [aI,bY,or_false]at hp;rcases hp with rfl|rfl<;>refine⟨rfl,?_⟩<;>first|exact uM _|simp [nU,V.still]) rfl ?_)<;>(try (refine ev ?_;try with_reducible exact aC))<;>(repeat' (first|exact aC|omega|exact Ac rfl (by simp)|refine⟨?_,?_⟩|exact gV (BO _ _ _)|exact pW rfl (by simp;done)|exact pW rfl rfl|(refine qK rfl ?_ rfl;simp [kU];done)|(refine qK rfl ?_ rfl;simp [kU];omega)|(refine D8 ?_ ?_;(focus ((refine ev ?_;try with_reducible exact aC);done));(intro q hq k s0 l0;simp;done))))):Fg a b:=h
theorem wz{T:Tb}(h:qA T){c:Cd}(hw:c.wf:=by exact rF):PF T 185 [cdV c] (.bool (xA c)):=by
 obtain⟨w1,w2⟩:=hw;have hlen:=w2.1;have cs:=SC h.Ew (r:=c.total) w1;have c0:=LU h.lK (n:=0) (by omega);have c1:=LU h.lK (n:=1) (by omega);have ceq:=JJ h.CZ (y:=Ob c.ps c.ps.length) (z:=lC 1) (uy (Uw _ _)) (uy (wO (by decide)));by_cases k1:c.node<1
 ·have:xA c=false:=by unfold xA inB;rw [bH (show ¬1<=c.node by omega)];simp
  rw [this];refine lV nR h.hT ?_;simp only [ni,Lz];refine ev ?_
  (refine ev1 @k1 ?_;try with_reducible exact aC)
 by_cases k2:10<=c.node
 ·have:xA c=false:=by unfold xA inB;rw [bH (show ¬c.node<=9 by omega)];simp
  rw [this];refine lV nR h.hT ?_;simp only [ni,Lz];refine ev ?_
  (refine xP @k1 @k2 ?_;try with_reducible exact aC)
 have e1:inB c.node 1 9=true:=by unfold inB;rw [aT (show 1<=c.node by omega),aT (show c.node<=9 by omega)];rfl
 by_cases k3:yF c.total.q<=0
 ·have:xA c=false:=by unfold xA xI;rw [bH (show ¬0<yF c.total.q by omega)];simp
  rw [this];refine lV nR h.hT ?_;simp only [ni,Lz];refine ev ?_;refine xP @k1 @k2 ?_;refine jK cs ?_
  (refine ev1 @k3 ?_;try with_reducible exact aC)
 have e2:decide (0<xI c.total)=true:=aT (by unfold xI;omega);by_cases k4:((c.ps.length:Nat):Int)=0
 ·have e:c.ps=[]:=aY (by omega);have:xA c=false:=by unfold xA;rw [e];simp
  rw [this];refine lV nR h.hT ?_;simp only [ni,Lz];refine ev ?_;refine xP @k1 @k2 ?_;refine jK cs ?_
  (refine xP @k3 @k4 ?_;try with_reducible exact aC)
 have e3:c.ps.isEmpty=false:=by cases hp:c.ps with
  |nil=>rw [hp]at k4;simp at k4
  |cons x l=>rfl
 refine lV nR h.hT ?_;simp only [ni,Lz];refine ev ?_;refine xP @k1 @k2 ?_;refine jK cs ?_;refine xP @k3 @k4 ?_;refine jK c0 ?_;refine ev ?_;refine kZ (fun _ _=>false) (α:=Nat) (fun i=>⟨mJ [.any,.ptr 0 0 0,.bool false,.ptr 1 0 0,.any,.any,.any,.any,.any,.any,.any,.any,.any,.any,.any,.any,.any,.any,.any,.any,.any,.any,.any,.any,.any,.any,.any,.any,QX c.ps,iv (c.ps.length:Nat),iv (i:Nat)],[some ⟨5,[c.cells]⟩,some ⟨3,[(Ob c.ps i).cells]⟩],0,0,[],[]⟩) (fun i=>i<=c.ps.length/\∀j,j<i->O9 c j=true) (fun i=>c.ps.length-i) rfl 0 ?_ ?_ ?_
 ·exact⟨by omega,by intro j hj;omega⟩
 ·(refine kS ?_)<;>(try (refine ev1 @ab8 ?_;try with_reducible exact aC))<;>(repeat' (first|refine⟨?_,?_⟩|exact NK (by omega)|exact P5 (by simp)|exact KG _))
 rintro i ⟨hi,hj⟩;refine ev ?_;refine lG (fun hc=>?_) fun hc=>?_<;>(refine xP @hc @mg ?_;try with_reducible exact aC)
 ·have hil:i<c.ps.length:=by omega
  have hwp:=w2.at_ hil;have es:=(ab9 c.ps hil).symm;obtain⟨p,hp⟩:∃p,c.ps.getD i default=p:=⟨_,rfl⟩;obtain⟨q,hq⟩:∃q,c.ps.getD (i-1) default=q:=⟨_,rfl⟩;rw [hp]at hwp es ⊢;have cn:=YP h.HY (a:=p.node);rw [azz]at cn;have csh:=SC h.Ew (r:=p.share) hwp.1;have cdx:=KP h.qP (r:=p.dx) hwp.2.1;have cdy:=KP h.qP (r:=p.dy) hwp.2.2;refine jK cn ?_
  cases b1:inB p.node 0 9
  ·refine ev ?_;rw [show xA c=false from Oc hil (by unfold O9;rw [hp,b1];simp)]
  refine ev ?_;by_cases b2:p.node=c.node
  ·refine ev1 @b2 ?_;rw [show xA c=false from Oc hil (by unfold O9;rw [hp,aT b2];simp)]
  have q2:decide (p.node=c.node)=false:=bH b2;by_cases h0:i=0
  ·have h0':¬(0:Int)<(i:Nat):=by omega
   have q3:(decide (i=0)||decide ((c.ps.getD (i-1) default).node<p.node))=true:=by rw [aT h0];rfl
   refine xP @b2 @h0' ?_;refine jK csh ?_;by_cases b4:yF p.share.q<=0
   ·refine ev1 @b4 ?_;rw [show xA c=false from Oc hil (by unfold O9;rw [hp,bH (show ¬0<xI p.share by unfold xI;omega)];simp)]
   have q4:decide (0<xI p.share)=true:=aT (by unfold xI;omega);have amK:=DZ h.lJ (r:=Ob c.ps i) (s:=p.share) (Uw _ _) (CG (Uu (of_decide_eq_true q4)));rw [es]at amK;refine ev1 @b4 ?_;refine jK cdx ?_
   cases b5:p.dx.ok
   ·refine ev1 @b4 ?_;rw [show xA c=false from Oc hil (by unfold O9;rw [hp,b5];simp)]
   refine ev1 @b4 ?_;refine jK cdy ?_
   cases b6:p.dy.ok
   ·refine ev1 @b4 ?_;rw [show xA c=false from Oc hil (by unfold O9;rw [hp,b6];simp)]
   refine ev1 @b4 ?_;refine jK amK ?_;refine ev ?_;refine⟨i+1,by omega,⟨by omega,fun j hj'=>?_⟩,by exact avx⟩;by_cases e:j=i
   ·subst e;unfold O9;rw [hp,b1,b5,b6,q4,q2,q3];rfl
   exact hj j (by omega)
  have h0':(0:Int)<(i:Nat):=by omega
  have e1:((i:Int)-1).toNat=i-1:=by omega
  by_cases b3:p.node<=q.node
  ·refine ev6 @b2 @h0' @mg @e1 @hq @b3 ?_;rw [show xA c=false from Oc hil (by unfold O9;rw [hp,hq,bH h0,bH (show ¬q.node<p.node by omega)];simp)]
  have q3:(decide (i=0)||decide ((c.ps.getD (i-1) default).node<p.node))=true:=by rw [hq,bH h0,aT (show q.node<p.node by omega)];rfl
  refine ev6 @b2 @h0' @mg @e1 @hq @b3 ?_;refine jK csh ?_;by_cases b4:yF p.share.q<=0
  ·refine ev1 @b4 ?_;rw [show xA c=false from Oc hil (by unfold O9;rw [hp,bH (show ¬0<xI p.share by unfold xI;omega)];simp)]
  have q4:decide (0<xI p.share)=true:=aT (by unfold xI;omega);have amK:=DZ h.lJ (r:=Ob c.ps i) (s:=p.share) (Uw _ _) (CG (Uu (of_decide_eq_true q4)));rw [es]at amK;refine ev1 @b4 ?_;refine jK cdx ?_
  cases b5:p.dx.ok
  ·refine ev1 @b4 ?_;rw [show xA c=false from Oc hil (by unfold O9;rw [hp,b5];simp)]
  refine ev1 @b4 ?_;refine jK cdy ?_
  cases b6:p.dy.ok
  ·refine ev1 @b4 ?_;rw [show xA c=false from Oc hil (by unfold O9;rw [hp,b6];simp)]
  refine ev1 @b4 ?_;refine jK amK ?_;refine ev ?_;refine⟨i+1,by omega,⟨by omega,fun j hj'=>?_⟩,by exact avx⟩;by_cases e:j=i
  ·subst e;unfold O9;rw [hp,b1,b5,b6,q4,q2,q3];rfl
  exact hj j (by omega)
 have ei:i=c.ps.length:=by omega
 subst ei;rw [amJ fun j hj'=>hj j hj',e1,e2,e3];refine ev ?_;refine jK c1 ?_;refine ev ?_;refine jK ceq ?_
 (refine ev ?_;try with_reducible exact aC)
def aaX(l:List Cd)(i:Nat):Prop :=
 xA (l.getD i default)=true/\(∀k,k<(l.getD i default).ps.length->((l.getD i default).ps.getD k default).node=0\/∃j,i<j/\j<l.length/\(l.getD j default).node=((l.getD i default).ps.getD k default).node) /\
  ∀j,i<j->j<l.length->(l.getD j default).node≠(l.getD i default).node
theorem aaY{l:List Cd}{i:Nat}{c:Cd}(h:l.getD i default=c):aaX l i↔(xA c=true /\
  (∀k,k<c.ps.length->(c.ps.getD k default).node=0\/∃j,i<j/\j<l.length/\(l.getD j default).node=(c.ps.getD k default).node) /\
  ∀j,i<j->j<l.length->(l.getD j default).node≠c.node):=by subst h;rfl
noncomputable instance (l:List Cd):Decidable (∀i,i<l.length->aaX l i):=Classical.propDecidable _
noncomputable def JR(l:List Cd):Bool:=decide (∀i,i<l.length->aaX l i)
theorem acd{l:List Cd}{i:Nat}(hi:i<l.length)(h:¬aaX l i):JR l=false:=bH fun k=>h (k i hi)
theorem aip{l:List Cd}(h:∀i,i<l.length->aaX l i):JR l=true:=aT h
def Gg(l:List Cd)(k:Nat):List Int:=0::((l.drop k).map (·.node)).reverse
theorem amL(l:List Cd):Gg l l.length=[0]:=by simp [Gg]
theorem amM(l:List Cd){k:Nat}(h:k<l.length):Gg l (k+1)++[(l.getD k default).node]=Gg l k:=by
 unfold Gg;rw [dK h,aj,ak h];simp only [bT,List.reverse_cons,dI,Option.getD]
theorem agI(l:List Cd)(k:Nat)(a:Int):a∈Gg l k↔a=0\/∃j,k<=j/\j<l.length/\(l.getD j default).node=a:=by
 unfold Gg;rw [aI,List.mem_reverse,bF];constructor
 ·rintro(h|⟨c,hc,rfl⟩)
  ·exact .inl h
  right;obtain⟨n,hn⟩:=bJ.1 hc;rw [dV]at hn;have hlt:=(aP.1 hn).1;exact⟨k+n,by omega,hlt,by rw [aj,hn];rfl⟩
 rintro(h|⟨j,h1,h2,rfl⟩)
 ·exact .inl h
 refine .inr ⟨l.getD j default,?_,rfl⟩;refine bJ.2 ⟨j-k,?_⟩;rw [dV,show k+(j-k)=j by omega,aj,ak h2];rfl
theorem agJ(l:List Cd){k:Nat}(_:k<=l.length):(Gg l k).length=l.length-k+1:=by simp [Gg]
theorem aki{c:Cd}(h:xA c=true):1<=c.node/\c.node<=9:=by
 unfold xA inB at h;simp only [aH,aZ]at h;exact h.1.1.1.2
def H7:Fn:=⟨2,17,[.tmp 4],(sr [oN 4 mF] (.seq (sr [oW 7 0,oN 8 (ln 7),oN 9 (.qC (cI 0))] (.block 0 (.loop (sr [oN 10 (bt .lss 9 8)] (.seq (cd 10 .skip (.exit 0)) (.seq (.block 1 (sr [oN 11 (ix 1 7 9),oN 12 (lF 1 11),oW 6 12] (sr [oW 13 6,oW 14 1,oN 15 (bt .eql 13 14)] (cd 15 (sr [oN 4 mT] .ret) .skip)))) (rg [oN 16 (bc .add 9 1),oW 9 16]))))))) (sr [oN 4 mF] .ret)))⟩
structure H8 (T:Tb):Prop where
 hT:T 236=some H7
def Ji:Fn:=⟨1,54,[.tmp 2],(sr [oN 2 mF] (.seq (rf 1 [oN 7 (.nO 1 Kt 1 [(0,(cI 0))]),oK 3 1 (oV 7)]) (.seq (sr [oW 8 0,oN 9 (ln 8),oN 10 (bc .sub 9 1),oW 4 10] (.block 0 (.loop (.seq (sr [oW 11 4,oN 12 (bc .geq 11 0)] (cd 12 .skip (.exit 0))) (.seq (.block 1 (.seq (sr [oW 15 0,oW 16 4,oN 17 (ix 5 15 16),oN 18 (lT 5 17),oN 19 (cl 185 [18]),oN 20 (nt 19),oW 21 20,oG 21 false 22 (oV 3),oG 21 false 23 (oV 0),oG 21 false 24 (oV 4),oG 21 false 25 (ix 5 23 24),oG 21 false 26 (fd 0 25),oG 21 false 27 (lF 1 26),oG 21 false 28 (cl 236 [22,27]),oN 29 (.pick (.t 21) (.c (.bool true)) (.t 28))] (cd 29 (sr [oN 2 mF] .ret) .skip)) (.seq (sr [oW 30 0,oW 31 4,oN 32 (ix 5 30 31),oN 33 (fd 4 32),oN 34 (lF 1 33),oN 35 (ln 34),oN 36 (.qC (cI 0))] (.block 2 (.loop (sr [oN 37 (bt .lss 36 35)] (.seq (cd 37 .skip (.exit 2)) (.seq (.block 3 (.seq (rf 1 [oK 38 1 (ix 10 34 36),oK 39 1 (lT 10 38),oN 6 (.alloc zz5),⟨none,none,1,.store 10 (.t 6) (.t 39),[]⟩]) (sr [oW 40 3,oN 41 (fd 0 6),oN 42 (lF 1 41),oN 43 (cl 236 [40,42]),oN 44 (nt 43)] (cd 44 (sr [oN 2 mF] .ret) .skip)))) (rg [oN 45 (bc .add 36 1),oW 36 45]))))))) (rf 2 [oK 46 2 (oV 3),oK 47 2 (oV 0),oK 48 2 (oV 4),oK 49 2 (ix 5 47 48),oK 50 2 (fd 0 49),oK 51 2 (lF 1 50),oN 52 (.nO 1 Kt 1 [(0,(.t 51))]),oK 53 1 (.app 1 8 (.t 46) (.t 52)),oK 3 2 (oV 53)])))) (rg [oW 13 4,oN 14 (bc .sub 13 1),oW 4 14])))))) (sr [oN 2 mT] .ret))))⟩
structure Jj (T:Tb):Prop where
 hT:T 273=some Ji
 oJ:qA T
 H9:H8 T
theorem YU{T:Tb}(h:H8 T){l:List Int}{n:Int}(hl:l.length<=9223372036854775807:=by exact rF):PF T 236 [ints l,iv n] (.bool (decide (n∈l))):=by
 refine lV nR h.hT ?_;simp only [H7,Lz];refine ev ?_;refine kZ (fun _ _=>false) (α:=Nat) (fun i=>⟨mJ [ints l,iv n,.any,.any,.bool false,.any,.any,ints l,iv (l.length:Nat),iv (i:Nat)],[],0,0,[],[]⟩) (fun i=>i<=l.length/\∀j,j<i->l.getD j 0≠n) (fun i=>l.length-i) rfl 0 ?_ ?_ ?_
 ·exact⟨by omega,by intro j hj;omega⟩
 ·exact JH
 rintro i ⟨hi,hj⟩;refine ev ?_;refine lG (fun hc=>?_) fun hc=>?_<;>(refine ev1 @hc ?_;try with_reducible exact aC)
 ·have hil:i<l.length:=by omega
  by_cases he:l.getD i 0=n
  ·refine ev1 @he ?_;have:n∈l:=by rw [<-he,aj,ak hil];exact jy hil
   rw [aT this]
  refine ev1 @he ?_;refine⟨i+1,by omega,⟨by omega,fun j hj'=>?_⟩,by exact JH⟩;by_cases e:j=i
  ·subst e;exact he
  exact hj j (by omega)
 have:n∉l:=by
  intro hm;obtain⟨j,hj'⟩:=bJ.1 hm;have hlt:=(aP.1 hj').1;refine hj j (by omega) ?_;rw [aj,hj'];rfl
 rw [bH this]
theorem aex{T:Tb}(h:Jj T){l:List Cd}(hw:DR Cd.wf l:=by exact rF)(hl:l.length<=1048576:=by exact rF):PF T 273 [Uc l] (.bool (JR l)):=by
 refine lV nR h.hT ?_;simp only [Ji,Lz];refine ev ?_;refine kZ (fun _ _=>false) (α:=Nat) (fun k=>⟨mJ [Uc l,.any,.bool false,.lQ 0 0 (Gg l k).length,iv ((k:Nat)-1)],[some ⟨1,kU (Gg l k)⟩],0,0,[],[]⟩) (fun k=>k<=l.length/\∀i,k<=i->i<l.length->aaX l i) (fun k=>k) rfl l.length ?_ ?_ ?_
 ·exact⟨by omega,by intro i h1 h2;omega⟩
 ·rw [amL]
  (refine kS ?_;exact Kr)
 rintro k ⟨hk,hj⟩;have hnl:=agJ l hk;refine ev ?_;refine lG (fun hc=>?_) fun hc=>?_<;>(refine ev1 @hc ?_;try with_reducible exact aC)
 ·obtain⟨m,rfl⟩:∃m,k=m+1:=⟨k-1,by omega⟩;have e0:((m+1:Nat):Int)-1=(m:Nat):=by omega
  have hil:m<l.length:=by omega
  have es:=amM l hil;have hmem:=agI l (m+1);have hwc:=hw.at_ hil;obtain⟨c,hcd⟩:∃c,l.getD m default=c:=⟨_,rfl⟩;have hat:=aaY hcd;rw [hcd]at hwc es;obtain⟨nl,hnd⟩:∃nl,Gg l (m+1)=nl:=⟨_,rfl⟩;rw [hnd]at hnl es hmem ⊢;have hps:=hwc.2.1;have cv:=wz h.oJ hwc;have ch:=YU h.H9 (l:=nl) (n:=c.node) (by omega);refine Dw @e0 @mg @hcd ?_;refine jK cv ?_
  cases hv:xA c
  ·refine ev ?_;rw [acd hil (by rw [hat,hv];simp)]
  refine Dw @e0 @mg @hcd ?_;refine jK ch ?_;by_cases hm:c.node∈nl
  ·rw [aT hm];refine ev ?_;have hb:=aki hv;rw [acd hil (by
    rw [hat];rintro⟨_,_,h3⟩;rcases(hmem c.node).1 hm with h|⟨j,h1,h2,h4⟩
    ·omega
    exact h3 j (by omega) h2 h4)]
  rw [bH hm];refine Dw @e0 @mg @hcd ?_;refine kZ (fun _ _=>false) (α:=Nat) (fun q=>⟨mJ [Uc l,.any,.bool false,.lQ 0 0 nl.length,iv (m:Nat),.any,.any,.any,.any,.any,.any,.any,.any,.any,.any,.any,.any,.any,.any,.any,.any,.any,.any,.any,.any,.any,.any,.any,.any,.any,.any,.any,.any,.any,QX c.ps,iv (c.ps.length:Nat),iv (q:Nat)],[some ⟨1,kU nl⟩],0,0,[],[]⟩) (fun q=>q<=c.ps.length/\∀r,r<q->(c.ps.getD r default).node∈nl) (fun q=>c.ps.length-q) rfl 0 ?_ ?_ ?_
  ·exact⟨by omega,by intro j hj;omega⟩
  ·(refine kS ?_;exact Kr)
  rintro q ⟨hq,hr⟩;refine ev ?_;refine lG (fun hd=>?_) fun hd=>?_<;>(refine xP @hd @mg ?_;try with_reducible exact aC)
  ·have hql:q<c.ps.length:=by omega
   have ch:=YU h.H9 (l:=nl) (n:=(c.ps.getD q default).node) (by omega);refine jK ch ?_;by_cases hm2:(c.ps.getD q default).node∈nl
   ·rw [aT hm2];refine ev ?_;refine⟨q+1,by omega,⟨by omega,fun r hr'=>?_⟩,by exact abZ⟩;by_cases e:r=q
    ·subst e;exact hm2
    exact hr r (by omega)
   rw [bH hm2];refine ev ?_;rw [acd hil (by
    rw [hat];rintro⟨_,h3,_⟩;refine hm2 ((hmem _).2 ?_);rcases h3 q hql with h|⟨j,h1,h2,h4⟩
    ·exact .inl h
    exact .inr ⟨j,by omega,h2,h4⟩)]
  refine Dw @e0 @mg @hcd ?_;simp only [Ad,es];refine⟨by omega,m,by omega,⟨by omega,fun i h1 h2=>?_⟩,?_⟩
  ·by_cases e:i=m
   ·subst e;rw [hat];refine⟨hv,fun k hk=>?_,fun j h1 h2 h3=>hm ((hmem _).2 (.inr ⟨j,by omega,h2,h3⟩))⟩;rcases(hmem _).1 (hr k (by omega))with h|⟨j,h1,h2,h3⟩
    ·exact .inl h
    exact .inr ⟨j,by omega,h2,h3⟩
   exact hj i (by omega) h2
  have:(Gg l m).length=nl.length+1:=by rw [<-es];simp
  rw [this]
  (refine Rh [(2,_)] (by simp) (by intro p hp;simp only [aI,bY,or_false]at hp;rcases hp with rfl<;>refine⟨rfl,?_⟩<;>first|exact uM _|simp [nU,V.still]) rfl ?_)<;>(try (refine ev ?_;try with_reducible exact aC))<;>(repeat' (first|exact aC|omega|exact Ac rfl (by simp)|refine⟨?_,?_⟩|exact gV (BO _ _ _)|exact pW rfl (by simp;done)|exact pW rfl rfl|(refine qK rfl ?_ rfl;simp [kU];done)|(refine qK rfl ?_ rfl;simp [kU];omega)|(refine D8 ?_ ?_;(focus ((refine ev ?_;try with_reducible exact aC);done));(intro q hq k s0 l0;simp;done))))
 have:JR l=true:=aip fun i hi=>hj i (by omega) hi;rw [this]
def AB:Fn:=⟨2,29,[.tmp 4],(sr [oN 4 mF] (.seq (sr [oW 8 0,oN 9 (cl 89 [8]),oN 10 (nt 9)] (cd 10 (sr [oN 4 mF] .ret) .skip)) (sr [oW 11 0,oN 12 (cl 180 [11]),oW 5 12] (.seq (sr [oW 13 5,oN 14 (ln 13),oN 15 (.qC (cI 0))] (.block 0 (.loop (sr [oN 16 (bt .lss 15 14)] (.seq (cd 16 .skip (.exit 0)) (.seq (.block 1 (sr [oN 17 (ix 1 13 15),oN 18 (lF 1 17),oW 7 18] (sr [oW 19 1,oW 20 7,oN 21 (cl 236 [19,20]),oN 22 (nt 21)] (cd 22 (sr [oN 4 mF] .ret) .skip)))) (rg [oN 23 (bc .add 15 1),oW 15 23]))))))) (sr [oW 24 1,oN 25 (ln 24),oW 26 5,oN 27 (ln 26),oN 28 (bt .eql 25 27),oW 4 28] .ret)))))⟩
structure JU (T:Tb):Prop where
 hT:T 221=some AB
 sO:vG T
 vV:vU T
 H9:H8 T
theorem qp{l:Lk}(h:ql l=true):0<=l.a/\l.a<l.b/\l.b<=9:=by
 unfold ql nd at h;simp only [aH,aZ]at h;omega
theorem wS{l:List Lk}(h:lN l=true){k:Nat}(hk:k<l.length):ql (l.getD k default)=true:=by
 have:=Qe.1 h k hk;unfold KR at this;simp only [aH]at this;exact this.1
theorem SL(l:List Lk):∀i,i<=l.length->Asc (AA l i)
 |0,_=>by rw [Us];exact List.Pairwise.nil
 |
  i+1,h=>by
  rw [Ut l h];unfold SH;refine Nl ?_;split
  ·exact Nl (SL l i (by omega))
  exact SL l i (by omega)
theorem YV(l:List Lk)(a:Int):∀i,i<=l.length->(a∈AA l i↔∃k,k<i/\((0<(l.getD k default).a/\a=(l.getD k default).a)\/a=(l.getD k default).b))
 |0,_=>by rw [Us];simp
 |
  i+1,h=>by
  rw [Ut l h];unfold SH;rw [JQ];have ih:=YV l a i (by omega);constructor
  ·rintro(h1|h1)
   ·exact⟨i,by omega,.inr h1⟩
   split at h1
   ·rename_i hp;rcases JQ.1 h1 with h1|h1
    ·exact⟨i,by omega,.inl ⟨hp,h1⟩⟩
    obtain⟨k,h2,h3⟩:=ih.1 h1;exact⟨k,by omega,h3⟩
   obtain⟨k,h2,h3⟩:=ih.1 h1;exact⟨k,by omega,h3⟩
  rintro⟨k,h2,h3⟩;by_cases e:k=i
  ·subst e;rcases h3 with ⟨h4,h5⟩|h5
   ·right;rw [aQ h4,JQ];exact .inl h5
   exact .inl h5
  right;have:=ih.2 ⟨k,by omega,h3⟩;split
  ·exact JQ.2 (.inr this)
  exact this
theorem Ux{l:List Lk}{v:Int}:ends l v=true↔∃k,k<l.length/\((l.getD k default).a=v\/(l.getD k default).b=v):=by
 constructor
 ·intro h;refine iC fun k=>?_;rw [YT fun j hj=>⟨fun e=>k ⟨j,hj,.inl e⟩,fun e=>k ⟨j,hj,.inr e⟩⟩]at h
  cases h
 rintro⟨k,hk,h⟩;exact Oa hk h
theorem JV(l:List Lk)(v:Nat)(a:Int):a∈zM l v↔1<=a/\a<v/\ends l a=true:=by
 unfold zM;rw [bF];constructor
 ·rintro⟨u,hu,rfl⟩;rw [fG,fF,aH,aZ]at hu;exact⟨by omega,by omega,hu.2.2⟩
 rintro⟨h1,h2,h3⟩;refine⟨a.toNat,?_,by omega⟩;rw [fG,fF,aH,aZ,show ((a.toNat:Nat):Int)=a by omega];exact⟨by omega,by omega,h3⟩
theorem YW(l:List Lk)(v:Nat):Asc (zM l v):=by
 unfold zM Asc;rw [iM];refine List.Pairwise.imp ?_ (List.Pairwise.filter _ List.pairwise_lt_range);intro a b h;omega
theorem amN{l:List Lk}(h:lN l=true):AA l l.length=zM l 10:=by
 refine Xw (SL l _ (aJ _)) (YW l 10) fun a=>?_;rw [YV l a _ (aJ _),JV,Ux];constructor
 ·rintro⟨k,hk,h1⟩;have:=qp (wS h hk);rcases h1 with ⟨h1,rfl⟩|rfl
  ·exact⟨by omega,by omega,k,hk,.inl rfl⟩
  exact⟨by omega,by omega,k,hk,.inr rfl⟩
 rintro⟨h1,h2,k,hk,h3⟩;have:=qp (wS h hk);rcases h3 with rfl|rfl
 ·exact⟨k,hk,.inl ⟨by omega,rfl⟩⟩
 exact⟨k,hk,.inr rfl⟩
def kF(l:List Lk):List Int:=if lN l=true then zM l 10 else []
theorem akj(l:List Lk):SI l=kF l:=by
 unfold SI kF;split
 ·rename_i h;exact amN h
 rfl
theorem JW{l:List Lk}(h:lN l=true):kF l=zM l 10:=aQ h
theorem amO{l:List Lk}(h:lN l=false):kF l=[]:=aN (by rw [h];simp)
theorem yR(l:List Lk):(kF l).length<=10:=by
 unfold kF;split
 ·exact SK l 10
 simp
theorem Gh(l:List Lk):Asc (kF l):=by
 unfold kF;split
 ·exact YW l 10
 exact List.Pairwise.nil
theorem DC{l:List Lk}{a:Int}(h:a∈kF l):1<=a/\a<=9:=by
 unfold kF at h;split at h
 ·have:=(JV l 10 a).1 h;omega
 cases h
theorem aey{T:Tb}(h:ED T){l:List Lk}(hw:DR Lk.wf l:=by exact rF)(hl:l.length<=1048576:=by exact rF):PF T 222 [nZ l] (ints (kF l)):=by
 rw [<-akj];exact agG h hw hl
def ace(l:List Lk)(o:List Int):Prop:=lN l=true/\o.length=(kF l).length/\∀x∈kF l,x∈o
instance (l:List Lk) (o:List Int):Decidable (ace l o):=inferInstanceAs (Decidable (_/\_/\_))
def JX(l:List Lk)(o:List Int):Bool:=decide (ace l o)
theorem agK{T:Tb}(h:JU T){l:List Lk}{o:List Int}(hw:DR Lk.wf l:=by exact rF)(ho:o.length<=1048576:=by exact rF):PF T 221 [nZ l,ints o] (.bool (JX l o)):=by
 have ci:=Jh h.sO hw;have cn:=agH h.vV hw
 cases hb:lN l
 ·rw [hb]at ci;rw [show JX l o=false from bH fun k=>by have:=k.1;rw [hb]at this;cases this];refine lV nR h.hT ?_;simp only [AB,Lz];refine ev ?_;refine jK ci ?_
  (refine ev ?_;try with_reducible exact aC)
 rw [hb]at ci;rw [<-JW hb]at cn;have hnl:=yR l;refine lV nR h.hT ?_;simp only [AB,Lz];refine ev ?_;refine jK ci ?_;refine ev ?_;refine jK cn ?_;refine ev ?_;obtain⟨nd,hnd⟩:∃nd,kF l=nd:=⟨_,rfl⟩;have hord:ace l o↔o.length=nd.length/\∀x∈nd,x∈o:=by
  unfold ace;rw [hnd];exact⟨fun h=>h.2,fun h=>⟨hb,h⟩⟩
 unfold JX;rw [hnd]at hnl ⊢;refine kZ (fun _ _=>false) (α:=Nat) (fun i=>⟨mJ [.any,ints o,.any,.any,.bool false,ints nd,.any,.any,.any,.any,.any,.any,.any,ints nd,iv (nd.length:Nat),iv (i:Nat)],[],0,0,[],[]⟩) (fun i=>i<=nd.length/\∀j,j<i->nd.getD j 0∈o) (fun i=>nd.length-i) rfl 0 ?_ ?_ ?_
 ·exact⟨by omega,by intro j hj;omega⟩
 ·exact JH
 rintro i ⟨hi,hj⟩;refine ev ?_;refine lG (fun hc=>?_) fun hc=>?_<;>(refine ev1 @hc ?_;try with_reducible exact aC)
 ·have hil:i<nd.length:=by omega
  have ch:=YU h.H9 (l:=o) (n:=nd.getD i 0) (by omega);refine jK ch ?_;by_cases hm:nd.getD i 0∈o
  ·rw [aT hm];refine ev ?_;refine⟨i+1,by omega,⟨by omega,fun j hj'=>?_⟩,by exact JH⟩;by_cases e:j=i
   ·subst e;exact hm
   exact hj j (by omega)
  rw [bH hm];refine ev ?_;rw [bH];rw [hord];rintro⟨_,h2⟩;refine hm (h2 _ ?_);rw [aj,ak hil];exact jy hil
 have hall:∀x∈nd,x∈o:=by
  intro x hx;obtain⟨j,hj'⟩:=bJ.1 hx;have hlt:=(aP.1 hj').1;have:=hj j (by omega);rw [aj,hj']at this;exact this
 by_cases e:o.length=nd.length
 ·rw [aT (hord.2 ⟨e,hall⟩)];simp [e]
 rw [bH fun k=>e (hord.1 k).1];simp;omega
theorem Uy{l:List Lk}{o:List Int}:ace l o↔(lN l=true/\o.length=(kF l).length)/\(∀x∈o,x∈kF l)/\o.Nodup:=by
 have hn:=Jw (Gh l);constructor
 ·rintro⟨h1,h2,h3⟩;have h4:=aer hn h3 (by omega);exact⟨⟨h1,h2⟩,VE hn h3 (by omega),h4⟩
 rintro⟨⟨h1,h2⟩,h3,h4⟩;exact⟨h1,h2,VE h4 h3 (by omega)⟩
theorem aiq{a b:St}(h:Fg a b:=by
 (refine Rh [] (by simp) (by intro p hp;cases hp) rfl ?_)<;>(try (refine ew ?_;try with_reducible exact aC))<;>(repeat' (first|exact aC|omega|exact Ac rfl (by simp)|refine⟨?_,?_⟩|exact gV (BO _ _ _)|exact pW rfl (by simp;done)|exact pW rfl rfl|(refine qK rfl ?_ rfl;simp [kU];done)|(refine qK rfl ?_ rfl;simp [kU];omega)|(refine D8 ?_ ?_;(focus ((refine ew ?_;try with_reducible exact aC);done));(intro q hq k s0 l0;simp;done))))):Fg a b:=h
theorem aez{a b:St}(h:Fg a b:=by
 (refine Rh [(0,_)] (by simp) (by intro p hp;simp only [aI,bY,or_false]at hp;rcases hp with rfl<;>refine⟨rfl,?_⟩<;>first|exact uM _|simp [nU,V.still]) rfl ?_)<;>(try (refine ew ?_;try with_reducible exact aC))<;>(repeat' (first|exact aC|omega|exact Ac rfl (by simp)|refine⟨?_,?_⟩|exact gV (BO _ _ _)|exact pW rfl (by simp;done)|exact pW rfl rfl|(refine qK rfl ?_ rfl;simp [kU];done)|(refine qK rfl ?_ rfl;simp [kU];omega)|(refine D8 ?_ ?_;(focus ((refine ew ?_;try with_reducible exact aC);done));(intro q hq k s0 l0;simp;done))))):Fg a b:=h
theorem amP{a b:St}(h:Fg a b:=by
 (simp only [<-Ad];refine KH (k:=2) (DU _ _) rfl ?_;(try (refine ew ?_;try with_reducible exact aC));(repeat' (first|exact aC|omega|exact DT (by simp) (by simp) (by simp)|refine⟨?_,?_⟩|exact pW rfl (by simp))))):Fg a b:=h
theorem asV{a b:St}(h:Fg a b:=by
 (simp only [<-Ad];refine KH (k:=3) (DU _ _) rfl ?_;(try (refine ew ?_;try with_reducible exact aC));(repeat' (first|exact aC|omega|exact DT (by simp) (by simp) (by simp)|refine⟨?_,?_⟩|exact pW rfl (by simp))))):Fg a b:=h
theorem Qg{T:Tb}(h:vU T){l:List Lk}(hw:DR Lk.wf l:=by exact rF):PO T 180 [nZ l] (ints (zM l 10)):=by
 have hlen:=hw.1;refine mM nR h.hT ?_;simp only [Az,Lz,St.enter,au,aG,aX];refine ew ?_;refine kZ (fun _ _=>false) (α:=Nat×List Int) (fun q=>⟨mJ [nZ l,.any,.kC,slV q.2.length,iv (q.1:Nat)],slS 1 (kU q.2),0,0,[],[]⟩) (fun q=>1<=q.1/\q.1<=10/\q.2=zM l q.1) (fun q=>10-q.1) rfl (1,[]) ?_ ?_ ?_
 ·exact⟨by omega,by omega,(aeu l).symm⟩
 ·exact aiq
 rintro⟨v,xs⟩ ⟨h1,h2,hx0⟩;dsimp only at h1 h2 hx0;have hx:xs.length<=10:=by rw [hx0];have:=SK l v;omega
 have es:=aev l h1;rw [<-hx0]at es
 (rcases xs with _|⟨x,xs⟩<;>simp only [aG,au,xG,wF,qE,oD]at hx ⊢)
 ·refine ew ?_;refine lG (fun hc=>?_) fun hc=>?_<;>(refine Ae @hc ?_;try with_reducible exact aC)
  ·refine kZ (fun _ _=>false) (α:=Nat) (fun k=>⟨mJ [nZ l,.any,.kC,.kC,iv (v:Nat),.any,.any,.any,.any,.any,.any,.any,nZ l,iv (l.length:Nat),iv (k:Nat)],[],0,0,[],[]⟩) (fun k=>k<=l.length/\∀r,r<k->(l.getD r default).a≠(v:Nat)/\(l.getD r default).b≠(v:Nat)) (fun k=>l.length-k) rfl 0 ?_ ?_ ?_
   ·exact⟨by omega,by intro j hj;omega⟩
   ·(refine kS ?_;exact uw)
   rintro k ⟨hk,hr⟩;refine ew ?_;refine lG (fun hd=>?_) fun hd=>?_<;>(refine AZ @hd @mg ?_;try with_reducible exact aC)
   ·have hkl:k<l.length:=by omega
    by_cases ha:(l.getD k default).a=(v:Nat)
    ·rw [Oa hkl (.inl ha)]at es;refine Ae @ha ?_;exact⟨by omega,(v+1,([])++[((v:Nat):Int)]),by dsimp only;omega,⟨by dsimp only;omega,by dsimp only;omega,es.symm⟩,by exact amP⟩
    by_cases hb:(l.getD k default).b=(v:Nat)
    ·rw [Oa hkl (.inr hb)]at es;refine AZ @ha @hb ?_;exact⟨by omega,(v+1,([])++[((v:Nat):Int)]),by dsimp only;omega,⟨by dsimp only;omega,by dsimp only;omega,es.symm⟩,by exact amP⟩
    refine AZ @ha @hb ?_;refine⟨k+1,by omega,⟨by omega,fun r hr'=>?_⟩,by exact aiq⟩;by_cases e:r=k
    ·subst e;exact⟨ha,hb⟩
    exact hr r (by omega)
   rw [YT fun r hr'=>hr r (by omega),aN (by simp),aU]at es;exact⟨(v+1,[]),by dsimp only;omega,⟨by dsimp only;omega,by dsimp only;omega,es.symm⟩,by exact aiq⟩
  have ev:v=10:=by omega
  subst ev;rw [<-hx0];exact qF
 refine ew ?_;refine lG (fun hc=>?_) fun hc=>?_<;>(refine Ae @hc ?_;try with_reducible exact aC)
 ·refine kZ (fun _ _=>false) (α:=Nat) (fun k=>⟨mJ [nZ l,.any,.kC,.lQ 0 0 (x::xs).length,iv (v:Nat),.any,.any,.any,.any,.any,.any,.any,nZ l,iv (l.length:Nat),iv (k:Nat)],[some ⟨1,kU (x::xs)⟩],0,0,[],[]⟩) (fun k=>k<=l.length/\∀r,r<k->(l.getD r default).a≠(v:Nat)/\(l.getD r default).b≠(v:Nat)) (fun k=>l.length-k) rfl 0 ?_ ?_ ?_
  ·exact⟨by omega,by intro j hj;omega⟩
  ·(refine kS ?_;exact uw)
  rintro k ⟨hk,hr⟩;refine ew ?_;refine lG (fun hd=>?_) fun hd=>?_<;>(refine AZ @hd @mg ?_;try with_reducible exact aC)
  ·have hkl:k<l.length:=by omega
   by_cases ha:(l.getD k default).a=(v:Nat)
   ·rw [Oa hkl (.inl ha)]at es;refine Ae @ha ?_;exact⟨by omega,(v+1,(x::xs)++[((v:Nat):Int)]),by dsimp only;omega,⟨by dsimp only;omega,by dsimp only;omega,es.symm⟩,by exact asV⟩
   by_cases hb:(l.getD k default).b=(v:Nat)
   ·rw [Oa hkl (.inr hb)]at es;refine AZ @ha @hb ?_;exact⟨by omega,(v+1,(x::xs)++[((v:Nat):Int)]),by dsimp only;omega,⟨by dsimp only;omega,by dsimp only;omega,es.symm⟩,by exact asV⟩
   refine AZ @ha @hb ?_;refine⟨k+1,by omega,⟨by omega,fun r hr'=>?_⟩,by exact aez⟩;by_cases e:r=k
   ·subst e;exact⟨ha,hb⟩
   exact hr r (by omega)
  rw [YT fun r hr'=>hr r (by omega),aN (by simp),aU]at es;exact⟨(v+1,x::xs),by dsimp only;omega,⟨by dsimp only;omega,by dsimp only;omega,es.symm⟩,by exact aez⟩
 have ev:v=10:=by omega
 subst ev;rw [<-hx0];exact Yu (o:=0) (l:=x::xs) rfl
theorem xB{k l:Lk}:lW k l=true↔k.a<l.a\/(k.a=l.a/\k.b<l.b):=by simp [lW]
theorem Jk{k l m:Lk}(h:lW k l=true)(h2:lW l m=true):lW k m=true:=by
 rw [xB]at *;omega
theorem aaZ{l:List Lk}(h:lN l=true){i:Nat}(hi:i+1<l.length):lW (l.getD i default) (l.getD (i+1) default)=true:=by
 have:=Qe.1 h (i+1) hi;unfold KR at this;simp only [aH,dX,aZ]at this;rcases this.2 with h|h
 ·omega
 exact h
theorem aeA{l:List Lk}(h:lN l=true):∀(j i:Nat),i<j->j<l.length->lW (l.getD i default) (l.getD j default)=true
 |0,i,hi,_=>by omega
 |
  j+1,i,hi,hj=>by
  have ha:=aaZ h hj;by_cases e:i=j
  ·subst e;exact ha
  exact Jk (aeA h j i (by omega) (by omega)) ha
theorem Uz{α:Type} [Inhabited α] {l:List α} {i:Nat} (h:i<l.length):l.getD i default=l[i]:=by
 rw [aj,ak h];rfl
theorem aeB{l:List Lk}(h:lN l=true):l.Pairwise fun k l=>lW k l=true/\0<=k.a/\k.a<k.b/\0<=l.a/\l.a<l.b:=by
 rw [fU];intro i j hi hj hij;have h1:=aeA h j i hij hj;have h2:=qp (wS h hi);have h3:=qp (wS h hj);rw [Uz hi,Uz hj]at h1;rw [Uz hi]at h2;rw [Uz hj]at h3;exact⟨h1,h2.1,h2.2.1,h3.1,h3.2.1⟩
theorem oL{l:List Lk}(h:lN l=true){x:Lk}(hx:x∈l):ql x=true:=by
 obtain⟨i,hi⟩:=bJ.1 hx;have hlt:=(aP.1 hi).1;have:=wS h hlt
 rwa [aj,hi]at this
def agL(v:Int)(x:Lk):Option Int:=if x.a=v then some x.b else if x.b=v then some x.a else none
def SN(v:Int)(out:List Int)(x:Lk):List Int:=if x.b=v then IJ (if x.a=v then IJ out x.b else out) x.a else(if x.a=v then IJ out x.b else out)
def nbS(l:List Lk)(v:Int)(i:Nat):List Int:=(l.take i).foldl (SN v) []
def nbI(l:List Lk)(v:Int)(i:Nat):List Int:=(l.take i).filterMap (agL v)
theorem take_snoc{α:Type} [Inhabited α] {l:List α} {i:Nat} (h:i<l.length):l.take (i+1)=l.take i++[l.getD i default]:=by
 rw [iY,ak h,aj,ak h];rfl
theorem agM{v:Int}{out:List Int}{x:Lk}{a:Int}:a∈SN v out x↔a∈out\/(x.a=v/\a=x.b)\/(x.b=v/\a=x.a):=by
 unfold SN;split<;>split<;>simp_all [JQ]<;>(constructor<;>rintro(h|h)<;>simp_all)
theorem air{v:Int}:∀(l:List Lk) (out:List Int) (a:Int),a∈l.foldl (SN v) out↔a∈out\/∃x∈l,(x.a=v/\a=x.b)\/(x.b=v/\a=x.a)
 | [],out,a=>by simp
 |
  x::l,out,a=>by
  rw [iE,air l,agM];simp only [aI,exists_eq_or_imp,or_assoc]
theorem agN{v:Int}{out:List Int}{x:Lk}(h:Asc out):Asc (SN v out x):=by
 unfold SN;split<;>split<;>first|exact Nl (Nl h)|exact Nl h|exact h
theorem Xx{v:Int}:∀(l:List Lk) (out:List Int),Asc out->Asc (l.foldl (SN v) out)
 | [],out,h=>h
 |x::l,out,h=>Xx l _ (agN h)
theorem asX{l:List Lk}(h:lN l=true)(v:Int):nbS l v l.length=nbI l v l.length:=by
 unfold nbS nbI;rw [bI];refine Xw (Xx _ _ .nil) ?_ fun a=>?_
 ·refine List.Pairwise.filterMap _ ?_ (aeB h);rintro k m ⟨h1,h2,h3,h4,h5⟩ b hb b' hb';rw [xB]at h1;unfold agL at hb hb';split at hb<;>split at hb'<;>(try split at hb)<;>(try split at hb')<;>simp_all<;>omega
 rw [air,List.mem_filterMap];simp only [bY,false_or];constructor
 ·rintro⟨x,hx,h1⟩;refine⟨x,hx,?_⟩;have:=qp (oL h hx);unfold agL;rcases h1 with ⟨h1,rfl⟩|⟨h1,rfl⟩
  ·rw [aQ h1]
  rw [aN (by omega),aQ h1]
 rintro⟨x,hx,h1⟩;refine⟨x,hx,?_⟩;unfold agL at h1;split at h1
 ·simp_all
 split at h1<;>simp_all
def EF:Fn:=⟨1,17,[.cell 2 3 true],(.seq (rf 2 [oN 1 (.box (.t 0)),oK 2 1 (.alloc uJ)]) (.seq (rt 4 [oK 3 4 (fd 0 1),oA 4 4 (fd 0 3) [0],oA 5 4 (lF 1 4) [1],oN 6 (.nO 1 Kt 0 []),oK 7 4 (fd 0 1),oA 8 4 (fd 1 7) [4],oA 9 4 (lF 1 8) [5],oA 10 1 (.app 1 8 (.t 6) (.t 9)) [3,6],oA 11 4 (.build zz3 [(0,1,(.t 5)),(1,1,(.t 10))]) [2,7],oK 12 2 (.nO 1 Kt 0 []),oK 13 4 (fd 2 1),oA 14 4 (lF 1 13) [10],oA 15 3 (.app 1 8 (.t 12) (.t 14)) [9,11,7],oA 16 4 (.build uJ [(0,2,(.t 11)),(2,1,(.t 15))]) [8,12],⟨none,none,4,.store 3 (.t 2) (.t 16),[13,12,0,1,2,3,4,5,6,7,8,9,10,11,12,13]⟩]) .ret))⟩
structure JY (T:Tb):Prop where
 hT:T 204=some EF
def EG:Fn:=⟨1,17,[.cell 2 11 true],(.seq (rf 2 [oN 1 (.box (.t 0)),oK 2 1 (.alloc I5)]) (.seq (rt 0 [oN 3 (fd 0 1),oA 4 0 (lF 1 3) [0],oN 5 (fd 1 1),oA 6 0 (lF 1 5) [2],oN 7 (fd 2 1),oA 8 0 (lT 3 7) [4],oA 9 0 (cl 204 [8]) [5],oN 10 (fd 5 1),oA 11 0 (lT 3 10) [7],oA 12 0 (cl 204 [11]) [8,6],oN 13 (fd 8 1),oA 14 0 (lT 3 13) [10],oA 15 0 (cl 204 [14]) [11,9],oA 16 0 (.build I5 [(0,1,(.t 4)),(1,1,(.t 6)),(2,3,(.t 9)),(5,3,(.t 12)),(8,3,(.t 15))]) [1,3,6,9,12],⟨none,none,0,.store 11 (.t 2) (.t 16),[13,12,0,1,2,3,4,5,6,7,8,9,10,11,12,13]⟩]) .ret))⟩
structure EH (T:Tb):Prop where
 hT:T 197=some EG
 JZ:JY T
def yS:Fn:=⟨2,31,[.tmp 4],(sr [oN 4 mN] (.seq (rf 1 [oN 8 (.nO 11 I5 0 []),oK 5 1 (oV 8)]) (.seq (sr [oW 9 0,oN 10 (ln 9),oN 11 (.qC (cI 0))] (.block 0 (.loop (sr [oN 12 (bt .lss 11 10)] (.seq (cd 12 .skip (.exit 0)) (.seq (.block 1 (.seq (rf 1 [oK 13 1 (ix 11 9 11),oK 14 1 (lT 11 13),oN 7 (.alloc I5),⟨none,none,1,.store 11 (.t 7) (.t 14),[]⟩]) (sr [oN 15 (fd 0 7),oN 16 (lF 1 15),oW 17 1,oN 18 (bt .neq 16 17),oW 19 18,oG 19 true 20 (fd 1 7),oG 19 true 21 (lF 1 20),oG 19 true 22 (oV 1),oG 19 true 23 (bt .neq 21 22),oN 24 (.pick (.t 19) (.t 23) (.c (.bool false)))] (cd 24 (rf 2 [oK 25 2 (oV 5),oK 26 2 (lT 11 7),oN 27 (.nO 11 I5 1 [(0,(.t 26))]),oK 28 1 (.app 11 184 (.t 25) (.t 27)),oK 5 2 (oV 28)]) .skip)))) (rg [oN 29 (bc .add 11 1),oW 11 29]))))))) (sr [oW 30 5,oW 4 30] .ret))))⟩
structure DF (T:Tb):Prop where
 hT:T 241=some yS
theorem Xy{r:R}{a b:V}(h1:nG (ints r.mag) a)(h2:nG (ints r.den) b):nG (lD r) (.agg [.bool r.neg,a,b]):=by
 simp only [P8,Vt,Vr,Na,true_and,and_true];exact⟨h1,h2⟩
theorem QG{l:List Int}(h:kU l=[]):nG (ints l) .kC:=by
 show nG (.sl 1 (kU l)) .kC;rw [h];exact gV (qg 1)
theorem VF{T:Tb}(h:JY T){r:R}(hl:r.sz<=1048576:=by exact rF):PF T 204 [lD r] (lD r):=by
 simp only [R.sz]at hl;refine kX nR h.hT ?_;simp only [EF,Lz];refine ev ?_;refine⟨fun e1=>⟨fun e2=>?_,fun e2=>⟨by omega,?_⟩⟩,fun e1=>⟨by omega,fun e2=>?_,fun e2=>⟨by omega,?_⟩⟩⟩
 ·refine⟨by unfold sF;decide +kernel,?_⟩;exact Xy (QG e1) (QG e2)
 ·refine⟨by unfold sF;decide +kernel,?_⟩;exact Xy (QG e1) (kR _)
 ·refine⟨by unfold sF;decide +kernel,?_⟩;exact Xy (kR _) (QG e2)
 refine⟨by unfold sF;decide +kernel,?_⟩;exact Xy (kR _) (kR _)
theorem QH{T:Tb}(h:EH T){x:Lk}(hl:x.sz<=1048576:=by exact rF):PF T 197 [Wu x] (Wu x):=by
 simp only [Lk.sz,R.sz]at hl;refine kX nR h.hT ?_;simp only [EG,Lz];refine ev ?_;refine jK (VF h.JZ (r:=x.w) (by simp only [R.sz];omega)) ?_;refine ev ?_;refine jK (VF h.JZ (r:=x.dx) (by simp only [R.sz];omega)) ?_;refine ev ?_;refine jK (VF h.JZ (r:=x.dy) (by simp only [R.sz];omega)) ?_;refine ev ?_;refine⟨by unfold sF;decide +kernel,?_⟩;refine ev ?_;exact kR _
def Xz(v:Int)(x:Lk):Bool:=decide (x.a≠v)&&decide (x.b≠v)
def wo(l:List Lk)(v:Int)(i:Nat):List Lk:=(l.take i).filter (Xz v)
theorem aEx(l:List Lk)(v:Int):wo l v 0=[]:=by simp [wo]
theorem avy(l:List Lk)(v:Int):wo l v l.length=l.filter (Xz v):=by simp [wo]
theorem aEy(l:List Lk)(v:Int){i:Nat}(h:i<l.length):wo l v (i+1)=wo l v i++(if Xz v (l.getD i default)=true then [l.getD i default]else []):=by
 unfold wo;rw [take_snoc h,List.filter_append,List.filter_cons];split<;>simp
theorem avz(l:List Lk)(v:Int)(i:Nat):(wo l v i).length<=i:=by
 unfold wo;exact dw (jY _ _) (by simp;omega)
abbrev Lk0:Lk:=⟨0,0,R0,R0,R0⟩
theorem LZ:nG (Wu Lk0) (.agg [iv 0,iv 0,.bool false,.kC,.kC,.bool false,.kC,.kC,.bool false,.kC,.kC]):=by
 show nG (.agg [iv 0,iv 0,.bool false,.sl 1 [],.sl 1 [],.bool false,.sl 1 [],.sl 1 [],.bool false,.sl 1 [],.sl 1 []]) _;simp only [P8,Vt,Vr,Na,amg,qg,and_true]
theorem Np{v w:V}{b:Bool}(h:nG v w):nG (.oU [v,.bool b]) (.oU [w,.bool b]):=by
 simp only [nG,wJ];exact⟨_,rfl,_,_,rfl,h,_,_,rfl,rfl,rfl⟩
def lkP(a b:Int)(x:Lk):Bool:=(decide (x.a=a)&&decide (x.b=b))||(decide (x.a=b)&&decide (x.b=a))
def aq3(l:List Lk)(a b:Int):Option Lk:=l.find? (lkP a b)
theorem amQ{l:List Lk}{a b:Int}{x:Lk}(h:aq3 l a b=some x):x∈l:=List.mem_of_find?_eq_some h
theorem Oe{T:Tb}(h:vC T){n:Int}(hn:0<=n/\n<18446744073709551616:=by exact rF):PO T 69 [.int .u64 n] (ints (mk n.toNat)):=by
 have hlen:(mk n.toNat).length<=3:=l9.2 (by omega);refine mM nR h.hT ?_;simp only [xU,Lz,St.enter,au,aG,aX];refine ew ?_;refine kZ (fun _ _=>false) (α:=Nat×List Int) (fun q=>⟨mJ [.int .u64 (q.1:Nat),.any,.any,slV q.2.length],slS 1 (kU q.2),0,0,[],[]⟩) (fun q=>q.2++mk q.1=mk n.toNat/\q.1<=n.toNat) (fun q=>q.1) rfl (n.toNat,[]) ?_ ?_ ?_
 ·exact⟨rfl,aJ _⟩
 ·first|((refine kS ?_;exact uw);done)|((refine Rh [] (by simp) (by intro p hp;cases hp) rfl ?_)<;>(try (refine ew ?_;try with_reducible exact aC))<;>(repeat' (first|exact aC|omega|exact Ac rfl (by simp)|refine⟨?_,?_⟩|exact gV (BO _ _ _)|exact pW rfl (by simp;done)|exact pW rfl rfl|(refine qK rfl ?_ rfl;simp [kU];done)|(refine qK rfl ?_ rfl;simp [kU];omega)|(refine D8 ?_ ?_;(focus ((refine ew ?_;try with_reducible exact aC);done));(intro q hq k s0 l0;simp;done))));done)
 rintro⟨m,xs⟩ ⟨hm,hle⟩;dsimp only at hm hle;have hx:xs.length<=3:=by
  have:=congrArg List.length hm;simp at this;omega
 have e1:((m:Int).tmod 1000000000)=((m % 1000000000:Nat):Int):=by rw [Sm (by omega)];omega
 have e2:((m:Int).tdiv 1000000000)=((m / 1000000000:Nat):Int):=by rw [Sr (by omega)];omega
 have key:0<m->(xs++[((m % 1000000000:Nat):Int)])++mk (m / 1000000000)=mk n.toNat:=fun h=>by
  rw [<-hm,mk_pos (n:=m) (by omega)];simp
 (rcases xs with _|⟨x,xs⟩<;>simp only [aG,au,xG,wF,qE,oD]at hx ⊢)
 ·refine ew ?_;refine lG (fun hb=>?_) fun hb=>?_<;>(refine Dy @hb @e1 @e2 ?_;try with_reducible exact aC)
  ·exact⟨by omega,(m / 1000000000,[]++[((m % 1000000000:Nat):Int)]),by dsimp only;omega,⟨key (by omega),by dsimp only;omega⟩,by (simp only [<-Ad];refine KH (k:=1) (DU _ _) rfl ?_;(try (refine ew ?_;try with_reducible exact True.intro));(repeat' (first|exact True.intro|omega|exact DT (by simp) (by simp) (by simp)|refine⟨?_,?_⟩|exact pW rfl (by simp))))⟩
  have e:mk n.toNat=[]:=by rw [<-hm,show m=0 by omega,mk_zero];rfl
  rw [e];exact qF
 refine ew ?_;refine lG (fun hb=>?_) fun hb=>?_<;>(refine Dy @hb @e1 @e2 ?_;try with_reducible exact aC)
 ·refine⟨by omega,(m / 1000000000,(x::xs)++[((m % 1000000000:Nat):Int)]),by dsimp only;omega,⟨key (by omega),by dsimp only;omega⟩,by exact amP⟩
 have e:x::xs=mk n.toNat:=by rw [<-hm,show m=0 by omega,mk_zero];simp
 rw [<-e];exact Yu (o:=0) (l:=x::xs) rfl
theorem agO{T:Tb}(h:xW T){l:List Int}{σ:Store}{o:Nat}(h0:jQ σ o=some ⟨1,kU l⟩)(hl:l.length<=1048576:=by exact rF) :
  Run T (.fn 151 [.lQ o 0 l.length] σ) (.fn (.lQ o 0 (trim l).length) σ):=by
 have:∃r σ',Run T (.fn 151 [.lQ o 0 l.length] σ) (.fn r σ')/\(r=.lQ o 0 (trim l).length/\σ'=σ):=by
  have htl:∀n,n<=l.length->yE l l.length=yE l n->(n=0\/l.getD (n-1) 0≠0)->(trim l).length=n:=by
   intro n hn h1 h2;unfold trim;rw [h1,eu]
   cases n with
   |zero=>simp [yE]
   |
    succ m =>
    simp only [Nat.add_sub_cancel]at h2;simp only [yE];rw [aN (by omega)];omega
  refine run_end nR h.hT ?_;simp only [Af,Lz,St.enter,au,aG,aX];refine ew ?_;refine Ae @h0 ?_;refine kZ (fun _ _=>false) (α:=Nat) (fun n=>⟨mJ [.lQ o 0 l.length,.any,.any,iv (n:Nat)],σ,σ.length,0,[],[]⟩) (fun n=>n<=l.length/\yE l l.length=yE l n) (fun n=>n) rfl l.length ?_ ?_ ?_
  ·exact⟨by omega,rfl⟩
  ·(refine kS ?_;exact uw)
  rintro n ⟨hn,ht⟩;refine Ae @h0 ?_;refine lG (fun hb=>?_) fun hb=>?_
  ·obtain⟨m,rfl⟩:∃m,n=m+1:=⟨n-1,by omega⟩;have e1:((m+1:Nat):Int)-1=(m:Nat):=by omega
   refine Dy @h0 @e1 @hb ?_;refine lG (fun hc=>?_) fun hc=>?_<;>(refine AZ @hc @h0 ?_;try with_reducible exact aC)
   ·refine⟨m,by omega,⟨by omega,?_⟩,by (refine kS ?_;exact uw)⟩;rw [ht];simp only [yE,hc,if_true]
   rw [htl (m+1) hn ht (by simp only [Nat.add_sub_cancel];omega)]
  have:n=0:=by omega
  subst this;rw [htl 0 hn ht (by omega)]
  (refine AZ @h0 @hb ?_;try with_reducible exact aC)
 obtain⟨r,σ',h1,rfl,rfl⟩:=this;exact h1
theorem SQ{T:Tb}(h:oh T){neg:Bool}{n:Nat}{σ:Store}{o:Nat}(h0:jQ σ o=some ⟨1,kU (mk n)⟩)(hn:0<n)(hl:(mk n).length<=60:=by exact rF) :
  ∃σ',Run T (.fn 68 [.bool neg,.lQ o 0 (mk n).length] σ) (.fn (.agg [.bool neg,.lQ o 0 (mk n).length]) σ')/\(∀q,q<σ.length->jQ σ' q=jQ σ q)/\σ.length<=σ'.length:=by
 have:∃r σ',Run T (.fn 68 [.bool neg,.lQ o 0 (mk n).length] σ) (.fn r σ')/\(r=.agg [.bool neg,.lQ o 0 (mk n).length]/\(∀q,q<σ.length->jQ σ' q=jQ σ q)/\σ.length<=σ'.length):=by
  have hp:=F8.2 hn;refine run_end nR h.hT ?_;simp only [vN,Lz,St.enter,au,aG,aX];refine ew ?_;have hlt:=lH h0;have c1:¬(((mk n).length:Nat):Int)=0:=by omega
  have c2:¬(60:Int)<((mk n).length:Nat):=by omega
  refine D6 @h0 @hlt @c1 @c2 ?_;exact⟨fun q hq=>kV hq,by omega⟩
 obtain⟨r,σ',h1,rfl,h2,h3⟩:=this;exact⟨σ',h1,h2,h3⟩
theorem aa0{T:Tb}(h:BR T){m n:Nat}(hn:0<n)(la:(mk m).length<=900:=by exact rF)(lb:(mk n).length<=900:=by exact rF) :
  PX T 138 [ints (mk m),ints (mk n)] [(true,ints (mk (m / n))),(false,ints (mk (m % n)))]:=by
 obtain⟨A,hA⟩:∃A,mk m=A:=⟨_,rfl⟩;obtain⟨B,hB⟩:∃B,mk n=B:=⟨_,rfl⟩;have hva:val A=m:=by rw [<-hA,val_mk]
 have hbA:Lb A:=hA▸wC m;have hbB:Lb B:=hB▸wC n;rw [hA]at la ⊢;rw [hB]at lb ⊢;refine Uf (fun x d=>(x == 69&&d == 28)||(x == 151&&d == 74)) h.hT ?_;simp only [BQ,Lz,St.enter,au,aG,aX];refine ew ?_;have cas:(((A.length:Nat):Int)<=2/\((B.length:Nat):Int)<=2)\/((((A.length:Nat):Int)<=2/\¬((B.length:Nat):Int)<=2)\/¬((A.length:Nat):Int)<=2):=by omega
 rcases cas with ⟨c1,c2⟩|big
 ·have sm:m<1000000000000000000:=by
   have:=zL hbA;rw [hva]at this;exact bD this (dw (gI (by omega) (show A.length<=2 by omega)) (by omega))
  have sn:n<1000000000000000000:=by
   have:=zL hbB;rw [<-hB,val_mk]at this;exact bD this (dw (gI (by omega) (show (mk n).length<=2 by rw [hB];omega)) (by omega))
  have cs:=F7 h.uH sm;have ct:=F7 h.uH sn;rw [hA]at cs;rw [hB]at ct;have e1:((m:Nat):Int).tdiv (n:Nat)=((m / n:Nat):Int):=by rw [gQ (by omega),Int.natCast_ediv]
  have e2:((m:Nat):Int).tmod (n:Nat)=((m % n:Nat):Int):=by rw [iZ (by omega),kG]
  have d1:m / n<=m:=Nat.div_le_self ..;have d2:m % n<=m:=Nat.mod_le ..;have nz:¬((n:Nat):Int)=0:=by omega
  generalize m / n=q at *;generalize m % n=r at *;have c3:=Ag h.nS (n:=((q:Nat):Int)) (by omega);have c4:=Ag h.nS (n:=((r:Nat):Int)) (by omega);rw [gU]at c3 c4;refine AZ @c1 @c2 ?_;refine jK cs ?_;refine ew ?_;refine jK ct ?_;refine Dy @nz @e1 @e2 ?_;have p3:=Oe h.nS (n:=((q:Nat):Int)) (by omega);rw [gU]at p3;refine sK p3 (by (refine ew ?_;try with_reducible exact aC)) (by (refine ew ?_;try with_reducible exact aC)) ?_;intro v1 s1 o1 g;refine Dy @nz @e1 @e2 ?_;refine jK c4 ?_;refine ew ?_;refine⟨by unfold sF;decide +kernel,?_⟩;exact .inl (aqU g.ow g.nd rfl)
 rcases big with ⟨c1,c2⟩|c1
 case' inl=>(refine AZ @c1 @c2 ?_;try with_reducible exact aC)
 case' inr=>(refine Ae @c1 ?_;try with_reducible exact aC)
 all_goals
  refine⟨by omega,?_⟩;rw [RY];refine kZ (fun x d=>(x == 69&&d == 28)||(x == 151&&d == 74)) (α:=Nat×List Int×Nat) (fun q=>⟨mJ [ints A,ints B,.any,.any,.any,.any,.any,.any,.lQ 0 0 A.length,ints (mk q.2.2),iv ((q.1:Nat)-1)],[some ⟨1,kU q.2.1⟩],0,0,[],[]⟩) (fun q=>q.1<=A.length/\q.2.1.length=A.length/\Lb q.2.1/\(∀j,j<q.1->q.2.1.getD j 0=0)/\q.2.2<n/\val (A.drop q.1)=val (q.2.1.drop q.1)*n+q.2.2) (fun q=>q.1) rfl (A.length,List.replicate A.length 0,0) ?_ ?_ ?_
  ·exact⟨by omega,by simp,RZ _,by intro j _;simp [List.getD_eq_getElem?_getD,List.getElem?_replicate];split<;>rfl,hn,by dsimp only;rw [nK (Nat.le_refl _),nK (by simp)];simp⟩
  ·rw [mk_zero];exact aez
  rintro⟨k,Q,x⟩ ⟨hk,hQ,hQb,hz,hx,hv⟩;dsimp only at hk hQ hQb hz hx hv;by_cases k0:k=0
  ·subst k0;rw [dA,dA,hva]at hv;obtain⟨q1,q2⟩:=NW hv hx;have e0:¬(0:Int)<=((0:Nat):Int)-1:=by omega
   refine Ae @e0 ?_;have hr:=agO h.uf (l:=Q) (σ:=[some ⟨1,kU Q⟩]) (o:=0) rfl (by omega);rw [hQ]at hr;refine Xq hr rfl (aJ _) (by simp) ?_;refine ew ?_;rw [<-q1,<-q2];exact .inr (ams (by have:=(aaR Q).2;omega) (by rw [<-(aaR Q).1,CS hQb]) rfl)
  obtain⟨i,rfl⟩:∃i,k=i+1:=⟨k-1,by omega⟩;have e0:(((i+1:Nat):Int)-1)=(i:Nat):=by omega
  have e1:((i:Nat):Int)<(A.length:Nat):=by omega
  have e2:(0:Int)<=(i:Nat):=by omega
  rw [e0];have ga:=wE hbA i;have hvi:=qW A i;obtain⟨t,ht⟩:∃t,(A.getD i 0).toNat+1000000000*x=t:=⟨_,rfl⟩;have htn:t<n*1000000000:=by omega
  have lt':(A.getD i 0::mk x).length<=1048576:=by
   have:(mk x).length<=B.length:=by rw [l9];exact Nat.lt_trans hx (by have:=zL hbB;rw [<-hB,val_mk,hB]at this;exact this)
   simp only [au];omega
  have tr:trim (A.getD i 0::mk x)=mk t:=by
   rw [CS (by intro y hy;rcases aI.1 hy with rfl|hy;exact ga;exact wC x y hy),<-ht,val,val_mk]
  have ct:=Nc h.uf (l:=A.getD i 0::mk x) lt';rw [tr]at ct;have ely:∀y,y<=t->(mk y).length<=901:=by
   intro y hy;have:(mk y).length<=B.length+1:=by
    rw [l9,jk];have:=zL hbB;rw [<-hB,val_mk,hB]at this;exact bD (iG hy htn) (dG _ (Nat.le_of_lt this))
   omega
  have lx:=ely;refine AZ @e2 @e1 ?_;refine⟨fun e3=>?_,fun e3=>?_⟩
  case' refine_1 =>
   have x0:mk x=[]:=by cases hm:mk x with|nil=>rfl|cons a l=>rw [hm]at e3;cases e3
   rw [x0]at ct;rw [show [[V.int IntKind.i64 (A.getD i 0)]]=kU [A.getD i 0]from rfl]
   (refine ew ?_;try with_reducible exact aC)
  case' refine_2 =>
   refine Ae @e3 ?_;rw [show [V.int IntKind.i64 (A.getD i 0)]::kU (mk x)=kU (A.getD i 0::mk x)from rfl];refine ew ?_;have lm:=lt';simp only [au]at lm;refine⟨by omega,?_⟩
  all_goals
   clear lt';refine jK ct ?_;refine ew ?_;refine kZ (fun x d=>(x == 69&&d == 28)||(x == 151&&d == 74)) (α:=List Int×Nat) (fun q=>⟨mJ [ints A,ints B,.any,.any,.any,.any,.any,.any,.lQ 0 0 A.length,ints (mk q.2),iv (i:Nat)],[some ⟨1,kU q.1⟩],0,0,[],[]⟩) (fun q=>q.1.length=A.length/\Lb q.1/\(∀j,j<i->q.1.getD j 0=0)/\q.1.drop (i+1)=Q.drop (i+1)/\q.2+(q.1.getD i 0).toNat*n=t) (fun q=>q.2) rfl (Q,t) ?_ ?_ ?_
   ·exact⟨hQ,hQb,fun j hj=>hz j (by omega),rfl,by dsimp only;rw [hz i (by omega)];simp⟩
   ·exact aez
   rintro⟨P,y⟩ ⟨hP,hPb,hzP,hd,hy⟩;dsimp only at hP hPb hzP hd hy;have yt:y<=t:=by omega
   have ly:=ely y yt;have cc:=YA h.GI (wY y) (wY n) (by omega) (by rw [hB];omega);rw [val_mk,val_mk,hB]at cc;refine ew ?_;refine jK cc ?_;refine ew ?_;refine lG (fun c3=>?_) fun c3=>?_<;>(refine Ae @c3 ?_;try with_reducible exact aC)
   ·have hny:n<=y:=yG.1 c3;obtain⟨d,pg,d0,d1,d2⟩:=YC h.OL hn hny (by omega) (by omega) (by rw [hB];omega);rw [hB]at pg;have pm:=YB h.GK (m:=n) (n:=d) (by rw [hB];omega) (by rw [mk_one d0 d1];simp);have dn:n*d<=y:=by rw [dS];exact d2
    have lnd:=ely (n*d) (by omega);have ps:=Uh h.BU dn (by omega) (by omega);rw [hB,mk_one d0 d1]at pm;have gp:=wE hPb i;have y2:y-n*d+((P.getD i 0).toNat+d)*n=t:=by rw [gJ,dS d n];omega
    have gp2:P.getD i 0+d<1000000000:=by
     have:((P.getD i 0).toNat+d)*n<1000000000*n:=by rw [dS 1000000000];omega
     have:=Nat.lt_of_mul_lt_mul_right this;omega
    have d0':0<n*d:=Nat.mul_pos hn d0;have k1:=NQ (l:=P) (i:=i) (d:=P.getD i 0+d) (by omega) gp2 hPb;have k2:∀j,j<i->(P.set i (P.getD i 0+d)).getD j 0=0:=by
     intro j hj;rw [sV,aN (by omega)];exact hzP j hj
    have k3:(P.set i (P.getD i 0+d)).drop (i+1)=Q.drop (i+1):=by rw [List.drop_set_of_lt (by omega),hd]
    have k4:((P.set i (P.getD i 0+d)).getD i 0)=P.getD i 0+d:=by rw [sV,aQ ⟨rfl,by omega⟩]
    have k5:y-n*d+((P.set i (P.getD i 0+d)).getD i 0).toNat*n=t:=by
     rw [k4,show (P.getD i 0+(d:Int)).toNat=(P.getD i 0).toNat+d by omega];exact y2
    have k6:y-n*d<y:=by omega
    clear y2 hy htn ht hvi k4 hzP hd d2 lx ely hv hz hx;refine jK pg ?_;refine ew ?_;rw [show [[V.int IntKind.i64 (d:Int)]]=kU [(d:Int)]from rfl];refine ew ?_;refine jK pm ?_;refine ew ?_;refine jK ps ?_;refine AZ @e1 @hP ?_;exact⟨(P.set i (P.getD i 0+d),y-n*d),k6,⟨by simp [hP],k1,k2,k3,k5⟩,by exact aez⟩
   have hny:y<n:=by
    have:=@yG y n;omega
   have k1:=qW P i;rw [hd]at k1;have k2:val (A.drop i)=val (P.drop i)*n+y:=by
    rw [hvi,hv,k1,gJ,jC,<-ig];omega
   exact⟨(i,P,y),by dsimp only;omega,⟨by dsimp only;omega,hP,hPb,hzP,hny,k2⟩,by (refine kS ?_;exact uw)⟩
theorem YX{σ:Store}{b:Bool}{v:V}{l:List Int}{os:List Nat}(h:mP σ v (ints l) os):mP σ (.agg [.bool b,v]) (.agg [.bool b,ints l]) os:=ru (qV (by simpa using qQ h qm))
theorem UA{σ:Store}{b:Bool}{v w:V}{l m:List Int}{o1 o2:List Nat}(h:mP σ v (ints l) o1)(k:mP σ w (ints m) o2):mP σ (.agg [.bool b,v,w]) (.agg [.bool b,ints l,ints m]) (o1++o2) :=
 ru (qV (qQ h (by simpa using qQ k qm)))
theorem amR{σ:Store}:mP σ (lD R0) (lD R0) []:=UA (o1:=[]) (o2:=[]) nP nP
theorem Og{σ:Store}:Fin σ (.agg [.bool false,.kC,.kC]) (lD R0):=⟨_,[],sU,amR,.nil⟩
theorem mP.azA{σ:Store}{v:V}{l:List Int}{os:List Nat}(h:mP σ v (ints l) os):lenOf σ v=some l.length:=by
 rcases h.yZ with ⟨rfl,rfl,_⟩|⟨o,rfl,h1,_⟩
 ·rfl
 simp [lenOf,h1]
theorem Qh{T:Tb}(h:oh T){neg:Bool}{σ:Store}{v:V}{os:List Nat}(h0:mP σ v (ints []) os) :
  ∃σ',Run T (.fn 68 [.bool neg,v] σ) (.fn (.agg [.bool false,.kC]) σ')/\(∀q,q<σ.length->jQ σ' q=jQ σ q)/\σ.length<=σ'.length:=by
 have:∃r σ',Run T (.fn 68 [.bool neg,v] σ) (.fn r σ')/\(r=.agg [.bool false,.kC]/\(∀q,q<σ.length->jQ σ' q=jQ σ q)/\σ.length<=σ'.length):=by
  rcases h0.yZ with ⟨_,rfl,_⟩|⟨o,rfl,h1,_⟩
  ·have hz:((0:Nat):Int)=0:=rfl;refine run_end nR h.hT ?_;simp only [vN,Lz,St.enter,au,aG,aX];refine ew ?_;refine Ae @hz ?_;exact⟨fun q hq=>kV hq,by omega⟩
  have hlt:=lH h1;have hz:((0:Nat):Int)=0:=rfl;simp only [aG];refine run_end nR h.hT ?_;simp only [vN,Lz,St.enter,au,aG,aX];refine ew ?_;refine Dy @h1 @hlt @hz ?_;exact⟨fun q hq=>kV hq,by omega⟩
 obtain⟨r,σ',h1,rfl,h2,h3⟩:=this;exact⟨σ',h1,h2,h3⟩
theorem aeC{T:Tb}(h:oh T){as:List Src}{dst:Option Nat}{env:Nat->V}{σ:Store}{kp bs:Nat}{rs ms:List Nat}{k:St->Prop}{neg:Bool}{n o:Nat}
  (h0:jQ σ o=some ⟨1,kU (mk n)⟩) (hn:0<n) (ha:(as.map fun s=>s.ev env)=[.bool neg,.lQ o 0 (mk n).length]) (hl:(mk n).length<=60)
  (hk:∀σ2:Store,(∀q,q<σ.length->jQ σ2 q=jQ σ q)->σ.length<=σ2.length->k ⟨oO env dst (.agg [.bool neg,.lQ o 0 (mk n).length]),σ2,kp,bs,rs,ms⟩):QW T 68 as dst ⟨env,σ,kp,bs,rs,ms⟩ k:=by
 have e1:Ij [o] σ=[some ⟨1,kU (mk n)⟩]:=by simp [Ij,h0,Ju]
 obtain⟨σ',hr,hold,hlen⟩:=SQ h (neg:=neg) (n:=n) (σ:=Ij [o] σ) (o:=0) (by rw [e1];rfl) hn hl;refine Vx (ρ:=[o]) (by simp) (fun q hq=>⟨_,by simp at hq;subst hq;exact h0⟩) ?_ hr (fun q hq=>hold q (by rw [e1];exact hq)) ?_
 ·have:=congrArg (List.map (lS (place [o]))) ha;rw [fQ]at this;refine Eq.trans this ?_;simp [lS,place]
 intro σ2 h1 h2;have:=hk σ2 h1 h2;simpa [lS,lS.IZ,back]using this
theorem akk{T:Tb}(h:oh T){as:List Src}{dst:Option Nat}{env:Nat->V}{σ:Store}{kp bs:Nat}{rs ms:List Nat}{k:St->Prop}{neg:Bool}{v:V}{os:List Nat}
  (h0:mP σ v (ints []) os) (ha:(as.map fun s=>s.ev env)=[.bool neg,v])
  (hk:∀σ2:Store,(∀q,q<σ.length->jQ σ2 q=jQ σ q)->σ.length<=σ2.length->k ⟨oO env dst (.agg [.bool false,.kC]),σ2,kp,bs,rs,ms⟩):QW T 68 as dst ⟨env,σ,kp,bs,rs,ms⟩ k:=by
 rcases h0.yZ with ⟨_,rfl,_⟩|⟨o,rfl,h1,_⟩
 ·obtain⟨σ',hr,hold,hlen⟩:=Qh h (neg:=neg) (σ:=Ij [] σ) (v:=.sl 1 []) (os:=[]) nP;refine Vx (ρ:=[]) (by simp) (by simp) ?_ hr (fun q hq=>by simp at hq) ?_
  ·have:=congrArg (List.map (lS (place []))) ha;rw [fQ]at this;refine Eq.trans this ?_;simp [lS,place]
  intro σ2 h1 h2;have:=hk σ2 h1 h2;simpa [lS,lS.IZ,back]using this
 have e1:Ij [o] σ=[some ⟨1,kU []⟩]:=by simp [Ij,h1,Ju]
 obtain⟨σ',hr,hold,hlen⟩:=Qh h (neg:=neg) (σ:=Ij [o] σ) (v:=.lQ 0 0 ([]:List Int).length) (os:=[0]) (Ud (by rw [e1];rfl));refine Vx (ρ:=[o]) (by simp) (fun q hq=>⟨_,by simp at hq;subst hq;exact h1⟩) ?_ hr (fun q hq=>hold q (by rw [e1];exact hq)) ?_
 ·have:=congrArg (List.map (lS (place [o]))) ha;rw [fQ]at this;refine Eq.trans this ?_;simp [lS,place]
 intro σ2 h1 h2;have:=hk σ2 h1 h2;simpa [lS,lS.IZ,back]using this
theorem SS{T:Tb}(h:xX T){n d:Int}(ln:(mk n.natAbs).length<=60:=by exact rF)(ld:(mk d.natAbs).length<=60:=by exact rF) :
  PO T 144 [Xo (bi n),Xo (bi d)] (lD (Q.raw (TG n d))):=by
 by_cases hd:d=0
 ·subst hd;have e:TG n 0=none:=rfl;rw [e];refine mM nR h.hT ?_;simp only [vP,Lz,St.enter,au,aG,aX];refine ew ?_;have c1:(((mk (0:Int).natAbs).length:Nat):Int)=0:=by
   show (((mk 0).length:Nat):Int)=0;rw [ab2];rfl
  refine Ae @c1 ?_;exact Og
 rw [ab4 hd];have hg:0<Nat.gcd n.natAbs d.natAbs:=jE _ (by omega);have cg:=YE h.Ho (m:=n.natAbs) (n:=d.natAbs) (by omega) (by omega);have lg:(mk (Nat.gcd n.natAbs d.natAbs)).length<=60:=dw (N7 (Nat.le_of_dvd (by omega) (Nat.gcd_dvd_right _ _))) ld;have l1:=Vz n.natAbs (Nat.gcd n.natAbs d.natAbs);have l2:=Vz d.natAbs (Nat.gcd n.natAbs d.natAbs);have cn:=aa0 h.zo (m:=n.natAbs) hg (by omega) (by omega);have cd:=aa0 h.zo (m:=d.natAbs) hg (by omega) (by omega);have c1:¬(((mk d.natAbs).length:Nat):Int)=0:=by have:=@ake d.natAbs;omega
 clear hg lg;generalize n.natAbs / Nat.gcd n.natAbs d.natAbs=u at *;generalize d.natAbs / Nat.gcd n.natAbs d.natAbs=v at *;generalize n.natAbs % Nat.gcd n.natAbs d.natAbs=u2 at *;generalize d.natAbs % Nat.gcd n.natAbs d.natAbs=v2 at *;refine mM (fun x d=>x == 138||x == 68) h.hT ?_;simp only [vP,Lz,St.enter,au,aG,aX];refine ew ?_;refine Ae @c1 ?_;refine jK cg ?_;refine ew ?_;refine aaQ cn (by (refine ew ?_;try with_reducible exact aC)) (by (refine ew ?_;try with_reducible exact aC)) ?_;intro vs q1 o1 g;obtain⟨x,x2,rfl,hx2,g⟩:=g.of1;have B0:=g.at 0 (by simp) rfl;have B1:=g.at 1 (by simp) rfl;have B2:=g.at 2 (by simp) rfl;have lq:3<=q1.length:=g.len;have f1:∀o∈o1,3<=o:=g.fresh;have k1:=g.ow;have n1:=g.nd;clear g;refine D6 @B0 @B1 @B2 @lq ?_;refine aaQ cd (by (refine ew ?_;try with_reducible exact aC)) (by (refine ew ?_;try with_reducible exact aC)) ?_;intro vs q2 o2 g;obtain⟨y,y2,rfl,hy2,g⟩:=g.of1
 replace B0:=(g.old 0 (by omega)).trans B0
 replace B1:=(g.old 1 (by omega)).trans B1
 replace B2:=(g.old 2 (by omega)).trans B2
 have lq2:=g.len;have aq4:=k1.lt
 replace k1:=k1.frame (σ':=q2) fun o ho=>g.old o (k1.lt o ho)
 have k2:=g.ow;have n2:=g.nd;have dj:∀o∈o1,∀p∈o2,o≠p:=fun o ho p hp e=>by
  have:=aq4 o ho;have:=g.fresh p hp;omega
 have f2:∀o∈o2,3<=o:=fun o ho=>by have:=g.fresh o ho;omega
 replace lq:3<=q2.length:=by omega
 clear g lq2;have e1:=k1.azA;have e2:=k2.azA;have lfy:=k2.leaf rfl;have fcy:=Yv lfy;have aEA:(o1++o2).Nodup:=by
  rw [bf];exact⟨n1,n2,dj⟩
 by_cases c2:(24:Int)<((mk u).length:Nat)
 ·refine ew7 @B0 @B1 @B2 @lq @e1 @e2 @c2 ?_;rw [aN (by omega)];exact Og
 by_cases c3:(24:Int)<((mk v).length:Nat)
 ·refine ew8 @B0 @B1 @B2 @lq @e1 @e2 @c2 @c3 ?_;rw [aN (by omega)];exact Og
 refine ew8 @B0 @B1 @B2 @lq @e1 @e2 @c2 @c3 ?_;rw [aQ (by omega),<-Um];have key:=Nj (!decide (decide (n<0)=decide (d<0))) u;by_cases hu:u=0
 ·subst hu;rw [mk_zero]at k1;obtain⟨q3,hr,hold,hlen⟩:=Qh h.mG (neg:=!decide (decide (n<0)=decide (d<0))) k1;refine Xq hr rfl hlen (by simp) ?_
  replace B2:=(hold 2 (by omega)).trans B2
  have lq3:3<=q3.length:=by omega
  refine D6 @B2 @lq3 @lfy @fcy ?_;rw [Ul,mk_zero];have k2':=k2.frame (σ':=q3.set 2 (some ⟨3,[[.bool false,.kC,y]]⟩)) fun o ho=>by
   have:=f2 o ho;rw [kN (by omega),hold o (k2.lt o ho)]
  refine⟨.agg [.bool false,.sl 1 [],y],o2,?_,UA (o1:=[]) nP k2',n2⟩;simp only [P8,Vt,Vr,Na,qg,true_and,and_true];exact kR _
 rcases k1.yZ with ⟨h1,_,_⟩|⟨o,rfl,h1,_⟩
 ·have:=F8.2 (jS hu);rw [h1]at this;simp at this
 obtain⟨q3,hr,hold,hlen⟩:=SQ h.mG (neg:=!decide (decide (n<0)=decide (d<0))) h1 (jS hu) (by omega);refine Xq hr rfl hlen (by simp) ?_
 replace B2:=(hold 2 (by omega)).trans B2
 have lq3:3<=q3.length:=by omega
 refine D6 @B2 @lq3 @lfy @fcy ?_;have hb:=congrArg Bi.neg (amB (!decide (decide (n<0)=decide (d<0))) u (jS hu));have hb:decide (sg (!decide (decide (n<0)=decide (d<0))) u<0) = !decide (decide (n<0)=decide (d<0)):=hb;rw [hb];generalize (!decide (decide (n<0)=decide (d<0)))=ng;have fr:∀p,p∈o1++o2->jQ (q3.set 2 (some ⟨3,[[.bool ng,.lQ o 0 (mk u).length,y]]⟩)) p=jQ q2 p:=fun p hp=>by
  have h3:3<=p/\p<q2.length:=by
   rcases aK.1 hp with hp|hp
   ·exact⟨f1 p hp,k1.lt p hp⟩
   exact⟨f2 p hp,k2.lt p hp⟩
  rw [kN (by omega),hold p h3.2]
 exact xg (UA (k1.frame fun p hp=>fr p (eG _ hp)) (k2.frame fun p hp=>fr p (dL _ hp))) aEA
theorem aa1{T:Tb}(h:nM T){a b:Q}(ha:a.ok:=by assumption)(hb:b.ok:=by assumption):PO T 131 [lD (Q.raw a),lD (Q.raw b)] (lD (Q.raw (O8 a b))):=by
 cases a with
 |
  none =>
  refine mM (fun x d=>x == 144) h.hT ?_;simp only [sZ,Lz,St.enter,au,aG,aX];refine ew ?_;refine jK (zQ h.kW) ?_;refine ew ?_;exact Og
 |
  some q=>cases b with
  |
   none =>
   refine mM (fun x d=>x == 144) h.hT ?_;simp only [sZ,Lz,St.enter,au,aG,aX];refine ew ?_;refine jK (tJ h.kW) ?_;refine ew ?_;refine jK (zQ h.kW) ?_;refine ew ?_;exact Og
  |
   some s =>
   obtain⟨l1,l2⟩:=LG ha;obtain⟨l3,l4⟩:=LG hb;have e:O8 (some q) (some s)=TG (q.num*s.den+s.num*q.den) (q.den*s.den):=(abP q s).symm;rw [e];have t1:=rC q.num s.den;have t2:=rC s.num q.den;have t3:=rC q.den s.den;have t5:=rC q.num s.num;have t4:=KL (q.num*s.den) (s.num*q.den);have n1:(mk (q.den:Int).natAbs).length<=24:=by rw [dF];exact l2
   have n2:(mk (s.den:Int).natAbs).length<=24:=by rw [dF];exact l4
   refine mM (fun x d=>x == 144) h.hT ?_;simp only [sZ,Lz,St.enter,au,aG,aX];refine ew ?_;refine jK (tJ h.kW) ?_;refine ew ?_;refine jK (tJ h.kW) ?_;refine ew ?_;refine jK (BJ h.nJ (q:=s)) ?_;refine ew ?_;refine jK (wK h.nN (x:=q.num) (y:=s.den) (by omega) (by omega)) ?_;refine ew ?_;refine jK (BJ h.nJ (q:=q)) ?_;refine ew ?_;refine jK (wK h.nN (x:=s.num) (y:=q.den) (by omega) (by omega)) ?_;refine ew ?_;refine jK (aei h.Rj (x:=q.num*s.den) (y:=s.num*q.den) (by omega) (by omega)) ?_;refine ew ?_;refine⟨by unfold sF;decide +kernel,?_⟩;refine jK (BJ h.nJ (q:=q)) ?_;refine ew ?_;refine jK (BJ h.nJ (q:=s)) ?_;refine ew ?_;refine jK (wK h.nN (x:=q.den) (y:=s.den) (by omega) (by omega)) ?_;refine ew ?_;refine sK (SS h.uj (n:=q.num*s.den+s.num*q.den) (d:=q.den*s.den) (by omega) (by omega)) (by (refine ew ?_;try with_reducible exact aC)) (by (refine ew ?_;try with_reducible exact aC)) ?_;intro v q os g;have g0:=g;obtain⟨a0,d0,_,_,rfl,_,k1,k2⟩:=g.ow.Xp;have B2:=g0.at 2 (by simp) rfl;have lq:3<=q.length:=by have:=g0.len;simp at this;omega
   have la:=k1.leaf rfl;have ld:=k2.leaf rfl;have lfs:=ah la ld;have fc:=fun b k=>Nb (cs:=[.bool b,a0,d0]) (by simp [la,ld,show ∀b,V.leaf (.bool b)=true from fun _=>rfl]) k;refine D6 @B2 @lq @lfs @fc ?_;refine⟨by unfold sF;decide +kernel,?_⟩;refine D6 @B2 @lq @lfs @fc ?_;exact g0.abV (by simp)
theorem akl{T:Tb}(h:qL T){a b:Q}(ha:a.ok:=by assumption)(hb:b.ok:=by assumption):PO T 157 [lD (Q.raw a),lD (Q.raw b)] (lD (Q.raw (WQ a b))):=by
 cases a with
 |
  none =>
  refine mM (fun x d=>x == 144) h.hT ?_;simp only [tC,Lz,St.enter,au,aG,aX];refine ew ?_;refine jK (zQ h.kW) ?_;refine ew ?_;exact Og
 |
  some q=>cases b with
  |
   none =>
   refine mM (fun x d=>x == 144) h.hT ?_;simp only [tC,Lz,St.enter,au,aG,aX];refine ew ?_;refine jK (tJ h.kW) ?_;refine ew ?_;refine jK (zQ h.kW) ?_;refine ew ?_;exact Og
  |
   some s =>
   obtain⟨l1,l2⟩:=LG ha;obtain⟨l3,l4⟩:=LG hb;have e:WQ (some q) (some s)=TG (q.num*s.num) (q.den*s.den):=(abQ q s).symm;rw [e];have t1:=rC q.num s.den;have t2:=rC s.num q.den;have t3:=rC q.den s.den;have t5:=rC q.num s.num;have t4:=KL (q.num*s.den) (s.num*q.den);have n1:(mk (q.den:Int).natAbs).length<=24:=by rw [dF];exact l2
   have n2:(mk (s.den:Int).natAbs).length<=24:=by rw [dF];exact l4
   refine mM (fun x d=>x == 144) h.hT ?_;simp only [tC,Lz,St.enter,au,aG,aX];refine ew ?_;refine jK (tJ h.kW) ?_;refine ew ?_;refine jK (tJ h.kW) ?_;refine ew ?_;refine jK (wK h.nN (x:=q.num) (y:=s.num) (by omega) (by omega)) ?_;refine ew ?_;refine jK (BJ h.nJ (q:=q)) ?_;refine ew ?_;refine jK (BJ h.nJ (q:=s)) ?_;refine ew ?_;refine jK (wK h.nN (x:=q.den) (y:=s.den) (by omega) (by omega)) ?_;refine ew ?_;refine sK (SS h.uj (n:=q.num*s.num) (d:=q.den*s.den) (by omega) (by omega)) (by (refine ew ?_;try with_reducible exact aC)) (by (refine ew ?_;try with_reducible exact aC)) ?_;intro v q os g;have g0:=g;obtain⟨a0,d0,_,_,rfl,_,k1,k2⟩:=g.ow.Xp;have B2:=g0.at 2 (by simp) rfl;have lq:3<=q.length:=by have:=g0.len;simp at this;omega
   have la:=k1.leaf rfl;have ld:=k2.leaf rfl;have lfs:=ah la ld;have fc:=fun b k=>Nb (cs:=[.bool b,a0,d0]) (by simp [la,ld,show ∀b,V.leaf (.bool b)=true from fun _=>rfl]) k;refine D6 @B2 @lq @lfs @fc ?_;refine⟨by unfold sF;decide +kernel,?_⟩;refine D6 @B2 @lq @lfs @fc ?_;exact g0.abV (by simp)
theorem akm{T:Tb}(h:uY T){a b:Q}(ha:a.ok:=by assumption)(hb:b.ok:=by assumption):PO T 156 [lD (Q.raw a),lD (Q.raw b)] (lD (Q.raw (WR a b))):=by
 cases a with
 |
  none =>
  refine mM (fun x d=>x == 144) h.hT ?_;simp only [tH,Lz,St.enter,au,aG,aX];refine ew ?_;refine jK (zQ h.kW) ?_;refine ew ?_;exact Og
 |
  some q=>cases b with
  |
   none =>
   refine mM (fun x d=>x == 144) h.hT ?_;simp only [tH,Lz,St.enter,au,aG,aX];refine ew ?_;refine jK (tJ h.kW) ?_;refine ew ?_;refine jK (zQ h.kW) ?_;refine ew ?_;exact Og
  |
   some s =>
   obtain⟨l1,l2⟩:=LG ha;obtain⟨l3,l4⟩:=LG hb;have e:WR (some q) (some s)=TG (q.num*s.den) (s.num*q.den):=(abR q s).symm;rw [e];have t1:=rC q.num s.den;have t2:=rC s.num q.den;have t3:=rC q.den s.den;have t5:=rC q.num s.num;have t4:=KL (q.num*s.den) (s.num*q.den);have n1:(mk (q.den:Int).natAbs).length<=24:=by rw [dF];exact l2
   have n2:(mk (s.den:Int).natAbs).length<=24:=by rw [dF];exact l4
   refine mM (fun x d=>x == 144) h.hT ?_;simp only [tH,Lz,St.enter,au,aG,aX];refine ew ?_;refine jK (tJ h.kW) ?_;refine ew ?_;refine jK (tJ h.kW) ?_;refine ew ?_;refine jK (BJ h.nJ (q:=s)) ?_;refine ew ?_;refine jK (wK h.nN (x:=q.num) (y:=s.den) (by omega) (by omega)) ?_;refine ew ?_;refine jK (BJ h.nJ (q:=q)) ?_;refine ew ?_;refine jK (wK h.nN (x:=s.num) (y:=q.den) (by omega) (by omega)) ?_;refine ew ?_;refine sK (SS h.uj (n:=q.num*s.den) (d:=s.num*q.den) (by omega) (by omega)) (by (refine ew ?_;try with_reducible exact aC)) (by (refine ew ?_;try with_reducible exact aC)) ?_;intro v q os g;have g0:=g;obtain⟨a0,d0,_,_,rfl,_,k1,k2⟩:=g.ow.Xp;have B2:=g0.at 2 (by simp) rfl;have lq:3<=q.length:=by have:=g0.len;simp at this;omega
   have la:=k1.leaf rfl;have ld:=k2.leaf rfl;have lfs:=ah la ld;have fc:=fun b k=>Nb (cs:=[.bool b,a0,d0]) (by simp [la,ld,show ∀b,V.leaf (.bool b)=true from fun _=>rfl]) k;refine D6 @B2 @lq @lfs @fc ?_;refine⟨by unfold sF;decide +kernel,?_⟩;refine D6 @B2 @lq @lfs @fc ?_;exact g0.abV (by simp)
theorem akn{T:Tb}(h:tu T){a b:Q}(ha:a.ok:=by assumption)(hb:b.ok:=by assumption):PO T 159 [lD (Q.raw a),lD (Q.raw b)] (lD (Q.raw (agc a b))):=by
 have hn:=Ua hb;refine mM (fun x d=>x == 131) h.hT ?_;simp only [Ci,Lz,St.enter,au,aG,aX];refine ew ?_;refine jK (YK h.uX hb) ?_;refine ew ?_;refine sK (aa1 h.lJ ha hn) (by (refine ew ?_;try with_reducible exact aC)) (by (refine ew ?_;try with_reducible exact aC)) ?_;intro v q os g;have g0:=g;obtain⟨a0,d0,_,_,rfl,_,k1,k2⟩:=g.ow.Xp;have B2:=g0.at 2 (by simp) rfl;have lq:3<=q.length:=by have:=g0.len;simp at this;omega
 have la:=k1.leaf rfl;have ld:=k2.leaf rfl;have lfs:=ah la ld;have fc:=fun b k=>Nb (cs:=[.bool b,a0,d0]) (by simp [la,ld,show ∀b,V.leaf (.bool b)=true from fun _=>rfl]) k;refine D6 @B2 @lq @lfs @fc ?_;refine⟨by unfold sF;decide +kernel,?_⟩;refine D6 @B2 @lq @lfs @fc ?_;exact g0.abV (by simp)
theorem yT{T:Tb}(h:nM T){r s:R}(hr:r.cn:=by exact Rl)(hs:s.cn:=by exact Rl):PO T 131 [lD r,lD s] (lD (oC r s)):=by
 have:=aa1 h (a:=r.q) (b:=s.q) (Ld r) (Ld s);rw [hr,hs]at this;exact this
theorem SV{T:Tb}(h:tu T){r s:R}(hr:r.cn:=by exact Rl)(hs:s.cn:=by exact Rl):PO T 159 [lD r,lD s] (lD (wL r s)):=by
 have:=akn h (a:=r.q) (b:=s.q) (Ld r) (Ld s);rw [hr,hs]at this;exact this
theorem YZ{T:Tb}(h:qL T){r s:R}(hr:r.cn:=by exact Rl)(hs:s.cn:=by exact Rl):PO T 157 [lD r,lD s] (lD (mulR r s)):=by
 have:=akl h (a:=r.q) (b:=s.q) (Ld r) (Ld s);rw [hr,hs]at this;exact this
theorem Oh{T:Tb}(h:uY T){r s:R}(hr:r.cn:=by exact Rl)(hs:s.cn:=by exact Rl):PO T 156 [lD r,lD s] (lD (vS r s)):=by
 have:=akm h (a:=r.q) (b:=s.q) (Ld r) (Ld s);rw [hr,hs]at this;exact this
theorem aeD{T:Tb}(h:Dl T){n:Int}(hn : -1000000000000000000<n/\n<1000000000000000000:=by exact rF):PO T 54 [iv n] (Xo (bi n)):=by
 have hl:(mk n.natAbs).length<=2:=YQ (by omega);by_cases hneg:n<0
 ·have c1:=Oe h.nS (n:=-(n+1)+1) (by omega);rw [show (-(n+1)+1).toNat=n.natAbs by omega]at c1;have e:bi n=⟨true,mk n.natAbs⟩:=by unfold bi;rw [aT hneg]
  rw [e];refine mM (fun x d=>x == 69||x == 68) h.hT ?_;simp only [uI,Lz,St.enter,au,aG,aX];refine ew ?_;refine Ae @hneg ?_;rw [show (0:Int)-(n+1)+1 = -(n+1)+1 by omega];refine nH c1 (by (refine ew ?_;try with_reducible exact aC)) ?_;intro v q1 o1 g;have B0:=g.at 0 (by simp) rfl;have lq:1<=q1.length:=g.len;have f1:∀o∈o1,1<=o:=g.fresh;have k1:=g.ow;have n1:=g.nd;clear g;refine AZ @B0 @lq ?_;rcases k1.yZ with ⟨h1,_,_⟩|⟨o,rfl,h1,_⟩
  ·have:=F8.2 (show 0<n.natAbs by omega);rw [h1]at this;simp at this
  refine aeC h.mG (neg:=true) h1 (by omega) rfl (by omega) ?_;intro q3 hold hlen
  replace B0:=(hold 0 (by omega)).trans B0
  have lq3:1<=q3.length:=by omega
  refine AZ @B0 @lq3 ?_;refine xg (YX (k1.frame fun p hp=>?_)) n1;have:=f1 p hp;rw [kN (by omega),hold p (k1.lt p hp)]
 have c1:=Oe h.nS (n:=n) (by omega);rw [show n.toNat=n.natAbs by omega]at c1;have e:bi n=⟨false,mk n.natAbs⟩:=by unfold bi;rw [bH hneg]
 rw [e];refine mM (fun x d=>x == 69||x == 68) h.hT ?_;simp only [uI,Lz,St.enter,au,aG,aX];refine ew ?_;refine Ae @hneg ?_;refine nH c1 (by (refine ew ?_;try with_reducible exact aC)) ?_;intro v q1 o1 g;have B0:=g.at 0 (by simp) rfl;have lq:1<=q1.length:=g.len;have f1:∀o∈o1,1<=o:=g.fresh;have k1:=g.ow;have n1:=g.nd;clear g;refine AZ @B0 @lq ?_;by_cases h0:n.natAbs=0
 ·rw [h0,mk_zero]at k1 ⊢;refine akk h.mG (neg:=false) k1 rfl ?_;intro q3 hold hlen
  replace B0:=(hold 0 (by omega)).trans B0
  have lq3:1<=q3.length:=by omega
  refine AZ @B0 @lq3 ?_;exact⟨.agg [.bool false,.sl 1 []],[],ab3,YX (nP),.nil⟩
 rcases k1.yZ with ⟨h1,_,_⟩|⟨o,rfl,h1,_⟩
 ·have:=F8.2 (show 0<n.natAbs by omega);rw [h1]at this;simp at this
 refine aeC h.mG (neg:=false) h1 (by omega) rfl (by omega) ?_;intro q3 hold hlen
 replace B0:=(hold 0 (by omega)).trans B0
 have lq3:1<=q3.length:=by omega
 refine AZ @B0 @lq3 ?_;refine xg (YX (k1.frame fun p hp=>?_)) n1;have:=f1 p hp;rw [kN (by omega),hold p (k1.lt p hp)]
theorem qM{T:Tb}(h:nV T){n:Int}(hn : -1000000000000000000<n/\n<1000000000000000000:=by exact rF):PO T 39 [iv n] (lD (lC n)):=by
 rw [YR];refine mM (fun x d=>x == 54) h.hT ?_;simp only [wR,Lz,St.enter,au,aG,aX];refine ew ?_;refine nH (aeD h.OT hn) (by (refine ew ?_;try with_reducible exact aC)) ?_;intro v q1 o1 g;obtain⟨v1,rfl,k1⟩:=g.ow.avm;have B0:=g.at 0 (by simp) rfl;have B1:=g.at 1 (by simp) rfl;have lq:2<=q1.length:=g.len;have f1:∀o∈o1,2<=o:=g.fresh;have n1:=g.nd;have la:=k1.leaf rfl;have fc:=fun b k=>Nb (cs:=[.bool b,v1]) (by simp [la,show ∀b,V.leaf (.bool b)=true from fun _=>rfl]) k;clear g;refine Ku @B0 @B1 @lq @la @fc ?_;refine xg (UA (o1:=o1) (o2:=[1]) (k1.frame fun p hp=>?_) (Ud (l:=[1]) ?_)) ?_
 ·have:=f1 p hp;rw [kN (by omega),kN (by omega)]
 ·rw [kN (by omega),kY (by omega)];rfl
 rw [bf];refine⟨n1,by simp,fun a ha b hb e=>?_⟩;have:=f1 a ha;simp at hb;omega
def zT:Fn:=⟨2,12,[.cell 4 3 true],(.seq (rf 3 [oN 2 (.box (.t 0)),oK 3 1 (.box (.t 1)),oK 4 2 (.alloc uJ)]) (.seq (rt 0 [oN 5 (lT 3 2),oN 6 (lT 3 2),oA 7 0 (cl 201 [5,6]) [0,1],oN 8 (lT 3 3),oN 9 (lT 3 3),oA 10 0 (cl 201 [8,9]) [3,4,2],oA 11 0 (cl 189 [7,10]) [2,5,5],⟨none,none,0,.store 3 (.t 4) (.t 11),[6,6,0,1,2,3,4,5,6]⟩]) .ret))⟩
structure EI (T:Tb):Prop where
 hT:T 202=some zT
 xC:CB T
 tV:Hw T
def xJ:Fn:=⟨2,12,[.cell 4 3 true],(.seq (rf 3 [oN 2 (.box (.t 0)),oK 3 1 (.box (.t 1)),oK 4 2 (.alloc uJ)]) (.seq (rt 0 [oN 5 (lT 3 2),oN 6 (lT 3 2),oA 7 0 (cl 157 [5,6]) [0,1],oN 8 (lT 3 3),oN 9 (lT 3 3),oA 10 0 (cl 157 [8,9]) [3,4,2],oA 11 0 (cl 131 [7,10]) [2,5,5],⟨none,none,0,.store 3 (.t 4) (.t 11),[6,6,0,1,2,3,4,5,6]⟩]) .ret))⟩
structure BK (T:Tb):Prop where
 hT:T 158=some xJ
 lJ:nM T
 l7:qL T
def qh:Fn:=⟨5,59,[.cell 10 11 true,.tmp 11],(.seq (rf 1 [oN 10 (.alloc I5),oK 11 1 mF]) (.seq (sr [oW 12 0,oN 13 (cl 34 [12]),oN 14 (nt 13),oW 15 14,oG 15 false 16 (oV 1),oG 15 false 17 (cl 34 [16]),oG 15 false 18 (nt 17),oN 19 (.pick (.t 15) (.c (.bool true)) (.t 18)),oW 20 19,oG 20 false 21 (oV 0),oG 20 false 22 (oV 1),oG 20 false 23 (bt .eql 21 22),oN 24 (.pick (.t 20) (.c (.bool true)) (.t 23)),oW 25 24,oG 25 false 26 (oV 2),oG 25 false 27 (.call 35 [(.t 26),(cI 1),(cI 9999)]),oG 25 false 28 (nt 27),oN 29 (.pick (.t 25) (.c (.bool true)) (.t 28)),oW 30 29,oG 30 false 31 (oV 3),oG 30 false 32 (.call 35 [(.t 31),(cI (-1000000)),(cI 1000000)]),oG 30 false 33 (nt 32),oN 34 (.pick (.t 30) (.c (.bool true)) (.t 33)),oW 35 34,oG 35 false 36 (oV 4),oG 35 false 37 (.call 35 [(.t 36),(cI (-1000000)),(cI 1000000)]),oG 35 false 38 (nt 37),oN 39 (.pick (.t 35) (.c (.bool true)) (.t 38))] (cd 39 (sr [oN 40 (.build I5 []),oS (.store 11 (.t 10) (.t 40)),oN 11 mF] .ret) .skip)) (.seq (sr [oW 41 0,oW 42 1,oN 43 (bt .gtr 41 42)] (cd 43 (rg [oW 44 1,oW 45 0,oW 46 3,oN 47 (.un .neg (.t 46)),oW 48 4,oN 49 (.un .neg (.t 48)),oW 0 44,oW 1 45,oW 3 47,oW 4 49]) .skip)) (sr [oW 50 0,oW 51 1,oW 52 2,oN 53 (cl 36 [52]),oW 54 3,oN 55 (cl 36 [54]),oW 56 4,oN 57 (cl 36 [56]),oN 58 (.build I5 [(0,1,(.t 50)),(1,1,(.t 51)),(2,3,(.t 53)),(5,3,(.t 55)),(8,3,(.t 57))]),oS (.store 11 (.t 10) (.t 58)),oN 11 mT] .ret))))⟩
structure EJ (T:Tb):Prop where
 hT:T 14=some qh
 Aq:Eu T
 yJ:Ei T
 nI:wQ T
def sqR(x y:R):R:=oC (mulR x x) (mulR y y)
theorem amT(x y:R):(sqR x y).cn:=wM _ _
theorem Y0{T:Tb}(h:BK T){x y:R}(hx:x.cn:=by exact Rl)(hy:y.cn:=by exact Rl):PF T 158 [lD x,lD y] (lD (sqR x y)):=by
 refine kX nR h.hT ?_;simp only [xJ,Lz];refine ev ?_;refine jK (uz h.l7 hx hx) ?_;refine ev ?_;refine jK (uz h.l7 hy hy) ?_;refine ev ?_;refine jK (DZ h.lJ) ?_;refine ev ?_;refine⟨by unfold sF;decide +kernel,?_⟩;exact kR _
theorem wfA{r:R}(h:r.wf:=by
 first|with_reducible assumption|exact uy Rl):r.wf:=h
theorem acf{T:Tb}(h:EI T){x y:R}(hx:x.wf:=by exact wfA)(hy:y.wf:=by exact wfA):PF T 202 [lD x,lD y] (lD (sqR x y)):=by
 refine kX nR h.hT ?_;simp only [zT,Lz];refine ev ?_;refine jK (DY h.tV hx hx) ?_;refine ev ?_;refine jK (DY h.tV hy hy) ?_;refine ev ?_;refine jK (Nk h.xC wfA wfA) ?_;refine ev ?_;refine⟨by unfold sF;decide +kernel,?_⟩;exact kR _
def azB(l:Lk)(p q:Pt):R:=if ql l=true then mulR l.w (sqR (wL (wL q.x p.x) l.dx) (wL (wL q.y p.y) l.dy))else R0
theorem Bo{l:Lk}(h:ql l=true):l.w.ok=true/\l.dx.ok=true/\l.dy.ok=true/\0<xI l.w:=by
 unfold ql at h;simp only [aH,aZ]at h;exact⟨Uu h.1.1.2,h.1.2,h.2,h.1.1.2⟩
theorem Oi{l:Lk}(h:ql l=true):l.w.cn/\l.dx.cn/\l.dy.cn:=by
 obtain⟨a,b,c,_⟩:=Bo h;exact⟨CG a,CG b,CG c⟩
def aEB(n:Nat)(x:Lk):Bool:=decide (0<=x.a)&&decide (x.a<n)&&(decide (0<=x.b)&&decide (x.b<n))
def teS(l:List Lk)(at':List Pt):Nat->R
 |0=>lC 0
 |k+1=>oC (teS l at' k) (azB (l.getD k default) (at'.getD (l.getD k default).a.toNat default) (at'.getD (l.getD k default).b.toNat default))
def teG(l:List Lk)(n:Nat):Bool:=l.all (aEB n)
def avA(l:List Lk)(at':List Pt):Bool:=teG l at'.length&&(teS l at' l.length).ok
def teV(l:List Lk)(at':List Pt):R:=if avA l at'=true then teS l at' l.length else R0
theorem acg{α:Type} [Inhabited α] {f:α->Prop} {l:List α} (h:DR f l) {k:Nat} (hk:k<l.length):f (l.getD k default):=by
 refine h.2 _ ?_;rw [aj,ak hk];exact jy hk
theorem Ep.renew{s s1 σ2:Store}{cs ts rs trs:List V}{os os2:List Nat}{L:List (Nat×Obj)}(E:Ep s cs ts os L)(h1:∀o,o<s.length->jQ s1 o=jQ s o)(hl:s.length<=s1.length)(ho:nC σ2 rs trs os2)(hn:os2.Nodup)(hf:∀o∈os2,s1.length<=o)
  (old:∀o,o<s1.length->jQ σ2 o=jQ s1 o):Ep σ2 rs trs os2 L :=
 ⟨⟨ho,hn⟩,fun q hq=>⟨(old _ (bD (E.lt q hq) hl)).trans ((h1 _ (E.lt q hq)).trans (E.l q hq).1),fun hm=>by have:=hf _ hm;have:=E.lt q hq;omega⟩⟩
def Bq:Fn:=⟨0,4,[.cell 0 6 true],(.seq (rf 1 [oN 0 (.alloc zz6)]) (sr [oN 1 (.call 39 [(cI 0)]),oN 2 (.call 39 [(cI 0)]),oN 3 (.build zz6 [(0,3,(.t 1)),(3,3,(.t 2))]),oS (.store 6 (.t 0) (.t 3))] .ret))⟩
structure yg (T:Tb):Prop where
 hT:T 186=some Bq
 lK:nV T
def qZ:Fn:=⟨2,72,[.cell 4 6 true,.tmp 5],(.seq (rf 2 [oN 2 (.box (.t 0)),oK 4 1 (.alloc zz6),oK 5 2 mF]) (.seq (sr [oN 9 (lT 5 2),oN 10 (cl 185 [9]),oN 11 (nt 10)] (cd 11 (sr [oN 12 (.build zz6 []),oS (.store 6 (.t 4) (.t 12)),oN 5 mF] .ret) .skip)) (.seq (rf 1 [oK 13 1 (.call 186 []),oN 6 (.alloc zz6),⟨none,none,1,.store 6 (.t 6) (.t 13),[]⟩]) (.seq (sr [oN 14 (fd 4 2),oN 15 (lF 1 14),oN 16 (ln 15),oN 17 (.qC (cI 0))] (.block 0 (.loop (sr [oN 18 (bt .lss 17 16)] (.seq (cd 18 .skip (.exit 0)) (.seq (.block 1 (.seq (rf 1 [oK 19 1 (ix 10 15 17),oK 20 1 (lT 10 19),oN 8 (.alloc zz5),⟨none,none,1,.store 10 (.t 8) (.t 20),[]⟩]) (.seq (sr [oN 21 (fd 0 8),oN 22 (lF 1 21),oW 23 1,oN 24 (ln 23),oN 25 (bt .geq 22 24)] (cd 25 (sr [oN 26 (.build zz6 []),oS (.store 6 (.t 4) (.t 26)),oN 5 mF] .ret) .skip)) (.seq (rt 0 [oN 27 (fd 0 6),oA 28 0 (lT 3 27) [0],oN 29 (fd 1 8),oA 30 0 (lT 3 29) [2],oW 31 1,oN 32 (fd 0 8),oA 33 0 (lF 1 32) [5],oA 34 0 (ix 6 31 33) [4,6],oA 35 0 (fd 0 34) [7],oA 36 0 (lT 3 35) [8],oN 37 (fd 4 8),oA 38 0 (lT 3 37) [10],oA 39 0 (cl 178 [36,38]) [9,11],oA 40 0 (cl 157 [30,39]) [3,12,12],oA 41 0 (cl 131 [28,40]) [1,13,13],oA 42 0 (fd 0 6) [0,1,2,3,4,5,6,7,8,9,10,11,12,13,14],⟨none,none,0,.store 3 (.t 42) (.t 41),[15,14,14,0,1,2,3,4,5,6,7,8,9,10,11,12,13,14]⟩]) (rt 0 [oN 43 (fd 3 6),oA 44 0 (lT 3 43) [0],oN 45 (fd 1 8),oA 46 0 (lT 3 45) [2],oW 47 1,oN 48 (fd 0 8),oA 49 0 (lF 1 48) [5],oA 50 0 (ix 6 47 49) [4,6],oA 51 0 (fd 3 50) [7],oA 52 0 (lT 3 51) [8],oN 53 (fd 7 8),oA 54 0 (lT 3 53) [10],oA 55 0 (cl 178 [52,54]) [9,11],oA 56 0 (cl 157 [46,55]) [3,12,12],oA 57 0 (cl 131 [44,56]) [1,13,13],oA 58 0 (fd 3 6) [0,1,2,3,4,5,6,7,8,9,10,11,12,13,14],⟨none,none,0,.store 3 (.t 58) (.t 57),[15,14,14,0,1,2,3,4,5,6,7,8,9,10,11,12,13,14]⟩]))))) (rg [oN 59 (bc .add 17 1),oW 17 59]))))))) (.seq (sr [oN 60 (fd 0 6),oN 61 (lT 3 60),oN 62 (cl 132 [61]),oN 63 (nt 62),oW 64 63,oG 64 false 65 (fd 3 6),oG 64 false 66 (lT 3 65),oG 64 false 67 (cl 132 [66]),oG 64 false 68 (nt 67),oN 69 (.pick (.t 64) (.c (.bool true)) (.t 68))] (cd 69 (sr [oN 70 (.build zz6 []),oS (.store 6 (.t 4) (.t 70)),oN 5 mF] .ret) .skip)) (sr [oN 71 (lT 6 6),oS (.store 6 (.t 4) (.t 71)),oN 5 mT] .ret))))))⟩
structure yh (T:Tb):Prop where
 hT:T 176=some qZ
 lJ:nM T
 kW:pG T
 l7:qL T
 Rq:LV T
 oJ:qA T
 vH:yg T
def acT(p:Pa)(x d:R):R:=mulR p.share (oC x d)
def Oj(c:Cd)(at':List Pt):Nat->R
 |0=>lC 0
 |k+1=>oC (Oj c at' k) (acT (c.ps.getD k default) (at'.getD (c.ps.getD k default).node.toNat default).x (c.ps.getD k default).dx)
def XA(c:Cd)(at':List Pt):Nat->R
 |0=>lC 0
 |k+1=>oC (XA c at' k) (acT (c.ps.getD k default) (at'.getD (c.ps.getD k default).node.toNat default).y (c.ps.getD k default).dy)
def acG(c:Cd)(n:Nat):Bool:=c.ps.all fun p=>decide (p.node<n)
def Kw(c:Cd)(at':List Pt):Bool:=xA c&&(acG c at'.length&&((Oj c at' c.ps.length).ok&&(XA c at' c.ps.length).ok))
def acV(c:Cd)(at':List Pt):Pt:=if Kw c at'=true then⟨Oj c at' c.ps.length,XA c at' c.ps.length⟩else⟨R0,R0⟩
theorem amU(c:Cd)(at':List Pt):∀k,(Oj c at' k).cn
 |0=>wO (by decide)
 |k+1=>wM _ _
theorem amV(c:Cd)(at':List Pt):∀k,(XA c at' k).cn
 |0=>wO (by decide)
 |k+1=>wM _ _
theorem amW(p:Pa)(x d:R):(acT p x d).cn:=Jf _ _
theorem avC(c:Cd)(at':List Pt):(acV c at').x.cn/\(acV c at').y.cn:=by
 unfold acV;split
 ·exact⟨amU _ _ _,amV _ _ _⟩
 exact⟨ab6,ab6⟩
theorem aq6{c:Cd}{n k:Nat}(hk:k<c.ps.length)(h:¬(c.ps.getD k default).node<n):acG c n=false:=by
 unfold acG;rw [ku];refine⟨c.ps.getD k default,?_,by simpa using h⟩;rw [aj,ak hk];exact jy hk
theorem aeE{c:Cd}{n:Nat}(h:∀k,k<c.ps.length->(c.ps.getD k default).node<n):acG c n=true:=by
 unfold acG;rw [bg];intro x hx;obtain⟨k,hk⟩:=bJ.1 hx;have:=h k (aP.1 hk).1;rw [aj,hk]at this;exact aT this
theorem amX{c:Cd}{at':List Pt}(h:Kw c at'=false):acV c at'=⟨R0,R0⟩:=by
 unfold acV;rw [h];rfl
theorem aq7{c:Cd}(h:xA c=true){k:Nat}(hk:k<c.ps.length):0<=(c.ps.getD k default).node/\(c.ps.getD k default).share.ok=true:=by
 unfold xA at h;simp only [aH,aZ]at h;have:=h.1.1.1.1 k hk;unfold O9 inB at this;simp only [aH,aZ]at this;exact⟨this.1.1.1.1.1.1,Uu this.1.1.2⟩
section
variable {s s1 σ2 : Store} {a b ta tb rs trs : List V} {os os2 : List Nat} {L : List (Nat × Obj)}
theorem Ep.amY(E:Ep s (a++b) (ta++tb) os L)(hla:a.length=ta.length)(h1:∀o,o<s.length->jQ s1 o=jQ s o)(hl:s.length<=s1.length)(ho:nC σ2 rs trs os2)(hn:os2.Nodup)(hf:∀o∈os2,s1.length<=o)
  (old:∀o,o<s1.length->jQ σ2 o=jQ s1 o):∃os',Ep σ2 (rs++b) (trs++tb) os' L/\∀o∈os',o∈os\/s1.length<=o:=by
 obtain⟨a1,a2,oa,ob,e,rfl,k1,k2⟩:=pV E.c.ow;obtain⟨rfl,rfl⟩:=fO e (by rw [hla];exact k1.len.symm);have hlt:=fun o (h:o∈oa++ob)=>E.c.lt o h;have nd:=bf.1 E.c.nd;refine⟨os2++ob,⟨⟨nD ho (k2.frame fun o h=>?_),?_⟩,fun q hq=>⟨(old _ (bD (E.lt q hq) hl)).trans ((h1 _ (E.lt q hq)).trans (E.l q hq).1),fun hm=>?_⟩⟩,fun o h=>?_⟩
 ·have:=hlt o (dL _ h);rw [old o (by omega),h1 o this]
 ·rw [bf];refine⟨hn,nd.2.1,fun x hx y hy e=>?_⟩;have:=hf x hx;have:=hlt y (dL _ hy);omega
 ·rcases aK.1 hm with hm|hm
  ·have:=hf _ hm;have:=E.lt q hq;omega
  exact(E.l q hq).2 (dL _ hm)
 rcases aK.1 h with h|h
 ·exact .inr (hf o h)
 exact .inl (dL _ h)
theorem Ep.avD(E:Ep s (a++b) (ta++tb) os L)(hla:a.length=ta.length)(h1:∀o,o<s.length->jQ s1 o=jQ s o)(hl:s.length<=s1.length)(ho:nC σ2 rs trs os2)(hn:os2.Nodup)(hf:∀o∈os2,s1.length<=o)
  (old:∀o,o<s1.length->jQ σ2 o=jQ s1 o):∃os',Ep σ2 (a++rs) (ta++trs) os' L/\∀o∈os',o∈os\/s1.length<=o:=by
 obtain⟨a1,a2,oa,ob,e,rfl,k1,k2⟩:=pV E.c.ow;obtain⟨rfl,rfl⟩:=fO e (by rw [hla];exact k1.len.symm);have hlt:=fun o (h:o∈oa++ob)=>E.c.lt o h;have nd:=bf.1 E.c.nd;refine⟨oa++os2,⟨⟨nD (k1.frame fun o h=>?_) ho,?_⟩,fun q hq=>⟨(old _ (bD (E.lt q hq) hl)).trans ((h1 _ (E.lt q hq)).trans (E.l q hq).1),fun hm=>?_⟩⟩,fun o h=>?_⟩
 ·have:=hlt o (eG _ h);rw [old o (by omega),h1 o this]
 ·rw [bf];refine⟨nd.1,hn,fun x hx y hy e=>?_⟩;have:=hf y hy;have:=hlt x (eG _ hx);omega
 ·rcases aK.1 hm with hm|hm
  ·exact(E.l q hq).2 (eG _ hm)
  have:=hf _ hm;have:=E.lt q hq;omega
 rcases aK.1 h with h|h
 ·exact .inl (eG _ h)
 exact .inr (hf o h)
end
theorem Ep.sub{s:Store}{cs ts:List V}{os:List Nat}{L L':List (Nat×Obj)}(E:Ep s cs ts os L)(h:∀q∈L',q∈L):Ep s cs ts os L':=⟨E.c,fun q hq=>E.l q (h q hq)⟩
theorem ais{σ:Store}:Fin σ (.agg [.bool false,.kC,.kC,.bool false,.kC,.kC]) (ptV ⟨R0,R0⟩) :=
 ⟨ptV ⟨R0,R0⟩,[],by simp only [nG,wJ];exact⟨_,rfl,_,_,rfl,rfl,_,_,rfl,gV (qg 1),_,_,rfl,gV (qg 1),_,_,rfl,rfl,_,_,rfl,gV (qg 1),_,_,rfl,gV (qg 1),rfl⟩,
  ru (qV (qQ (o1:=[]) nP (qQ (o1:=[]) nP (qV (qQ (o1:=[]) nP (qQ (o1:=[]) nP qm)))))),.nil⟩
theorem Jl{T:Tb}(h:yg T):PO T 186 [] (ptV ⟨lC 0,lC 0⟩):=by
 refine mM (fun x d=>x == 39) h.hT ?_;simp only [Bq,Lz,St.enter,au,aG,aX];refine ew ?_;refine nH (qM h.lK (n:=0)) (by (refine ew ?_;try with_reducible exact aC)) ?_;intro r q1 o1 G;have gl:1<=q1.length:=by simpa using G.len
 obtain⟨_,rfl,Rt⟩:=G.ow.lU;obtain⟨x1,x2,rfl⟩:=Rt.rat
 have E:Ep [some ⟨6,[[.bool false,.kC,.kC,.bool false,.kC,.kC]]⟩] [] [] [] [(0,⟨6,[[.bool false,.kC,.kC,.bool false,.kC,.kC]]⟩)]:=⟨Sl,by simp [jQ]⟩;have E1:=E.got (fun q hq=>rfl) (aJ _) Rt G.nd G.fresh G.old;clear G E;refine ew ?_;refine nH (qM h.lK (n:=0)) (by (refine ew ?_;try with_reducible exact aC)) ?_;intro r q2 o2 G;have gl2:q1.length<=q2.length:=G.len;obtain⟨_,rfl,hQ2⟩:=G.ow.lU;obtain⟨x3,x4,rfl⟩:=hQ2.rat
 have E2:=E1.got (fun q hq=>rfl) (aJ _) hQ2 G.nd G.fresh G.old;clear G E1;have E:Ep q2 [.bool (lC 0).neg,x1,x2,.bool (lC 0).neg,x3,x4] [.bool (lC 0).neg,ints (lC 0).mag,ints (lC 0).den,.bool (lC 0).neg,ints (lC 0).mag,ints (lC 0).den] _ [(0,⟨6,[[.bool false,.kC,.kC,.bool false,.kC,.kC]]⟩)]:=E2;clear E2;have L0:=E.at0 (p:=0) (ob:=⟨6,[[.bool false,.kC,.kC,.bool false,.kC,.kC]]⟩) (by simp);have LF:=ah (ah (E.leaf 1 rfl rfl) (E.leaf 2 rfl rfl)) (ah (E.leaf 4 rfl rfl) (E.leaf 5 rfl rfl));refine AZ @L0 @LF ?_;have n0:=(E.l (0,⟨6,[[.bool false,.kC,.kC,.bool false,.kC,.kC]]⟩) (by simp)).2;have C:=E.c.set (o:=0) (x:=some ⟨6,[[.bool (lC 0).neg,x1,x2,.bool (lC 0).neg,x3,x4]]⟩) n0;exact xg (ru C.ow) C.nd
theorem Qi{T:Tb}(h:yh T){c:Cd}{at':List Pt}(hw:c.wf:=by exact rF)(hp:DR Pt.wf at':=by exact rF)(hl:c.ps.length<=1048576:=by exact rF)(hl2:at'.length<=1048576:=by exact rF):PO T 176 [cdV c,Ub at'] (.oU [ptV (acV c at'),.bool (Kw c at')]):=by
 have ci:=wz h.oJ hw
 cases hb:xA c
 ·rw [hb]at ci;have e1:Kw c at'=false:=by unfold Kw;rw [hb];rfl
  rw [amX e1,e1];refine mM (fun x d=>(x == 186&&d == 13)||(x == 131&&d == 41)||(x == 131&&d == 57)) h.hT ?_;simp only [qZ,Lz,St.enter,au,aG,aX];refine ew ?_;refine jK ci ?_;refine ew ?_;exact ais.Ba
 rw [hb]at ci;have bad:∀k,k<c.ps.length->¬(c.ps.getD k default).node<at'.length->∀σ,Fin σ (.oU [.agg [.bool false,.kC,.kC,.bool false,.kC,.kC],.bool false]) (.oU [ptV (acV c at'),.bool (Kw c at')]):=fun k hk h σ=>by
  have e1:Kw c at'=false:=by unfold Kw;rw [aq6 hk h,hb];rfl
  rw [amX e1,e1];exact ais.Ba
 have hpa:=fun k hk=>aq7 hb (k:=k) hk;refine mM (fun x d=>(x == 186&&d == 13)||(x == 131&&d == 41)||(x == 131&&d == 57)) h.hT ?_;simp only [qZ,Lz,St.enter,au,aG,aX];refine ew ?_;refine jK ci ?_;refine ew ?_;refine nH (Jl h.vH) (by (refine ew ?_;try with_reducible exact aC)) ?_;intro r q1 o1 G;have gl:3<=q1.length:=by simpa using G.len
 obtain⟨_,rfl,Rt⟩:=G.ow.lU;obtain⟨x1,x2,x3,x4,rfl⟩:=Rt.pt;have E:Ep [some ⟨5,[c.cells]⟩,some ⟨6,[[.bool false,.kC,.kC,.bool false,.kC,.kC]]⟩] [] [] [] [(0,⟨5,[c.cells]⟩),(1,⟨6,[[.bool false,.kC,.kC,.bool false,.kC,.kC]]⟩)]:=⟨Sl,by simp [jQ]⟩;have E2:=E.got (s1:=[some ⟨5,[c.cells]⟩,some ⟨6,[[.bool false,.kC,.kC,.bool false,.kC,.kC]]⟩]++[none]) (fun q hq=>nX hq) (by simp) Rt G.nd G.fresh G.old;have F0:=E.free (s1:=[some ⟨5,[c.cells]⟩,some ⟨6,[[.bool false,.kC,.kC,.bool false,.kC,.kC]]⟩]++[none]) (p:=2) G.fresh (by simp) (by simp);clear E G;have E:Ep q1 [.bool (lC 0).neg,x1,x2,.bool (lC 0).neg,x3,x4] [.bool (lC 0).neg,ints (lC 0).mag,ints (lC 0).den,.bool (lC 0).neg,ints (lC 0).mag,ints (lC 0).den] _ [(0,⟨5,[c.cells]⟩),(1,⟨6,[[.bool false,.kC,.kC,.bool false,.kC,.kC]]⟩)]:=E2;clear E2
 replace E:=E.JG (p:=2) (ob:=⟨6,[[.bool (lC 0).neg,x1,x2,.bool (lC 0).neg,x3,x4]]⟩) (L':=[(0,⟨5,[c.cells]⟩),(1,⟨6,[[.bool false,.kC,.kC,.bool false,.kC,.kC]]⟩),(2,⟨6,[[.bool (lC 0).neg,x1,x2,.bool (lC 0).neg,x3,x4]]⟩)]) F0 (by omega) (by simp)
 have LF:=ah (ah (E.leaf 1 rfl rfl) (E.leaf 2 rfl rfl)) (ah (E.leaf 4 rfl rfl) (E.leaf 5 rfl rfl));have L0:=E.at0 (p:=0) (ob:=⟨5,[c.cells]⟩) (by simp);have hqe:jQ q1 0=some ⟨5,[c.cells]⟩:=by have:=L0.1;rwa [kN (by omega)]at this
 refine Dy @LF @List.set_set.{0} @hqe ?_;clear LF L0 hqe;refine kZ (fun x d=>(x == 186&&d == 13)||(x == 131&&d == 41)||(x == 131&&d == 57)) (α:=Nat×Store×V×V×V×V×List Nat) (fun q=>⟨mJ [.any,Ub at',.any,.any,.ptr 1 0 0,.any,.ptr 2 0 0,.any,.any,.any,.any,.any,.any,.any,.any,QX c.ps,iv (c.ps.length:Nat),iv (q.1:Nat)],q.2.1,0,0,[],[]⟩) (fun q=>(q.1<=c.ps.length/\∀k,k<q.1->(c.ps.getD k default).node<at'.length)/\Ep q.2.1 [.bool (Oj c at' q.1).neg,q.2.2.1,q.2.2.2.1,.bool (XA c at' q.1).neg,q.2.2.2.2.1,q.2.2.2.2.2.1] [.bool (Oj c at' q.1).neg,ints (Oj c at' q.1).mag,ints (Oj c at' q.1).den,.bool (XA c at' q.1).neg,ints (XA c at' q.1).mag,ints (XA c at' q.1).den] q.2.2.2.2.2.2 [(0,⟨5,[c.cells]⟩),(1,⟨6,[[.bool false,.kC,.kC,.bool false,.kC,.kC]]⟩),(2,⟨6,[[.bool (Oj c at' q.1).neg,q.2.2.1,q.2.2.2.1,.bool (XA c at' q.1).neg,q.2.2.2.2.1,q.2.2.2.2.2.1]]⟩)]) (fun q=>c.ps.length-q.1) rfl (0,(q1.set 2 (some ⟨6,[[.bool (lC 0).neg,x1,x2,.bool (lC 0).neg,x3,x4]]⟩)),x1,x2,x3,x4,[]++o1) ?_ ?_ ?_
 ·exact⟨⟨by omega,by intro k hk;omega⟩,E⟩
 ·(refine kS ?_;exact uw)
 clear E;rintro⟨i,s,x1,x2,x3,x4,os⟩ ⟨⟨hi,hg⟩,E⟩;dsimp only at hi hg E;have ex:Oj c at' (i+1)=oC (Oj c at' i) (acT (c.ps.getD i default) (at'.getD (c.ps.getD i default).node.toNat default).x (c.ps.getD i default).dx):=rfl;have ey:XA c at' (i+1)=oC (XA c at' i) (acT (c.ps.getD i default) (at'.getD (c.ps.getD i default).node.toNat default).y (c.ps.getD i default).dy):=rfl;have hxc:=amU c at' i;have hyc:=amV c at' i;have hbad:=bad i;have hpa:=hpa i;have hfx:i=c.ps.length->Oj c at' c.ps.length=Oj c at' i:=fun e=>by rw [e]
 have hfy:i=c.ps.length->XA c at' c.ps.length=XA c at' i:=fun e=>by rw [e]
 generalize hX:Oj c at' i=X at ex hxc hfx E;generalize hY:XA c at' i=Y at ey hyc hfy E;have L1:=E.at0 (p:=1) (ob:=⟨6,[[.bool false,.kC,.kC,.bool false,.kC,.kC]]⟩) (by simp);have L2:=E.at0 (p:=2) (ob:=⟨6,[[.bool X.neg,x1,x2,.bool Y.neg,x3,x4]]⟩) (by simp);by_cases hc:(i:Int)<(c.ps.length:Nat)
 ·have hil:i<c.ps.length:=by omega
  have hxw:=acg hw.2 hil;have hbad:=hbad hil;obtain⟨hp0,hp1⟩:=hpa hil;have hgs:(c.ps.getD i default).node<at'.length->∀k,k<i+1->(c.ps.getD k default).node<at'.length:=fun h k hk=>by
   by_cases e:k=i
   ·subst e;exact h
   exact hg k (by omega)
  have hmx:(c.ps.map Pa.cells).getD i []=(c.ps.getD i default).cells:=mg hil;generalize c.ps.getD i default=p at ex ey hbad hxw hgs hp0 hp1 hmx;by_cases hn:p.node<at'.length
  ·have hn1:¬p.node>=(at'.length:Nat):=by omega
   have hgs:=hgs hn;have wp:=acg hp (k:=p.node.toNat) (by omega);have g1:(at'.map Pt.cells).getD p.node.toNat []=(at'.getD p.node.toNat default).cells:=mg (by omega);generalize at'.getD p.node.toNat default=q at ex ey wp g1;have hsc:=CG hp1;refine D5 @hc @hmx @L1 @L2 @hn1 @g1 ?_;refine jK (aaW h.Rq wp.1 hxw.2.1) ?_;obtain⟨pi,hpi⟩:∃pi,s.length=pi:=⟨_,rfl⟩;obtain⟨s1,hs1⟩:∃s1,s++[some ⟨10,[p.cells]⟩]=s1:=⟨_,rfl⟩;have E1:=E.push (ob:=⟨10,[p.cells]⟩);rw [hs1,hpi]at E1;have hl1:s1.length=pi+1:=by rw [<-hs1,<-hpi];simp
   have hpi2:3<=pi:=by have:=L2.2;omega
   clear E;simp only [hs1];simp only [hpi];have MP:=E1.at0 (p:=pi) (ob:=⟨10,[p.cells]⟩) (by simp);have M1:=E1.at0 (p:=1) (ob:=⟨6,[[.bool false,.kC,.kC,.bool false,.kC,.kC]]⟩) (by simp);have M2:=E1.at0 (p:=2) (ob:=⟨6,[[.bool X.neg,x1,x2,.bool Y.neg,x3,x4]]⟩) (by simp);have R:=ah (E1.res1 1 rfl rfl (kM _ _)) (E1.res1 2 rfl rfl (kM _ _));refine ew7 @MP @M1 @M2 @g1 @R @kQ @lI ?_;refine jK (uz h.l7 hsc (wM _ _)) ?_;refine ew7 @MP @M1 @M2 @g1 @R @kQ @lI ?_;refine vk (fun o=>o∈os) (show PO T 131 [lD X,lD (acT p q.x p.dx)] (lD (oC X (acT p q.x p.dx)))from yT h.lJ hxc (amW _ _ _)) (by (refine Dy @R @kQ @lI ?_;try with_reducible exact aC);rfl) ?_ ?_
   ·intro o ho;have ho:o∈reach s1 (11+1) (.agg [.bool X.neg,x1,x2])++(reach s1 FD (lD (acT p q.x p.dx))++[]):=ho;rw [show reach s1 FD (lD (acT p q.x p.dx))=[]from by (refine ew ?_;try with_reducible exact aC),aU,aU]at ho;obtain⟨c,hc,ho⟩:=xR.1 ho;rcases aI.1 hc with e|hc
    ·rw [e]at ho;simp [reach]at ho
    rcases aI.1 hc with e|hc
    ·rw [e]at ho;exact E1.reach 1 rfl rfl _ o ho
    rw [aW.1 hc]at ho;exact E1.reach 2 rfl rfl _ o ho
   intro Rr r q2 oq2 hRr G;obtain⟨_,rfl,hQ⟩:=G.ow.lU;obtain⟨y1,y2,rfl⟩:=hQ.rat
   obtain⟨os2,E0,hos⟩:=Ep.amY (a:=[.bool X.neg,x1,x2]) (b:=[.bool Y.neg,x3,x4]) (ta:=[.bool X.neg,ints X.mag,ints X.den]) (tb:=[.bool Y.neg,ints Y.mag,ints Y.den]) E1 rfl (s1:=s1) (fun q hq=>rfl) (aJ _) hQ G.nd G.fresh G.old;have gl:=G.len;have n2:2∉os2:=fun hm=>by
    rcases hos 2 hm with h|h
    ·exact(E1.l (2,⟨6,[[.bool X.neg,x1,x2,.bool Y.neg,x3,x4]]⟩) (by simp)).2 h
    omega
   clear hos hRr G hQ E1 R MP M1 M2;rw [<-ex]at E0;have E2:Ep q2 [.bool (Oj c at' (i+1)).neg,y1,y2,.bool Y.neg,x3,x4] [.bool (Oj c at' (i+1)).neg,ints (Oj c at' (i+1)).mag,ints (Oj c at' (i+1)).den,.bool Y.neg,ints Y.mag,ints Y.den] os2 [(0,⟨5,[c.cells]⟩),(1,⟨6,[[.bool false,.kC,.kC,.bool false,.kC,.kC]]⟩),(2,⟨6,[[.bool X.neg,x1,x2,.bool Y.neg,x3,x4]]⟩),(pi,⟨10,[p.cells]⟩)]:=E0;clear E0;have MP:=E2.at0 (p:=pi) (ob:=⟨10,[p.cells]⟩) (by simp);have M1:=E2.at0 (p:=1) (ob:=⟨6,[[.bool false,.kC,.kC,.bool false,.kC,.kC]]⟩) (by simp);have M2:=E2.at0 (p:=2) (ob:=⟨6,[[.bool X.neg,x1,x2,.bool Y.neg,x3,x4]]⟩) (by simp);have LF:=ah (ah (E2.leaf 1 rfl rfl) (E2.leaf 2 rfl rfl)) (ah (E2.leaf 4 rfl rfl) (E2.leaf 5 rfl rfl));refine ew8 @MP @M1 @M2 @g1 @LF @kQ @lI @List.set_set.{0} ?_;refine⟨by unfold sF;rfl,?_⟩
   try rw [<-ex]
   obtain⟨s3,hs⟩:∃s,q2.set 2 (some ⟨6,[[.bool (Oj c at' (i+1)).neg,y1,y2,.bool Y.neg,x3,x4]]⟩)=s:=⟨_,rfl⟩;have E5:=E2.JG (p:=2) (ob:=⟨6,[[.bool (Oj c at' (i+1)).neg,y1,y2,.bool Y.neg,x3,x4]]⟩) (L':=[(0,⟨5,[c.cells]⟩),(1,⟨6,[[.bool false,.kC,.kC,.bool false,.kC,.kC]]⟩),(2,⟨6,[[.bool (Oj c at' (i+1)).neg,y1,y2,.bool Y.neg,x3,x4]]⟩),(pi,⟨10,[p.cells]⟩)]) n2 M2.2 (by simp;try omega);have hl2:q2.length=s3.length:=by rw [<-hs];simp
   rw [hs]at E5;simp only [hs]
   try simp only [hl2]
   rw [hl2]at gl;clear E2 MP M1 M2 LF hs hl2 n2;have MP:=E5.at0 (p:=pi) (ob:=⟨10,[p.cells]⟩) (by simp);have M1:=E5.at0 (p:=1) (ob:=⟨6,[[.bool false,.kC,.kC,.bool false,.kC,.kC]]⟩) (by simp);have M2:=E5.at0 (p:=2) (ob:=⟨6,[[.bool (Oj c at' (i+1)).neg,y1,y2,.bool Y.neg,x3,x4]]⟩) (by simp);have R:=ah (E5.res1 4 rfl rfl (kM _ _)) (E5.res1 5 rfl rfl (kM _ _));refine jK (aaW h.Rq wp.2 hxw.2.2) ?_;refine ew7 @MP @M1 @M2 @g1 @R @kQ @lI ?_;refine jK (uz h.l7 hsc (wM _ _)) ?_;refine ew7 @MP @M1 @M2 @g1 @R @kQ @lI ?_;refine vk (fun o=>o∈os2) (show PO T 131 [lD Y,lD (acT p q.y p.dy)] (lD (oC Y (acT p q.y p.dy)))from yT h.lJ hyc (amW _ _ _)) (by (refine Dy @R @kQ @lI ?_;try with_reducible exact aC);rfl) ?_ ?_
   ·intro o ho;have ho:o∈reach s3 (11+1) (.agg [.bool Y.neg,x3,x4])++(reach s3 FD (lD (acT p q.y p.dy))++[]):=ho;rw [show reach s3 FD (lD (acT p q.y p.dy))=[]from by (refine ew ?_;try with_reducible exact aC),aU,aU]at ho;obtain⟨c,hc,ho⟩:=xR.1 ho;rcases aI.1 hc with e|hc
    ·rw [e]at ho;simp [reach]at ho
    rcases aI.1 hc with e|hc
    ·rw [e]at ho;exact E5.reach 4 rfl rfl _ o ho
    rw [aW.1 hc]at ho;exact E5.reach 5 rfl rfl _ o ho
   intro Rr r q4 oq4 hRr G;obtain⟨_,rfl,hQ⟩:=G.ow.lU;obtain⟨y3,y4,rfl⟩:=hQ.rat
   obtain⟨os4,E0,hos⟩:=Ep.avD (a:=[.bool (Oj c at' (i+1)).neg,y1,y2]) (b:=[.bool Y.neg,x3,x4]) (ta:=[.bool (Oj c at' (i+1)).neg,ints (Oj c at' (i+1)).mag,ints (Oj c at' (i+1)).den]) (tb:=[.bool Y.neg,ints Y.mag,ints Y.den]) E5 rfl (s1:=s3) (fun q hq=>rfl) (aJ _) hQ G.nd G.fresh G.old;have gl:=G.len;have n2:2∉os4:=fun hm=>by
    rcases hos 2 hm with h|h
    ·exact(E5.l (2,⟨6,[[.bool (Oj c at' (i+1)).neg,y1,y2,.bool Y.neg,x3,x4]]⟩) (by simp)).2 h
    omega
   clear hos hRr G hQ E5 R MP M1 M2;rw [<-ey]at E0;have E4:Ep q4 [.bool (Oj c at' (i+1)).neg,y1,y2,.bool (XA c at' (i+1)).neg,y3,y4] [.bool (Oj c at' (i+1)).neg,ints (Oj c at' (i+1)).mag,ints (Oj c at' (i+1)).den,.bool (XA c at' (i+1)).neg,ints (XA c at' (i+1)).mag,ints (XA c at' (i+1)).den] os4 [(0,⟨5,[c.cells]⟩),(1,⟨6,[[.bool false,.kC,.kC,.bool false,.kC,.kC]]⟩),(2,⟨6,[[.bool (Oj c at' (i+1)).neg,y1,y2,.bool Y.neg,x3,x4]]⟩),(pi,⟨10,[p.cells]⟩)]:=E0;clear E0;have MP:=E4.at0 (p:=pi) (ob:=⟨10,[p.cells]⟩) (by simp);have M1:=E4.at0 (p:=1) (ob:=⟨6,[[.bool false,.kC,.kC,.bool false,.kC,.kC]]⟩) (by simp);have M2:=E4.at0 (p:=2) (ob:=⟨6,[[.bool (Oj c at' (i+1)).neg,y1,y2,.bool Y.neg,x3,x4]]⟩) (by simp);have LF:=ah (ah (E4.leaf 1 rfl rfl) (E4.leaf 2 rfl rfl)) (ah (E4.leaf 4 rfl rfl) (E4.leaf 5 rfl rfl));refine ew8 @MP @M1 @M2 @g1 @LF @kQ @lI @List.set_set.{0} ?_;refine⟨by unfold sF;rfl,?_⟩
   try rw [<-ey]
   obtain⟨s5,hs⟩:∃s,q4.set 2 (some ⟨6,[[.bool (Oj c at' (i+1)).neg,y1,y2,.bool (XA c at' (i+1)).neg,y3,y4]]⟩)=s:=⟨_,rfl⟩;have E5:=E4.JG (p:=2) (ob:=⟨6,[[.bool (Oj c at' (i+1)).neg,y1,y2,.bool (XA c at' (i+1)).neg,y3,y4]]⟩) (L':=[(0,⟨5,[c.cells]⟩),(1,⟨6,[[.bool false,.kC,.kC,.bool false,.kC,.kC]]⟩),(2,⟨6,[[.bool (Oj c at' (i+1)).neg,y1,y2,.bool (XA c at' (i+1)).neg,y3,y4]]⟩),(pi,⟨10,[p.cells]⟩)]) n2 M2.2 (by simp;try omega);have hl2:q4.length=s5.length:=by rw [<-hs];simp
   rw [hs]at E5;simp only [hs]
   try simp only [hl2]
   rw [hl2]at gl;clear E4 MP M1 M2 LF hs hl2 n2;refine⟨(i+1,s5,y1,y2,y3,y4,os4),by dsimp only;omega,⟨⟨by dsimp only;omega,hgs⟩,E5.sub (by intro q hq;simp only [List.mem_cons,List.not_mem_nil,or_false]at hq ⊢;rcases hq with h|h|h<;>simp [h])⟩,?_⟩;dsimp only
   (refine kS ?_;exact uw)
  have hn1:p.node>=(at'.length:Nat):=by omega
  refine Ku @hc @hmx @L1 @L2 @hn1 ?_;exact hbad hn _
 have hie:i=c.ps.length:=by omega
 have hG:=aeE (c:=c) (n:=at'.length) fun k hk=>hg k (by omega);have e1:Kw c at'=((Oj c at' c.ps.length).ok&&(XA c at' c.ps.length).ok):=by unfold Kw;rw [hb,hG,cZ,cZ]
 unfold acV;rw [e1,hfx hie,hfy hie];have c1:=Jg h.kW hxc;have c2:=Jg h.kW hyc;have LF:=ah (ah (E.leaf 1 rfl rfl) (E.leaf 2 rfl rfl)) (ah (E.leaf 4 rfl rfl) (E.leaf 5 rfl rfl));have R:=ah (ah (E.res1 1 rfl rfl (kM _ _)) (E.res1 2 rfl rfl (kM _ _))) (ah (E.res1 4 rfl rfl (kM _ _)) (E.res1 5 rfl rfl (kM _ _)));refine D5 @hc @L1 @L2 @R @kQ @lI ?_;refine jK c1 ?_
 cases h1:X.ok
 ·refine Dy @L1 @L2 @LF ?_;exact ais.Ba
 refine Ku @L1 @L2 @R @kQ @lI ?_;refine jK c2 ?_
 cases h2:Y.ok
 ·refine Dy @L1 @L2 @LF ?_;exact ais.Ba
 refine Dy @L1 @L2 @LF ?_;have n1:=(E.l (1,⟨6,[[.bool false,.kC,.kC,.bool false,.kC,.kC]]⟩) (by simp)).2;have C:=E.c.set (o:=1) (x:=some ⟨6,[[.bool X.neg,x1,x2,.bool Y.neg,x3,x4]]⟩) n1;have hf:Fin (s.set 1 (some ⟨6,[[.bool X.neg,x1,x2,.bool Y.neg,x3,x4]]⟩)) (.agg [.bool X.neg,x1,x2,.bool Y.neg,x3,x4]) (ptV ⟨X,Y⟩):=xg (ru C.ow) C.nd;exact hf.Ba
section
variable {s s1 S σ2 : Store} {a b c ta tb tc rs trs cs ts : List V} {os os2 : List Nat} {L L' : List (Nat × Obj)}
theorem Ep.to(E:Ep s cs ts os L)(ho:∀o∈os,jQ S o=jQ s o)(hL:∀q∈L',(q∈L/\jQ S q.1=jQ s q.1)\/(jQ S q.1=some q.2/\q.1∉os)):Ep S cs ts os L':=by
 refine⟨E.c.frame ho,fun q hq=>?_⟩;rcases hL q hq with ⟨h1,h2⟩|h
 ·exact⟨h2.trans (E.l q h1).1,(E.l q h1).2⟩
 exact h
theorem Ep.WY(E:Ep s cs ts os L):∀o∈os,o<s.length:=fun o h=>E.c.lt o h
theorem Ep.avE(E:Ep s (a++(b++c)) (ta++(tb++tc)) os L)(hla:a.length=ta.length)(hlb:b.length=tb.length)(h1:∀o,o<s.length->jQ s1 o=jQ s o)(hl:s.length<=s1.length)(ho:nC σ2 rs trs os2)(hn:os2.Nodup)(hf:∀o∈os2,s1.length<=o)
  (old:∀o,o<s1.length->jQ σ2 o=jQ s1 o):∃os',Ep σ2 (a++(rs++c)) (ta++(trs++tc)) os' L/\∀o∈os',o∈os\/s1.length<=o:=by
 obtain⟨a1,a2,oa,obc,e,rfl,k1,k2⟩:=pV E.c.ow;obtain⟨rfl,rfl⟩:=fO e (by rw [hla];exact k1.len.symm);obtain⟨b1,b2,ob,oc,e,rfl,k3,k4⟩:=pV k2;obtain⟨rfl,rfl⟩:=fO e (by rw [hlb];exact k3.len.symm);have hlt:=fun o (h:o∈oa++(ob++oc))=>E.c.lt o h;have nd:=bf.1 E.c.nd;have nd2:=bf.1 nd.2.1;have fr:∀o∈oa++(ob++oc),jQ σ2 o=jQ s o:=fun o h=>by
  have:=hlt o h;rw [old o (by omega),h1 o this]
 refine⟨oa++(os2++oc),⟨⟨nD (k1.frame fun o h=>fr o (by simp [h])) (nD ho (k4.frame fun o h=>fr o (by simp [h]))),?_⟩,fun q hq=>⟨(old _ (bD (E.lt q hq) hl)).trans ((h1 _ (E.lt q hq)).trans (E.l q hq).1),fun hm=>?_⟩⟩,fun o h=>?_⟩
 ·rw [bf,bf];refine⟨nd.1,⟨hn,nd2.2.1,fun x hx y hy e=>?_⟩,fun x hx y hy e=>?_⟩
  ·have:=hf x hx;have:=hlt y (by simp [hy]);omega
  rcases aK.1 hy with hy|hy
  ·have:=hf y hy;have:=hlt x (by simp [hx]);omega
  exact nd.2.2 x hx y (dL _ hy) e
 ·simp only [aK]at hm;rcases hm with hm|hm|hm
  ·exact(E.l q hq).2 (by simp [hm])
  ·have:=hf _ hm;have:=E.lt q hq;omega
  exact(E.l q hq).2 (by simp [hm])
 simp only [aK]at h;rcases h with h|h|h
 ·exact .inl (by simp [h])
 ·exact .inr (hf o h)
 exact .inl (by simp [h])
theorem Ep.upd{p:Nat}{ob ob0:Obj}(E:Ep s (a++(b++c)) (ta++(tb++tc)) os L)(hp:(p,ob0)∈L)(hla:a.length=ta.length)(hlb:b.length=tb.length)(h1:∀o,o<s.length->jQ s1 o=jQ s o)(hl:s.length<=s1.length)(ho:nC σ2 rs trs os2)(hn:os2.Nodup)(hf:∀o∈os2,s1.length<=o)
  (old:∀o,o<s1.length->jQ σ2 o=jQ s1 o) (hL:∀q∈L',(q.1≠p/\q∈L)\/q=(p,ob)) (hs:s1.length<=σ2.length):∃os',Ep (σ2.set p (some ob)) (a++(rs++c)) (ta++(trs++tc)) os' L':=by
 obtain⟨os',E2,_⟩:=E.avE hla hlb h1 hl ho hn hf old;have hpl:=E.lt _ hp;exact⟨os',E2.JG (E2.l _ hp).2 (by dsimp only at hpl;omega) hL⟩
theorem Ep.cut(E:Ep s (a++(b++c)) (ta++(tb++tc)) os L)(hla:a.length=ta.length)(hlb:b.length=tb.length):∃os',Ep s (a++c) (ta++tc) os' L/\∀o∈os',o∈os:=by
 obtain⟨a1,a2,oa,obc,e,rfl,k1,k2⟩:=pV E.c.ow;obtain⟨rfl,rfl⟩:=fO e (by rw [hla];exact k1.len.symm);obtain⟨b1,b2,ob,oc,e,rfl,k3,k4⟩:=pV k2;obtain⟨rfl,rfl⟩:=fO e (by rw [hlb];exact k3.len.symm);have nd:=bf.1 E.c.nd;have nd2:=bf.1 nd.2.1;refine⟨oa++oc,⟨⟨nD k1 k4,?_⟩,fun q hq=>⟨(E.l q hq).1,fun hm=>(E.l q hq).2 ?_⟩⟩,fun o h=>?_⟩
 ·rw [bf];exact⟨nd.1,nd2.2.1,fun x hx y hy e=>nd.2.2 x hx y (dL _ hy) e⟩
 ·rcases aK.1 hm with h|h<;>simp [h]
 rcases aK.1 h with h|h<;>simp [h]
theorem Ep.swap(E:Ep s (a++(b++c)) (ta++(tb++tc)) os L)(hla:a.length=ta.length)(hlb:b.length=tb.length):∃os',Ep s (b++(a++c)) (tb++(ta++tc)) os' L/\∀o,o∈os'↔o∈os:=by
 obtain⟨a1,a2,oa,obc,e,rfl,k1,k2⟩:=pV E.c.ow;obtain⟨rfl,rfl⟩:=fO e (by rw [hla];exact k1.len.symm);obtain⟨b1,b2,ob,oc,e,rfl,k3,k4⟩:=pV k2;obtain⟨rfl,rfl⟩:=fO e (by rw [hlb];exact k3.len.symm);have nd:=bf.1 E.c.nd;have nd2:=bf.1 nd.2.1;have hm:∀o,o∈ob++(oa++oc)↔o∈oa++(ob++oc):=fun o=>by simp only [aK];constructor<;>rintro(h|h|h)<;>simp [h]
 refine⟨ob++(oa++oc),⟨⟨nD k3 (nD k1 k4),?_⟩,fun q hq=>⟨(E.l q hq).1,fun h=>(E.l q hq).2 ((hm _).1 h)⟩⟩,hm⟩;rw [bf,bf];refine⟨nd2.1,⟨nd.1,nd2.2.1,fun x hx y hy e=>nd.2.2 x hx y (dL _ hy) e⟩,fun x hx y hy e=>?_⟩;rcases aK.1 hy with hy|hy
 ·exact nd.2.2 y hy x (eG _ hx) e.symm
 exact nd2.2.2 x hx y hy e
theorem Ep.asZ{d td:List V}(E:Ep s (d++(a++(b++c))) (td++(ta++(tb++tc))) os L)(hld:d.length=td.length)(hla:a.length=ta.length)(hlb:b.length=tb.length):∃os',Ep s (d++(b++(a++c))) (td++(tb++(ta++tc))) os' L/\∀o,o∈os'↔o∈os:=by
 obtain⟨d1,d2,od,or,e,rfl,k1,k2⟩:=pV E.c.ow;obtain⟨rfl,rfl⟩:=fO e (by rw [hld];exact k1.len.symm);have nd:=bf.1 E.c.nd;have E2:Ep s (a++(b++c)) (ta++(tb++tc)) or []:=⟨⟨k2,nd.2.1⟩,by simp⟩;obtain⟨os',E3,hm⟩:=E2.swap hla hlb;have hmm:∀o,o∈od++os'↔o∈od++or:=fun o=>by simp only [aK,hm]
 refine⟨od++os',⟨⟨nD k1 E3.c.ow,?_⟩,fun q hq=>⟨(E.l q hq).1,fun h=>(E.l q hq).2 ((hmm _).1 h)⟩⟩,hmm⟩;rw [bf];exact⟨nd.1,E3.c.nd,fun x hx y hy e=>nd.2.2 x hx y ((hm y).1 hy) e⟩
end
theorem aeF{σ:Store}{k:Nat}:∀{A T:List (List V)} {os:List Nat},(∀r∈A,r.length=k)->(∀r∈T,r.length=k)->A.length=T.length->nC σ A.flatten T.flatten os->tX σ A T os
 |
  [],[],os,_,_,_,h=>by
  simp only [List.flatten_nil,nC]at h;simp only [tX];exact h
 | [],t::T,_,_,_,h,_=>by simp at h
 |a::A,[],_,_,_,h,_=>by simp at h
 |
  a::A,t::T,os,ha,ht,hl,h=>by
  simp only [dO]at h;obtain⟨v1,v2,o1,o2,e,rfl,h1,h2⟩:=pV h;have hlen:=h1.len;have e1:=ha a (by simp);have e2:=ht t (by simp);obtain⟨rfl,rfl⟩:=fO e (by omega);simp only [tX];exact⟨a,A,o1,o2,rfl,rfl,h1,aeF (fun r hr=>ha r (by simp [hr])) (fun r hr=>ht r (by simp [hr])) (by simpa using hl) h2⟩
section
variable {s : Store} {A T : List (List V)} {a c ta tc : List V} {os : List Nat} {L : List (Nat × Obj)} {n p k : Nat}
theorem Ep.close(E:Ep s (A.flatten++c) (T.flatten++tc) os L)(hp:(p,⟨n,A⟩)∈L)(ha:∀r∈A,r.length=k)(ht:∀r∈T,r.length=k)(hl:A.length=T.length) :
  ∃os',Ep s (.lQ p 0 A.length::c) (.sl n T::tc) os' (L.filter fun q=>q.1 != p):=by
 have hfl:A.flatten.length=T.flatten.length:=by
  have e1:∀(X:List (List V)),(∀r∈X,r.length=k)->X.flatten.length=X.length*k:=fun X=>by
   induction X with
   |nil=>intro _;simp
   |
    cons x X ih =>
    intro h;rw [dO,aS,ih fun r hr=>h r (by simp [hr]),h x (by simp),au,fA];omega
  rw [e1 A ha,e1 T ht,hl]
 obtain⟨v1,v2,o1,o2,e,rfl,h1,h2⟩:=pV E.c.ow;obtain⟨rfl,rfl⟩:=fO e (by rw [hfl];exact h1.len.symm);have hR:=aeF ha ht hl h1;have hpo:=E.l _ hp;have nd:=bf.1 E.c.nd;have hv:mP s (.lQ p 0 A.length) (.sl n T) (p::o1):=by
  simp only [mP];exact .inr ⟨p,A,o1,by rw [hl],hpo.1,rfl,hR⟩
 refine⟨(p::o1)++o2,⟨⟨qQ hv h2,?_⟩,fun q hq=>?_⟩⟩
 ·simp only [dI,eU];exact⟨hpo.2,E.c.nd⟩
 obtain⟨hq1,hq2⟩:=fG.1 hq;have hne:q.1≠p:=by simpa using hq2
 refine⟨(E.l q hq1).1,fun hm=>?_⟩;simp only [dI,aI]at hm;rcases hm with hm|hm
 ·exact hne hm
 exact(E.l q hq1).2 hm
theorem Ep.UC(E:Ep s (A.flatten++c) (T.flatten++tc) os L)(hp:(p,⟨n,A⟩)∈L)(ha:∀r∈A,r.length=k)(ht:∀r∈T,r.length=k)(hl:A.length=T.length)(m:Nat)(hd:oI m (.sl n T)):resolve s m (.lQ p 0 A.length)=some (.sl n T):=by
 obtain⟨os',E2⟩:=E.close hp ha ht hl;obtain⟨v,vs,o1,o2,e,_,h1,h2⟩:=E2.c.ow.inv;simp only [iF]at e;obtain⟨rfl,rfl⟩:=e;exact P9 m h1 hd
end
def EK:Fn:=⟨1,15,[.tmp 2],(sr [oN 2 mF] (.seq (sr [oW 5 0,oN 6 (ln 5),oN 7 (.qC (cI 0))] (.block 0 (.loop (sr [oN 8 (bt .lss 7 6)] (.seq (cd 8 .skip (.exit 0)) (.seq (.block 1 (.seq (rf 1 [oK 9 1 (ix 3 5 7),oK 10 1 (lT 3 9),oN 4 (.alloc uJ),⟨none,none,1,.store 3 (.t 4) (.t 10),[]⟩]) (sr [oN 11 (lT 3 4),oN 12 (cl 132 [11]),oN 13 (nt 12)] (cd 13 (sr [oN 2 mF] .ret) .skip)))) (rg [oN 14 (bc .add 7 1),oW 7 14]))))))) (sr [oN 2 mT] .ret)))⟩
structure yj (T:Tb):Prop where
 hT:T 244=some EK
 kW:pG T
def qB:Fn:=⟨1,88,[.tmp 2,.tmp 3],(sr [oN 2 mN,oN 3 mN] (.seq (sr [oW 12 0,oN 13 (cl 89 [12]),oN 14 (nt 13)] (cd 14 (sr [oN 2 mN,oN 3 mN] .ret) .skip)) (.seq (rf 1 [oN 15 (.nO 3 uJ 0 []),oK 4 1 (oV 15)]) (.seq (rf 1 [oN 16 (.nO 3 uJ 0 []),oK 5 1 (oV 16)]) (.seq (sr [oW 17 0,oN 18 (cl 180 [17]),oN 19 (ln 18),oN 20 (.qC (cI 0))] (.block 0 (.loop (sr [oN 21 (bt .lss 20 19)] (.seq (cd 21 .skip (.exit 0)) (.seq (.block 1 (sr [oN 22 (ix 1 18 20),oN 23 (lF 1 22),oW 7 23] (.seq (rf 1 [oK 24 1 (.call 39 [(cI 0)]),oN 8 (.alloc uJ),⟨none,none,1,.store 3 (.t 8) (.t 24),[]⟩]) (.seq (rf 1 [oK 25 1 (.call 39 [(cI 0)]),oN 9 (.alloc uJ),⟨none,none,1,.store 3 (.t 9) (.t 25),[]⟩]) (.seq (sr [oW 26 0,oN 27 (ln 26),oN 28 (.qC (cI 0))] (.block 2 (.loop (sr [oN 29 (bt .lss 28 27)] (.seq (cd 29 .skip (.exit 2)) (.seq (.block 3 (.seq (rf 1 [oK 30 1 (ix 11 26 28),oK 31 1 (lT 11 30),oN 11 (.alloc I5),⟨none,none,1,.store 11 (.t 11) (.t 31),[]⟩]) (sr [oN 32 (fd 1 11),oN 33 (lF 1 32),oW 34 7,oN 35 (bt .eql 33 34)] (cd 35 (.seq (rt 0 [oN 36 (lT 3 8),oN 37 (fd 2 11),oA 38 0 (lT 3 37) [1],oN 39 (fd 5 11),oA 40 0 (lT 3 39) [3],oA 41 0 (cl 157 [38,40]) [2,4],oA 42 0 (cl 131 [36,41]) [0,5,5],⟨none,none,0,.store 3 (.t 8) (.t 42),[6,6,0,1,2,3,4,5,6]⟩]) (rt 0 [oN 43 (lT 3 9),oN 44 (fd 2 11),oA 45 0 (lT 3 44) [1],oN 46 (fd 8 11),oA 47 0 (lT 3 46) [3],oA 48 0 (cl 157 [45,47]) [2,4],oA 49 0 (cl 131 [43,48]) [0,5,5],⟨none,none,0,.store 3 (.t 9) (.t 49),[6,6,0,1,2,3,4,5,6]⟩])) (sr [oN 50 (fd 0 11),oN 51 (lF 1 50),oW 52 7,oN 53 (bt .eql 51 52)] (cd 53 (.seq (rt 0 [oN 54 (lT 3 8),oN 55 (fd 2 11),oA 56 0 (lT 3 55) [1],oN 57 (fd 5 11),oA 58 0 (lT 3 57) [3],oA 59 0 (cl 157 [56,58]) [2,4],oA 60 0 (cl 159 [54,59]) [0,5,5],⟨none,none,0,.store 3 (.t 8) (.t 60),[6,6,0,1,2,3,4,5,6]⟩]) (rt 0 [oN 61 (lT 3 9),oN 62 (fd 2 11),oA 63 0 (lT 3 62) [1],oN 64 (fd 8 11),oA 65 0 (lT 3 64) [3],oA 66 0 (cl 157 [63,65]) [2,4],oA 67 0 (cl 159 [61,66]) [0,5,5],⟨none,none,0,.store 3 (.t 9) (.t 67),[6,6,0,1,2,3,4,5,6]⟩])) .skip)))))) (rg [oN 68 (bc .add 28 1),oW 28 68]))))))) (.seq (rf 2 [oK 69 2 (oV 4),oK 70 2 (lT 3 8),oN 71 (.nO 3 uJ 1 [(0,(.t 70))]),oK 72 1 (.app 3 56 (.t 69) (.t 71)),oK 4 2 (oV 72)]) (rf 2 [oK 73 2 (oV 5),oK 74 2 (lT 3 9),oN 75 (.nO 3 uJ 1 [(0,(.t 74))]),oK 76 1 (.app 3 56 (.t 73) (.t 75)),oK 5 2 (oV 76)]))))))) (rg [oN 77 (bc .add 20 1),oW 20 77]))))))) (.seq (sr [oW 78 4,oN 79 (cl 244 [78]),oN 80 (nt 79),oW 81 80,oG 81 false 82 (oV 5),oG 81 false 83 (cl 244 [82]),oG 81 false 84 (nt 83),oN 85 (.pick (.t 81) (.c (.bool true)) (.t 84))] (cd 85 (sr [oN 2 mN,oN 3 mN] .ret) .skip)) (sr [oW 86 4,oW 87 5,oW 2 86,oW 3 87] .ret)))))))⟩
structure wG (T:Tb):Prop where
 hT:T 276=some qB
 lK:nV T
 sO:vG T
 lJ:nM T
 l7:qL T
 rH:tu T
 vV:vU T
 um:yj T
def SX(v:Int)(p:R×R)(l:Lk):R×R :=
 if l.b=v then(oC p.1 (mulR l.w l.dx),oC p.2 (mulR l.w l.dy))
 else if l.a=v then(wL p.1 (mulR l.w l.dx),wL p.2 (mulR l.w l.dy))else p
def FB(s:List Lk)(v:Int):Nat->R×R
 |0=>(lC 0,lC 0)
 |k+1=>SX v (FB s v k) (s.getD k default)
theorem VG(s:List Lk)(v:Int):∀k,(FB s v k).1.cn/\(FB s v k).2.cn
 |0=>⟨wO (by decide),wO (by decide)⟩
 |
  k+1=>by
  have:=VG s v k;simp only [FB];unfold SX;split
  ·exact⟨wM _ _,wM _ _⟩
  split
  ·exact⟨KQ _ _,KQ _ _⟩
  exact this
def ivG(s:List Lk):Bool:=(kF s).all fun v=>(FB s v s.length).1.ok&&(FB s v s.length).2.ok
def U3(s:List Lk):List R:=if ivG s=true then(kF s).map fun v=>(FB s v s.length).1 else []
def U4(s:List Lk):List R:=if ivG s=true then(kF s).map fun v=>(FB s v s.length).2 else []
theorem ach(s:List Lk):((∀r∈U3 s,r.cn)/\(U3 s).length<=10)/\((∀r∈U4 s,r.cn)/\(U4 s).length<=10):=by
 have hn:=yR s;refine⟨?_,?_⟩
 ·unfold U3;split
  ·refine⟨fun r hr=>?_,by simpa using hn⟩;obtain⟨v,_,rfl⟩:=bF.1 hr;exact(VG s v _).1
  simp
 unfold U4;split
 ·refine⟨fun r hr=>?_,by simpa using hn⟩;obtain⟨v,_,rfl⟩:=bF.1 hr;exact(VG s v _).2
 simp
theorem aq8{s:List Lk}(h:ivG s=false):U3 s=[]/\U4 s=[]:=by
 unfold U3 U4;rw [h];exact⟨rfl,rfl⟩
theorem amZ{s:List Lk}(h:ivG s=true):U3 s=(kF s).map (fun v=>(FB s v s.length).1)/\U4 s=(kF s).map (fun v=>(FB s v s.length).2):=⟨aQ h,aQ h⟩
theorem am0{l:List R}(h:∀r∈l,r.cn)(hl:l.length<=100):DR R.wf l:=⟨by omega,fun x hx=>uy (h x hx)⟩
theorem Nq{T:Tb}(h:yj T){l:List R}(hc:∀r∈l,r.cn)(hl:l.length<=1048576):PF T 244 [pK l] (.bool (l.all R.ok)):=by
 refine lV nR h.hT ?_;simp only [EK,Lz];refine ev ?_;refine kZ (fun _ _=>false) (α:=Nat) (fun i=>⟨mJ [pK l,.any,.any,.any,.any,pK l,iv (l.length:Nat),iv (i:Nat)],[],0,0,[],[]⟩) (fun i=>i<=l.length/\∀k,k<i->(l.getD k default).ok=true) (fun i=>l.length-i) rfl 0 ?_ ?_ ?_
 ·exact⟨by omega,by intro k hk;omega⟩
 ·(refine kS ?_;exact Kr)
 rintro i ⟨hi,hg⟩;by_cases hcc:(i:Int)<(l.length:Nat)
 ·have hil:i<l.length:=by omega
  have hmx:(l.map R.cells).getD i []=(l.getD i default).cells:=mg hil;have hmem:=getD_mem (l:=l) hil;have hgs:(l.getD i default).ok=true->∀k,k<i+1->(l.getD k default).ok=true:=fun h k hk=>by
   by_cases e:k=i
   ·subst e;exact h
   exact hg k (by omega)
  generalize l.getD i default=x at hmx hmem hgs;have cg:=Jg h.kW (hc x hmem)
  cases hx:x.ok
  ·have ha:l.all R.ok=false:=ku.2 ⟨x,hmem,by rw [hx];simp⟩;rw [hx]at cg;rw [ha];refine xP @hcc @hmx ?_;refine jK cg ?_
   (refine ev ?_;try with_reducible exact aC)
  rw [hx]at cg;refine xP @hcc @hmx ?_;refine jK cg ?_;refine ev ?_;exact⟨i+1,by omega,⟨by omega,hgs hx⟩,by exact abY⟩
 have ha:l.all R.ok=true:=bg.2 fun x hx=>by
  obtain⟨k,hk⟩:=bJ.1 hx;have:=hg k (by have:=(aP.1 hk).1;omega);rw [aj,hk]at this;exact this
 rw [ha]
 (refine ev1 @hcc ?_;try with_reducible exact aC)
def Rs2(v w:V)(A B:List (List V))(M:List (Nat×Obj)):Prop :=
 (A=[]/\B=[]/\v=.kC/\w=.kC/\M=[])\/∃p q,p≠q/\v=.lQ p 0 A.length/\w=.lQ q 0 B.length/\M=[(p,⟨3,A⟩),(q,⟨3,B⟩)]
def rT(l:List R):List V:=(l.map R.cells).flatten
theorem agQ(l:List R)(r:R):rT (l++[r])=rT l++r.cells:=by simp [rT]
theorem flat3:∀{A:List (List V)},(∀r∈A,r.length=3)->A.flatten.length=3*A.length
 | [],_=>rfl
 |
  a::A,h=>by
  rw [dO,aS,flat3 fun r hr=>h r (by simp [hr]),h a (by simp),au];omega
theorem agR(l:List R):(rT l).length=3*l.length:=by
 unfold rT;rw [flat3 (fun r hr=>by obtain⟨x,_,rfl⟩:=bF.1 hr;rfl),aV]
theorem Ep.aEF{s:Store}{a b x y ta tb tx ty:List V}{os:List Nat}{L:List (Nat×Obj)}(E:Ep s (x++(y++(a++b))) (tx++(ty++(ta++tb))) os L)(hx:x.length=tx.length)(hy:y.length=ty.length)(ha:a.length=ta.length)(hb:b.length=tb.length) :
  ∃os',Ep s ((a++x)++(b++y)) ((ta++tx)++(tb++ty)) os' L/\∀o,o∈os'↔o∈os:=by
 obtain⟨o1,E1,h1⟩:=E.asZ hx hy ha;obtain⟨o2,E2,h2⟩:=E1.swap hx ha;have E2':Ep s ((a++x)++(y++(b++[]))) ((ta++tx)++(ty++(tb++[]))) o2 L:=by simpa only [cO,aU]using E2
 obtain⟨o3,E3,h3⟩:=E2'.asZ (by simp [hx,ha]) hy hb;exact⟨o3,by simpa only [cO,aU]using E3,fun o=>(h3 o).trans ((h2 o).trans (h1 o))⟩
theorem PF.azC{T:Tb}{f n:Nat}{r:V}(h:PF T f [.sl n []] r):PF T f [.kC] r :=
 .abt (by simp [wJ,nG]) h (kR _)
theorem aci{σ:Store}{n m:Nat}:Fin σ (.oU [.kC,.kC]) (.oU [.sl n [],.sl m []]) :=
 ⟨.oU [.sl n [],.sl m []],[],by simp only [nG,wJ];exact⟨_,rfl,_,_,rfl,gV (by simp),_,_,rfl,gV (by simp),rfl⟩,I7 (qQ (o1:=[]) (by simp [mP]) (qQ (o1:=[]) (by simp [mP]) qm)),.nil⟩
theorem Ol{T:Tb}(h:wG T){S:List Lk}(hw:DR Lk.wf S)(hl:S.length<=1048576):PO T 276 [nZ S] (.oU [pK (U3 S),pK (U4 S)]):=by
 have ci:=Jh h.sO hw
 cases h1:lN S
 ·rw [h1]at ci;have:U3 S=[]/\U4 S=[]:=by
   unfold U3 U4;rw [amO h1];simp
  rw [this.1,this.2];refine mM nR h.hT ?_;simp only [qB,Lz,St.enter,au,aG,aX];refine ew ?_;refine jK ci ?_;refine ew ?_;exact aci
 rw [h1]at ci;have cn:=(Qg h.vV (l:=S) hw).XZ (kM _ _);rw [<-JW h1]at cn;have hnl:=yR S;have agS:=fun a=>DC (l:=S) (a:=a);refine mM (fun x d=>(x == 39&&d == 24)||(x == 39&&d == 25)||(x == 131&&d == 42)||(x == 131&&d == 49)||(x == 159&&d == 60)||(x == 159&&d == 67)) h.hT ?_;simp only [qB,Lz,St.enter,au,aG,aX];refine ew ?_;refine jK ci ?_;refine ew ?_;refine jK cn ?_;refine ew ?_;refine kZ (fun x d=>(x == 39&&d == 24)||(x == 39&&d == 25)||(x == 131&&d == 42)||(x == 131&&d == 49)||(x == 159&&d == 60)||(x == 159&&d == 67)) (α:=Nat×Store×V×V×List (List V)×List (List V)×List Nat×List (Nat×Obj)) (fun q=>⟨mJ [nZ S,.any,.any,.any,q.2.2.1,q.2.2.2.1,.any,.any,.any,.any,.any,.any,.any,.any,.any,.any,.any,.any,ints (kF S),iv ((kF S).length:Nat),iv (q.1:Nat)],q.2.1,0,0,[],[]⟩) (fun q=>(q.1<=(kF S).length/\Rs2 q.2.2.1 q.2.2.2.1 q.2.2.2.2.1 q.2.2.2.2.2.1 q.2.2.2.2.2.2.2/\(∀r∈q.2.2.2.2.1,r.length=3)/\(∀r∈q.2.2.2.2.2.1,r.length=3)/\q.2.2.2.2.1.length=q.1/\q.2.2.2.2.2.1.length=q.1)/\Ep q.2.1 (q.2.2.2.2.1.flatten++q.2.2.2.2.2.1.flatten) (rT (((kF S).take q.1).map fun v=>(FB S v S.length).1)++rT (((kF S).take q.1).map fun v=>(FB S v S.length).2)) q.2.2.2.2.2.2.1 q.2.2.2.2.2.2.2) (fun q=>(kF S).length-q.1) rfl (0,[none,none],.kC,.kC,[],[],[],[]) ?_ ?_ ?_
 ·exact⟨⟨by omega,.inl ⟨rfl,rfl,rfl,rfl,rfl⟩,by simp,by simp,rfl,rfl⟩,⟨⟨by simp [rT,nC],.nil⟩,by simp⟩⟩
 ·(refine kS ?_;exact uw)
 rintro⟨i,s,v4,v5,A,B,os,M⟩ ⟨⟨hi,hvv,hA,hB,hAl,hBl⟩,E⟩;dsimp only at hi hvv hA hB hAl hBl E;by_cases hc:(i:Int)<((kF S).length:Nat)
 ·have hil:i<(kF S).length:=by omega
  have et:(kF S).take (i+1)=(kF S).take i++[(kF S).getD i 0]:=by
   rw [iY,ak hil,aj,ak hil];rfl
  generalize hv:(kF S).getD i 0=v at et;generalize hX:((kF S).take i).map (fun v=>(FB S v S.length).1)=X at E;generalize hY:((kF S).take i).map (fun v=>(FB S v S.length).2)=Y at E;have hTl:A.flatten.length=(rT X).length/\B.flatten.length=(rT Y).length:=by
   rw [flat3 hA,flat3 hB,agR,agR,<-hX,<-hY];simp only [aV,eu];omega
  generalize hTX:rT X=TX at *;generalize hTY:rT Y=TY at *;refine AZ @hc @hv ?_;refine nH (qM h.lK (n:=0)) (by (refine ew ?_;try with_reducible exact aC)) ?_;intro r q1 o1 G;obtain⟨_,rfl,Rt⟩:=G.ow.lU;obtain⟨x1,x2,rfl⟩:=Rt.rat
  have E1:=E.got (s1:=s++[none]) (fun o ho=>kV ho) (by simp) Rt G.nd G.fresh G.old;have F1:=E.free (s1:=s++[none]) (p:=s.length) G.fresh (aJ _) (by simp);have gl:s.length+1<=q1.length:=by simpa using G.len
  have hM:∀q∈M,q.1≠s.length:=fun q hq=>by have:=E.lt q hq;omega
  replace E1:=E1.loc (ob:=⟨3,[[.bool (lC 0).neg,x1,x2]]⟩) F1 (by omega) hM
  have l1:=nC.leaf Rt rfl;simp only [dD,dU,dJ,aH]at l1;refine AZ @l1 @List.set_set.{0} ?_;generalize avF:q1.set s.length (some ⟨3,[[.bool (lC 0).neg,x1,x2]]⟩)=s1 at *;have hs1:s.length<s1.length:=by rw [<-avF];simp;omega
  have hlq:q1.length=s1.length:=by rw [<-avF];simp
  generalize s.length=p8 at *;clear G gl avF Rt;generalize q1.length=n1 at *;subst hlq;refine nH (qM h.lK (n:=0)) (by (refine ew ?_;try with_reducible exact aC)) ?_;intro r q2 o2 G;obtain⟨_,rfl,hQ2⟩:=G.ow.lU;obtain⟨y1,y2,rfl⟩:=hQ2.rat
  have E2:=E1.got (s1:=s1++[none]) (fun o ho=>kV ho) (by simp) hQ2 G.nd G.fresh G.old;have F2:=E1.free (s1:=s1++[none]) (p:=s1.length) G.fresh (aJ _) (by simp);have gl:s1.length+1<=q2.length:=by simpa using G.len
  have hM2:∀q∈M++[(p8,(⟨3,[[.bool (lC 0).neg,x1,x2]]⟩:Obj))],q.1≠s1.length:=fun q hq=>by have:=E1.lt q hq;omega
  replace E2:=E2.loc (ob:=⟨3,[[.bool (lC 0).neg,y1,y2]]⟩) F2 (by omega) hM2
  have l2:=nC.leaf hQ2 rfl;simp only [dD,dU,dJ,aH]at l2;refine AZ @l2 @List.set_set.{0} ?_;have h89:p8≠s1.length:=by omega
  generalize aEG:q2.set s1.length (some ⟨3,[[.bool (lC 0).neg,y1,y2]]⟩)=s2 at *;generalize s1.length=p9 at *;clear G gl aEG hQ2 E1 l1 l2 E;generalize hCe:A.flatten++B.flatten=Cc at *;generalize azD:TX++TY=TC at *;have hCl:Cc.length=TC.length:=by rw [<-hCe,<-azD,aS,aS,hTl.1,hTl.2]
  rw [cO,cO]at E2;obtain⟨os2,E3,_⟩:=Ep.swap (a:=Cc) (b:=[.bool (lC 0).neg,x1,x2]++[.bool (lC 0).neg,y1,y2]) (c:=[]) (ta:=TC) (tb:=(lC 0).cells++(lC 0).cells) (tc:=[]) (by simpa only [aU]using E2) hCl rfl;simp only [aU]at E3;clear E2;have E3:=E3.sub (L':=(p8,(⟨3,[[.bool (lC 0).neg,x1,x2]]⟩:Obj))::(p9,(⟨3,[[.bool (lC 0).neg,y1,y2]]⟩:Obj))::M) (by
   intro q hq;simp only [aI,aK,bY,or_false]at hq ⊢;rcases hq with h|h|h<;>simp [h])
  refine kZ (fun x d=>(x == 39&&d == 24)||(x == 39&&d == 25)||(x == 131&&d == 42)||(x == 131&&d == 49)||(x == 159&&d == 60)||(x == 159&&d == 67)) (α:=Nat×Store×V×V×V×V×List Nat) (fun q=>⟨mJ [nZ S,.any,.any,.any,v4,v5,.any,iv v,.ptr p8 0 0,.ptr p9 0 0,.any,.any,.any,.any,.any,.any,.any,.any,ints (kF S),iv ((kF S).length:Nat),iv (i:Nat),.any,.any,.any,.any,.any,nZ S,iv (S.length:Nat),iv (q.1:Nat)],q.2.1,0,0,[],[]⟩) (fun q=>q.1<=S.length/\Ep q.2.1 ([.bool (FB S v q.1).1.neg,q.2.2.1,q.2.2.2.1,.bool (FB S v q.1).2.neg,q.2.2.2.2.1,q.2.2.2.2.2.1]++Cc) ([.bool (FB S v q.1).1.neg,ints (FB S v q.1).1.mag,ints (FB S v q.1).1.den,.bool (FB S v q.1).2.neg,ints (FB S v q.1).2.mag,ints (FB S v q.1).2.den]++TC) q.2.2.2.2.2.2 ((p8,(⟨3,[[.bool (FB S v q.1).1.neg,q.2.2.1,q.2.2.2.1]]⟩:Obj))::(p9,(⟨3,[[.bool (FB S v q.1).2.neg,q.2.2.2.2.1,q.2.2.2.2.2.1]]⟩:Obj))::M)) (fun q=>S.length-q.1) rfl (0,s2,x1,x2,y1,y2,os2) ?_ ?_ ?_
  ·exact⟨by omega,E3⟩
  ·(refine kS ?_;exact uw)
  have hMp:∀q∈M,q.1≠p8/\q.1≠p9:=fun q hq=>⟨hM q hq,hM2 q (by simp [hq])⟩;clear E3 hM hM2 F1 F2 hs1;rintro⟨k,s,x1,x2,y1,y2,os⟩ ⟨hk,E⟩;dsimp only at hk E;have hcn:=VG S v k;by_cases hck:(k:Int)<(S.length:Nat)
  ·have hkl:k<S.length:=by omega
   have hes:FB S v (k+1)=SX v (FB S v k) (S.getD k default):=rfl;have hmx:(S.map Lk.cells).getD k []=(S.getD k default).cells:=mg hkl;have hko:=wS h1 hkl;have hk:=Oi hko;have hnd:=qp hko;generalize S.getD k default=lk at hes hmx hk hnd;unfold SX at hes;obtain⟨hX,hY⟩:=hcn;generalize hX0:(FB S v k).1=X at *;generalize hY0:(FB S v k).2=Y at *;have hM8:∀q∈M,q.1≠p8:=fun q hq=>hMp q hq |>.1
   have hM9:∀q∈M,q.1≠p9:=fun q hq=>hMp q hq |>.2
   have L8:=E.at0 (p:=p8) (ob:=⟨3,[[.bool X.neg,x1,x2]]⟩) (by simp);have L9:=E.at0 (p:=p9) (ob:=⟨3,[[.bool Y.neg,y1,y2]]⟩) (by simp);have E0:=(E.push (ob:=⟨11,[lk.cells]⟩)).sub (L':=(p8,(⟨3,[[.bool X.neg,x1,x2]]⟩:Obj))::(p9,(⟨3,[[.bool Y.neg,y1,y2]]⟩:Obj))::(s.length,(⟨11,[lk.cells]⟩:Obj))::M) (by
    intro q hq;simp only [aI,aK,bY,or_false]at hq ⊢;rcases hq with h|h|h|h<;>simp [h])
   have hm8:p8≠s.length:=by omega
   have hm9:p9≠s.length:=by omega
   have hfin:∀(S2:Store) (X Y:R) (x1 x2 y1 y2:V) (os:List Nat) (m:Nat),FB S v (k+1)=(X,Y)->Ep S2 ([.bool X.neg,x1,x2,.bool Y.neg,y1,y2]++Cc) ([.bool X.neg,ints X.mag,ints X.den,.bool Y.neg,ints Y.mag,ints Y.den]++TC) os ((p8,(⟨3,[[.bool X.neg,x1,x2]]⟩:Obj))::(p9,(⟨3,[[.bool Y.neg,y1,y2]]⟩:Obj))::(m,(⟨11,[lk.cells]⟩:Obj))::M) ->
     Ep S2 ([.bool (FB S v (k+1)).1.neg,x1,x2,.bool (FB S v (k+1)).2.neg,y1,y2]++Cc) ([.bool (FB S v (k+1)).1.neg,ints (FB S v (k+1)).1.mag,ints (FB S v (k+1)).1.den,.bool (FB S v (k+1)).2.neg,ints (FB S v (k+1)).2.mag,ints (FB S v (k+1)).2.den]++TC) os ((p8,(⟨3,[[.bool (FB S v (k+1)).1.neg,x1,x2]]⟩:Obj))::(p9,(⟨3,[[.bool (FB S v (k+1)).2.neg,y1,y2]]⟩:Obj))::M):=by
    intro S2 X Y x1 x2 y1 y2 os m he E;rw [he];exact E.sub fun q hq=>by
     simp only [aI]at hq ⊢;rcases hq with h|h|h<;>simp [h]
   by_cases hbv:lk.b=v
   ·rw [aQ hbv]at hes;refine Ku @hck @hmx @hbv @L8 @L9 ?_;generalize hS0:s++[some (⟨11,[lk.cells]⟩:Obj)]=S0 at *;generalize s.length=m at *;clear hS0 L8 L9 E;refine jK (uz h.l7 hk.1 hk.2.1) ?_;have L8:=E0.at0 (p:=p8) (ob:=⟨3,[[.bool X.neg,x1,x2]]⟩) (by simp);have L9:=E0.at0 (p:=p9) (ob:=⟨3,[[.bool Y.neg,y1,y2]]⟩) (by simp);have Lm:=E0.at0 (p:=m) (ob:=⟨11,[lk.cells]⟩) (by simp);have R:=ah (E0.res1 1 rfl rfl (kM _ _)) (E0.res1 2 rfl rfl (kM _ _));have LF:=ah (E0.leaf 1 rfl rfl) (E0.leaf 2 rfl rfl);refine Ku (ah L8 (ah L9 Lm)) @R @LF @kQ @lI ?_;have hmc1:=Jf lk.w lk.dx;generalize mulR lk.w lk.dx=mm1 at *;refine vk (fun o=>o∈os) (show PO T 131 [lD X,lD mm1] (lD (oC X mm1))from yT h.lJ hX hmc1) (by (refine Dy @R @kQ @lI ?_;try with_reducible exact aC)) ?_ ?_
    ·intro o ho;have ho:o∈reach S0 (11+1) (.agg [.bool X.neg,x1,x2])++(reach S0 FD (lD mm1)++[]):=ho;rw [show reach S0 FD (lD mm1)=[]from by (refine ew ?_;try with_reducible exact aC),aU,aU]at ho;obtain⟨c,hc,ho⟩:=xR.1 ho;rcases aI.1 hc with e|hc
     ·rw [e]at ho;simp [reach]at ho
     rcases aI.1 hc with e|hc
     ·rw [e]at ho;exact E0.reach 1 rfl rfl _ o ho
     rw [aW.1 hc]at ho;exact E0.reach 2 rfl rfl _ o ho
    intro Rr r q2 o2 hRr G;have gl:S0.length<=q2.length:=G.len;obtain⟨_,rfl,hQ⟩:=G.ow.lU;obtain⟨z11,z12,rfl⟩:=hQ.rat
    have lz:=nC.leaf hQ rfl;simp only [dD,dU,dJ,aH]at lz;have hZ1:=wM X mm1;generalize oC X mm1=Z1 at *;obtain⟨os1,E1⟩:=Ep.upd (a:=[]) (b:=[.bool X.neg,x1,x2]) (c:=[.bool Y.neg,y1,y2]++Cc) (ta:=[]) (tb:=[.bool X.neg,ints X.mag,ints X.den]) (tc:=[.bool Y.neg,ints Y.mag,ints Y.den]++TC) (p:=p8) (ob:=⟨3,[[.bool Z1.neg,z11,z12]]⟩) (ob0:=⟨3,[[.bool X.neg,x1,x2]]⟩) (L':=(p8,(⟨3,[[.bool Z1.neg,z11,z12]]⟩:Obj))::(p9,(⟨3,[[.bool Y.neg,y1,y2]]⟩:Obj))::(m,(⟨11,[lk.cells]⟩:Obj))::M) E0 (by simp) rfl rfl (fun _ _=>rfl) (aJ _) hQ G.nd G.fresh G.old (by
      intro q hq;simp only [aI]at hq ⊢;rcases hq with rfl|rfl|rfl|hq
      ·exact .inr rfl
      ·exact .inl ⟨by dsimp only;omega,by simp⟩
      ·exact .inl ⟨by dsimp only;omega,by simp⟩
      exact .inl ⟨hM8 q hq,by simp [hq]⟩) gl
    have K8:=(G.old p8 L8.2).trans L8.1;have K9:=(G.old p9 L9.2).trans L9.1;have Km:=(G.old m Lm.2).trans Lm.1;have hK:p8<q2.length:=by have:=L8.2;have:=L9.2;omega
    refine Ku @lz (ah K8 (ah K9 Km)) @hK @kQ @lI ?_;refine⟨by unfold sF;rfl,?_⟩;generalize q2.set p8 (some ⟨3,[[.bool Z1.neg,z11,z12]]⟩)=S1 at *;clear G gl hQ lz K8 K9 Km hK R LF L8 L9 Lm hRr hmc1 E0;refine jK (uz h.l7 hk.1 hk.2.2) ?_;have L8:=E1.at0 (p:=p8) (ob:=⟨3,[[.bool Z1.neg,z11,z12]]⟩) (by simp);have L9:=E1.at0 (p:=p9) (ob:=⟨3,[[.bool Y.neg,y1,y2]]⟩) (by simp);have Lm:=E1.at0 (p:=m) (ob:=⟨11,[lk.cells]⟩) (by simp);have R:=ah (E1.res1 4 rfl rfl (kM _ _)) (E1.res1 5 rfl rfl (kM _ _));have LF:=ah (E1.leaf 4 rfl rfl) (E1.leaf 5 rfl rfl);refine Ku (ah L8 (ah L9 Lm)) @R @LF @kQ @lI ?_;have am1:=Jf lk.w lk.dy;generalize mulR lk.w lk.dy=mm2 at *;refine vk (fun o=>o∈os1) (show PO T 131 [lD Y,lD mm2] (lD (oC Y mm2))from yT h.lJ hY am1) (by (refine Dy @R @kQ @lI ?_;try with_reducible exact aC)) ?_ ?_
    ·intro o ho;have ho:o∈reach S1 (11+1) (.agg [.bool Y.neg,y1,y2])++(reach S1 FD (lD mm2)++[]):=ho;rw [show reach S1 FD (lD mm2)=[]from by (refine ew ?_;try with_reducible exact aC),aU,aU]at ho;obtain⟨c,hc,ho⟩:=xR.1 ho;rcases aI.1 hc with e|hc
     ·rw [e]at ho;simp [reach]at ho
     rcases aI.1 hc with e|hc
     ·rw [e]at ho;exact E1.reach 4 rfl rfl _ o ho
     rw [aW.1 hc]at ho;exact E1.reach 5 rfl rfl _ o ho
    intro Rr r q2 o2 hRr G;have gl:S1.length<=q2.length:=G.len;obtain⟨_,rfl,hQ⟩:=G.ow.lU;obtain⟨z21,z22,rfl⟩:=hQ.rat
    have lz:=nC.leaf hQ rfl;simp only [dD,dU,dJ,aH]at lz;have hZ2:=wM Y mm2;generalize oC Y mm2=Z2 at *;obtain⟨os2,E2⟩:=Ep.upd (a:=[.bool Z1.neg,z11,z12]) (b:=[.bool Y.neg,y1,y2]) (c:=Cc) (ta:=[.bool Z1.neg,ints Z1.mag,ints Z1.den]) (tb:=[.bool Y.neg,ints Y.mag,ints Y.den]) (tc:=TC) (p:=p9) (ob:=⟨3,[[.bool Z2.neg,z21,z22]]⟩) (ob0:=⟨3,[[.bool Y.neg,y1,y2]]⟩) (L':=(p8,(⟨3,[[.bool Z1.neg,z11,z12]]⟩:Obj))::(p9,(⟨3,[[.bool Z2.neg,z21,z22]]⟩:Obj))::(m,(⟨11,[lk.cells]⟩:Obj))::M) E1 (by simp) rfl rfl (fun _ _=>rfl) (aJ _) hQ G.nd G.fresh G.old (by
      intro q hq;simp only [aI]at hq ⊢;rcases hq with rfl|rfl|rfl|hq
      ·exact .inl ⟨by dsimp only;omega,by simp⟩
      ·exact .inr rfl
      ·exact .inl ⟨by dsimp only;omega,by simp⟩
      exact .inl ⟨hM9 q hq,by simp [hq]⟩) gl
    have K8:=(G.old p8 L8.2).trans L8.1;have K9:=(G.old p9 L9.2).trans L9.1;have Km:=(G.old m Lm.2).trans Lm.1;have hK:p9<q2.length:=by have:=L8.2;have:=L9.2;omega
    refine Ku @lz (ah K8 (ah K9 Km)) @hK @kQ @lI ?_;refine⟨by unfold sF;rfl,?_⟩;generalize q2.set p9 (some ⟨3,[[.bool Z2.neg,z21,z22]]⟩)=S2 at *;clear G gl hQ lz K8 K9 Km hK R LF L8 L9 Lm hRr am1 E1;refine⟨(k+1,S2,z11,z12,z21,z22,os2),by dsimp only;omega,⟨by dsimp only;omega,hfin S2 Z1 Z2 z11 z12 z21 z22 os2 m hes E2⟩,?_⟩;dsimp only
    (refine kS ?_;exact uw)
   rw [aN hbv]at hes;by_cases hav:lk.a=v
   ·rw [aQ hav]at hes;refine D5 @hck @hmx @hbv @hav @L8 @L9 ?_;generalize hS0:s++[some (⟨11,[lk.cells]⟩:Obj)]=S0 at *;generalize s.length=m at *;clear hS0 L8 L9 E;refine jK (uz h.l7 hk.1 hk.2.1) ?_;have L8:=E0.at0 (p:=p8) (ob:=⟨3,[[.bool X.neg,x1,x2]]⟩) (by simp);have L9:=E0.at0 (p:=p9) (ob:=⟨3,[[.bool Y.neg,y1,y2]]⟩) (by simp);have Lm:=E0.at0 (p:=m) (ob:=⟨11,[lk.cells]⟩) (by simp);have R:=ah (E0.res1 1 rfl rfl (kM _ _)) (E0.res1 2 rfl rfl (kM _ _));have LF:=ah (E0.leaf 1 rfl rfl) (E0.leaf 2 rfl rfl);refine Ku (ah L8 (ah L9 Lm)) @R @LF @kQ @lI ?_;have hmc1:=Jf lk.w lk.dx;generalize mulR lk.w lk.dx=mm1 at *;refine vk (fun o=>o∈os) (show PO T 159 [lD X,lD mm1] (lD (wL X mm1))from SV h.rH hX hmc1) (by (refine Dy @R @kQ @lI ?_;try with_reducible exact aC)) ?_ ?_
    ·intro o ho;have ho:o∈reach S0 (11+1) (.agg [.bool X.neg,x1,x2])++(reach S0 FD (lD mm1)++[]):=ho;rw [show reach S0 FD (lD mm1)=[]from by (refine ew ?_;try with_reducible exact aC),aU,aU]at ho;obtain⟨c,hc,ho⟩:=xR.1 ho;rcases aI.1 hc with e|hc
     ·rw [e]at ho;simp [reach]at ho
     rcases aI.1 hc with e|hc
     ·rw [e]at ho;exact E0.reach 1 rfl rfl _ o ho
     rw [aW.1 hc]at ho;exact E0.reach 2 rfl rfl _ o ho
    intro Rr r q2 o2 hRr G;have gl:S0.length<=q2.length:=G.len;obtain⟨_,rfl,hQ⟩:=G.ow.lU;obtain⟨z11,z12,rfl⟩:=hQ.rat
    have lz:=nC.leaf hQ rfl;simp only [dD,dU,dJ,aH]at lz;have hZ1:=KQ X mm1;generalize wL X mm1=Z1 at *;obtain⟨os1,E1⟩:=Ep.upd (a:=[]) (b:=[.bool X.neg,x1,x2]) (c:=[.bool Y.neg,y1,y2]++Cc) (ta:=[]) (tb:=[.bool X.neg,ints X.mag,ints X.den]) (tc:=[.bool Y.neg,ints Y.mag,ints Y.den]++TC) (p:=p8) (ob:=⟨3,[[.bool Z1.neg,z11,z12]]⟩) (ob0:=⟨3,[[.bool X.neg,x1,x2]]⟩) (L':=(p8,(⟨3,[[.bool Z1.neg,z11,z12]]⟩:Obj))::(p9,(⟨3,[[.bool Y.neg,y1,y2]]⟩:Obj))::(m,(⟨11,[lk.cells]⟩:Obj))::M) E0 (by simp) rfl rfl (fun _ _=>rfl) (aJ _) hQ G.nd G.fresh G.old (by
      intro q hq;simp only [aI]at hq ⊢;rcases hq with rfl|rfl|rfl|hq
      ·exact .inr rfl
      ·exact .inl ⟨by dsimp only;omega,by simp⟩
      ·exact .inl ⟨by dsimp only;omega,by simp⟩
      exact .inl ⟨hM8 q hq,by simp [hq]⟩) gl
    have K8:=(G.old p8 L8.2).trans L8.1;have K9:=(G.old p9 L9.2).trans L9.1;have Km:=(G.old m Lm.2).trans Lm.1;have hK:p8<q2.length:=by have:=L8.2;have:=L9.2;omega
    refine Ku @lz (ah K8 (ah K9 Km)) @hK @kQ @lI ?_;refine⟨by unfold sF;rfl,?_⟩;generalize q2.set p8 (some ⟨3,[[.bool Z1.neg,z11,z12]]⟩)=S1 at *;clear G gl hQ lz K8 K9 Km hK R LF L8 L9 Lm hRr hmc1 E0;refine jK (uz h.l7 hk.1 hk.2.2) ?_;have L8:=E1.at0 (p:=p8) (ob:=⟨3,[[.bool Z1.neg,z11,z12]]⟩) (by simp);have L9:=E1.at0 (p:=p9) (ob:=⟨3,[[.bool Y.neg,y1,y2]]⟩) (by simp);have Lm:=E1.at0 (p:=m) (ob:=⟨11,[lk.cells]⟩) (by simp);have R:=ah (E1.res1 4 rfl rfl (kM _ _)) (E1.res1 5 rfl rfl (kM _ _));have LF:=ah (E1.leaf 4 rfl rfl) (E1.leaf 5 rfl rfl);refine Ku (ah L8 (ah L9 Lm)) @R @LF @kQ @lI ?_;have am1:=Jf lk.w lk.dy;generalize mulR lk.w lk.dy=mm2 at *;refine vk (fun o=>o∈os1) (show PO T 159 [lD Y,lD mm2] (lD (wL Y mm2))from SV h.rH hY am1) (by (refine Dy @R @kQ @lI ?_;try with_reducible exact aC)) ?_ ?_
    ·intro o ho;have ho:o∈reach S1 (11+1) (.agg [.bool Y.neg,y1,y2])++(reach S1 FD (lD mm2)++[]):=ho;rw [show reach S1 FD (lD mm2)=[]from by (refine ew ?_;try with_reducible exact aC),aU,aU]at ho;obtain⟨c,hc,ho⟩:=xR.1 ho;rcases aI.1 hc with e|hc
     ·rw [e]at ho;simp [reach]at ho
     rcases aI.1 hc with e|hc
     ·rw [e]at ho;exact E1.reach 4 rfl rfl _ o ho
     rw [aW.1 hc]at ho;exact E1.reach 5 rfl rfl _ o ho
    intro Rr r q2 o2 hRr G;have gl:S1.length<=q2.length:=G.len;obtain⟨_,rfl,hQ⟩:=G.ow.lU;obtain⟨z21,z22,rfl⟩:=hQ.rat
    have lz:=nC.leaf hQ rfl;simp only [dD,dU,dJ,aH]at lz;have hZ2:=KQ Y mm2;generalize wL Y mm2=Z2 at *;obtain⟨os2,E2⟩:=Ep.upd (a:=[.bool Z1.neg,z11,z12]) (b:=[.bool Y.neg,y1,y2]) (c:=Cc) (ta:=[.bool Z1.neg,ints Z1.mag,ints Z1.den]) (tb:=[.bool Y.neg,ints Y.mag,ints Y.den]) (tc:=TC) (p:=p9) (ob:=⟨3,[[.bool Z2.neg,z21,z22]]⟩) (ob0:=⟨3,[[.bool Y.neg,y1,y2]]⟩) (L':=(p8,(⟨3,[[.bool Z1.neg,z11,z12]]⟩:Obj))::(p9,(⟨3,[[.bool Z2.neg,z21,z22]]⟩:Obj))::(m,(⟨11,[lk.cells]⟩:Obj))::M) E1 (by simp) rfl rfl (fun _ _=>rfl) (aJ _) hQ G.nd G.fresh G.old (by
      intro q hq;simp only [aI]at hq ⊢;rcases hq with rfl|rfl|rfl|hq
      ·exact .inl ⟨by dsimp only;omega,by simp⟩
      ·exact .inr rfl
      ·exact .inl ⟨by dsimp only;omega,by simp⟩
      exact .inl ⟨hM9 q hq,by simp [hq]⟩) gl
    have K8:=(G.old p8 L8.2).trans L8.1;have K9:=(G.old p9 L9.2).trans L9.1;have Km:=(G.old m Lm.2).trans Lm.1;have hK:p9<q2.length:=by have:=L8.2;have:=L9.2;omega
    refine Ku @lz (ah K8 (ah K9 Km)) @hK @kQ @lI ?_;refine⟨by unfold sF;rfl,?_⟩;generalize q2.set p9 (some ⟨3,[[.bool Z2.neg,z21,z22]]⟩)=S2 at *;clear G gl hQ lz K8 K9 Km hK R LF L8 L9 Lm hRr am1 E1;refine⟨(k+1,S2,z11,z12,z21,z22,os2),by dsimp only;omega,⟨by dsimp only;omega,hfin S2 Z1 Z2 z11 z12 z21 z22 os2 m hes E2⟩,?_⟩;dsimp only
    (refine kS ?_;exact uw)
   rw [aN hav]at hes;refine D5 @hck @hmx @hbv @hav @L8 @L9 ?_;refine⟨(k+1,s++[some (⟨11,[lk.cells]⟩:Obj)],x1,x2,y1,y2,os),by dsimp only;omega,⟨by dsimp only;omega,hfin _ X Y x1 x2 y1 y2 os s.length (by rw [hes,<-hX0,<-hY0]) E0⟩,?_⟩;dsimp only
   (refine kS ?_;exact uw)
  have hke:k=S.length:=by omega
  rw [hke]at hcn E;clear hke hk;generalize hpv:FB S v S.length=pv at hcn E;obtain⟨hX',hY'⟩:=hcn;generalize hXe:pv.1=X' at *;generalize hYe:pv.2=Y' at *;have L8:=E.at0 (p:=p8) (ob:=⟨3,[[.bool X'.neg,x1,x2]]⟩) (by simp);have L9:=E.at0 (p:=p9) (ob:=⟨3,[[.bool Y'.neg,y1,y2]]⟩) (by simp);have LF:=ah (ah (E.leaf 1 rfl rfl) (E.leaf 2 rfl rfl)) (ah (E.leaf 4 rfl rfl) (E.leaf 5 rfl rfl));have Ex:Ep s ([.bool X'.neg,x1,x2]++([.bool Y'.neg,y1,y2]++(A.flatten++B.flatten))) (X'.cells++(Y'.cells++(rT X++rT Y))) os ((p8,(⟨3,[[.bool X'.neg,x1,x2]]⟩:Obj))::(p9,(⟨3,[[.bool Y'.neg,y1,y2]]⟩:Obj))::M):=by rw [hCe,hTX,hTY,azD];exact E
  obtain⟨os',E5,hmm⟩:=Ex.aEF rfl rfl (by rw [hTX];exact hTl.1) (by rw [hTY];exact hTl.2);have azE:=E.WY;have azF:∀q∈M,q.1∉os':=fun q hq hm=>(E.l q (by simp [hq])).2 ((hmm _).1 hm);have hlt':∀o∈os',o<s.length:=fun o ho=>azE o ((hmm o).1 ho);have eX:((kF S).take (i+1)).map (fun v=>(FB S v S.length).1)=X++[X']:=by rw [et,bU,hX,bT,iQ,hpv,hXe]
  have eY:((kF S).take (i+1)).map (fun v=>(FB S v S.length).2)=Y++[Y']:=by rw [et,bU,hY,bT,iQ,hpv,hYe]
  have hA':∀r∈A++[[V.bool X'.neg,x1,x2]],r.length=3:=fun r hr=>by
   rcases aK.1 hr with hr|hr
   ·exact hA r hr
   rw [aW.1 hr];rfl
  have hB':∀r∈B++[[V.bool Y'.neg,y1,y2]],r.length=3:=fun r hr=>by
   rcases aK.1 hr with hr|hr
   ·exact hB r hr
   rw [aW.1 hr];rfl
  have hstep:∀S':Store,(∀o∈os',jQ S' o=jQ s o)->∀a b,jQ S' a=some ⟨3,A++[[V.bool X'.neg,x1,x2]]⟩->jQ S' b=some ⟨3,B++[[V.bool Y'.neg,y1,y2]]⟩->s.length<=a->s.length<=b ->
    Ep S' ((A++[[V.bool X'.neg,x1,x2]]).flatten++(B++[[V.bool Y'.neg,y1,y2]]).flatten) (rT (X++[X'])++rT (Y++[Y'])) os' [(a,⟨3,A++[[V.bool X'.neg,x1,x2]]⟩),(b,⟨3,B++[[V.bool Y'.neg,y1,y2]]⟩)]:=by
   intro S' h1 a b ha hb hla hlb;rw [agQ,agQ,gq,gq];refine E5.to h1 fun q hq=>?_;simp only [aI,bY,or_false]at hq;rcases hq with rfl|rfl
   ·exact .inr ⟨ha,fun hm=>by have:=hlt' _ hm;dsimp only at this;omega⟩
   exact .inr ⟨hb,fun hm=>by have:=hlt' _ hm;dsimp only at this;omega⟩
  rcases hvv with ⟨rfl,rfl,rfl,rfl,rfl⟩|⟨pa,pb,hne,rfl,rfl,rfl⟩
  ·refine D6 @hck @L8 @L9 @LF ?_;refine⟨by omega,by omega,?_⟩;refine⟨(i+1,?st,.lQ (s.length+1) 0 1,.lQ (s.length+1+1+1) 0 1,[]++[[V.bool X'.neg,x1,x2]],[]++[[V.bool Y'.neg,y1,y2]],os',[(s.length+1,⟨3,[]++[[V.bool X'.neg,x1,x2]]⟩),(s.length+1+1+1,⟨3,[]++[[V.bool Y'.neg,y1,y2]]⟩)]),?c1,⟨⟨?c2,.inr ⟨_,_,by omega,rfl,rfl,rfl⟩,hA',hB',?c4,?c5⟩,?c6⟩,?c3⟩
   case c3=>dsimp only;(refine kS ?_;exact uw)
   case c1=>dsimp only;omega
   case c2=>dsimp only;omega
   case c4=>dsimp only;simp at hAl ⊢;omega
   case c5=>dsimp only;simp at hBl ⊢;omega
   case c6 =>
    dsimp only;rw [eX,eY];refine hstep _ (fun o ho=>?_) _ _ ?_ ?_ (by omega) (by omega)
    ·have:=hlt' o ho;exact DV
    ·simp (disch:=first|omega|(simp only [aS,bV,au,aG];omega)) only [Sj];rfl
    exact kY (by simp<;>omega)
  have La:=E.at0 (p:=pa) (ob:=⟨3,A⟩) (by simp);have Lb:=E.at0 (p:=pb) (ob:=⟨3,B⟩) (by simp);have na:pa≠p8/\pa≠p9:=hMp (pa,⟨3,A⟩) (by simp);have nb:pb≠p8/\pb≠p9:=hMp (pb,⟨3,B⟩) (by simp);have na1:=na.1;have na2:=na.2;have nb1:=nb.1;have nb2:=nb.2;refine D5 @hck @L8 @L9 @LF @La @Lb ?_;refine⟨by omega,by omega,?_⟩;refine⟨(i+1,?st2,.lQ (s.length+1) 0 (A.length+1),.lQ (s.length+1+1+1) 0 (B.length+1),A++[[V.bool X'.neg,x1,x2]],B++[[V.bool Y'.neg,y1,y2]],os',[(s.length+1,⟨3,A++[[V.bool X'.neg,x1,x2]]⟩),(s.length+1+1+1,⟨3,B++[[V.bool Y'.neg,y1,y2]]⟩)]),?c1,⟨⟨?c2,.inr ⟨_,_,by omega,by dsimp only;rw [List.length_append];rfl,by dsimp only;rw [List.length_append];rfl,rfl⟩,hA',hB',?c4,?c5⟩,?c6⟩,?c3⟩
  case c3=>dsimp only;(refine kS ?_;exact uw)
  case c1=>dsimp only;omega
  case c2=>dsimp only;omega
  case c4=>dsimp only;simp at hAl ⊢;omega
  case c5=>dsimp only;simp at hBl ⊢;omega
  case c6 =>
   dsimp only;rw [eX,eY];refine hstep _ (fun o ho=>?_) _ _ ?_ ?_ (by omega) (by omega)
   ·have:=hlt' o ho;have ha:=fun e:o=pa=>azF (pa,⟨3,A⟩) (by simp) (e▸ho);have hb:=fun e:o=pb=>azF (pb,⟨3,B⟩) (by simp) (e▸ho);have ha:o≠pa:=ha;have hb:o≠pb:=hb;exact DV
   ·have:=La.2;have:=Lb.2;simp (disch:=first|omega|(simp only [aS,bV,au,aG];omega)) only [Sj]
    try rfl
   exact kY (by simp<;>omega)
 have hie:i=(kF S).length:=by omega
 rw [hie,bI]at E;have hG:ivG S=(((kF S).map fun v=>(FB S v S.length).1).all R.ok&&((kF S).map fun v=>(FB S v S.length).2).all R.ok):=by
  unfold ivG;rw [jH,jH];generalize kF S=nd
  induction nd with
  |nil=>rfl
  |cons v nd ih=>simp only [dD,ih,Function.comp];cases (FB S v S.length).1.ok<;>cases (FB S v S.length).2.ok<;>simp
 have cX:∀r∈(kF S).map fun v=>(FB S v S.length).1,r.cn:=fun r hr=>by
  obtain⟨v,_,rfl⟩:=bF.1 hr;exact(VG S v _).1
 have cY:∀r∈(kF S).map fun v=>(FB S v S.length).2,r.cn:=fun r hr=>by
  obtain⟨v,_,rfl⟩:=bF.1 hr;exact(VG S v _).2
 have lX:((kF S).map fun v=>(FB S v S.length).1).length=A.length:=by rw [aV];omega
 have lY:((kF S).map fun v=>(FB S v S.length).2).length=B.length:=by rw [aV];omega
 have hgood:=amZ (s:=S);have hbad:=aq8 (s:=S);generalize (kF S).map (fun v=>(FB S v S.length).1)=X at *;generalize (kF S).map (fun v=>(FB S v S.length).2)=Y at *;have g1:=Nq h.um cX (by omega);have g2:=Nq h.um cY (by omega);rcases hvv with ⟨rfl,rfl,rfl,rfl,rfl⟩|⟨pa,pb,hne,rfl,rfl,rfl⟩
 ·have e1:X=[]:=aY (by simpa using lX);have e2:Y=[]:=aY (by simpa using lY);subst e1 e2;have e3:=hgood (by rw [hG];rfl);rw [e3.1,e3.2];refine Ae @hc ?_;refine jK (PF.azC g1) ?_;refine ew ?_;refine jK (PF.azC g2) ?_;refine ew ?_;exact aci
 have E':Ep s (A.flatten++(B.flatten++[])) ((X.map R.cells).flatten++((Y.map R.cells).flatten++[])) os [(pa,⟨3,A⟩),(pb,⟨3,B⟩)]:=by simpa only [aU,rT]using E
 have hXr:∀r∈X.map R.cells,r.length=3:=fun r hr=>by obtain⟨x,_,rfl⟩:=bF.1 hr;rfl
 have hYr:∀r∈Y.map R.cells,r.length=3:=fun r hr=>by obtain⟨x,_,rfl⟩:=bF.1 hr;rfl
 have ra:=E'.UC (p:=pa) (n:=3) (by simp) hA hXr (by simp [lX]) FD (Ik _ _);obtain⟨os1,E1,_⟩:=E'.swap (by rw [flat3 hA,flat3 hXr];simp [lX]) (by rw [flat3 hB,flat3 hYr];simp [lY]);have rb:=E1.UC (p:=pb) (n:=3) (by simp) hB hYr (by simp [lY]) FD (Ik _ _);have Rf:=ah ra rb;have hF:Fin s (.oU [.lQ pa 0 A.length,.lQ pb 0 B.length]) (.oU [pK X,pK Y]):=by
  obtain⟨os2,E2⟩:=E'.close (p:=pa) (n:=3) (by simp) hA hXr (by simp [lX]);obtain⟨os3,E3,_⟩:=Ep.swap (a:=[.lQ pa 0 A.length]) (b:=B.flatten) (c:=[]) (ta:=[pK X]) (tb:=(Y.map R.cells).flatten) (tc:=[]) E2 rfl (by rw [flat3 hB,flat3 hYr];simp [lY]);obtain⟨os4,E4⟩:=E3.close (p:=pb) (n:=3) (by simp;omega) hB hYr (by simp [lY]);obtain⟨os5,E5,_⟩:=Ep.swap (a:=[.lQ pb 0 B.length]) (b:=[.lQ pa 0 A.length]) (c:=[]) (ta:=[pK Y]) (tb:=[pK X]) (tc:=[]) E4 rfl rfl;exact xg (I7 E5.c.ow) E5.c.nd
 refine D6 @hc @Rf @kQ @lI ?_
 cases hx:X.all R.ok
 ·rw [hx]at g1;refine jK g1 ?_;have e3:=hbad (by rw [hG,hx];rfl);rw [e3.1,e3.2];refine ew ?_;exact aci
 rw [hx]at g1;refine jK g1 ?_;refine Dy @Rf @kQ @lI ?_
 cases hy:Y.all R.ok
 ·rw [hy]at g2;refine jK g2 ?_;have e3:=hbad (by rw [hG,hx,hy];rfl);rw [e3.1,e3.2];refine ew ?_;exact aci
 rw [hy]at g2;refine jK g2 ?_;have e3:=hgood (by rw [hG,hx,hy];rfl);rw [e3.1,e3.2];refine ew ?_;exact hF
def Rd2(s:Store)(v w:V)(X Y:List R):Prop :=
 (X=[]/\Y=[]/\v=.kC/\w=.kC)\/∃p q,p≠q/\v=.lQ p 0 X.length/\w=.lQ q 0 Y.length/\jQ s p=some ⟨3,X.map R.cells⟩/\jQ s q=some ⟨3,Y.map R.cells⟩
theorem Rd2.fr{s s2:Store}{v w:V}{X Y:List R}(h:Rd2 s v w X Y)(hf:∀p,p<s.length->jQ s2 p=jQ s p):Rd2 s2 v w X Y:=by
 rcases h with h|⟨p,q,h1,h2,h3,h4,h5⟩
 ·exact .inl h
 exact .inr ⟨p,q,h1,h2,h3,(hf p (lH h4)).trans h4,(hf q (lH h5)).trans h5⟩
theorem aa4{m:List (List R)}{cols:Int}(h:CJ m cols=true):(∀i,i<m.length->((m.getD i default).length:Int)=cols/\∀j,j<(m.getD i default).length->((m.getD i default).getD j default).ok=true)/\m.length<=10:=by
 unfold CJ at h;simp only [aH,aZ]at h;refine⟨fun i hi=>?_,h.2⟩;have:=Qe.1 h.1 i hi;unfold Rn at this;simp only [aH,aZ]at this;exact⟨this.1,Qe.1 this.2⟩
abbrev mEl(m:List (List R))(i j:Nat):R:=(m.getD i default).getD j default
theorem am3{m:List (List R)}{n:Nat}(h:∀r∈m,(∀x∈r,x.cn)/\r.length<=n)(hn:n<=20)(hl:m.length<=10):NS (NS R.sz) m<=100000/\DR (DR R.wf) m:=by
 refine⟨?_,by omega,fun r hr=>am0 (h r hr).1 (by have:=(h r hr).2;omega)⟩;have:=Si (f:=NS R.sz) (k:=1000) (l:=m) fun r hr=>by
  have h1:=Si (f:=R.sz) (k:=48) (l:=r) fun x hx=>by have:=Qc ((h r hr).1 x hx);unfold R.sz;omega
  have h2:=(h r hr).2;have:r.length*49<=20*49:=dG _ (by omega);omega
 have:m.length*1001<=10*1001:=dG _ hl;omega
def LAt(n:Nat)(v:V)(A:List (List V))(M:List (Nat×Obj)):Prop:=(A=[]/\v=.kC/\M=[])\/∃p,v=.lQ p 0 A.length/\M=[(p,⟨n,A⟩)]
def tO(l:List (List R)):List V:=(l.map fun r=>[pK r]).flatten
theorem avG(l:List (List R))(r:List R):tO (l++[r])=tO l++[pK r]:=by simp [tO]
theorem agT:∀{A:List (List V)},(∀r∈A,r.length=1)->A.flatten.length=A.length
 | [],_=>rfl
 |
  a::A,h=>by
  rw [dO,aS,agT fun r hr=>h r (by simp [hr]),h a (by simp),au];omega
theorem avH(l:List (List R)):(tO l).length=l.length:=by
 unfold tO;rw [agT (fun r hr=>by obtain⟨x,_,rfl⟩:=bF.1 hr;rfl),aV]
theorem ait{n:Nat}{A:List (List V)}{r:List V}(h:∀r∈A,r.length=n)(hr:r.length=n):∀x∈A++[r],x.length=n:=fun x hx=>by
 rcases aK.1 hx with hx|hx
 ·exact h x hx
 rw [aW.1 hx];exact hr
def agU(x:Nat×List R):List V:=[.lQ x.1 0 x.2.length]
def acj(s:Store)(v:V)(Z:List (Nat×List R)):Prop:=((Z=[]/\v=.kC)\/∃q,v=.lQ q 0 Z.length/\jQ s q=some ⟨1,Z.map agU⟩)/\∀x∈Z,jQ s x.1=some ⟨3,x.2.map R.cells⟩
theorem acj.fr{s s2:Store}{v:V}{Z:List (Nat×List R)}(h:acj s v Z)(hf:∀p,p<s.length->jQ s2 p=jQ s p):acj s2 v Z :=
 ⟨h.1.imp id fun ⟨q,e,hq⟩=>⟨q,e,(hf q (lH hq)).trans hq⟩,fun x hx=>(hf _ (lH (h.2 x hx))).trans (h.2 x hx)⟩
theorem acj.map{s:Store}{m:Nat}:∀{Z:List (Nat×List R)},(∀x∈Z,jQ s x.1=some ⟨3,x.2.map R.cells⟩)->((Z.map agU).mapM fun r=>r.mapM (resolve s (m+2)))=some ((Z.map (·.2)).map fun r=>[pK r])
 | [],_=>rfl
 |
  x::Z,h=>by
  have hx:=h x (by simp);have e:resolve s (m+2) (.lQ x.1 0 x.2.length)=some (pK x.2):=by
   have h2:=agh x.2;unfold resolve;simp only [hx];rw [aQ (by simp),dA,bG (by simp),yD (n:=m) h2];rfl
  have ih:=acj.map (m:=m) (Z:=Z) fun y hy=>h y (by simp [hy]);rw [bT,bZ,ih];have:(agU x).mapM (resolve s (m+2))=some [pK x.2]:=by
   unfold agU;rw [bZ,e];rfl
  rw [this];rfl
theorem acj.res{s:Store}{q:Nat}{Z:List (Nat×List R)}(h:∀x∈Z,jQ s x.1=some ⟨3,x.2.map R.cells⟩)(hq:jQ s q=some ⟨1,Z.map agU⟩):resolve s FD (.lQ q 0 Z.length)=some (sG (Z.map (·.2))):=by
 show resolve s (9+2+1) _=_;unfold resolve;simp only [hq];rw [aQ (by simp),dA,bG (by simp),acj.map h];rfl
def avI(s:Store)(n0:Nat)(v:V)(L:List R):Prop:=(L=[]/\v=.kC)\/∃p,v=.lQ p 0 L.length/\n0<=p/\jQ s p=some ⟨3,L.map R.cells⟩
theorem avI.fr{s s2:Store}{v:V}{n0:Nat}{L:List R}(h:avI s n0 v L)(hf:∀p,p<s.length->jQ s2 p=jQ s p):avI s2 n0 v L :=
 h.imp id fun ⟨q,e,hn,hq⟩=>⟨q,e,hn,(hf q (lH hq)).trans hq⟩
def yU:Fn:=⟨3,30,[.tmp 6],(.seq (rf 1 [oN 5 (.box (.t 2)),oK 6 1 mF]) (.seq (sr [oW 8 0,oN 9 (ln 8),oN 10 (.qC (cI 0))] (.block 0 (.loop (sr [oN 11 (bt .lss 10 9)] (.seq (cd 11 .skip (.exit 0)) (.seq (.block 1 (sr [oW 12 10,oW 7 12] (rt 0 [oW 13 0,oW 14 7,oW 15 0,oW 16 7,oA 17 0 (ix 3 15 16) [2,3],oA 18 0 (lT 3 17) [4],oW 19 1,oW 20 7,oA 21 0 (ix 3 19 20) [6,7],oA 22 0 (lT 3 21) [8],oN 23 (lT 3 5),oA 24 0 (cl 157 [22,23]) [9,10],oA 25 0 (cl 159 [18,24]) [5,11,11],oA 26 0 (ix 3 13 14) [0,1,0,1,2,3,4,5,6,7,8,9,10,11,12],⟨none,none,0,.store 3 (.t 26) (.t 25),[13,12,12,0,1,2,3,4,5,6,7,8,9,10,11,12]⟩]))) (rg [oN 27 (bc .add 10 1),oW 10 27]))))))) (sr [oW 28 0,oN 29 (cl 244 [28]),oW 6 29] .ret)))⟩
structure DI (T:Tb):Prop where
 hT:T 245=some yU
 l7:qL T
 rH:tu T
 um:yj T
def uD:Fn:=⟨2,145,[.tmp 4,.tmp 5],(sr [oN 4 mN,oN 5 mF] (sr [oW 15 0,oN 16 (ln 15),oW 6 16] (.seq (sr [oW 17 0,oW 18 1,oN 19 (cl 93 [17,18]),oN 20 (nt 19),oW 21 20,oG 21 false 22 (oV 1),oG 21 false 23 (oV 6),oG 21 false 24 (bt .lss 22 23),oN 25 (.pick (.t 21) (.c (.bool true)) (.t 24))] (cd 25 (sr [oN 4 mN,oN 5 mF] .ret) .skip)) (.seq (rf 1 [oN 26 (.nO 1 [.kC] 0 []),oK 7 1 (oV 26)]) (.seq (sr [oW 27 0,oN 28 (ln 27),oN 29 (.qC (cI 0))] (.block 0 (.loop (sr [oN 30 (bt .lss 29 28)] (.seq (cd 30 .skip (.exit 0)) (.seq (.block 1 (sr [oN 31 (ix 1 27 29),oN 32 (lF 1 31),oW 9 32] (rf 4 [oK 33 4 (oV 7),oN 34 (.nO 3 uJ 0 []),oK 35 4 (oV 9),oK 36 1 (.app 3 56 (.t 34) (.t 35)),oK 37 2 (.nO 1 [.kC] 1 [(0,(.t 36))]),oK 38 3 (.app 1 24 (.t 33) (.t 37)),oK 7 4 (oV 38)]))) (rg [oN 39 (bc .add 29 1),oW 29 39]))))))) (.seq (sr [oN 10 (.qC (cI 0))] (.block 2 (.loop (.seq (sr [oW 40 10,oW 41 6,oN 42 (bt .lss 40 41)] (cd 42 .skip (.exit 2))) (.seq (.block 3 (sr [oW 45 10,oW 11 45] (.seq (.block 4 (.loop (.seq (sr [oW 46 11,oW 47 6,oN 48 (bt .lss 46 47),oW 49 48,oG 49 true 50 (oV 7),oG 49 true 51 (oV 11),oG 49 true 52 (ix 1 50 51),oG 49 true 53 (lF 1 52),oG 49 true 54 (oV 10),oG 49 true 55 (ix 3 53 54),oG 49 true 56 (lT 3 55),oG 49 true 57 (cl 124 [56]),oG 49 true 58 (bc .eql 57 0),oN 59 (.pick (.t 49) (.t 58) (.c (.bool false)))] (cd 59 .skip (.exit 4))) (.block 5 (rg [oW 60 11,oN 61 (bc .add 60 1),oW 11 61]))))) (.seq (sr [oW 62 11,oW 63 6,oN 64 (bt .eql 62 63)] (cd 64 (sr [oN 4 mN,oN 5 mF] .ret) .skip)) (.seq (rt 0 [oW 65 7,oW 66 10,oW 67 7,oW 68 11,oW 69 7,oW 70 11,oA 71 0 (ix 1 69 70) [4,5],oA 72 0 (lF 1 71) [6],oW 73 7,oW 74 10,oA 75 0 (ix 1 73 74) [8,9],oA 76 0 (lF 1 75) [10],oA 77 0 (ix 1 65 66) [0,1,0,1,4,5,6,7,11],⟨none,none,0,.store 1 (.t 77) (.t 72),[12,7,0,1,4,5,6,7,11]⟩,oA 78 0 (ix 1 67 68) [2,3,0,1,2,3,4,5,6,7,8,9,10,11,12,13],⟨none,none,0,.store 1 (.t 78) (.t 76),[14,11,13,0,1,2,3,4,5,6,7,8,9,10,11,12,13]⟩]) (.seq (rf 1 [oK 79 1 (oV 7),oK 80 1 (oV 10),oK 81 1 (ix 1 79 80),oK 82 1 (lF 1 81),oK 83 1 (oV 10),oK 84 1 (ix 3 82 83),oK 85 1 (lT 3 84),oN 12 (.alloc uJ),⟨none,none,1,.store 3 (.t 12) (.t 85),[]⟩]) (.seq (sr [oW 86 7,oW 87 10,oN 88 (ix 1 86 87),oN 89 (lF 1 88),oN 90 (ln 89),oN 91 (.qC (cI 0))] (.block 6 (.loop (sr [oN 92 (bt .lss 91 90)] (.seq (cd 92 .skip (.exit 6)) (.seq (.block 7 (sr [oW 93 91,oW 13 93] (rt 0 [oW 94 7,oW 95 10,oA 96 0 (ix 1 94 95) [0,1],oA 97 0 (lF 1 96) [2],oW 98 13,oW 99 7,oW 100 10,oA 101 0 (ix 1 99 100) [5,6],oA 102 0 (lF 1 101) [7],oW 103 13,oA 104 0 (ix 3 102 103) [8,9],oA 105 0 (lT 3 104) [10],oN 106 (lT 3 12),oA 107 0 (cl 156 [105,106]) [11,12],oA 108 0 (ix 3 97 98) [3,4,0,1,2,3,4,5,6,7,8,9,10,11,12,13],⟨none,none,0,.store 3 (.t 108) (.t 107),[14,13,13,0,1,2,3,4,5,6,7,8,9,10,11,12,13]⟩]))) (rg [oN 109 (bc .add 91 1),oW 91 109]))))))) (.seq (sr [oW 110 7,oW 111 10,oN 112 (ix 1 110 111),oN 113 (lF 1 112),oN 114 (cl 244 [113]),oN 115 (nt 114)] (cd 115 (sr [oN 4 mN,oN 5 mF] .ret) .skip)) (sr [oW 116 7,oN 117 (ln 116),oN 118 (.qC (cI 0))] (.block 8 (.loop (sr [oN 119 (bt .lss 118 117)] (.seq (cd 119 .skip (.exit 8)) (.seq (.block 9 (sr [oW 120 118,oW 14 120] (.seq (rt 0 [oW 121 14,oW 122 10,oA 123 0 (bt .neq 121 122) [0,1],oA 124 0 (oV 123) [2],oH 124 true 125 0 (oV 7) [3],oH 124 true 126 0 (oV 14) [3],oH 124 true 127 0 (ix 1 125 126) [4,5,3],oH 124 true 128 0 (lF 1 127) [6,3],oH 124 true 129 0 (oV 7) [3],oH 124 true 130 0 (oV 10) [3],oH 124 true 131 0 (ix 1 129 130) [8,9,3],oH 124 true 132 0 (lF 1 131) [10,3],oH 124 true 133 0 (oV 7) [3],oH 124 true 134 0 (oV 14) [3],oH 124 true 135 0 (ix 1 133 134) [12,13,3],oH 124 true 136 0 (lF 1 135) [14,3],oH 124 true 137 0 (oV 10) [3],oH 124 true 138 0 (ix 3 136 137) [15,16,3],oH 124 true 139 0 (lT 3 138) [17,3],oH 124 true 140 0 (cl 245 [128,132,139]) [7,11,18,3,3],oH 124 true 141 0 (nt 140) [19,3],oA 142 0 (.pick (.t 124) (.t 141) (.c (.bool false))) [3,20]]) (cd 142 (sr [oN 4 mN,oN 5 mF] .ret) .skip)))) (rg [oN 143 (bc .add 118 1),oW 118 143]))))))))))))))) (rg [oW 43 10,oN 44 (bc .add 43 1),oW 10 44])))))) (sr [oW 144 7,oW 4 144,oN 5 mT] .ret)))))))⟩
structure EM (T:Tb):Prop where
 hT:T 243=some uD
 IK:Dp T
 JO:Aj T
 uZ:uY T
 um:yj T
 SY:DI T
abbrev MF:=Nat->List R
def L6(M:MF)(i j:Nat):R:=(M i).getD j default
def rrP(M:MF)(k:Nat):Nat->Nat->Nat
 |0,p=>p
 |f+1,p=>if xI (L6 M p k)=0 then rrP M k f (p+1)else p
def Z5(n:Nat)(M:MF)(k:Nat):Nat:=rrP M k (n-k) k
theorem azG{M:MF}{k n p:Nat}(h:p<n)(hz:xI (L6 M p k)=0):rrP M k (n-p) p=rrP M k (n-(p+1)) (p+1):=by
 rw [show n-p=(n-(p+1))+1 by omega];exact aQ hz
theorem azH{M:MF}{k n p:Nat}(h:p<n)(hz:¬xI (L6 M p k)=0):rrP M k (n-p) p=p:=by
 rw [show n-p=(n-(p+1))+1 by omega];exact aN hz
def BL(M:MF)(k p:Nat):MF:=fun i=>if i=p then M k else if i=k then M p else M i
def Ru(r:List R)(k:Nat):List R:=r.map fun x=>vS x (r.getD k default)
def OU(r b:List R)(f:R):List R:=(List.range r.length).map fun j=>wL (r.getD j default) (mulR (b.getD j default) f)
def CO(n:Nat)(M:MF)(k:Nat):MF:=BL M k (Z5 n M k)
def EN(n:Nat)(M:MF)(k:Nat):MF:=fun i=>if i=k then Ru (CO n M k k) k else CO n M k i
def zU(M:MF)(k:Nat):MF:=fun i=>if i=k then M k else OU (M i) (M k) (L6 M i k)
def FM(M:MF)(k i0:Nat):MF:=fun i=>if i<i0 then zU M k i else M i
def Qj(n:Nat)(M:MF):Bool:=allB n fun i=>(M i).all R.ok
def EO(n:Nat)(M:MF)(k:Nat):Option MF :=
 if (decide (Z5 n M k<n)&&Qj n (zU (EN n M k) k))=true then some (zU (EN n M k) k)else none
def Pg(n:Nat)(m:MF):Nat->Option MF
 |0=>some m
 |k+1=>(Pg n m k).bind fun M=>EO n M k
theorem VH{n:Nat}{m:MF}{k:Nat}(h:Pg n m k=none):∀j,k<=j->Pg n m j=none
 |0,hj=>by
        have:k=0:=by omega
        subst this;exact h
 |
  j+1,hj=>by
  by_cases e:k=j+1
  ·subst e;exact h
  unfold Pg;rw [VH h j (by omega)];rfl
theorem acn{n:Nat}{m M:MF}{k:Nat}(h:Pg n m k=some M):Pg n m (k+1)=EO n M k:=by
 show (Pg n m k).bind _=_;rw [h];rfl
def yu(m:List (List R)):MF:=fun i=>m.getD i default
def rrC(m:List (List R))(c:Int):Bool:=CJ m c&&decide ((m.length:Int)<=c)
def rrV(m:List (List R))(c:Int):Option MF:=if rrC m c=true then Pg m.length (yu m) m.length else none
def rrM(m:List (List R))(c:Int):List (List R):=match rrV m c with
 |some M=>(List.range m.length).map M
 |none=>[]
def rrB(m:List (List R))(c:Int):Bool:=(rrV m c).isSome
theorem aiu{m:List (List R)}{c:Int}(h:rrC m c=false):rrM m c=[]/\rrB m c=false:=by
 have e:rrV m c=none:=by unfold rrV;rw [h];rfl
 unfold rrM rrB;rw [e];exact⟨rfl,rfl⟩
theorem UD{m:List (List R)}{c:Int}{k:Nat}(hc:rrC m c=true)(h:Pg m.length (yu m) k=none)(hk:k<=m.length):rrM m c=[]/\rrB m c=false:=by
 have e:rrV m c=none:=by unfold rrV;rw [aQ hc];exact VH h _ hk
 unfold rrM rrB;rw [e];exact⟨rfl,rfl⟩
theorem Qk{m:List (List R)}{c:Int}{M:MF}(hc:rrC m c=true)(h:Pg m.length (yu m) m.length=some M):rrM m c=(List.range m.length).map M/\rrB m c=true:=by
 have e:rrV m c=some M:=by unfold rrV;rw [aQ hc];exact h
 unfold rrM rrB;rw [e];exact⟨rfl,rfl⟩
def XB(n c:Nat)(M:MF):Prop:=∀i,i<n->(M i).length=c/\∀x∈M i,x.cn
theorem XB.el{n c:Nat}{M:MF}(h:XB n c M){i j:Nat}(hi:i<n)(hj:j<c):(L6 M i j).cn:=(h i hi).2 _ (getD_mem (by rw [(h i hi).1];exact hj))
theorem VI(r:List R)(k:Nat):(Ru r k).length=r.length:=by unfold Ru;simp
theorem VJ(r b:List R)(f:R):(OU r b f).length=r.length:=by unfold OU;simp
theorem aeG(r:List R)(k:Nat):∀x∈Ru r k,x.cn:=fun x hx=>by
 obtain⟨y,_,rfl⟩:=bF.1 hx;exact N9 _ _
theorem aeH(r b:List R)(f:R):∀x∈OU r b f,x.cn:=fun x hx=>by
 obtain⟨y,_,rfl⟩:=bF.1 hx;exact KQ _ _
theorem aeI(r b:List R)(f:R){j:Nat}(h:j<r.length):(OU r b f).getD j default=wL (r.getD j default) (mulR (b.getD j default) f):=by
 unfold OU;rw [aj,bP,dM h];rfl
theorem aeJ(r:List R)(k:Nat){j:Nat}(h:j<r.length):(Ru r k).getD j default=vS (r.getD j default) (r.getD k default):=by
 unfold Ru;generalize r.getD k default=y;rw [aj,bP,aj,ak h];rfl
theorem XB.swap{n c:Nat}{M:MF}(h:XB n c M){k p:Nat}(hk:k<n)(hp:p<n):XB n c (BL M k p):=fun i hi=>by
 unfold BL;split
 ·exact h k hk
 split
 ·exact h p hp
 exact h i hi
theorem XB.one{n c:Nat}{M:MF}(h:XB n c M){k:Nat}(hk:k<n)(hp:Z5 n M k<n):XB n c (CO n M k):=h.swap hk hp
theorem XB.two{n c:Nat}{M:MF}(h:XB n c M){k:Nat}(hk:k<n)(hp:Z5 n M k<n):XB n c (EN n M k):=fun i hi=>by
 unfold EN;split
 ·exact⟨by rw [VI];exact(h.one hk hp k hk).1,aeG _ _⟩
 exact h.one hk hp i hi
theorem XB.tri{n c:Nat}{M:MF}(h:XB n c M){k:Nat}(hk:k<n):XB n c (zU M k):=fun i hi=>by
 unfold zU;split
 ·exact h k hk
 exact⟨by rw [VJ];exact(h i hi).1,aeH _ _ _⟩
theorem aq9(M:MF)(k:Nat):FM M k 0=M:=by funext i;unfold FM;rw [aN (by omega)]
theorem XB.mix{n c:Nat}{M:MF}(h:XB n c M){k:Nat}(hk:k<n)(i0:Nat):XB n c (FM M k i0):=fun i hi=>by
 unfold FM;split
 ·exact h.tri hk i hi
 exact h i hi
theorem XB.step{n c:Nat}{M M':MF}(h:XB n c M){k:Nat}(hk:k<n)(e:EO n M k=some M'):XB n c M':=by
 unfold EO at e;split at e
 ·rename_i hc;simp only [aH,aZ]at hc
  cases e
  exact(h.two hk hc.1).tri hk
 cases e
theorem VK{n:Nat}{M:MF}:Qj n M=true↔∀i,i<n->(M i).all R.ok=true:=Qe
theorem aiv{n:Nat}{M:MF}{i:Nat}(hi:i<n)(h:(M i).all R.ok=false):Qj n M=false:=SG hi h
theorem aeK{n:Nat}{M:MF}{k:Nat}(h:¬Z5 n M k<n):EO n M k=none:=by
 unfold EO;rw [bH h];rfl
theorem am4{n:Nat}{M:MF}{k:Nat}(h:Qj n (zU (EN n M k) k)=false):EO n M k=none:=by
 unfold EO;rw [h,jI];rfl
theorem aeL{n:Nat}{M:MF}{k:Nat}(hp:Z5 n M k<n)(h:Qj n (zU (EN n M k) k)=true):EO n M k=some (zU (EN n M k) k):=by
 unfold EO;rw [h,aT hp];rfl
theorem agV{m:List (List R)}{c:Int}(h:rrC m c=true):m.length<=10/\(m.length:Int)<=c/\CJ m c=true/\XB m.length c.toNat (yu m):=by
 unfold rrC at h;simp only [aH,aZ]at h;obtain⟨h1,h2⟩:=aa4 h.1;refine⟨h2,h.2,h.1,fun i hi=>⟨?_,fun x hx=>?_⟩⟩
 ·have:=(h1 i hi).1;unfold yu;omega
 obtain⟨j,hj⟩:=bJ.1 hx;have hl:=(aP.1 hj).1;have:=(h1 i hi).2 j hl;unfold yu at hj;rw [aj,hj]at this;exact CG this
def S9{α:Type}(a b:List α)(j:Nat):List α:=a.take j++b.drop j
theorem avJ{α:Type}(a b:List α):S9 a b 0=b:=by simp [S9]
theorem am5{α:Type}(a b:List α)(h:b.length<=a.length)(h2:a.length<=b.length):S9 a b b.length=a:=by
 unfold S9;rw [jA,aU,bG h2]
theorem am6{α:Type}{a b:List α}{j:Nat}(h:a.length=b.length):(S9 a b j).length=b.length:=by simp [S9];omega
theorem am7{α:Type}{a b:List α}{j:Nat}{x d:α}(h:a.length=b.length)(hj:j<b.length)(hx:a.getD j d=x):(S9 a b j).set j x=S9 a b (j+1):=by
 have e:(a.take j).length=j:=by simp;omega
 have hja:j<a.length:=by omega
 unfold S9;rw [List.set_append_right _ _ (by omega),e,kT,dK hj,jR];have e2:a.take (j+1)=a.take j++[a[j]]:=by rw [iY,ak hja];rfl
 have e3:x=a[j]:=by rw [<-hx,aj,ak hja];rfl
 rw [e2,cO,e3];rfl
def yV(s:Store)(v:V)(l:List Int):Prop:=v=ints l\/∃o,v=.lQ o 0 l.length/\jQ s o=some ⟨1,kU l⟩
def zN(s:Store)(c:List V)(x:R):Prop:=∃v1 v2,c=[.bool x.neg,v1,v2]/\yV s v1 x.mag/\yV s v2 x.den
def EP(s:Store)(A:List (List V))(r:List R):Prop:=A.length=r.length/\∀j,j<r.length->zN s (A.getD j []) (r.getD j default)
def Kp(s s2:Store):Prop:=∀o l,jQ s o=some ⟨1,kU l⟩->jQ s2 o=jQ s o
theorem Kp.refl(s:Store):Kp s s:=fun _ _ _=>rfl
theorem Kp.trans{a b c:Store}(h:Kp a b)(k:Kp b c):Kp a c:=fun o l e=>(k o l ((h o l e).trans e)).trans (h o l e)
theorem Kp.old{s s2:Store}(h:∀o,o<s.length->jQ s2 o=jQ s o):Kp s s2:=fun o l e=>h o (lH e)
theorem yV.fr{s s2:Store}{v:V}{l:List Int}(h:yV s v l)(k:Kp s s2):yV s2 v l:=h.imp id fun ⟨o,e,ho⟩=>⟨o,e,(k o l ho).trans ho⟩
theorem zN.fr{s s2:Store}{c:List V}{x:R}(h:zN s c x)(k:Kp s s2):zN s2 c x:=by
 obtain⟨v1,v2,e,h1,h2⟩:=h;exact⟨v1,v2,e,h1.fr k,h2.fr k⟩
theorem EP.fr{s s2:Store}{A:List (List V)}{r:List R}(h:EP s A r)(k:Kp s s2):EP s2 A r:=⟨h.1,fun j hj=>(h.2 j hj).fr k⟩
theorem yV.leaf{s:Store}{v:V}{l:List Int}(h:yV s v l):v.leaf=true:=by
 rcases h with rfl|⟨o,rfl,_⟩<;>rfl
theorem yV.res{s:Store}{v:V}{l:List Int}(h:yV s v l)(n:Nat):resolve s (n+3) v=some (ints l):=by
 rcases h with rfl|⟨o,rfl,ho⟩
 ·rfl
 have:=Ug (n:=n+1) ho (uM l)
 rwa [vK]at this
theorem aeM{s:Store}(l:List Int):yV s (ints l) l:=.inl rfl
theorem am8{s:Store}(x:R):zN s x.cells x:=⟨_,_,rfl,aeM _,aeM _⟩
theorem aco{s:Store}(r:List R):EP s (r.map R.cells) r:=⟨by simp,fun j hj=>by rw [mg hj];exact am8 _⟩
theorem zN.mm{s:Store}{c:List V}{x:R}(h:zN s c x)(n:Nat):c.mapM (resolve s (n+3))=some x.cells:=by
 obtain⟨v1,v2,rfl,h1,h2⟩:=h;simp only [bZ,List.mapM_nil,h1.res,h2.res];rfl
theorem zN.res{s:Store}{c:List V}{x:R}(h:zN s c x):resolve s FD (.agg c)=some (lD x):=by
 show resolve s (8+3+1) _=_;rw [resolve,h.mm 8];rfl
theorem EP.mm{s:Store}{A:List (List V)}{r:List R}(h:EP s A r)(n:Nat):(A.mapM fun (c:List V)=>c.mapM (resolve s (n+3)))=some (r.map R.cells):=by
 obtain⟨hl,h⟩:=h
 induction r generalizing A with
 |
  nil =>
  have:A=[]:=aY hl;subst this;rfl
 |
  cons x r ih =>
  rcases A with _|⟨a,A⟩
  ·simp at hl
  have h0:=h 0 (by simp);simp only [List.getD_cons_zero]at h0;rw [bZ,h0.mm n,ih (by simpa using hl) fun j hj=>by simpa using h (j+1) (by simpa using hj)];rfl
theorem EP.am9{s:Store}{A:List (List V)}{r:List R}{p:Nat}(h:EP s A r)(hp:jQ s p=some ⟨3,A⟩)(n:Nat):resolve s (n+4) (.lQ p 0 r.length)=some (pK r):=by
 rw [resolve];simp only [hp];rw [aQ (by rw [h.1];omega),dA,bG (by rw [h.1];omega),h.mm n];rfl
theorem EP.res{s:Store}{A:List (List V)}{r:List R}{p:Nat}(h:EP s A r)(hp:jQ s p=some ⟨3,A⟩):resolve s FD (.lQ p 0 r.length)=some (pK r):=h.am9 hp 8
theorem aiw{s:Store}{v:V}{l:List Int}{os:List Nat}(h:mP s v (ints l) os):yV s v l/\∀o∈os,∃l,jQ s o=some ⟨1,kU l⟩:=by
 rcases h.yZ with ⟨rfl,rfl,rfl⟩|⟨o,rfl,ho,rfl⟩
 ·exact⟨.inl rfl,by simp⟩
 exact⟨.inr ⟨o,rfl,ho⟩,fun q hq=>by rw [aW.1 hq];exact⟨_,ho⟩⟩
theorem Om{s:Store}{c:List V}{x:R}{os:List Nat}(h:nC s c x.cells os):zN s c x/\∀o∈os,∃l,jQ s o=some ⟨1,kU l⟩:=by
 obtain⟨cs,rfl,b⟩:=h.xQ;obtain⟨v1,cs,o1,o2,rfl,rfl,c,d⟩:=b.inv;obtain⟨v2,cs,o3,o4,rfl,rfl,e,f⟩:=d.inv;obtain⟨rfl,rfl⟩:=f.Ec;have k1:=aiw c;have k2:=aiw e;refine⟨⟨v1,v2,rfl,k1.1,k2.1⟩,fun o ho=>?_⟩;rcases aK.1 ho with ho|ho
 ·exact k1.2 o ho
 exact k2.2 o (by simpa using ho)
theorem Ql{s:Store}:∀{r:List R} {A:List (List V)} {os:List Nat},tX s A (r.map R.cells) os->EP s A r/\∀o∈os,∃l,jQ s o=some ⟨1,kU l⟩
 |
  [],A,os,h=>by
  simp only [iQ,tX]at h;obtain⟨rfl,rfl⟩:=h;exact⟨⟨rfl,by simp⟩,by simp⟩
 |
  x::r,A,os,h=>by
  simp only [bT,tX]at h;obtain⟨v,vs',o1,o2,rfl,rfl,h1,h2⟩:=h;have k1:=Om h1;have k2:=Ql h2;refine⟨⟨by simp [k2.1.1],fun j hj=>?_⟩,fun o ho=>?_⟩
  ·cases j with
   |zero=>exact k1.1
   |succ j=>simpa using k2.1.2 j (by simpa using hj)
  rcases aK.1 ho with ho|ho
  ·exact k1.2 o ho
  exact k2.2 o ho
def CP(n c:Nat)(rp:Nat->Nat):List (List V):=(List.range n).map fun i=>[.lQ (rp i) 0 c]
theorem Nr(n c:Nat)(rp:Nat->Nat):(CP n c rp).length=n:=by simp [CP]
theorem KT{n c:Nat}{rp:Nat->Nat}{i:Nat}(h:i<n):(CP n c rp)[i]? = some [.lQ (rp i) 0 c]:=by
 unfold CP;rw [bP,dM h];rfl
theorem Qm{n c:Nat}{rp:Nat->Nat}{i p:Nat}:(CP n c rp).set i [.lQ p 0 c]=CP n c fun x=>if x=i then p else rp x:=by
 apply fV
 intro x;unfold CP;rw [fH];simp only [aV,jM,bP];by_cases h:i=x
 ·subst h;by_cases hn:i<n
  ·simp [hn]
  rw [aQ rfl,aN hn,bC (by simpa using hn)];rfl
 rw [aN h];by_cases hn:x<n
 ·rw [dM hn];simp only [dh];rw [aN fun e:x=i=>h e.symm]
 rw [bC (by simpa using hn)];rfl
structure NC (s:Store) (q n c:Nat) (rp:Nat->Nat) (A:Nat->List (List V)) (M:MF):Prop where
 inj:∀i j,i<n->j<n->rp i=rp j->i=j
 out:jQ s q=some ⟨1,CP n c rp⟩
 row:∀i,i<n->jQ s (rp i)=some ⟨3,A i⟩
 cel:∀i,i<n->EP s (A i) (M i)
theorem NC.lt{s:Store}{q n c:Nat}{rp:Nat->Nat}{A:Nat->List (List V)}{M:MF}(h:NC s q n c rp A M):q<s.length/\∀i,i<n->rp i<s.length:=⟨lH h.out,fun i hi=>lH (h.row i hi)⟩
theorem NC.ne{s:Store}{q n c:Nat}{rp:Nat->Nat}{A:Nat->List (List V)}{M:MF}(h:NC s q n c rp A M){i:Nat}(hi:i<n):rp i≠q:=fun e=>by
 have:=h.row i hi;rw [e,h.out]at this;cases this
theorem NC.fr{s s2:Store}{q n c:Nat}{rp:Nat->Nat}{A:Nat->List (List V)}{M:MF}(h:NC s q n c rp A M)(hf:∀p,p<s.length->jQ s2 p=jQ s p):NC s2 q n c rp A M :=
 ⟨h.inj,(hf _ h.lt.1).trans h.out,fun i hi=>(hf _ (h.lt.2 i hi)).trans (h.row i hi),fun i hi=>(h.cel i hi).fr (.old hf)⟩
theorem NC.aEK{s:Store}{q n c:Nat}{rp:Nat->Nat}{A:Nat->List (List V)}{M:MF}(h:NC s q n c rp A M){i:Nat}(hi:i<n)(hl:(M i).length=c):resolve s FD (.lQ (rp i) 0 c)=some (pK (M i)):=by
 have:=(h.cel i hi).res (h.row i hi)
 rwa [hl]at this
theorem NC.res{s:Store}{q n c:Nat}{rp:Nat->Nat}{A:Nat->List (List V)}{M:MF}(h:NC s q n c rp A M)(hl:∀i,i<n->(M i).length=c):resolve s FD (.lQ q 0 n)=some (sG ((List.range n).map M)):=by
 show resolve s (11+1) _=_;rw [resolve];simp only [h.out];rw [aQ (by rw [Nr];omega),dA,bG (by rw [Nr];omega)];have:((CP n c rp).mapM fun (r:List V)=>r.mapM (resolve s 11))=some ((List.range n).map fun i=>[pK (M i)]):=by
  unfold CP;rw [List.mapM_map];refine mapM_some fun i hi=>?_;have hi:=fF.1 hi;have h1:=(h.cel i hi).am9 (h.row i hi) 7;rw [hl i hi]at h1;simp only [Function.comp,bZ,List.mapM_nil];rw [h1];rfl
 rw [this,dh];unfold sG;rw [fQ];rfl
theorem NC.put{s s2:Store}{q n c k:Nat}{rp:Nat->Nat}{A:Nat->List (List V)}{M:MF}{A2:List (List V)}{r:List R}(h:NC s q n c rp A M)(hk:k<n)(hr:jQ s2 (rp k)=some ⟨3,A2⟩)(ho:∀o,o<s.length->o≠rp k->jQ s2 o=jQ s o)(hok:EP s2 A2 r) :
  NC s2 q n c rp (fun i=>if i=k then A2 else A i) (fun i=>if i=k then r else M i):=by
 have kp:Kp s s2:=fun o l e=>ho o (lH e) fun e2=>by rw [e2,h.row k hk]at e;cases e
 refine⟨h.inj,(ho _ h.lt.1 fun e=>h.ne hk e.symm).trans h.out,fun i hi=>?_,fun i hi=>?_⟩
 ·by_cases e:i=k
  ·subst e;rw [aQ rfl];exact hr
  rw [aN e];exact(ho _ (h.lt.2 i hi) fun e2=>e (h.inj i k hi hk e2)).trans (h.row i hi)
 by_cases e:i=k
 ·subst e;rw [aQ rfl,aQ rfl];exact hok
 rw [aN e,aN e];exact(h.cel i hi).fr kp
theorem NC.ext{s:Store}{q n c:Nat}{rp:Nat->Nat}{A:Nat->List (List V)}{M M2:MF}(h:NC s q n c rp A M)(e:∀i,i<n->M i=M2 i):NC s q n c rp A M2 :=
 ⟨h.inj,h.out,h.row,fun i hi=>e i hi▸h.cel i hi⟩
theorem Tc{n c:Nat}{rp:Nat->Nat}(hn:0<n)(l:List Int):CP n c rp≠kU l:=fun e=>by
 have h1:=KT (c:=c) (rp:=rp) hn;rw [e]at h1
 cases l with
 |nil=>simp [kU]at h1
 |cons x l=>simp [kU]at h1
theorem NC.swap{s:Store}{q n c k p:Nat}{rp:Nat->Nat}{A:Nat->List (List V)}{M:MF}(h:NC s q n c rp A M)(hk:k<n)(hp:p<n){rows:List (List V)}(hrows:rows=((CP n c rp).set k [.lQ (rp p) 0 c]).set p [.lQ (rp k) 0 c]){s2:Store}(hq:jQ s2 q=some ⟨1,rows⟩)(ho:∀o,o≠q->o<s.length->jQ s2 o=jQ s o) :
  NC s2 q n c (fun x=>if x=p then rp k else if x=k then rp p else rp x) (fun x=>if x=p then A k else if x=k then A p else A x) (BL M k p):=by
 have kp:Kp s s2:=fun o l e=>ho o (fun e2=>by
  rw [e2,h.out]at e
  injection e with e
  injection e with _ e
  exact Tc (by omega) l e) (lH e)
 have hr:=fun i hi=>(ho _ (h.ne hi) (h.lt.2 i hi)).trans (h.row i hi);have hc:=fun i hi=>(h.cel i hi).fr kp;refine⟨fun i j hi hj e=>?_,?_,fun i hi=>?_,fun i hi=>?_⟩
 ·have inj:=h.inj;by_cases a1:i=p<;>by_cases b1:j=p
  ·omega
  ·rw [aQ a1,aN b1]at e;by_cases b2:j=k
   ·rw [aQ b2]at e;have:=inj k p hk hp e;omega
   rw [aN b2]at e;have:=inj k j hk hj e;omega
  ·rw [aN a1,aQ b1]at e;by_cases b2:i=k
   ·rw [aQ b2]at e;have:=inj p k hp hk e;omega
   rw [aN b2]at e;have:=inj i k hi hk e;omega
  rw [aN a1,aN b1]at e;by_cases a2:i=k<;>by_cases b2:j=k
  ·omega
  ·rw [aQ a2,aN b2]at e;have:=inj p j hp hj e;omega
  ·rw [aN a2,aQ b2]at e;have:=inj i p hi hp e;omega
  rw [aN a2,aN b2]at e;exact inj i j hi hj e
 ·rw [hq,hrows,Qm,Qm]
 ·split
  ·exact hr k hk
  split
  ·exact hr p hp
  exact hr i hi
 unfold BL;split
 ·exact hc k hk
 split
 ·exact hc p hp
 exact hc i hi
structure ZG (s:Store) (A:Nat->List (List V)) (M:MF) (f:Nat->List Nat) (S:Nat->Prop):Prop where
 ow:∀i,S i->tX s (A i) ((M i).map R.cells) (f i)
 nd:∀i,S i->(f i).Nodup
 ap:∀i j,S i->S j->i≠j->∀o∈f i,o∉f j
theorem avK{s:Store}{A:Nat->List (List V)}{M:MF}{f:Nat->List Nat}:ZG s A M f fun _=>False:=⟨fun _ h=>h.elim,fun _ h=>h.elim,fun _ _ h=>h.elim⟩
theorem ZG.kp{s s2:Store}{A:Nat->List (List V)}{M:MF}{f:Nat->List Nat}{S:Nat->Prop}(h:ZG s A M f S)(k:Kp s s2):ZG s2 A M f S :=
 ⟨fun i hi=>(h.ow i hi).frame fun o ho=>by obtain⟨l,hl⟩:=(Ql (h.ow i hi)).2 o ho;exact k o l hl,h.nd,h.ap⟩
theorem ZG.put{s s2:Store}{A:Nat->List (List V)}{M:MF}{f:Nat->List Nat}{S:Nat->Prop}{k:Nat}{A2:List (List V)}{r:List R}{os:List Nat}(h:ZG s A M f S)(kp:Kp s s2)(ho:tX s2 A2 (r.map R.cells) os)(hn:os.Nodup)(hf:∀o∈os,s.length<=o) :
  ZG s2 (fun i=>if i=k then A2 else A i) (fun i=>if i=k then r else M i) (fun i=>if i=k then os else f i) (fun i=>S i\/i=k):=by
 have h2:=h.kp kp;have lt:∀i,S i->∀o∈f i,o<s.length:=fun i hi=>(h.ow i hi).lt;refine⟨fun i hi=>?_,fun i hi=>?_,fun i j hi hj hne o h1 h3=>?_⟩
 ·by_cases e:i=k
  ·subst e;rw [aQ rfl,aQ rfl,aQ rfl];exact ho
  rw [aN e,aN e,aN e];exact h2.ow i (hi.resolve_right e)
 ·by_cases e:i=k
  ·subst e;rw [aQ rfl];exact hn
  rw [aN e];exact h.nd i (hi.resolve_right e)
 by_cases e:i=k
 ·by_cases e2:j=k
  ·omega
  rw [aQ e]at h1;rw [aN e2]at h3;have:=hf o h1;have:=lt j (hj.resolve_right e2) o h3;omega
 rw [aN e]at h1;by_cases e2:j=k
 ·rw [aQ e2]at h3;have:=hf o h3;have:=lt i (hi.resolve_right e) o h1;omega
 rw [aN e2]at h3;exact h.ap i j (hi.resolve_right e) (hj.resolve_right e2) hne o h1 h3
theorem ZG.ext{s:Store}{A:Nat->List (List V)}{M M2:MF}{f:Nat->List Nat}{S S2:Nat->Prop}(h:ZG s A M f S)(e:∀i,S2 i->S i/\M i=M2 i):ZG s A M2 f S2 :=
 ⟨fun i hi=>(e i hi).2▸h.ow i (e i hi).1,fun i hi=>h.nd i (e i hi).1,fun i j hi hj=>h.ap i j (e i hi).1 (e j hj).1⟩
theorem ZG.fin{s:Store}{q n c:Nat}{rp:Nat->Nat}{A:Nat->List (List V)}{M:MF}{f:Nat->List Nat}(h:NC s q n c rp A M)(ho:ZG s A M f fun i=>i<n)(hc:0<c)(hl:∀i,i<n->(M i).length=c):Fin s (.lQ q 0 n) (sG ((List.range n).map M)):=by
 have key:∀m,m<=n->∃os,tX s ((List.range m).map fun i=>[.lQ (rp i) 0 c]) (((List.range m).map M).map fun r=>[pK r]) os/\os.Nodup/\∀o∈os,∃i,i<m/\(o=rp i\/o∈f i):=by
  intro m
  induction m with
  |zero=>intro _;exact⟨[],by simp [tX],.nil,by simp⟩
  |
   succ m ih =>
   intro hm;obtain⟨os,k1,k2,k3⟩:=ih (by omega);have hm':m<n:=by omega
   have kinds:∀i,i<n->∀o∈f i,∃l,jQ s o=some ⟨1,kU l⟩:=fun i hi=>(Ql (ho.ow i hi)).2;have hnf:∀i j,i<n->j<n->rp i∉f j:=fun i j hi hj hm=>by
    obtain⟨l,hl⟩:=kinds j hj _ hm;rw [h.row i hi]at hl;cases hl
   have hv:mP s (.lQ (rp m) 0 c) (pK (M m)) (rp m::f m):=by
    unfold pK;simp only [mP];exact .inr ⟨rp m,A m,f m,by rw [aV,hl m hm'],h.row m hm',rfl,ho.ow m hm'⟩
   refine⟨os++(rp m::f m),?_,?_,fun o ho'=>?_⟩
   ·rw [iV,bU,bU,bU];exact Dx k1 (aaO (asT hv))
   ·rw [bf,eU];refine⟨k2,⟨hnf m m hm' hm',ho.nd m hm'⟩,fun x hx y hy e=>?_⟩;subst e;obtain⟨i,hi,hi2⟩:=k3 x hx;rcases aI.1 hy with hy|hy
    ·rcases hi2 with hi2|hi2
     ·have:=h.inj i m (by omega) hm' (hi2.symm.trans hy);omega
     rw [hy]at hi2;exact hnf m i hm' (by omega) hi2
    rcases hi2 with hi2|hi2
    ·rw [hi2]at hy;exact hnf i m (by omega) hm' hy
    exact ho.ap i m (by omega) hm' (by omega) x hi2 hy
   rcases aK.1 ho' with ho'|ho'
   ·obtain⟨i,hi,k⟩:=k3 o ho';exact⟨i,by omega,k⟩
   rcases aI.1 ho' with rfl|ho'
   ·exact⟨m,by omega,.inl rfl⟩
   exact⟨m,by omega,.inr ho'⟩
 obtain⟨os,k1,k2,k3⟩:=key n (aJ _);refine xg (os:=q::os) ?_ (eU.2 ⟨fun hm=>?_,k2⟩)
 ·unfold sG;simp only [mP];exact .inr ⟨q,_,os,by simp,h.out,rfl,k1⟩
 obtain⟨i,hi,e|e⟩:=k3 q hm
 ·exact h.ne hi e.symm
 obtain⟨l,hl⟩:=(Ql (ho.ow i hi)).2 _ e;rw [h.out]at hl
 injection hl with hl
 injection hl with _ hl
 exact Tc (by omega) l hl
theorem aks{T:Tb}{f:Nat}{as:List Src}{dst:Option Nat}{env:Nat->V}{σ:Store}{kp bs:Nat}{rs ms:List Nat}{k:List Nat->List Nat->Bool->St->Prop}{ρ:List Nat}{as':List V}{r v:V}(hn:ρ.Nodup)
  (hρ:∀o,o∈ρ->∃l,jQ σ o=some ⟨1,kU l⟩) (ha:(as.map fun s=>lS (place ρ) (s.ev env))=as') (hr:Run T (.fn f as' (Ij ρ σ)) (.fn r (Ij ρ σ))) (hv:∀n,lS (back ρ n) r=v)
  (hk:k ρ [] false ⟨oO env dst v,σ,kp,bs,rs,ms⟩):ZT T f as dst ⟨env,σ,kp,bs,rs,ms⟩ k:=by
 subst ha;exact .inr (.inr (.inr ⟨ρ,r,v,hn,fun o ho=>by obtain⟨l,h⟩:=hρ o ho;exact⟨_,h,fun g=>Ju g l⟩,hr,hv,hk⟩))
theorem ana{T:Tb}{f:Nat}{as:List Src}{dst:Option Nat}{env:Nat->V}{σ σ':Store}{kp bs:Nat}{rs ms:List Nat}{k:List Nat->List Nat->Bool->St->Prop}{as':List V}{r:V}
  (h:Run T (.fn f as' σ) (.fn r σ')) (ha:(as.map fun s=>s.ev env)=as') (hl:σ.length<=σ'.length) (hb:σ.length<=bs) (hk:k (List.range σ.length) (List.range σ.length) true ⟨oO env dst r,σ',kp,bs,rs,ms⟩) :
  ZT T f as dst ⟨env,σ,kp,bs,rs,ms⟩ k:=by
 subst ha;exact .inr (.inr (.inl ⟨r,σ',h,hl,hb,hk⟩))
def WZ(g:Nat->Nat)(a:Acc):Acc:=⟨a.i,a.R.map g,a.W.map g,a.n⟩
section
variable {g : Nat -> Nat} {L L0 : Nat} (hinj : ∀ x y,g x = g y ↔ x = y) (hlt : ∀ x,g x < L ↔ x < L0)
include hinj in
theorem acp(l:List Nat)(p:Nat):(l.map g).contains (g p)=l.contains p:=by
 rw [jV,jW,jW,bF];constructor
 ·rintro⟨q,h1,h2⟩;rw [(hinj _ _).1 h2]at h1;exact h1
 exact fun h=>⟨p,h,rfl⟩
include hlt in
theorem aa5(a b:Acc):BI L (WZ g a) (WZ g b)=BI L0 a b:=by
 unfold BI WZ;simp only [jH,Function.comp_def];simp only [hlt]
include hinj hlt in
theorem akt(d e:qJ)(a b:Acc):wX L d e (WZ g a) (WZ g b)=wX L0 d e a b:=by
 unfold wX;rw [aa5 hlt,aa5 hlt];simp only [WZ,jH,Function.comp_def];simp only [acp hinj]
 congr 6
 congr 1
 funext p
 congr 2
 funext q
 rw [bne,bne]
 congr 1
 rw [jV,beq_iff_eq,beq_iff_eq];exact hinj _ _
include hinj hlt in
theorem aiy{B:Nat->List Nat}{ops:List qJ}:∀l:List Acc,okA L B ops (l.map (WZ g))=okA L0 B ops l
 | []=>rfl
 |
  a::l=>by
  simp only [bT,okA,jH,Function.comp_def];rw [aiy l]
  congr 2
  funext b
  have h1:(WZ g a).i=a.i:=rfl;have h2:(WZ g b).i=b.i:=rfl;rw [akt hinj hlt,h1,h2]
include hinj hlt in
theorem aiz{ops:List qJ}{l l0:List Acc}(he:l=l0.map (WZ g))(hk:sF L0 ops l0):sF L ops l:=by
 unfold sF at hk ⊢;rw [he,<-List.map_reverse,aiy hinj hlt];exact hk
end
def gN(l:List Nat)(L x:Nat):Nat:=match l[x]? with
 |some y=>y
 |none=>L+x
theorem aiA{l:List Nat}{L:Nat}(hl:∀o∈l,o<L)(x:Nat):gN l L x<L↔x<l.length:=by
 unfold gN
 cases h:l[x]? with
 |
  none =>
  have:=List.getElem?_eq_none_iff.1 h;simp only [];omega
 |
  some y =>
  have h1:=(aP.1 h).1;have h2:=hl y (bn h);simp only [];omega
theorem anb{l:List Nat}{L:Nat}(hl:∀o∈l,o<L)(hn:l.Nodup)(x y:Nat):gN l L x=gN l L y↔x=y:=by
 constructor
 ·intro e;have hx:=aiA hl x;have hy:=aiA hl y;by_cases h:x<l.length
  ·have h2:y<l.length:=hy.1 (e▸hx.2 h);unfold gN at e;rw [ak h,ak h2]at e;exact(List.getElem_inj hn).1 e
  have h2:¬y<l.length:=fun k=>h (hx.1 (e▸hy.2 k));unfold gN at e;rw [bC (by omega),bC (by omega)]at e;simp only []at e;omega
 rintro rfl;rfl
theorem aeN{ops:List qJ}{aF:Nat->Nat->Nat->List Acc}(a b c L:Nat)(hn:[a,b,c].Nodup)(hl:∀o∈[a,b,c],o<L)(ha:∀(g:Nat->Nat) (a b c:Nat),aF (g a) (g b) (g c)=(aF a b c).map (WZ g))(h:sF 3 ops (aF 0 1 2)):sF L ops (aF a b c) :=
 aiz (g:=gN [a,b,c] L) (anb hl hn) (aiA hl) (ha (gN [a,b,c] L) 0 1 2) h
theorem nd2{a b:Nat}(h:a≠b):[a,b].Nodup:=by simp [h]
theorem nd3{a b c:Nat}(h:a≠b)(h2:a≠c)(h3:b≠c):[a,b,c].Nodup:=by simp [h,h2,h3]
theorem nd4{a b c d:Nat}(h:a≠b)(h2:a≠c)(h3:a≠d)(h4:b≠c)(h5:b≠d)(h6:c≠d):[a,b,c,d].Nodup:=by simp [h,h2,h3,h4,h5,h6]
theorem lt2{a b L:Nat}(h:a<L)(h2:b<L):∀o∈[a,b],o<L:=by simp [h,h2]
theorem lt3{a b c L:Nat}(h:a<L)(h2:b<L)(h3:c<L):∀o∈[a,b,c],o<L:=by simp [h,h2,h3]
structure Xa (s0 s:Store) (ri:Nat) (box:Obj) (A:List (List V)) (Z:List R) (j:Nat) (N:List (List V)) (os:List Nat):Prop where
 row:jQ s ri=some ⟨3,N++A.drop j⟩
 nl:N.length=j
 ow:tX s N ((Z.take j).map R.cells) os
 nd:os.Nodup
 fr:∀o∈os,s0.length<=o
 old:∀o,o<s0.length->o≠ri->jQ s o=jQ s0 o
 bx:jQ s s0.length=some box
 len:s0.length<s.length
section
variable {s0 s : Store} {ri : Nat} {box : Obj} {A : List (List V)} {Z : List R} {j : Nat} {N : List (List V)} {os : List Nat}
theorem aa6(hi:jQ s0 ri=some ⟨3,A⟩):Xa s0 (s0++[some box]) ri box A Z 0 [] [] :=
 ⟨(kV (lH hi)).trans (by rw [iU,dA];exact hi),rfl,by simp [tX],.nil,by simp,fun o ho _=>kV ho,rP _ _,by simp⟩
theorem Xa.kp(I:Xa s0 s ri box A Z j N os)(hi:jQ s0 ri=some ⟨3,A⟩):Kp s0 s:=fun o l e=>I.old o (lH e) fun e2=>by rw [e2,hi]at e;cases e
theorem Xa.at(I:Xa s0 s ri box A Z j N os)(hj:j<A.length):(N++A.drop j)[j]? = some (A.getD j []):=by
 rw [bW (by rw [I.nl];exact aJ _),I.nl,kT,dV,iP,aj,ak hj];rfl
theorem Xa.step(I:Xa s0 s ri box A Z j N os)(hri:ri<s0.length)(hj:j<A.length)(hjZ:j<Z.length){z:R}(hz:Z.getD j default=z){q3:Store}{c:List V}{o3:List Nat}(old:∀o,o<s.length->jQ q3 o=jQ s o)(len:s.length<=q3.length)
  (ho:nC q3 c z.cells o3) (nd3:o3.Nodup) (fr3:∀o∈o3,s.length<=o):Xa s0 (q3.set ri (some ⟨3,(N++A.drop j).set j c⟩)) ri box A Z (j+1) (N++[c]) (os++o3):=by
 have hl:=I.len;have ne:∀o,ri≠o->jQ (q3.set ri (some ⟨3,(N++A.drop j).set j c⟩)) o=jQ q3 o:=fun o h=>kN fun e=>h e.symm;have e1:(N++A.drop j).set j c=(N++[c])++A.drop (j+1):=by
  rw [List.set_append_right _ _ (by rw [I.nl];exact aJ _),I.nl,kT,dK hj,jR,cO];rfl
 refine⟨?_,by simp [I.nl],?_,?_,fun o h=>?_,fun o h1 h2=>?_,?_,by simp;omega⟩
 ·rw [kY (by omega),e1]
 ·rw [take_snoc hjZ,bU,hz];refine Dx (I.ow.frame fun o h=>?_) (aaO (ho.frame fun o h=>?_))
  ·have h1:=I.fr o h;rw [ne o (by omega),old o (I.ow.lt o h)]
  have:=fr3 o h;rw [ne o (by omega)]
 ·rw [bf];refine⟨I.nd,nd3,fun x hx y hy e=>?_⟩;have:=I.ow.lt x hx;have:=fr3 y hy;omega
 ·rcases aK.1 h with h|h
  ·exact I.fr o h
  have:=fr3 o h;omega
 ·rw [ne o (fun e=>h2 e.symm),old o (by omega),I.old o h1 h2]
 rw [ne _ (by omega),old _ (by omega),I.bx]
theorem Xa.fin(I:Xa s0 s ri box A Z j N os)(h1:j=A.length)(h2:j=Z.length):jQ s ri=some ⟨3,N⟩/\tX s N (Z.map R.cells) os:=by
 have a:=I.row;have b:=I.ow;rw [h1,jA,aU]at a;rw [h2,bI]at b;exact⟨a,b⟩
end
theorem yV.r11{s:Store}{v:V}{l:List Int}(h:yV s v l):resolve s 11 v=some (ints l):=h.res 8
theorem yV.rch{s:Store}{v:V}{l:List Int}(h:yV s v l):∀n,∀o∈reach s n v,∃l,jQ s o=some ⟨1,kU l⟩:=by
 intro n o ho;rcases h with rfl|⟨q,rfl,hq⟩
 ·cases n<;>simp [reach]at ho
 cases n with
 |zero=>simp [reach]at ho
 |
  succ n =>
  simp only [reach,hq,aI,fZ]at ho;rcases ho with rfl|⟨r,hr,c,hc,ho⟩
  ·exact⟨_,hq⟩
  have hs:=uM l r hr c hc
  cases n with
  |zero=>simp [reach]at ho
  |succ n=>rw [KF hs]at ho;cases ho
theorem zN.rch{s:Store}{c:List V}{x:R}(h:zN s c x):∀n,∀o∈reach s n (.agg c),∃l,jQ s o=some ⟨1,kU l⟩:=by
 intro n o ho;obtain⟨v1,v2,rfl,h1,h2⟩:=h
 cases n with
 |zero=>simp [reach]at ho
 |
  succ n =>
  rw [xR]at ho;obtain⟨c,hc,ho⟩:=ho;simp only [aI,bY,or_false]at hc;rcases hc with rfl|rfl|rfl
  ·cases n<;>simp [reach]at ho
  ·exact h1.rch n o ho
  exact h2.rch n o ho
theorem Y1{T:Tb}(h:DI T){s0:Store}{ri rk:Nat}{A B:List (List V)}{X Y:List R}{f:R}{w1 w2:V}
  (hi:jQ s0 ri=some ⟨3,A⟩) (hk:jQ s0 rk=some ⟨3,B⟩) (hne:ri≠rk) (hA:EP s0 A X) (hB:EP s0 B Y) (hl:Y.length=X.length) (hf1:yV s0 w1 f.mag) (hf2:yV s0 w2 f.den)
  (cX:∀x∈X,x.cn) (cY:∀x∈Y,x.cn) (cf:f.cn) (hX:X.length<=1048576) :
  ∃
   s' A' os,Run T (.fn 245 [.lQ ri 0 X.length,.lQ rk 0 X.length,.agg [.bool f.neg,w1,w2]] s0) (.fn (.bool ((OU X Y f).all R.ok)) s') /\
   jQ s' ri=some ⟨3,A'⟩/\tX s' A' ((OU X Y f).map R.cells) os/\os.Nodup/\(∀o∈os,s0.length<=o)/\(∀o,o<s0.length->o≠ri->jQ s' o=jQ s0 o)/\s0.length<=s'.length:=by
 have lw:=ah hf1.leaf hf2.leaf;have hZl:=VJ X Y f;have hZc:=aeH X Y f;have hZa:=fun j (hj:j<X.length)=>aeI X Y f hj;have hri:=lH hi;have hrk:=lH hk;have hAl:=hA.1;have:∃r s',Run T (.fn 245 [.lQ ri 0 X.length,.lQ rk 0 X.length,.agg [.bool f.neg,w1,w2]] s0) (.fn r s')/\(r=.bool ((OU X Y f).all R.ok)/\∃A' os,
   jQ s' ri=some ⟨3,A'⟩/\tX s' A' ((OU X Y f).map R.cells) os/\os.Nodup/\(∀o∈os,s0.length<=o)/\(∀o,o<s0.length->o≠ri->jQ s' o=jQ s0 o)/\s0.length<=s'.length):=by
  generalize OU X Y f=Z at *;obtain⟨p,hp⟩:∃p,p=s0.length:=⟨_,rfl⟩;have aEL:ri≠p:=by omega
  have aEM:rk≠p:=by omega
  refine run_end (fun x d=>x == 157||x == 159) h.hT ?_;simp only [yU,Lz,St.enter,au,aG,aX];refine ew ?_;have hi1:jQ (s0++[some (⟨3,[[.bool f.neg,w1,w2]]⟩:Obj)]) ri=some ⟨3,A⟩:=(kV hri).trans hi;refine AZ @lw @hi ?_;refine kZ (fun x d=>x == 157||x == 159) (α:=Nat×Store×List (List V)×List Nat) (fun q=>⟨mJ [.lQ ri 0 X.length,.lQ rk 0 X.length,.any,.any,.any,.ptr s0.length 0 0,.any,.any,.lQ ri 0 X.length,iv (X.length:Nat),iv (q.1:Nat)],q.2.1,s0.length,0,[],[]⟩) (fun q=>q.1<=X.length/\Xa s0 q.2.1 ri ⟨3,[[.bool f.neg,w1,w2]]⟩ A Z q.1 q.2.2.1 q.2.2.2) (fun q=>X.length-q.1) rfl (0,s0++[some (⟨3,[[.bool f.neg,w1,w2]]⟩:Obj)],[],[]) ?_ ?_ ?_
  ·exact⟨by omega,aa6 hi⟩
  ·(refine kS ?_;exact uw)
  rintro⟨j,s,N,os⟩ ⟨hj,I⟩;dsimp only at hj I;have hls:=I.len;have hbx:=I.bx;rw [<-hp]at hbx ⊢;by_cases hc:(j:Int)<(X.length:Nat)
  ·have hjl:j<X.length:=by omega
   obtain⟨a1,a2,ea,ka1,ka2⟩:=hA.2 j hjl;obtain⟨b1,b2,eb,kb1,kb2⟩:=hB.2 j (by omega);have kp:=I.kp hi;have cx:=cX _ (getD_mem hjl);have cy:=cY _ (getD_mem (l:=Y) (i:=j) (by omega));have hz:=hZa j hjl;have gA:=I.at (by omega);rw [ea]at gA;have gB:B[j]? = some (B.getD j []):=by
    have hjB:j<B.length:=by rw [hB.1];omega
    rw [aj,ak hjB];rfl
   rw [eb]at gB;have CP:=I.row;have ork:=(I.old rk hrk (fun e=>hne e.symm)).trans hk;have hrs:ri<s.length:=by omega
   have hks:rk<s.length:=by omega
   have hps:p<s.length:=by omega
   replace kb1:=kb1.fr kp
   replace kb2:=kb2.fr kp
   have kw1:=hf1.fr kp;have kw2:=hf2.fr kp
   replace ka1:=ka1.fr kp
   replace ka2:=ka2.fr kp
   generalize X.getD j default=x at *;generalize Y.getD j default=y at *;have stp:=fun (q3:Store) (c:List V) (o3:List Nat) old len ho nd3 fr3=>I.step (q3:=q3) (c:=c) (o3:=o3) hri (by omega) (by omega) hz old len ho nd3 fr3;generalize hL:N++List.drop j A=L at *;have R1:=ah (ah kb1.r11 kb2.r11) (ah kw1.r11 kw2.r11);refine D5 @hc (ah CP (ah ork hbx)) (ah gA gB) @R1 @kQ @lI ?_;refine vk (fun o=>∃l,jQ s o=some ⟨1,kU l⟩) (show PO T 157 [lD y,lD f] (lD (mulR y f))from YZ h.l7 cy cf) (by (refine Dy @R1 @kQ @lI ?_;try with_reducible exact aC)) ?_ ?_
   ·intro o ho;have ho:o∈reach s (11+1) (.agg [.bool y.neg,b1,b2])++(reach s (11+1) (.agg [.bool f.neg,w1,w2])++[]):=ho;rw [aU]at ho;rcases aK.1 ho with ho|ho
    ·exact zN.rch ⟨_,_,rfl,kb1,kb2⟩ _ o ho
    exact zN.rch ⟨_,_,rfl,kw1,kw2⟩ _ o ho
   intro Q1 r q2 o2 Rt G;have hmc:=Jf y f;generalize mulR y f=mm at *;obtain⟨_,rfl,hQ⟩:=G.ow.lU;obtain⟨m1,m2,rfl⟩:=hQ.rat
   obtain⟨v1,v2,e,km1,km2⟩:=(Om hQ).1;simp only [iF,and_true,true_and]at e;obtain⟨rfl,rfl⟩:=e;have gl2:s.length<=q2.length:=G.len
   replace ka1:=ka1.fr (.old G.old)
   replace ka2:=ka2.fr (.old G.old)
   have R2:=ah (ah ka1.r11 ka2.r11) (ah km1.r11 km2.r11);refine Dy @R2 @kQ @lI ?_;refine vk (fun o=>∃l,jQ q2 o=some ⟨1,kU l⟩) (show PO T 159 [lD x,lD mm] (lD (wL x mm))from SV h.rH cx hmc) (by (refine Dy @R2 @kQ @lI ?_;try with_reducible exact aC)) ?_ ?_
   ·intro o ho;have ho:o∈reach q2 (11+1) (.agg [.bool x.neg,a1,a2])++(reach q2 (11+1) (.agg [.bool mm.neg,m1,m2])++[]):=ho;rw [aU]at ho;rcases aK.1 ho with ho|ho
    ·exact zN.rch ⟨_,_,rfl,ka1,ka2⟩ _ o ho
    exact zN.rch ⟨_,_,rfl,km1,km2⟩ _ o ho
   intro Q2 r q3 o3 hQ2 G2;generalize wL x mm=z at *;obtain⟨_,rfl,hQ⟩:=G2.ow.lU;obtain⟨z1,z2,rfl⟩:=hQ.rat
   have lz:=nC.leaf hQ rfl;simp only [dD,dU,dJ,aH]at lz;have gl3:q2.length<=q3.length:=G2.len;have agX:∀o,o<s.length->jQ q3 o=jQ s o:=fun o ho=>(G2.old o (by omega)).trans (G.old o ho);have row3:=(agX ri hrs).trans CP;have hr3:ri<q3.length:=by omega
   have ane:=stp q3 _ o3 agX (by omega) hQ G2.nd (fun o ho=>by have:=G2.fresh o ho;omega);have nri:∀(q:Store) (l:List Int),jQ q ri=some ⟨3,L⟩->jQ q ri≠some ⟨1,kU l⟩:=fun q l e k=>by rw [e]at k;cases k
   have n1:∀o∈Q1,o≠ri:=fun o ho e=>by
    obtain⟨l,hl⟩:=Rt o ho;exact nri s l CP (e▸hl)
   have n2:∀o∈Q2,o≠ri:=fun o ho e=>by
    obtain⟨l,hl⟩:=hQ2 o ho;exact nri q2 l ((G.old ri hrs).trans CP) (e▸hl)
   clear Rt hQ2 stp;refine Ku @lz (ah row3 hr3) @gA @kQ @lI ?_;refine⟨?_,?_⟩
   ·have d1:ri<s.length:=hrs;clear ane agX row3 hr3
    revert Q2
    refine F6 _ (fun R=>∀o∈R,o≠ri) 2 12 rfl (fun _=>rfl) ?_ ?_
    ·intro R hR b hb w hw hm;simp only [aI,bY,or_false]at hb;rcases hb with rfl|rfl|rfl|rfl|rfl|rfl|rfl|rfl|rfl|rfl|rfl|rfl|rfl|rfl|rfl
     all_goals first|(cases hw;done)|(rw [aW.1 hw]at hm;exact hR _ hm rfl)
    revert Q1
    refine F6 _ (fun R=>∀o∈R,o≠ri) 3 11 rfl (fun _=>rfl) ?_ ?_
    ·intro R hR b hb w hw hm;simp only [aI,bY,or_false]at hb;rcases hb with rfl|rfl|rfl|rfl|rfl|rfl|rfl|rfl|rfl|rfl|rfl|rfl|rfl|rfl|rfl
     all_goals first|(cases hw;done)|(rw [aW.1 hw]at hm;exact hR _ hm rfl)
    refine aeN (aF:=fun a b c=>[⟨14,[a],[a],false⟩,⟨13,[a],[],false⟩,⟨12,[],[],true⟩,⟨11,[],[],true⟩,⟨10,[c],[],false⟩,⟨9,[b],[],false⟩,⟨8,[b],[],false⟩,⟨7,[],[],false⟩,⟨6,[],[],false⟩,⟨5,[a],[],false⟩,⟨4,[a],[],false⟩,⟨3,[],[],false⟩,⟨2,[],[],false⟩,⟨1,[],[],false⟩,⟨0,[],[],false⟩]) ri rk p s.length ?_ ?_ ?_ ?_
    ·exact nd3 hne aEL aEM
    ·exact lt3 hrs hks hps
    ·exact fun _ _ _ _=>rfl
    unfold sF;decide +kernel
   refine⟨(j+1,?st,N++[[.bool z.neg,z1,z2]],os++o3),?c1,⟨?c2,?c4⟩,?c3⟩
   case c3=>dsimp only;(refine kS ?_;exact uw)
   case c1=>dsimp only;omega
   case c2=>dsimp only;omega
   case c4=>exact ane
  have hje:j=X.length:=by omega
  obtain⟨f1,f2⟩:=I.fin (by omega) (by omega);have rw1:=(Ql f2).1;have Rf:=rw1.res f1;rw [hZl]at Rf;have cg:=Nq h.um hZc (by omega);refine AZ @hc @Rf ?_;refine jK cg ?_;refine ew ?_;subst hp;exact⟨N,os,f1,f2,I.nd,I.fr,I.old,by omega⟩
 obtain⟨r,s',h1,rfl,A',os,h2⟩:=this;exact⟨s',A',os,h1,h2⟩
theorem QI{s s2:Store}{q q2 p2 i c:Nat}{rp:Nat->Nat}{M:MF}(h:i=0\/NC s q i c rp (fun x=>(M x).map R.cells) M)(hq:jQ s2 q2=some ⟨1,CP i c rp++[[.lQ p2 0 c]]⟩)(hp:jQ s2 p2=some ⟨3,(M i).map R.cells⟩)(hpl:s.length<=p2)
  (old:∀o,o<s.length->o≠q->jQ s2 o=jQ s o):NC s2 q2 (i+1) c (fun x=>if x=i then p2 else rp x) (fun x=>(M x).map R.cells) M:=by
 have hlt:∀x,x<i->rp x<s.length/\rp x≠q:=fun x hx=>by
  rcases h with h|h
  ·omega
  exact⟨h.lt.2 x hx,h.ne hx⟩
 refine⟨fun x y hx hy e=>?_,?_,fun x hx=>?_,fun x hx=>aco _⟩
 ·by_cases h1:x=i
  ·by_cases h2:y=i
   ·omega
   rw [aQ h1,aN h2]at e;have:=(hlt y (by omega)).1;omega
  by_cases h2:y=i
  ·rw [aN h1,aQ h2]at e;have:=(hlt x (by omega)).1;omega
  rw [aN h1,aN h2]at e;rcases h with h|h
  ·omega
  exact h.inj x y (by omega) (by omega) e
 ·rw [hq];unfold CP;rw [iV,bU]
  congr 2
  congr 1
  ·refine gu fun x hx=>?_;have:=fF.1 hx;show [V.lQ (rp x) 0 c]=[V.lQ (if x=i then p2 else rp x) 0 c];rw [aN (by omega)]
  simp
 by_cases h1:x=i
 ·subst h1;rw [aQ rfl];exact hp
 rw [aN h1];have hxi:x<i:=by omega
 rcases h with h|h
 ·omega
 exact(old _ (hlt x hxi).1 (hlt x hxi).2).trans (h.row x hxi)
theorem avL{m:List (List R)}{C:Nat}(hz:NS (NS R.sz) m<=1048576)(h0:0<m.length)(hrl:∀i,i<m.length->(m.getD i default).length=C):C<=1048576:=by
 have h2:=Ui (f:=NS R.sz) hz (getD_mem h0);have h3:=P7 R.sz (m.getD 0 default);have:=hrl 0 h0;omega
theorem anf{α:Type}{l:List (List α)}{j:Nat}(h:j<l.length):l[j]? = some (l.getD j []):=by
 rw [aj,ak h];rfl
theorem NC.cell{s:Store}{q n c:Nat}{rp:Nat->Nat}{A:Nat->List (List V)}{M:MF}(h:NC s q n c rp A M)(hl:∀i,i<n->(M i).length=c){i j:Nat}(hi:i<n)(hj:j<c):∃a1 a2,(A i)[j]? = some [.bool (L6 M i j).neg,a1,a2]/\yV s a1 (L6 M i j).mag/\yV s a2 (L6 M i j).den:=by
 have hr:=h.cel i hi;have hjl:j<(M i).length:=by rw [hl i hi];exact hj
 obtain⟨a1,a2,e,k1,k2⟩:=hr.2 j hjl;exact⟨a1,a2,by rw [anf (by rw [hr.1];exact hjl),e];rfl,k1,k2⟩
theorem NC.kpq{s s2:Store}{q n c:Nat}{rp:Nat->Nat}{A:Nat->List (List V)}{M:MF}(h:NC s q n c rp A M)(hn:0<n)(ho:∀o,o≠q->o<s.length->jQ s2 o=jQ s o):Kp s s2:=fun o l e=>ho o (fun e2=>by
  rw [e2,h.out]at e
  injection e with e
  injection e with _ e
  exact Tc hn l e) (lH e)
theorem Y2{T:Tb}(h:EM T){m:List (List R)}{c:Int}(hw:DR (DR R.wf) m)(hz:rrC m c=true->NS (NS R.sz) m<=1048576)(hcw:c<=9223372036854775807):PO T 243 [sG m,iv c] (.oU [sG (rrM m c),.bool (rrB m c)]):=by
 have c1:=WH h.IK (m:=m) (cols:=c) hw hcw;have hml:=hw.1
 cases hc:rrC m c
 ·obtain⟨e1,e2⟩:=aiu hc;rw [e1,e2];unfold rrC at hc;generalize CJ m c=x at c1 hc;have hx:x=false\/x=true:=by cases x<;>simp
  refine mM nR h.hT ?_;simp only [uD,Lz,St.enter,au,aG,aX];refine ew ?_;refine jK c1 ?_;rcases hx with hx|hx
  ·refine Ae @hx ?_;exact(qF (sz:=1)).Ba
  have hlt:c<(m.length:Nat):=by
   rw [hx,cZ,decide_eq_false_iff_not]at hc;omega
  refine AZ @hx @hlt ?_;exact(qF (sz:=1)).Ba
 obtain⟨h10,hnc,hmo,hok⟩:=agV hc;rw [hmo]at c1;have hlt:¬c<(m.length:Nat):=by omega
 obtain⟨C,rfl⟩:∃C:Nat,c=C:=⟨c.toNat,by omega⟩;rw [gU]at hok;have hrl:∀i,i<m.length->(m.getD i default).length=C:=fun i hi=>(hok i hi).1;rcases iw m.length with h0|h0
 ·obtain⟨e1,e2⟩:=Qk hc (M:=yu m) (by rw [h0];rfl);rw [h0]at e1;rw [e1,e2];refine mM nR h.hT ?_;simp only [uD,Lz,St.enter,au,aG,aX];refine ew ?_;refine jK c1 ?_;refine Ae @hlt ?_;refine kZ (fun _ _=>false) (α:=Nat) (fun i=>⟨mJ [.any,.any,.any,.any,.any,.any,iv (m.length:Nat),.kC,.any,.any,.any,.any,.any,.any,.any,.any,.any,.any,.any,.any,.any,.any,.any,.any,.any,.any,.any,sG m,iv (m.length:Nat),iv (i:Nat)],[none],0,0,[],[]⟩) (fun i=>i=0) (fun i=>i) rfl 0 ?_ ?_ ?_
  ·rfl
  ·(refine kS ?_;exact uw)
  rintro i rfl;have hcc:¬(((0:Nat):Int)<(m.length:Nat)):=by omega
  refine Ae @hcc ?_;refine kZ (fun _ _=>false) (α:=Nat) (fun k=>⟨mJ [.any,.any,.any,.any,.any,.any,iv (m.length:Nat),.kC,.any,.any,iv (k:Nat)],[none],0,0,[],[]⟩) (fun k=>k=0) (fun k=>k) rfl 0 ?_ ?_ ?_
  ·rfl
  ·(refine kS ?_;exact uw)
  rintro k rfl;refine Ae @hcc ?_;exact(qF (sz:=1)).Ba
 have hC:=avL (hz hc) h0 hrl;clear hw hz hml;refine mM (fun x d=>(x == 156&&d == 107)||(x == 245&&d == 140)) h.hT ?_;simp only [uD,Lz,St.enter,au,aG,aX];refine ew ?_;refine jK c1 ?_;refine Ae @hlt ?_;refine kZ (fun x d=>(x == 156&&d == 107)||(x == 245&&d == 140)) (α:=Nat×Store×V×Nat×(Nat->Nat)) (fun q=>⟨mJ [.any,.any,.any,.any,.any,.any,iv (m.length:Nat),q.2.2.1,.any,.any,.any,.any,.any,.any,.any,.any,.any,.any,.any,.any,.any,.any,.any,.any,.any,.any,.any,sG m,iv (m.length:Nat),iv (q.1:Nat)],q.2.1,0,0,[],[]⟩) (fun q=>q.1<=m.length/\((q.1=0/\q.2.2.1=.kC)\/(0<q.1/\q.2.2.1=.lQ q.2.2.2.1 0 q.1/\NC q.2.1 q.2.2.2.1 q.1 C q.2.2.2.2 (fun x=>(yu m x).map R.cells) (yu m)))) (fun q=>m.length-q.1) rfl (0,[none],.kC,0,fun _=>0) ?_ ?_ ?_
 ·exact⟨by omega,.inl ⟨rfl,rfl⟩⟩
 ·(refine kS ?_;exact uw)
 rintro⟨i,s,v7,qo,rp⟩ ⟨hi,hM⟩;dsimp only at hi hM;by_cases hcc:(i:Int)<(m.length:Nat)
 ·have hil:i<m.length:=by omega
  have hai:(m.map fun r=>[pK r]).getD i []=[pK (m.getD i default)]:=mg (f:=fun r:List R=>[pK r]) hil;have hri:=hrl i hil;have emf:yu m i=m.getD i default:=rfl;generalize m.getD i default=r at *;have hne:(r.map R.cells=[])=False:=iD fun e=>by
   have:=congrArg List.length e;simp at this;subst this;simp at hri;omega
  rcases hM with ⟨rfl,rfl⟩|⟨hi0,rfl,hM⟩
  ·refine Dy @hcc @hai @hne ?_;refine⟨⟨by omega,by omega⟩,by decide,?_⟩;refine⟨(0+1,?st,.lQ (s.length+3) 0 1,s.length+3,fun x=>if x=0 then s.length+1 else rp x),?c1,⟨?c2,.inr ⟨by omega,rfl,?c4⟩⟩,?c3⟩
   case c3=>dsimp only;(refine kS ?_;exact uw)
   case c1=>dsimp only;omega
   case c2=>dsimp only;omega
   case c4 =>
    dsimp only;refine QI (s:=s) (q:=0) (.inl rfl) ?_ ?_ (by omega) (fun o ho _=>?_)
    ·rw [kY (by simp)];rw [hri];rfl
    ·rw [emf];exact DV
    exact DV
  have hq:=hM.out;have hql:=hM.lt.1;have hoc:=Nr i C rp;refine Ku @hcc @hai @hne @hq @hoc ?_;refine⟨⟨by omega,by omega⟩,by omega,?_⟩;refine⟨(i+1,?st2,.lQ (s.length+3) 0 (i+1),s.length+3,fun x=>if x=i then s.length+1 else rp x),?c1,⟨?c2,.inr ⟨by omega,rfl,?c4⟩⟩,?c3⟩
  case c3=>dsimp only;(refine kS ?_;exact uw)
  case c1=>dsimp only;omega
  case c2=>dsimp only;omega
  case c4 =>
   dsimp only;refine QI (s:=s) (q:=qo) (.inr hM) ?_ ?_ (by omega) (fun o ho hne=>?_)
   ·rw [kY (by simp)];rw [hri]
   ·rw [emf];have:s.length+1≠qo:=by omega
    exact DV
   exact DV
 have hie:i=m.length:=by omega
 subst hie;rcases hM with ⟨h1,_⟩|⟨_,rfl,hM⟩
 ·omega
 refine Ae @hcc ?_;have hql:=hM.lt.1;refine kZ (fun x d=>(x == 156&&d == 107)||(x == 245&&d == 140)) (α:=Nat×Store×(Nat->Nat)×(Nat->List (List V))×MF×(Nat->List Nat)) (fun q=>⟨mJ [.any,.any,.any,.any,.any,.any,iv (m.length:Nat),.lQ qo 0 m.length,.any,.any,iv (q.1:Nat)],q.2.1,0,0,[],[]⟩) (fun q=>q.1<=m.length/\NC q.2.1 qo m.length C q.2.2.1 q.2.2.2.1 q.2.2.2.2.1/\Pg m.length (yu m) q.1=some q.2.2.2.2.1/\XB m.length C q.2.2.2.2.1/\(0<q.1->ZG q.2.1 q.2.2.2.1 q.2.2.2.2.1 q.2.2.2.2.2 fun i=>i<m.length)) (fun q=>m.length-q.1) rfl (0,s,rp,fun x=>(yu m x).map R.cells,yu m,fun _=>[]) ?_ ?_ ?_
 ·exact⟨by omega,hM,rfl,hok,fun h=>absurd h (by omega)⟩
 ·(refine kS ?_;exact uw)
 clear hM hok hql hrl hcc hi;rintro⟨k,s,rp,A,M,f⟩ ⟨hk,hM,hIt,hOk,hOw⟩;dsimp only at hk hM hIt hOk hOw;by_cases hck:(k:Int)<(m.length:Nat)
 ·have hkl:k<m.length:=by omega
  have hkC:k<C:=by omega
  have hql:=hM.lt.1;refine Ae @hck ?_;refine kZ (fun x d=>(x == 156&&d == 107)||(x == 245&&d == 140)) (α:=Nat) (fun p=>⟨mJ [.any,.any,.any,.any,.any,.any,iv (m.length:Nat),.lQ qo 0 m.length,.any,.any,iv (k:Nat),iv (p:Nat)],s,0,0,[],[]⟩) (fun p=>k<=p/\p<=m.length/\rrP M k (m.length-p) p=Z5 m.length M k) (fun p=>m.length-p) rfl k ?_ ?_ ?_
  ·exact⟨aJ _,by omega,rfl⟩
  ·(refine kS ?_;exact uw)
  rintro p ⟨hkp,hpn,hP⟩;by_cases hcp:(p:Int)<(m.length:Nat)
  ·have hpl:p<m.length:=by omega
   obtain⟨a1,a2,gA,ka1,ka2⟩:=hM.cell (fun i hi=>(hOk i hi).1) hpl hkC;have cs:=agD h.JO (hOk.el hpl hkC);have hzz:=azG (M:=M) (k:=k) hpl;have hnz:=azH (M:=M) (k:=k) hpl;have hxc:=hOk.el hpl hkC;obtain⟨x,hx⟩:∃x,L6 M p k=x:=⟨_,rfl⟩;rw [hx]at gA ka1 ka2 cs hzz hnz hxc;have R1:=ah ka1.r11 ka2.r11;have O1:=ah hM.out (hM.row p hpl);have G1:=ah (KT (c:=C) (rp:=rp) hpl) gA;refine D6 @hcp @O1 @G1 @R1 ?_;refine jK cs ?_;by_cases hs:xI x=0
   ·refine Ae @hs ?_;exact⟨p+1,by omega,⟨by omega,by omega,(hzz hs).symm.trans hP⟩,by (refine kS ?_;exact uw)⟩
   have hPv:=(hnz hs).symm.trans hP;have azN:¬((p:Int)=(m.length:Nat)):=by omega
   have gk:=KT (c:=C) (rp:=rp) hkl;obtain⟨w,gS1⟩:∃w,((CP m.length C rp).set k [V.lQ (rp p) 0 C])[p]? = some [w]:=by rw [Qm];exact⟨_,KT hpl⟩
   have gS2:(((CP m.length C rp).set k [V.lQ (rp p) 0 C]).set p [.lQ (rp k) 0 C])[k]? = some [.lQ (rp p) 0 C]:=by
    rw [Qm,Qm,KT hkl];by_cases e:k=p
    ·subst e;simp
    rw [aN e,aQ rfl]
   have hnq:=hM.ne hpl;have hpq:=hM.lt.2 p hpl;have lx:=ah ka1.leaf ka2.leaf;refine D5 (ah hs azN) @O1 @G1 (ah gk (ah gS1 gS2)) @lx @List.set_set.{0} ?_;refine⟨by unfold sF;rfl,?_⟩;have hl2:(s.set qo (some ⟨1,((CP m.length C rp).set k [V.lQ (rp p) 0 C]).set p [.lQ (rp k) 0 C]⟩)).length=s.length:=by simp
   have hM2:=hM.swap hkl hpl rfl (s2:=s.set qo (some ⟨1,((CP m.length C rp).set k [V.lQ (rp p) 0 C]).set p [.lQ (rp k) 0 C]⟩)) (kY hql) (fun o h _=>kN h);have kp2:=hM.kpq h0 (s2:=s.set qo (some ⟨1,((CP m.length C rp).set k [V.lQ (rp p) 0 C]).set p [.lQ (rp k) 0 C]⟩)) (fun o h _=>kN h)
   replace ka1:=ka1.fr kp2
   replace ka2:=ka2.fr kp2
   generalize s.set qo (some ⟨1,((CP m.length C rp).set k [V.lQ (rp p) 0 C]).set p [.lQ (rp k) 0 C]⟩)=s2 at *;rw [<-hl2];have hp1:Z5 m.length M k<m.length:=hPv▸hpl;have e1:BL M k p=CO m.length M k:=by unfold CO;rw [<-hPv]
   rw [e1]at hM2;have azO:=hOk.one hkl hp1;have exk:L6 (CO m.length M k) k k=x:=by
    rw [<-hx,<-e1];unfold L6 BL;by_cases e:k=p
    ·rw [aQ e,e]
    rw [aN e,aQ rfl]
   have hL1:=fun i hi=>(azO i hi).1;have e2w:EN m.length M k=fun i=>if i=k then Ru (CO m.length M k k) k else CO m.length M k i:=rfl
   have ang:=hOk.two hkl hp1;have hstep:Pg m.length (yu m) (k+1)=EO m.length M k:=acn hIt;have hsf:=@am4 m.length M k;have hst:=aeL (n:=m.length) (M:=M) (k:=k) hp1;have aEQ:=fun M'=>hOk.step (M':=M') hkl;generalize (fun x=>if x=p then rp k else if x=k then rp p else rp x)=rp2 at hM2;generalize (fun x=>if x=p then A k else if x=k then A p else A x)=A2 at hM2;have hDl:=VI (CO m.length M k k) k;have hDc:=aeG (CO m.length M k k) k;have hDa:=fun j hj=>aeJ (CO m.length M k k) k (j:=j) hj;have hlk:=hL1 k hkl;have azP:=fun j hj=>hM2.cell hL1 hkl (j:=j) hj;have hel:=fun j hj=>azO.el hkl (j:=j) hj;rw [show (CO m.length M k k).getD k default=x from exk]at hDa;generalize EN m.length M k=M2 at *;generalize hM1:CO m.length M k=M1 at *;clear hs hzz hnz cs R1 O1 G1 gk gS1 gS2 hnq hpq azN hM hOk hOw gA hx hP hPv kp2 hp1 e1 hql hl2 hIt w;have hrq:=hM2.ne hkl;have hrl2:=hM2.lt.2 k hkl;have avM:=hM2.lt.1;have hq2:=hM2.out;have hrk:=hM2.row k hkl;have hAk:=(hM2.cel k hkl).1;rw [hlk]at hDl hAk;have aES:(Ru (M1 k) k).length=C:=hDl;have gk:=KT (c:=C) (rp:=rp2) hkl
   refine kZ (fun x d=>(x == 156&&d == 107)||(x == 245&&d == 140)) (α:=Nat×Store×List (List V)×List Nat) (fun q=>⟨mJ [.any,.any,.any,.any,.any,.any,iv (m.length:Nat),.lQ qo 0 m.length,.any,.any,iv (k:Nat),.any,.ptr s2.length 0 0,.any,.any,.any,.any,.any,.any,.any,.any,.any,.any,.any,.any,.any,.any,.any,.any,.any,.any,.any,.any,.any,.any,.any,.any,.any,.any,.any,.any,.any,.any,.any,.any,.any,.any,.any,.any,.any,.any,.any,.any,.any,.any,.any,.any,.any,.any,.any,.any,.any,.any,.any,.any,.any,.any,.any,.any,.any,.any,.any,.any,.any,.any,.any,.any,.any,.any,.any,.any,.any,.any,.any,.any,.any,.any,.any,.any,.any,iv (C:Nat),iv (q.1:Nat)],q.2.1,0,0,[],[]⟩) (fun q=>q.1<=C/\Xa s2 q.2.1 (rp2 k) ⟨3,[[.bool x.neg,a1,a2]]⟩ (A2 k) (Ru (M1 k) k) q.1 q.2.2.1 q.2.2.2) (fun q=>C-q.1) rfl (0,(s2++[none]).set s2.length (some ⟨3,[[.bool x.neg,a1,a2]]⟩),[],[]) ?_ ?_ ?_
   ·exact⟨by omega,by rw [Yt];exact aa6 hrk⟩
   ·(refine kS ?_;exact uw)
   rintro⟨j,t,N,os⟩ ⟨hj,I⟩;dsimp only at hj I;have hlt2:=I.len;have hbx:=I.bx;obtain⟨b,hb⟩:∃b,b=s2.length:=⟨_,rfl⟩;rw [<-hb]at hbx ⊢;have hqt:=(I.old qo avM (fun e=>hrq e.symm)).trans hq2;have hrt:=I.row;by_cases hcj:(j:Int)<(C:Nat)
   ·have hjl:j<C:=by omega
    obtain⟨b1,b2,gB,kb1,kb2⟩:=azP j hjl;have kp:=I.kp hrk;have cy:=hel j hjl;have hz:=hDa j (by omega);rw [show (M1 k).getD j default=L6 M1 k j from rfl]at hz;have gA:=I.at (by omega);have gB2:(A2 k)[j]? = some ((A2 k).getD j []):=anf (by omega);rw [gB]at gB2;rw [<-Option.some.inj gB2]at gA
    replace kb1:=kb1.fr kp
    replace kb2:=kb2.fr kp
    have kw1:=ka1.fr kp;have kw2:=ka2.fr kp;generalize L6 M1 k j=y at *;have stp:=fun (q3:Store) (c:List V) (o3:List Nat) old len ho nd3 fr3=>I.step (q3:=q3) (c:=c) (o3:=o3) hrl2 (by omega) (by omega) hz old len ho nd3 fr3;generalize hL:N++List.drop j (A2 k)=L at *;have R1:=ah (ah kb1.r11 kb2.r11) (ah kw1.r11 kw2.r11);have hrs:rp2 k<t.length:=by omega
    have hqs:qo<t.length:=by omega
    have hbs:b<t.length:=by omega
    refine D5 @hcj (ah hqt (ah hrt hbx)) (ah gk gA) @R1 @kQ @lI ?_;refine vk (fun o=>∃l,jQ t o=some ⟨1,kU l⟩) (show PO T 156 [lD y,lD x] (lD (vS y x))from Oh h.uZ cy hxc) (by (refine Dy @R1 @kQ @lI ?_;try with_reducible exact aC)) ?_ ?_
    ·intro o ho;have ho:o∈reach t (11+1) (.agg [.bool y.neg,b1,b2])++(reach t (11+1) (.agg [.bool x.neg,a1,a2])++[]):=ho;rw [aU]at ho;rcases aK.1 ho with ho|ho
     ·exact zN.rch ⟨_,_,rfl,kb1,kb2⟩ _ o ho
     exact zN.rch ⟨_,_,rfl,kw1,kw2⟩ _ o ho
    intro Q1 r q3 o3 Rt G;generalize vS y x=z at *;obtain⟨_,rfl,hQ⟩:=G.ow.lU;obtain⟨z1,z2,rfl⟩:=hQ.rat
    have lz:=nC.leaf hQ rfl;simp only [dD,dU,dJ,aH]at lz;have gl3:t.length<=q3.length:=G.len;have agX:∀o,o<t.length->jQ q3 o=jQ t o:=fun o ho=>G.old o ho;have row3:=(agX _ hrs).trans hrt;have hr3:rp2 k<q3.length:=by omega
    have ane:=stp q3 _ o3 agX gl3 hQ G.nd (fun o ho=>G.fresh o ho);have n1:∀o∈Q1,o≠rp2 k:=fun o ho e=>by
     obtain⟨l,hl⟩:=Rt o ho;rw [e,hrt]at hl;cases hl
    clear Rt stp;refine Ku @lz (ah row3 hr3) @gA @kQ @lI ?_;refine⟨?_,?_⟩
    ·clear ane agX row3 hr3
     revert Q1
     refine F6 _ (fun R=>∀o∈R,o≠rp2 k) 2 13 rfl (fun _=>rfl) ?_ ?_
     ·intro R hR b hb w hw hm;simp only [aI,bY,or_false]at hb;rcases hb with rfl|rfl|rfl|rfl|rfl|rfl|rfl|rfl|rfl|rfl|rfl|rfl|rfl|rfl|rfl|rfl
      all_goals first|(cases hw;done)|(rw [aW.1 hw]at hm;exact hR _ hm rfl)
     refine aeN (aF:=fun a b c=>[⟨15,[a],[a],false⟩,⟨14,[a],[],false⟩,⟨13,[],[],true⟩,⟨12,[c],[],false⟩,⟨11,[a],[],false⟩,⟨10,[a],[],false⟩,⟨9,[],[],false⟩,⟨8,[b],[],false⟩,⟨7,[b],[],false⟩,⟨6,[],[],false⟩,⟨5,[],[],false⟩,⟨4,[],[],false⟩,⟨3,[b],[],false⟩,⟨2,[b],[],false⟩,⟨1,[],[],false⟩,⟨0,[],[],false⟩]) (rp2 k) qo b t.length ?_ ?_ ?_ ?_
     ·exact nd3 hrq (by omega) (by omega)
     ·exact lt3 hrs hqs hbs
     ·exact fun _ _ _ _=>rfl
     unfold sF;decide +kernel
    refine⟨(j+1,?st6,N++[[.bool z.neg,z1,z2]],os++o3),?c1,⟨?c2,?c4⟩,?c3⟩
    case c3=>dsimp only;(refine kS ?_;exact uw)
    case c1=>dsimp only;omega
    case c2=>dsimp only;omega
    case c4=>exact ane
   have hje:j=C:=by omega
   obtain⟨f1,f2⟩:=I.fin (by omega) (by omega);have hM3:=hM2.put hkl f1 I.old (Ql f2).1;rw [<-e2w]at hM3;have hO3:=((avK (s:=s2) (A:=A2) (M:=M1) (f:=fun _=>[])).put (k:=k) (I.kp hrk) f2 I.nd I.fr).ext (M2:=M2) (S2:=fun x=>x<0\/x=k) (fun i hi=>⟨hi.imp (fun h=>absurd h (dB _)) id,by rw [e2w]⟩);have Rf:=hM3.aEK hkl (ang k hkl).1;have cg:=Nq h.um (ang k hkl).2 (by rw [(ang k hkl).1];exact hC);clear I hrt f1 f2 hM2 hbx hel azP hDa hDc hDl aES hAk hrk hq2;rw [<-aq9 M2 k]at hM3 hO3;have et:zU M2 k k=M2 k:=aQ rfl
   cases hg:(M2 k).all R.ok
   ·rw [hg]at cg;obtain⟨e1,e2⟩:=UD hc (hstep.trans (hsf (aiv hkl (by rw [et];exact hg)))) hkl;rw [e1,e2];refine D6 @hcj @hqt @gk @Rf ?_;refine jK cg ?_;refine ew ?_;exact(qF (sz:=1)).Ba
   rw [hg]at cg;refine D6 @hcj @hqt @gk @Rf ?_;refine jK cg ?_;refine Ae @hqt ?_;refine kZ (fun x d=>(x == 156&&d == 107)||(x == 245&&d == 140)) (α:=Nat×Store×(Nat->List (List V))×(Nat->List Nat)) (fun q=>⟨mJ [.any,.any,.any,.any,.any,.any,iv (m.length:Nat),.lQ qo 0 m.length,.any,.any,iv (k:Nat),.any,.any,.any,.any,.any,.any,.any,.any,.any,.any,.any,.any,.any,.any,.any,.any,.any,.any,.any,.any,.any,.any,.any,.any,.any,.any,.any,.any,.any,.any,.any,.any,.any,.any,.any,.any,.any,.any,.any,.any,.any,.any,.any,.any,.any,.any,.any,.any,.any,.any,.any,.any,.any,.any,.any,.any,.any,.any,.any,.any,.any,.any,.any,.any,.any,.any,.any,.any,.any,.any,.any,.any,.any,.any,.any,.any,.any,.any,.any,.any,.any,.any,.any,.any,.any,.any,.any,.any,.any,.any,.any,.any,.any,.any,.any,.any,.any,.any,.any,.any,.any,.any,.any,.any,.any,.any,iv (m.length:Nat),iv (q.1:Nat)],q.2.1,0,0,[],[]⟩) (fun q=>q.1<=m.length/\NC q.2.1 qo m.length C rp2 q.2.2.1 (FM M2 k q.1)/\ZG q.2.1 q.2.2.1 (FM M2 k q.1) q.2.2.2 (fun x=>x<q.1\/x=k)/\∀x,x<q.1->(zU M2 k x).all R.ok=true) (fun q=>m.length-q.1) rfl (0,t,fun i=>if i=k then N else A2 i,fun i=>if i=k then os else []) ?_ ?_ ?_
   ·exact⟨eH _,hM3,hO3,fun x hx=>absurd hx (dB _)⟩
   ·(refine kS ?_;exact uw)
   clear hM3 hO3 hqt Rf hcj hj hje hb hlt2;rintro⟨i,u,A3,f⟩ ⟨hi,hM,hO,hgi⟩;dsimp only at hi hM hO hgi;by_cases hci:(i:Int)<(m.length:Nat)
   ·have hil:i<m.length:=by omega
    have azS:(zU M2 k i).all R.ok=true->∀x,x<i+1->(zU M2 k x).all R.ok=true:=fun h x hx=>by
     by_cases e:x=i
     ·subst e;exact h
     exact hgi x (by omega)
    by_cases hik:i=k
    ·have hik':((i:Int)=(k:Nat))=True:=iy (by omega);have em:∀x,FM M2 k (i+1) x=FM M2 k i x:=fun x=>by
      unfold FM;by_cases e:x<i
      ·rw [aQ e,aQ (by omega)]
      by_cases e2:x=i
      ·rw [aN e,aQ (by omega),e2,hik,et]
      rw [aN e,aN (by omega)]
     refine AZ @hci @hik' ?_;refine⟨by unfold sF;rfl,⟨(i+1,u,A3,f),by dsimp only;omega,⟨by dsimp only;omega,hM.ext fun x _=>(em x).symm,hO.ext fun x hx=>⟨?_,(em x).symm⟩,azS (by rw [hik,et];exact hg)⟩,by (refine kS ?_;exact uw)⟩⟩;dsimp only at hx;omega
    have hik':((i:Int)=(k:Nat))=False:=iD (by omega);have hOm:=ang.mix hkl i;have hlm:=fun x hx=>(hOm x hx).1;have emi:FM M2 k i i=M2 i:=aN (jg _);have emk:FM M2 k i k=M2 k:=by
     unfold FM;split
     ·exact et
     rfl
    obtain⟨w1,w2,gC,kc1,kc2⟩:=hM.cell hlm hil hkC;rw [show L6 (FM M2 k i) i k=L6 M2 i k by unfold L6;rw [emi]]at gC kc1 kc2;have etr:zU M2 k i=OU (M2 i) (M2 k) (L6 M2 i k):=aN hik;obtain⟨u2,A',o',hr,g1,g2,g3,g4,g5,g6⟩:=Y1 h.SY (hM.row i hil) (hM.row k hkl) (fun e=>hik (hM.inj i k hil hkl e)) (hM.cel i hil) (hM.cel k hkl) (by rw [hlm k hkl,hlm i hil]) kc1 kc2 (hOm i hil).2 (hOm k hkl).2 (ang.el hil hkC) (by rw [hlm i hil];exact hC);rw [hlm i hil,emi,emk,<-etr]at hr;rw [emi,emk,<-etr]at g2;have kp:Kp u u2:=fun o l e=>g5 o (lH e) (fun e2=>by rw [e2,hM.row i hil]at e;cases e);have hM4:=hM.put hil g1 g5 (Ql g2).1;have hO4:=hO.put (k:=i) kp g2 g3 g4;have em:∀x,(if x=i then zU M2 k i else FM M2 k i x)=FM M2 k (i+1) x:=fun x=>by
     unfold FM;by_cases e:x=i
     ·rw [aQ e,aQ (by omega),e]
     by_cases e2:x<i
     ·rw [aN e,aQ e2,aQ (by omega)]
     rw [aN e,aN e2,aN (by omega)]
    generalize L6 M2 i k=y at *;have gi:=KT (c:=C) (rp:=rp2) hil;have O1:=ah hM.out (hM.row i hil);refine D6 @hci @hik' @O1 (ah gi (ah gk gC)) ?_;refine ana hr rfl g6 (aJ _) ?_;obtain⟨bb,hbb⟩:∃bb,(zU M2 k i).all R.ok=bb:=⟨_,rfl⟩;rw [hbb];have hb2:bb=false\/bb=true:=by cases bb<;>simp
    rcases hb2 with hb2|hb2
    ·rw [hb2]at hbb;obtain⟨e1,e2⟩:=UD hc (hstep.trans (hsf (aiv hil hbb))) hkl;rw [e1,e2];refine D6 @hb2 @hik' @kQ @lI ?_;refine⟨by unfold sF;rfl,?_⟩;exact(qF (sz:=1)).Ba
    rw [hb2]at hbb;refine D6 @hb2 @hik' @kQ @lI ?_;refine⟨by unfold sF;rfl,?_⟩;refine⟨(i+1,u2,fun x=>if x=i then A' else A3 x,fun x=>if x=i then o' else f x),by dsimp only;omega,⟨by dsimp only;omega,hM4.ext fun x _=>em x,hO4.ext fun x hx=>⟨?_,em x⟩,azS hbb⟩,by (refine kS ?_;exact uw)⟩;dsimp only at hx;omega
   have hie:i=m.length:=by omega
   subst hie;have ha:Qj m.length (zU M2 k)=true:=VK.2 hgi;have hnx:=hst ha;have em:∀x,x<m.length->FM M2 k m.length x=zU M2 k x:=fun x hx=>by unfold FM;rw [aQ hx]
   refine Ae @hci ?_;refine⟨(k+1,u,rp2,A3,zU M2 k,f),?c1,⟨?c2,?c4,?c5,?c6,?c7⟩,?c3⟩
   case c3=>dsimp only;(refine kS ?_;exact uw)
   case c1=>dsimp only;omega
   case c2=>dsimp only;omega
   case c4=>exact hM.ext em
   case c5=>exact hstep.trans hnx
   case c6=>exact aEQ _ hnx
   case c7=>exact fun _=>hO.ext fun x hx=>⟨.inl hx,em x hx⟩
  have hpe:p=m.length:=by omega
  have hnn:EO m.length M k=none:=aeK (by rw [<-hP,hpe,kT];exact jg _);obtain⟨e1,e2⟩:=UD hc ((acn hIt).trans hnn) hkl;rw [e1,e2];have aEV:((p:Int)=(m.length:Nat))=True:=iy (by omega);refine AZ @hcp @aEV ?_;exact(qF (sz:=1)).Ba
 have hke:k=m.length:=by omega
 subst hke;obtain⟨e1,e2⟩:=Qk hc hIt;rw [e1,e2];refine Ae @hck ?_;exact(ZG.fin hM (hOw h0) (by omega) fun i hi=>(hOk i hi).1).Ba
def Y3(s:Store)(q n c:Nat)(rp:Nat->Nat)(M:MF):Prop:=NC s q n c rp (fun x=>(M x).map R.cells) M
def aeO(M:MF)(i:Nat)(r:List R):MF:=fun x=>if x=i then r else M x
theorem Y3.put{s s2:Store}{q n c k:Nat}{rp:Nat->Nat}{M:MF}{r:List R}(h:Y3 s q n c rp M)(hk:k<n)(hr:jQ s2 (rp k)=some ⟨3,r.map R.cells⟩)(ho:∀o,o<s.length->o≠rp k->jQ s2 o=jQ s o):Y3 s2 q n c rp (aeO M k r):=by
 have:=NC.put h hk hr ho (aco r);have e:(fun i=>if i=k then r.map R.cells else(M i).map R.cells)=fun x=>(aeO M k r x).map R.cells:=by
  funext i;unfold aeO;split<;>rfl
 rw [e]at this;exact this
theorem Y3.swap{s:Store}{q n c k p:Nat}{rp:Nat->Nat}{M:MF}(h:Y3 s q n c rp M)(hk:k<n)(hp:p<n){rows:List (List V)}(hrows:rows=((CP n c rp).set k [.lQ (rp p) 0 c]).set p [.lQ (rp k) 0 c]){s2:Store}(hq:jQ s2 q=some ⟨1,rows⟩)(ho:∀o,o≠q->o<s.length->jQ s2 o=jQ s o) :
  Y3 s2 q n c (fun x=>if x=p then rp k else if x=k then rp p else rp x) (BL M k p):=by
 have:=NC.swap h hk hp hrows hq ho;have e:(fun x=>if x=p then(M k).map R.cells else if x=k then(M p).map R.cells else(M x).map R.cells)=fun x=>(BL M k p x).map R.cells:=by
  funext i;unfold BL;split
  ·rfl
  split<;>rfl
 rw [e]at this;exact this
theorem Y3.ext{s:Store}{q n c:Nat}{rp:Nat->Nat}{M M2:MF}(h:Y3 s q n c rp M)(e:∀i,i<n->M i=M2 i):Y3 s q n c rp M2 :=
 ⟨h.inj,h.out,fun i hi=>by rw [<-e i hi];exact h.row i hi,fun i hi=>by rw [<-e i hi];exact h.cel i hi⟩
theorem Y3.cell{s:Store}{q n c:Nat}{rp:Nat->Nat}{M:MF}(h:Y3 s q n c rp M)(hl:∀i,i<n->(M i).length=c){i j:Nat}(hi:i<n)(hj:j<c):((M i).map R.cells)[j]? = some (L6 M i j).cells:=by
 have hjl:j<(M i).length:=by rw [hl i hi];exact hj
 rw [mg? hjl];rfl
theorem arf(M:MF)(i:Nat)(r:List R):aeO M i r i=r:=aQ rfl
theorem arh{M:MF}{i x:Nat}{r:List R}(h:x≠i):aeO M i r x=M x:=aN h
theorem NC.am9{s:Store}{q n c:Nat}{rp:Nat->Nat}{A:Nat->List (List V)}{M:MF}(h:NC s q n c rp A M)(hl:∀i,i<n->(M i).length=c)(k:Nat):resolve s (k+5) (.lQ q 0 n)=some (sG ((List.range n).map M)):=by
 rw [resolve];simp only [h.out];rw [aQ (by rw [Nr];omega),dA,bG (by rw [Nr];omega)];have:((CP n c rp).mapM fun (r:List V)=>r.mapM (resolve s (k+4)))=some ((List.range n).map fun i=>[pK (M i)]):=by
  unfold CP;rw [List.mapM_map];refine mapM_some fun i hi=>?_;have hi:=fF.1 hi;have h1:=(h.cel i hi).am9 (h.row i hi) k;rw [hl i hi]at h1;simp only [Function.comp,bZ,List.mapM_nil];rw [h1];rfl
 rw [this,dh];unfold sG;rw [fQ];rfl
def sQ:Fn:=⟨2,73,[.tmp 4,.tmp 5],(sr [oN 4 mN,oN 5 mF] (sr [oW 15 0,oN 16 (ln 15),oW 6 16] (.seq (sr [oW 17 0,oW 18 6,oN 19 (cl 93 [17,18]),oN 20 (nt 19),oW 21 20,oG 21 false 22 (oV 1),oG 21 false 23 (ln 22),oG 21 false 24 (oV 6),oG 21 false 25 (bt .neq 23 24),oN 26 (.pick (.t 21) (.c (.bool true)) (.t 25))] (cd 26 (sr [oN 4 mN,oN 5 mF] .ret) .skip)) (.seq (rf 1 [oN 27 (.nO 1 [.kC] 0 []),oK 7 1 (oV 27)]) (.seq (sr [oW 28 0,oN 29 (ln 28),oN 30 (.qC (cI 0))] (.block 0 (.loop (sr [oN 31 (bt .lss 30 29)] (.seq (cd 31 .skip (.exit 0)) (.seq (.block 1 (sr [oW 32 30,oN 33 (ix 1 28 30),oN 34 (lF 1 33),oW 8 32,oW 9 34] (rt 6 [oK 35 6 (oV 7),oN 36 (.nO 3 uJ 0 []),oK 37 6 (oV 9),oA 38 1 (.app 3 56 (.t 36) (.t 37)) [1,2],oK 39 6 (oV 1),oK 40 6 (oV 8),oA 41 6 (ix 3 39 40) [4,5],oA 42 6 (lT 3 41) [6],oA 43 2 (.nO 3 uJ 1 [(0,(.t 42))]) [7],oA 44 3 (.app 3 56 (.t 38) (.t 43)) [3,8,3],oA 45 4 (.nO 1 [.kC] 1 [(0,(.t 44))]) [9],oA 46 5 (.app 1 24 (.t 35) (.t 45)) [0,10,9],oA 7 6 (oV 46) [11,11,0,1,2,3,4,5,6,7,8,9,10,11]]))) (rg [oN 47 (bc .add 30 1),oW 30 47]))))))) (sr [oW 49 7,oW 50 6,oN 51 (bc .add 50 1),oN 52 (cl 243 [49,51]),oW 48 52,oN 53 (ex 0 48),oN 54 (ex 1 48),oW 10 53,oW 11 54] (.seq (sr [oW 55 11,oN 56 (nt 55)] (cd 56 (sr [oN 4 mN,oN 5 mF] .ret) .skip)) (.seq (rf 1 [oN 57 (.nO 3 uJ 0 []),oK 12 1 (oV 57)]) (.seq (sr [oW 58 10,oN 59 (ln 58),oN 60 (.qC (cI 0))] (.block 2 (.loop (sr [oN 61 (bt .lss 60 59)] (.seq (cd 61 .skip (.exit 2)) (.seq (.block 3 (sr [oN 62 (ix 1 58 60),oN 63 (lF 1 62),oW 14 63] (rf 2 [oK 64 2 (oV 12),oK 65 2 (oV 14),oK 66 2 (oV 6),oK 67 2 (ix 3 65 66),oK 68 2 (lT 3 67),oN 69 (.nO 3 uJ 1 [(0,(.t 68))]),oK 70 1 (.app 3 56 (.t 64) (.t 69)),oK 12 2 (oV 70)]))) (rg [oN 71 (bc .add 60 1),oW 60 71]))))))) (sr [oW 72 12,oW 4 72,oN 5 mT] .ret))))))))))⟩
structure DJ (T:Tb):Prop where
 hT:T 231=some sQ
 IK:Dp T
 UE:EM T
theorem anh{m:List (List R)}{c:Int}(h:rrB m c=true):∃M,rrM m c=(List.range m.length).map M/\XB m.length c.toNat M/\rrC m c=true:=by
 cases hc:rrC m c
 ·rw [(aiu hc).2]at h;cases h
 obtain⟨h10,hcl,hm,hok⟩:=agV hc
 cases e:Pg m.length (yu m) m.length with
 |none=>rw [(UD hc e (aJ _)).2]at h;cases h
 |
  some M =>
  refine⟨M,(Qk hc e).1,?_,rfl⟩;have key:∀k,k<=m.length->∀M,Pg m.length (yu m) k=some M->XB m.length c.toNat M:=by
   intro k
   induction k with
   |zero=>intro _ M e;cases e;exact hok
   |
    succ k ih =>
    intro hk M e
    cases e2:Pg m.length (yu m) k with
    |none=>rw [VH e2 _ (Nat.le_succ k)]at e;cases e
    |some M0=>rw [acn e2]at e;exact(ih (by omega) _ e2).step (by omega) e
  exact key _ (aJ _) M e
def aeP(n:Nat)(M:MF):List (List R):=(List.range n).map M
theorem QJ(n:Nat)(M:MF):(aeP n M).length=n:=by simp [aeP]
theorem Y4{n i:Nat}{M:MF}(h:i<n):yu (aeP n M) i=M i:=by
 unfold yu aeP;rw [aj,bP,dM h];rfl
theorem avN{m:List (List R)}{c:Int}(hc:c<=20)(h:rrC m c=true):NS (NS R.sz) m<=1048576:=by
 obtain⟨h10,hcl,hm,hok⟩:=agV h;have:=(am3 (m:=m) (n:=20) (fun r hr=>by
  obtain⟨i,hi⟩:=bJ.1 hr;have hil:=(aP.1 hi).1;have:=hok i hil;rw [show yu m i=r by unfold yu;rw [aj,hi];rfl]at this;exact⟨this.2,by omega⟩) (aJ _) h10).1
 omega
def ssW(m:List (List R))(b:List R):MF:=fun i=>m.getD i default++[b.getD i default]
def ssC(m:List (List R))(b:List R):Bool:=CJ m m.length&&decide (b.length=m.length)
def ZH(m:List (List R))(b:List R):List (List R):=aeP m.length (ssW m b)
def Z7(m:List (List R))(b:List R):Bool:=ssC m b&&rrB (ZH m b) ((m.length:Nat)+1)
def Xb(m:List (List R))(b:List R):List R:=if Z7 m b=true then(rrM (ZH m b) ((m.length:Nat)+1)).map fun r=>r.getD m.length default else []
theorem azT{m:List (List R)}{b:List R}(h:ssC m b=false):Xb m b=[]/\Z7 m b=false:=by
 have:Z7 m b=false:=by unfold Z7;rw [h];rfl
 unfold Xb;rw [this];exact⟨rfl,rfl⟩
theorem azU{m:List (List R)}{b:List R}(h:rrB (ZH m b) ((m.length:Nat)+1)=false):Xb m b=[]/\Z7 m b=false:=by
 have:Z7 m b=false:=by unfold Z7;rw [h,jI]
 unfold Xb;rw [this];exact⟨rfl,rfl⟩
theorem aiB{m:List (List R)}{b:List R}(h:ssC m b=true)(h2:rrB (ZH m b) ((m.length:Nat)+1)=true):Xb m b=((rrM (ZH m b) ((m.length:Nat)+1)).map fun r=>r.getD m.length default)/\Z7 m b=true:=by
 have:Z7 m b=true:=by unfold Z7;rw [h,h2];rfl
 unfold Xb;rw [this];exact⟨aQ rfl,rfl⟩
theorem avO{m:List (List R)}{b:List R}(h:ssC m b=true):m.length<=10/\b.length=m.length/\CJ m m.length=true/\∀i,i<m.length->(m.getD i default).length=m.length:=by
 unfold ssC at h;simp only [aH,aZ]at h;obtain⟨h1,h2⟩:=aa4 h.1;exact⟨h2,h.2,h.1,fun i hi=>by have:=(h1 i hi).1;omega⟩
theorem avP{m:List (List R)}{b:List R}(hm:DR (DR R.wf) m)(hb:DR R.wf b)(hl:∀i,i<m.length->(m.getD i default).length=m.length)(hbl:b.length=m.length)(h10:m.length<=10):DR (DR R.wf) (ZH m b):=by
 refine⟨by rw [show (ZH m b).length=m.length from QJ _ _];omega,fun r hr=>?_⟩;obtain⟨i,hi,rfl⟩:=bF.1 hr;have hi:=fF.1 hi;have hrow:=hm.2 _ (getD_mem hi);refine⟨by unfold ssW;rw [aS,hl i hi];simp;omega,fun x hx=>?_⟩;rcases aK.1 hx with hx|hx
 ·exact hrow.2 x hx
 rw [aW.1 hx];exact hb.2 _ (getD_mem (by omega))
theorem aeQ{σ:Store}:∀(n:Nat) {A T:List (List V)} {os:List Nat},tX σ A T os->∃os',tX σ (A.drop n) (T.drop n) os'/\os'.Sublist os
 |0,A,T,os,h=>⟨os,h,List.Sublist.refl _⟩
 |
  n+1,A,[],os,h=>by
  simp only [tX]at h;obtain⟨rfl,rfl⟩:=h;exact⟨[],by simp [tX],List.Sublist.refl _⟩
 |
  n+1,A,t::T,os,h=>by
  simp only [tX]at h;obtain⟨v,vs',o1,o2,rfl,rfl,h1,h2⟩:=h;obtain⟨os',k1,k2⟩:=aeQ n h2;exact⟨os',k1,k2.trans (List.sublist_append_right _ _)⟩
theorem ani{σ:Store}:∀{i:Nat} {A T:List (List V)} {os:List Nat},tX σ A T os->i<T.length->∃os',nC σ (A.getD i []) (T.getD i []) os'/\os'.Sublist os
 |i,A,[],os,h,hi=>absurd hi (dB _)
 |
  0,A,t::T,os,h,hi=>by
  simp only [tX]at h;obtain⟨v,vs',o1,o2,rfl,rfl,h1,h2⟩:=h;exact⟨o1,h1,List.sublist_append_left _ _⟩
 |
  i+1,A,t::T,os,h,hi=>by
  simp only [tX]at h;obtain⟨v,vs',o1,o2,rfl,rfl,h1,h2⟩:=h;obtain⟨os',k1,k2⟩:=ani h2 (by simpa using hi);exact⟨os',k1,k2.trans (List.sublist_append_right _ _)⟩
theorem ZG.col{s:Store}{A:Nat->List (List V)}{M:MF}{f:Nat->List Nat}{n c j:Nat}(ho:ZG s A M f fun i=>i<n)(hl:∀i,i<n->(M i).length=c)(hj:j<c) :
  ∀m,m<=n->∃os,tX s ((List.range m).map fun i=>(A i).getD j []) (((List.range m).map fun i=>(M i).getD j default).map R.cells) os/\os.Nodup/\∀o∈os,∃i,i<m/\o∈f i
 |0,_=>⟨[],by simp [tX],.nil,by simp⟩
 |
  m+1,hm=>by
  obtain⟨os,k1,k2,k3⟩:=ZG.col ho hl hj m (by omega);have hm':m<n:=by omega
  obtain⟨o2,h1,h2⟩:=ani (ho.ow m hm') (i:=j) (by rw [aV,hl m hm'];exact hj);rw [mg (by rw [hl m hm'];exact hj)]at h1;refine⟨os++o2,?_,?_,fun o h=>?_⟩
  ·rw [iV,bU,bU,bU];exact Dx k1 (aaO h1)
  ·rw [bf];refine⟨k2,(ho.nd m hm').sublist h2,fun x hx y hy e=>?_⟩;subst e;obtain⟨i,hi,hi2⟩:=k3 x hx;exact ho.ap i m (by omega) hm' (by omega) x hi2 (h2.subset hy)
  rcases aK.1 h with h|h
  ·obtain⟨i,hi,k⟩:=k3 o h;exact⟨i,by omega,k⟩
  exact⟨m,by omega,h2.subset h⟩
theorem ZG.drop{s:Store}{A:Nat->List (List V)}{M:MF}{f:Nat->List Nat}{n:Nat}(ho:ZG s A M f fun i=>i<n)(d:Nat):∃f',ZG s (fun i=>(A i).drop d) (fun i=>(M i).drop d) f' (fun i=>i<n)/\∀i,i<n->∀o∈f' i,o∈f i:=by
 have h:∀i,∃os',i<n->tX s ((A i).drop d) (((M i).drop d).map R.cells) os'/\os'.Sublist (f i):=fun i=>by
  by_cases hi:i<n
  ·obtain⟨os',k1,k2⟩:=aeQ d (ho.ow i hi);rw [<-kP]at k1;exact⟨os',fun _=>⟨k1,k2⟩⟩
  exact⟨[],fun h=>absurd h hi⟩
 refine⟨fun i=>Classical.choose (h i),⟨fun i hi=>?_,fun i hi=>?_,fun i j hi hj hne o h1 h2=>?_⟩,fun i hi o h1=>?_⟩
 ·exact(Classical.choose_spec (h i) hi).1
 ·exact(ho.nd i hi).sublist (Classical.choose_spec (h i) hi).2
 ·exact ho.ap i j hi hj hne o ((Classical.choose_spec (h i) hi).2.subset h1) ((Classical.choose_spec (h j) hj).2.subset h2)
 exact(Classical.choose_spec (h i) hi).2.subset h1
theorem aiC{σ:Store}{c:Nat}(hc:0<c):∀{RR:List (List R)} {rows:List (List V)} {os:List Nat},tX σ rows (RR.map fun r=>[pK r]) os->os.Nodup->(∀r∈RR,r.length=c) ->
  ∃
   (rp:Nat->Nat) (A:Nat->List (List V)) (f:Nat->List Nat),rows=CP RR.length c rp/\(∀i,i<RR.length->jQ σ (rp i)=some ⟨3,A i⟩/\tX σ (A i) ((yu RR i).map R.cells) (f i)/\(f i).Nodup/\rp i∈os/\∀o∈f i,o∈os) /\
   (∀i j,i<RR.length->j<RR.length->rp i=rp j->i=j)/\∀i j,i<RR.length->j<RR.length->i≠j->∀o∈f i,o∉f j
 |
  [],rows,os,h,_,_=>by
  simp only [iQ,tX]at h;obtain⟨rfl,rfl⟩:=h;exact⟨fun _=>0,fun _=>[],fun _=>[],rfl,fun i hi=>absurd hi (dB _),fun i j hi=>absurd hi (dB _),fun i j hi=>absurd hi (dB _)⟩
 |
  r::RR,rows,os,h,hn,hl=>by
  simp only [bT,tX]at h;obtain⟨v,vs',o1,o2,rfl,rfl,h1,h2⟩:=h;rw [bf]at hn;obtain⟨n1,n2,n3⟩:=hn;obtain⟨w,vs,o3,o4,rfl,rfl,h3,h4⟩:=h1.inv;obtain⟨rfl,rfl⟩:=h4.Ec;have hr:=hl r (by simp);unfold pK at h3;rcases h3.Yw with ⟨e,_,_⟩|⟨p,A0,f0,rfl,hp,hA,rfl,hR⟩
  ·have:=congrArg List.length e;simp at this;rw [this]at hr;simp at hr;omega
  rw [aU]at n1 n3;rw [eU]at n1;obtain⟨rp,A,f,e,k1,k2,k3⟩:=aiC hc h2 n2 fun r hr=>hl r (by simp [hr]);refine⟨fun i=>match i with|0=>p|i+1=>rp i,fun i=>match i with|0=>A0|i+1=>A i,fun i=>match i with|0=>f0|i+1=>f i,?_,fun i hi=>?_,fun i j hi hj e=>?_,fun i j hi hj hne o h1 h2=>?_⟩
  ·rw [e,au,aV,hr];unfold CP;rw [List.range_succ_eq_map,bT,fQ];rfl
  ·cases i with
   |zero=>exact⟨hp,hR,n1.2,by simp,fun o h=>by simp [h]⟩
   |
    succ i =>
    obtain⟨a,b,c,d,e⟩:=k1 i (by simpa using hi);exact⟨a,b,c,by simp [d],fun o h=>by simp [e o h]⟩
  ·cases i with
   |
    zero =>
    cases j with
    |zero=>rfl
    |
     succ j =>
     have:=(k1 j (by simpa using hj)).2.2.2.1;exact absurd e fun e=>n3 p (by simp) _ this e
   |
    succ i =>
    cases j with
    |
     zero =>
     have:=(k1 i (by simpa using hi)).2.2.2.1;exact absurd e fun e=>n3 p (by simp) _ this e.symm
    |succ j=>rw [k2 i j (by simpa using hi) (by simpa using hj) e]
  cases i with
  |
   zero =>
   cases j with
   |zero=>exact hne rfl
   |succ j=>exact n3 o (by simp [show o∈f0 from h1]) o ((k1 j (by simpa using hj)).2.2.2.2 o h2) rfl
  |
   succ i =>
   cases j with
   |zero=>exact n3 o (by simp [show o∈f0 from h2]) o ((k1 i (by simpa using hi)).2.2.2.2 o h1) rfl
   |succ j=>exact k3 i j (by simpa using hi) (by simpa using hj) (by omega) o h1 h2
theorem ark{σ:Store}{c:Nat}(hc:0<c){RR:List (List R)}{v:V}{os:List Nat}(h:mP σ v (sG RR) os)(hn:os.Nodup)(hl:∀r∈RR,r.length=c)(hne:0<RR.length) :
  ∃(q:Nat) (rp:Nat->Nat) (A:Nat->List (List V)) (f:Nat->List Nat),v=.lQ q 0 RR.length/\NC σ q RR.length c rp A (yu RR)/\ZG σ A (yu RR) f (fun i=>i<RR.length)/\∀i,i<RR.length->∀o∈f i,o∈os:=by
 unfold sG at h;rcases h.Yw with ⟨e,_,_⟩|⟨q,rows,os',rfl,hq,_,rfl,hR⟩
 ·rw [iJ]at e;subst e;exact absurd hne (jg _)
 rw [eU]at hn;obtain⟨rp,A,f,e,k1,k2,k3⟩:=aiC hc hR hn.2 hl;refine⟨q,rp,A,f,by rw [aV],⟨k2,by rw [hq,e],fun i hi=>(k1 i hi).1,fun i hi=>(Ql (k1 i hi).2.1).1⟩,⟨fun i hi=>(k1 i hi).2.1,fun i hi=>(k1 i hi).2.2.1,k3⟩,fun i hi o ho=>by simp [(k1 i hi).2.2.2.2 o ho]⟩
theorem avQ{T:Tb}{f:Nat}{as as':List V}{t:V}(h:PO T f as t)(ha:wJ as as'):PO T f as' t:=by
 obtain⟨r,σ',os,h1,h2,h3,h4⟩:=h;exact⟨r,σ',os,.abt ha h1 (kR _),h2,h3,h4⟩
def inC(n:Int):Bool:=decide (-1000000<=n)&&decide (n<=1000000)
theorem aiD{n:Int}(h:inC n=true) : -1000000<=n/\n<=1000000:=by simpa [inC]using h
def wtC(w:Int):Bool:=decide (1<=w)&&decide (w<=9999)
theorem arn{n:Int}(h:wtC n=true):1<=n/\n<=9999:=by simpa [wtC]using h
def aku(a b w x y:Int):Bool:=nd a&&nd b && !decide (a=b)&&wtC w&&inC x&&inC y
def nlV(a b w x y:Int):Lk:=if aku a b w x y=true then(if b<a then⟨b,a,lC w,lC (-x),lC (-y)⟩else⟨a,b,lC w,lC x,lC y⟩)else Lk0
theorem Td{T:Tb}(h:EJ T){a b w x y:Int}:PF T 14 [iv a,iv b,iv w,iv x,iv y] (.oU [Wu (nlV a b w x y),.bool (aku a b w x y)]):=by
 have ca:=QE h.Aq (a:=a);have cb:=QE h.Aq (a:=b);have cw:PF T 35 [iv w,iv 1,iv 9999] (.bool (wtC w)):=Uk h.yJ;have cx:PF T 35 [iv x,iv (-1000000),iv 1000000] (.bool (inC x)):=Uk h.yJ;have cy:PF T 35 [iv y,iv (-1000000),iv 1000000] (.bool (inC y)):=Uk h.yJ;unfold nlV aku
 cases h1:nd a
 ·rw [h1]at ca;refine kX nR h.hT ?_;simp only [qh,Lz];refine ev ?_;refine jK ca ?_;refine ev ?_;exact Np LZ
 rw [h1]at ca
 cases h2:nd b
 ·rw [h2]at cb;refine kX nR h.hT ?_;simp only [qh,Lz];refine ev ?_;refine jK ca ?_;refine ev ?_;refine jK cb ?_;refine ev ?_;exact Np LZ
 rw [h2]at cb;by_cases h3:a=b
 ·have h3':(a=b)=True:=iy h3;simp only [h3',decide_true];refine kX nR h.hT ?_;simp only [qh,Lz];refine ev ?_;refine jK ca ?_;refine ev ?_;refine jK cb ?_;refine ev1 @h3' ?_;exact Np LZ
 cases h4:wtC w
 ·rw [h4]at cw;refine kX nR h.hT ?_;simp only [qh,Lz];refine ev ?_;refine jK ca ?_;refine ev ?_;refine jK cb ?_;refine ev1 @h3 ?_;refine jK cw ?_;refine ev ?_;exact Np LZ
 rw [h4]at cw;have hw:=arn h4
 cases h5:inC x
 ·rw [h5]at cx;refine kX nR h.hT ?_;simp only [qh,Lz];refine ev ?_;refine jK ca ?_;refine ev ?_;refine jK cb ?_;refine ev1 @h3 ?_;refine jK cw ?_;refine ev ?_;refine jK cx ?_;refine ev ?_;exact Np LZ
 rw [h5]at cx;have hx:=aiD h5
 cases h6:inC y
 ·rw [h6]at cy;refine kX nR h.hT ?_;simp only [qh,Lz];refine ev ?_;refine jK ca ?_;refine ev ?_;refine jK cb ?_;refine ev1 @h3 ?_;refine jK cw ?_;refine ev ?_;refine jK cx ?_;refine ev ?_;refine jK cy ?_;refine ev ?_;exact Np LZ
 rw [h6]at cy;have hy:=aiD h6;have hk:(true&&true && !decide (a=b)&&true&&true&&true)=true:=by rw [bH h3];rfl
 rw [hk];by_cases h7:b<a
 ·simp only [if_true,aQ h7];refine kX nR h.hT ?_;simp only [qh,Lz];refine ev ?_;refine jK ca ?_;refine ev ?_;refine jK cb ?_;refine ev1 @h3 ?_;refine jK cw ?_;refine ev ?_;refine jK cx ?_;refine ev ?_;refine jK cy ?_;refine ev1 @h7 ?_;refine jK (rG h.nI (n:=w) (by omega)) ?_;refine ev ?_;refine jK (rG h.nI (n:=0-x) (by omega)) ?_;refine ev ?_;refine jK (rG h.nI (n:=0-y) (by omega)) ?_;refine ev ?_;rw [Int.zero_sub,Int.zero_sub];exact kR _
 simp only [if_true,aN h7];refine kX nR h.hT ?_;simp only [qh,Lz];refine ev ?_;refine jK ca ?_;refine ev ?_;refine jK cb ?_;refine ev1 @h3 ?_;refine jK cw ?_;refine ev ?_;refine jK cx ?_;refine ev ?_;refine jK cy ?_;refine ev1 @h7 ?_;refine jK (rG h.nI (n:=w) (by omega)) ?_;refine ev ?_;refine jK (rG h.nI (n:=x) (by omega)) ?_;refine ev ?_;refine jK (rG h.nI (n:=y) (by omega)) ?_;refine ev ?_;exact kR _
end Go.Ml
end
