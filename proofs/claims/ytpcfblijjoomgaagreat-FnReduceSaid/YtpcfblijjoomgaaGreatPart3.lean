/- Contracts of functions. -/
import Derived.Test.YtpcfblijjoomgaaGreatPart2
set_option linter.unusedSimpArgs false
set_option linter.unusedVariables false
set_option maxRecDepth 100000
set_option maxHeartbeats 16000000
section
namespace Go.Ml
def mG:Fn:=⟨1,86,[.tmp 2],(.seq (rf 1 [oN 1 (.box (.t 0)),oK 2 1 mF]) (.seq (sr [oN 6 (fd 0 1),oN 7 (lF 1 6),oN 8 (bc .lss 7 1),oW 9 8,oG 9 false 10 (fd 0 1),oG 9 false 11 (lF 1 10),oG 9 false 12 (bc .geq 11 10),oN 13 (.pick (.t 9) (.c (.bool true)) (.t 12)),oW 14 13,oG 14 false 15 (fd 1 1),oG 14 false 16 (lT 3 15),oG 14 false 17 (cl 101 [16]),oG 14 false 18 (bc .leq 17 0),oN 19 (.pick (.t 14) (.c (.bool true)) (.t 18)),oW 20 19,oG 20 false 21 (fd 4 1),oG 20 false 22 (lF 1 21),oG 20 false 23 (ln 22),oG 20 false 24 (bc .eql 23 0),oN 25 (.pick (.t 20) (.c (.bool true)) (.t 24))] (cd 25 (sr [oN 2 mF] .ret) .skip)) (.seq (rf 1 [oK 26 1 (.call 39 [(cI 0)]),oN 3 (.alloc uz),⟨none,none,1,.store 3 (.t 3) (.t 26),[]⟩]) (.seq (sr [oN 27 (fd 4 1),oN 28 (lF 1 27),oN 29 (ln 28),oN 30 (.qw (cI 0))] (.block 0 (.loop (sr [oN 31 (bt .lss 30 29)] (.seq (cd 31 .skip (.exit 0)) (.seq (.block 1 (.seq (rf 1 [oK 32 1 (oV 30),oK 33 1 (ix 10 28 30),oK 34 1 (lT 10 33),oN 5 (.alloc zz5),oK 4 1 (oV 32),⟨none,none,1,.store 10 (.t 5) (.t 34),[]⟩]) (.seq (.seq (rt 0 [oN 35 (fd 0 5),oA 36 0 (lF 1 35) [0],oA 37 0 (cl 37 [36]) [1],oA 38 0 (nt 37) [2],oA 39 0 (oV 38) [3,2],oH 39 false 40 0 (fd 0 5) [4],oH 39 false 41 0 (lF 1 40) [5,4],oH 39 false 42 0 (fd 0 1) [4],oH 39 false 43 0 (lF 1 42) [7,4],oH 39 false 44 0 (bt .eql 41 43) [6,8,4],oA 45 0 (.pick (.t 39) (.c (.bool true)) (.t 44)) [4,9],oA 46 0 (oV 45) [10,4],oH 46 false 47 0 (oV 4) [11],oH 46 false 48 0 (bc .gtr 47 0) [12,11],oH 46 false 49 0 (oV 48) [13,11,11],oH 49 true 50 0 (fd 4 1) [14],oH 49 true 51 0 (lF 1 50) [15,14],oH 49 true 52 0 (oV 4) [14],oH 49 true 53 0 (bc .sub 52 1) [17,14],oH 49 true 54 0 (ix 10 51 53) [16,18,14],oH 49 true 55 0 (fd 0 54) [19,14],oH 49 true 56 0 (lF 1 55) [20,14],oH 49 true 57 0 (fd 0 5) [14],oH 49 true 58 0 (lF 1 57) [22,14],oH 49 true 59 0 (bt .geq 56 58) [21,23,14],oH 46 false 60 0 (.pick (.t 49) (.t 59) (.c (.bool false))) [14,24,11],oA 61 0 (.pick (.t 46) (.c (.bool true)) (.t 60)) [11,25]]) (cd 61 (sr [oN 2 mF] .ret) .skip)) (.seq (sr [oN 62 (fd 1 5),oN 63 (lT 3 62),oN 64 (cl 101 [63]),oN 65 (bc .leq 64 0),oW 66 65,oG 66 false 67 (fd 4 5),oG 66 false 68 (lT 3 67),oG 66 false 69 (cl 102 [68]),oG 66 false 70 (nt 69),oN 71 (.pick (.t 66) (.c (.bool true)) (.t 70)),oW 72 71,oG 72 false 73 (fd 7 5),oG 72 false 74 (lT 3 73),oG 72 false 75 (cl 102 [74]),oG 72 false 76 (nt 75),oN 77 (.pick (.t 72) (.c (.bool true)) (.t 76))] (cd 77 (sr [oN 2 mF] .ret) .skip)) (rg [oN 78 (lT 3 3),oN 79 (fd 1 5),oN 80 (lT 3 79),oN 81 (cl 131 [78,80]),oS (.store 3 (.t 3) (.t 81))]))))) (rg [oN 82 (bc .add 30 1),oW 30 82]))))))) (.seq (rt 0 [oN 83 (lT 3 3),oN 84 (.call 39 [(cI 1)]),oA 85 0 (cl 32 [83,84]) [0,1,1],oA 2 0 (oV 85) [2,2,0,1,2]]) .ret)))))⟩
structure vJ (T:Tb):Prop where
 hT:T 185=some mG
 BP:BO T
 G7:G6 T
 lC:nX T
 DU:DN T
 uI:Ap T
 lN:oO T
theorem axO(a:Int):nd a=inB a 0 9:=rfl
theorem atV{a b:St}(h:Fg a b:=by
 (refine Sm [(0,_),(1,_)] (by simp) (by intro p hp;simp only [aI,dD,or_false]at hp;rcases hp with rfl|rfl<;>refine⟨rfl,?_⟩<;>first|exact wX _|simp [nN,V.still]) rfl ?_)<;>(try (refine ev ?_;try with_reducible exact aC))<;>(repeat' (first|exact aC|omega|exact Ba rfl (by simp)|refine⟨?_,?_⟩|exact iV (Dn _ _ _)|exact qR rfl (by simp;done)|exact qR rfl rfl|(refine rJ rfl ?_ rfl;simp [kR];done)|(refine rJ rfl ?_ rfl;simp [kR];omega)|(refine Ho ?_ ?_;(focus ((refine ev ?_;try with_reducible exact aC);done));(intro q hq k s0 l0;simp;done))))):Fg a b:=h
theorem EP{T:Tb}(h:vJ T){c:Cd}(hw:c.wf:=by exact tX):PF T 185 [Y6 c] (.bool (zB c)):=by
 obtain⟨w1,w2⟩:=hw;have hlen:=w2.1;have cs:=Q5 h.DU (r:=c.total) w1;have c0:=KO h.lC (n:=0) (by omega);have c1:=KO h.lC (n:=1) (by omega);have ceq:=Jj h.BP (y:=Nl c.ps c.ps.length) (z:=kZ 1) (uq (SY _ _)) (uq (zl (by decide)));by_cases k1:c.node<1
 ·have:zB c=false:=by unfold zB inB;rw [bI (show ¬1<=c.node by omega)];simp
  rw [this];refine lQ nR h.hT ?_;simp only [mG,Lz];refine ev ?_
  (refine ev1 @k1 ?_;try with_reducible exact aC)
 by_cases k2:10<=c.node
 ·have:zB c=false:=by unfold zB inB;rw [bI (show ¬c.node<=9 by omega)];simp
  rw [this];refine lQ nR h.hT ?_;simp only [mG,Lz];refine ev ?_
  (refine zf @k1 @k2 ?_;try with_reducible exact aC)
 have e1:inB c.node 1 9=true:=by unfold inB;rw [aT (show 1<=c.node by omega),aT (show c.node<=9 by omega)];rfl
 by_cases k3:xO c.total.q<=0
 ·have:zB c=false:=by unfold zB wQ;rw [bI (show ¬0<xO c.total.q by omega)];simp
  rw [this];refine lQ nR h.hT ?_;simp only [mG,Lz];refine ev ?_;refine zf @k1 @k2 ?_;refine jM cs ?_
  (refine ev1 @k3 ?_;try with_reducible exact aC)
 have e2:decide (0<wQ c.total)=true:=aT (by unfold wQ;omega);by_cases k4:((c.ps.length:Nat):Int)=0
 ·have e:c.ps=[]:=aY (by omega);have:zB c=false:=by unfold zB;rw [e];simp
  rw [this];refine lQ nR h.hT ?_;simp only [mG,Lz];refine ev ?_;refine zf @k1 @k2 ?_;refine jM cs ?_
  (refine zf @k3 @k4 ?_;try with_reducible exact aC)
 have e3:c.ps.isEmpty=false:=by cases hp:c.ps with
  |nil=>rw [hp]at k4;simp at k4
  |cons x l=>rfl
 refine lQ nR h.hT ?_;simp only [mG,Lz];refine ev ?_;refine zf @k1 @k2 ?_;refine jM cs ?_;refine zf @k3 @k4 ?_;refine jM c0 ?_;refine ev ?_;refine kV (fun _ _=>false) (α:=Nat) (fun i=>⟨mM [.any,.ptr 0 0 0,.bool false,.ptr 1 0 0,.any,.any,.any,.any,.any,.any,.any,.any,.any,.any,.any,.any,.any,.any,.any,.any,.any,.any,.any,.any,.any,.any,.any,.any,QT c.ps,iv (c.ps.length:Nat),iv (i:Nat)],[some ⟨5,[c.cells]⟩,some ⟨3,[(Nl c.ps i).cells]⟩],0,0,[],[]⟩) (fun i=>i<=c.ps.length/\∀j,j<i->O6 c j=true) (fun i=>c.ps.length-i) rfl 0 ?_ ?_ ?_
 ·exact⟨by omega,by intro j hj;omega⟩
 ·(refine kN ?_)<;>(try (refine ev1 @abh ?_;try with_reducible exact aC))<;>(repeat' (first|refine⟨?_,?_⟩|exact MO (by omega)|exact OT (by simp)|exact JM _))
 rintro i ⟨hi,hj⟩;refine ev ?_;refine kY (fun hc=>?_) fun hc=>?_<;>(refine zf @hc @mg ?_;try with_reducible exact aC)
 ·have hil:i<c.ps.length:=by omega
  have hwp:=w2.at_ hil;have es:=(abj c.ps hil).symm;obtain⟨p,hp⟩:∃p,c.ps.getD i default=p:=⟨_,rfl⟩;obtain⟨q,hq⟩:∃q,c.ps.getD (i-1) default=q:=⟨_,rfl⟩;rw [hp]at hwp es ⊢;have cn:=X3 h.G7 (a:=p.node);rw [axO]at cn;have csh:=Q5 h.DU (r:=p.share) hwp.1;have cdx:=PW h.uI (r:=p.dx) hwp.2.1;have cdy:=PW h.uI (r:=p.dy) hwp.2.2;refine jM cn ?_
  cases b1:inB p.node 0 9
  ·refine ev ?_;rw [show zB c=false from Np hil (by unfold O6;rw [hp,b1];simp)]
  refine ev ?_;by_cases b2:p.node=c.node
  ·refine ev1 @b2 ?_;rw [show zB c=false from Np hil (by unfold O6;rw [hp,aT b2];simp)]
  have q2:decide (p.node=c.node)=false:=bI b2;by_cases h0:i=0
  ·have h0':¬(0:Int)<(i:Nat):=by omega
   have q3:(decide (i=0)||decide ((c.ps.getD (i-1) default).node<p.node))=true:=by rw [aT h0];rfl
   refine zf @b2 @h0' ?_;refine jM csh ?_;by_cases b4:xO p.share.q<=0
   ·refine ev1 @b4 ?_;rw [show zB c=false from Np hil (by unfold O6;rw [hp,bI (show ¬0<wQ p.share by unfold wQ;omega)];simp)]
   have q4:decide (0<wQ p.share)=true:=aT (by unfold wQ;omega);have alD:=FH h.lN (r:=Nl c.ps i) (s:=p.share) (SY _ _) (EO (WA (of_decide_eq_true q4)));rw [es]at alD;refine ev1 @b4 ?_;refine jM cdx ?_
   cases b5:p.dx.ok
   ·refine ev1 @b4 ?_;rw [show zB c=false from Np hil (by unfold O6;rw [hp,b5];simp)]
   refine ev1 @b4 ?_;refine jM cdy ?_
   cases b6:p.dy.ok
   ·refine ev1 @b4 ?_;rw [show zB c=false from Np hil (by unfold O6;rw [hp,b6];simp)]
   refine ev1 @b4 ?_;refine jM alD ?_;refine ev ?_;refine⟨i+1,by omega,⟨by omega,fun j hj'=>?_⟩,by exact atV⟩;by_cases e:j=i
   ·subst e;unfold O6;rw [hp,b1,b5,b6,q4,q2,q3];rfl
   exact hj j (by omega)
  have h0':(0:Int)<(i:Nat):=by omega
  have e1:((i:Int)-1).toNat=i-1:=by omega
  by_cases b3:p.node<=q.node
  ·refine ev6 @b2 @h0' @mg @e1 @hq @b3 ?_;rw [show zB c=false from Np hil (by unfold O6;rw [hp,hq,bI h0,bI (show ¬q.node<p.node by omega)];simp)]
  have q3:(decide (i=0)||decide ((c.ps.getD (i-1) default).node<p.node))=true:=by rw [hq,bI h0,aT (show q.node<p.node by omega)];rfl
  refine ev6 @b2 @h0' @mg @e1 @hq @b3 ?_;refine jM csh ?_;by_cases b4:xO p.share.q<=0
  ·refine ev1 @b4 ?_;rw [show zB c=false from Np hil (by unfold O6;rw [hp,bI (show ¬0<wQ p.share by unfold wQ;omega)];simp)]
  have q4:decide (0<wQ p.share)=true:=aT (by unfold wQ;omega);have alD:=FH h.lN (r:=Nl c.ps i) (s:=p.share) (SY _ _) (EO (WA (of_decide_eq_true q4)));rw [es]at alD;refine ev1 @b4 ?_;refine jM cdx ?_
  cases b5:p.dx.ok
  ·refine ev1 @b4 ?_;rw [show zB c=false from Np hil (by unfold O6;rw [hp,b5];simp)]
  refine ev1 @b4 ?_;refine jM cdy ?_
  cases b6:p.dy.ok
  ·refine ev1 @b4 ?_;rw [show zB c=false from Np hil (by unfold O6;rw [hp,b6];simp)]
  refine ev1 @b4 ?_;refine jM alD ?_;refine ev ?_;refine⟨i+1,by omega,⟨by omega,fun j hj'=>?_⟩,by exact atV⟩;by_cases e:j=i
  ·subst e;unfold O6;rw [hp,b1,b5,b6,q4,q2,q3];rfl
  exact hj j (by omega)
 have ei:i=c.ps.length:=by omega
 subst ei;rw [alC fun j hj'=>hj j hj',e1,e2,e3];refine ev ?_;refine jM c1 ?_;refine ev ?_;refine jM ceq ?_
 (refine ev ?_;try with_reducible exact aC)
def ahb(l:List Cd)(i:Nat):Prop :=
 zB (l.getD i default)=true/\(∀k,k<(l.getD i default).ps.length->((l.getD i default).ps.getD k default).node=0\/∃j,i<j/\j<l.length/\(l.getD j default).node=((l.getD i default).ps.getD k default).node) /\
  ∀j,i<j->j<l.length->(l.getD j default).node≠(l.getD i default).node
theorem ai5{l:List Cd}{i:Nat}{c:Cd}(h:l.getD i default=c):ahb l i↔(zB c=true /\
  (∀k,k<c.ps.length->(c.ps.getD k default).node=0\/∃j,i<j/\j<l.length/\(l.getD j default).node=(c.ps.getD k default).node) /\
  ∀j,i<j->j<l.length->(l.getD j default).node≠c.node):=by subst h;rfl
noncomputable instance (l:List Cd):Decidable (∀i,i<l.length->ahb l i):=Classical.propDecidable _
noncomputable def ahc(l:List Cd):Bool:=decide (∀i,i<l.length->ahb l i)
theorem apF{l:List Cd}(h:∀i,i<l.length->ahb l i):ahc l=true:=aT h
theorem qF{l:Lk}(h:pJ l=true):0<=l.a/\l.a<l.b/\l.b<=9:=by
 unfold pJ nd at h;simp only [aH,bf]at h;omega
theorem yD{l:List Lk}(h:lI l=true){k:Nat}(hk:k<l.length):pJ (l.getD k default)=true:=by
 have:=O5.1 h k hk;unfold JY at this;simp only [aH]at this;exact this.1
theorem O7{l:List Lk}{v:Int}:ends l v=true↔∃k,k<l.length/\((l.getD k default).a=v\/(l.getD k default).b=v):=by
 constructor
 ·intro h;refine ig fun k=>?_;rw [afz fun j hj=>⟨fun e=>k ⟨j,hj,.inl e⟩,fun e=>k ⟨j,hj,.inr e⟩⟩]at h
  cases h
 rintro⟨k,hk,h⟩;exact X8 hk h
theorem Jq(l:List Lk)(v:Nat)(a:Int):a∈CW l v↔1<=a/\a<v/\ends l a=true:=by
 unfold CW;rw [bC];constructor
 ·rintro⟨u,hu,rfl⟩;rw [eU,eG,aH,bf]at hu;exact⟨by omega,by omega,hu.2.2⟩
 rintro⟨h1,h2,h3⟩;refine⟨a.toNat,?_,by omega⟩;rw [eU,eG,aH,bf,show ((a.toNat:Nat):Int)=a by omega];exact⟨by omega,by omega,h3⟩
theorem afA(l:List Lk)(v:Nat):Asc (CW l v):=by
 unfold CW Asc;rw [iJ];refine List.Pairwise.imp ?_ (List.Pairwise.filter _ List.pairwise_lt_range);intro a b h;omega
def kC(l:List Lk):List Int:=if lI l=true then CW l 10 else []
theorem Hy{l:List Lk}(h:lI l=true):kC l=CW l 10:=aQ h
theorem adn{l:List Lk}(h:lI l=false):kC l=[]:=aO (by rw [h];simp)
theorem zU(l:List Lk):(kC l).length<=10:=by
 unfold kC;split
 ·exact X7 l 10
 simp
theorem CX(l:List Lk):Asc (kC l):=by
 unfold kC;split
 ·exact afA l 10
 exact List.Pairwise.nil
theorem vC{l:List Lk}{a:Int}(h:a∈kC l):1<=a/\a<=9:=by
 unfold kC at h;split at h
 ·have:=(Jq l 10 a).1 h;omega
 cases h
def apG(l:List Lk)(o:List Int):Prop:=lI l=true/\o.length=(kC l).length/\∀x∈kC l,x∈o
instance (l:List Lk) (o:List Int):Decidable (apG l o):=inferInstanceAs (Decidable (_/\_/\_))
def ahd(l:List Lk)(o:List Int):Bool:=decide (apG l o)
theorem ado{l:List Lk}{o:List Int}:apG l o↔(lI l=true/\o.length=(kC l).length)/\(∀x∈o,x∈kC l)/\o.Nodup:=by
 have hn:=FK (CX l);constructor
 ·rintro⟨h1,h2,h3⟩;have h4:=adk hn h3 (by omega);exact⟨⟨h1,h2⟩,UQ hn h3 (by omega),h4⟩
 rintro⟨⟨h1,h2⟩,h3,h4⟩;exact⟨h1,h2,UQ h4 h3 (by omega)⟩
theorem apH{a b:St}(h:Fg a b:=by
 (refine Sm [] (by simp) (by intro p hp;cases hp) rfl ?_)<;>(try (refine ew ?_;try with_reducible exact aC))<;>(repeat' (first|exact aC|omega|exact Ba rfl (by simp)|refine⟨?_,?_⟩|exact iV (Dn _ _ _)|exact qR rfl (by simp;done)|exact qR rfl rfl|(refine rJ rfl ?_ rfl;simp [kR];done)|(refine rJ rfl ?_ rfl;simp [kR];omega)|(refine Ho ?_ ?_;(focus ((refine ew ?_;try with_reducible exact aC);done));(intro q hq k s0 l0;simp;done))))):Fg a b:=h
theorem alE{a b:St}(h:Fg a b:=by
 (refine Sm [(0,_)] (by simp) (by intro p hp;simp only [aI,dD,or_false]at hp;rcases hp with rfl<;>refine⟨rfl,?_⟩<;>first|exact wX _|simp [nN,V.still]) rfl ?_)<;>(try (refine ew ?_;try with_reducible exact aC))<;>(repeat' (first|exact aC|omega|exact Ba rfl (by simp)|refine⟨?_,?_⟩|exact iV (Dn _ _ _)|exact qR rfl (by simp;done)|exact qR rfl rfl|(refine rJ rfl ?_ rfl;simp [kR];done)|(refine rJ rfl ?_ rfl;simp [kR];omega)|(refine Ho ?_ ?_;(focus ((refine ew ?_;try with_reducible exact aC);done));(intro q hq k s0 l0;simp;done))))):Fg a b:=h
theorem alF{a b:St}(h:Fg a b:=by
 (simp only [<-Fj];refine MX (k:=2) (Hu _ _) rfl ?_;(try (refine ew ?_;try with_reducible exact aC));(repeat' (first|exact aC|omega|exact Fh (by simp) (by simp) (by simp)|refine⟨?_,?_⟩|exact qR rfl (by simp))))):Fg a b:=h
theorem ara{a b:St}(h:Fg a b:=by
 (simp only [<-Fj];refine MX (k:=3) (Hu _ _) rfl ?_;(try (refine ew ?_;try with_reducible exact aC));(repeat' (first|exact aC|omega|exact Fh (by simp) (by simp) (by simp)|refine⟨?_,?_⟩|exact qR rfl (by simp))))):Fg a b:=h
theorem JZ{T:Tb}(h:xC T){l:List Lk}(hw:Iz Lk.wf l:=by exact tX):PO T 180 [nY l] (ints (CW l 10)):=by
 have hlen:=hw.1;refine lW nR h.hT ?_;simp only [DY,Lz,St.enter,ak,aG,aV];refine ew ?_;refine kV (fun _ _=>false) (α:=Nat×List Int) (fun q=>⟨mM [nY l,.any,.jZ,slV q.2.length,iv (q.1:Nat)],slS 1 (kR q.2),0,0,[],[]⟩) (fun q=>1<=q.1/\q.1<=10/\q.2=CW l q.1) (fun q=>10-q.1) rfl (1,[]) ?_ ?_ ?_
 ·exact⟨by omega,by omega,(alA l).symm⟩
 ·exact apH
 rintro⟨v,xs⟩ ⟨h1,h2,hx0⟩;dsimp only at h1 h2 hx0;have hx:xs.length<=10:=by rw [hx0];have:=X7 l v;omega
 have es:=alB l h1;rw [<-hx0]at es
 (rcases xs with _|⟨x,xs⟩<;>simp only [aG,ak,wY,vO,qA,oI]at hx ⊢)
 ·refine ew ?_;refine kY (fun hc=>?_) fun hc=>?_<;>(refine y8 @hc ?_;try with_reducible exact aC)
  ·refine kV (fun _ _=>false) (α:=Nat) (fun k=>⟨mM [nY l,.any,.jZ,.jZ,iv (v:Nat),.any,.any,.any,.any,.any,.any,.any,nY l,iv (l.length:Nat),iv (k:Nat)],[],0,0,[],[]⟩) (fun k=>k<=l.length/\∀r,r<k->(l.getD r default).a≠(v:Nat)/\(l.getD r default).b≠(v:Nat)) (fun k=>l.length-k) rfl 0 ?_ ?_ ?_
   ·exact⟨by omega,by intro j hj;omega⟩
   ·(refine kN ?_;exact uT)
   rintro k ⟨hk,hr⟩;refine ew ?_;refine kY (fun hd=>?_) fun hd=>?_<;>(refine Af @hd @mg ?_;try with_reducible exact aC)
   ·have hkl:k<l.length:=by omega
    by_cases ha:(l.getD k default).a=(v:Nat)
    ·rw [X8 hkl (.inl ha)]at es;refine y8 @ha ?_;exact⟨by omega,(v+1,([])++[((v:Nat):Int)]),by dsimp only;omega,⟨by dsimp only;omega,by dsimp only;omega,es.symm⟩,by exact alF⟩
    by_cases hb:(l.getD k default).b=(v:Nat)
    ·rw [X8 hkl (.inr hb)]at es;refine Af @ha @hb ?_;exact⟨by omega,(v+1,([])++[((v:Nat):Int)]),by dsimp only;omega,⟨by dsimp only;omega,by dsimp only;omega,es.symm⟩,by exact alF⟩
    refine Af @ha @hb ?_;refine⟨k+1,by omega,⟨by omega,fun r hr'=>?_⟩,by exact apH⟩;by_cases e:r=k
    ·subst e;exact⟨ha,hb⟩
    exact hr r (by omega)
   rw [afz fun r hr'=>hr r (by omega),aO (by simp),aW]at es;exact⟨(v+1,[]),by dsimp only;omega,⟨by dsimp only;omega,by dsimp only;omega,es.symm⟩,by exact apH⟩
  have ev:v=10:=by omega
  subst ev;rw [<-hx0];exact qC
 refine ew ?_;refine kY (fun hc=>?_) fun hc=>?_<;>(refine y8 @hc ?_;try with_reducible exact aC)
 ·refine kV (fun _ _=>false) (α:=Nat) (fun k=>⟨mM [nY l,.any,.jZ,.lG 0 0 (x::xs).length,iv (v:Nat),.any,.any,.any,.any,.any,.any,.any,nY l,iv (l.length:Nat),iv (k:Nat)],[some ⟨1,kR (x::xs)⟩],0,0,[],[]⟩) (fun k=>k<=l.length/\∀r,r<k->(l.getD r default).a≠(v:Nat)/\(l.getD r default).b≠(v:Nat)) (fun k=>l.length-k) rfl 0 ?_ ?_ ?_
  ·exact⟨by omega,by intro j hj;omega⟩
  ·(refine kN ?_;exact uT)
  rintro k ⟨hk,hr⟩;refine ew ?_;refine kY (fun hd=>?_) fun hd=>?_<;>(refine Af @hd @mg ?_;try with_reducible exact aC)
  ·have hkl:k<l.length:=by omega
   by_cases ha:(l.getD k default).a=(v:Nat)
   ·rw [X8 hkl (.inl ha)]at es;refine y8 @ha ?_;exact⟨by omega,(v+1,(x::xs)++[((v:Nat):Int)]),by dsimp only;omega,⟨by dsimp only;omega,by dsimp only;omega,es.symm⟩,by exact ara⟩
   by_cases hb:(l.getD k default).b=(v:Nat)
   ·rw [X8 hkl (.inr hb)]at es;refine Af @ha @hb ?_;exact⟨by omega,(v+1,(x::xs)++[((v:Nat):Int)]),by dsimp only;omega,⟨by dsimp only;omega,by dsimp only;omega,es.symm⟩,by exact ara⟩
   refine Af @ha @hb ?_;refine⟨k+1,by omega,⟨by omega,fun r hr'=>?_⟩,by exact alE⟩;by_cases e:r=k
   ·subst e;exact⟨ha,hb⟩
   exact hr r (by omega)
  rw [afz fun r hr'=>hr r (by omega),aO (by simp),aW]at es;exact⟨(v+1,x::xs),by dsimp only;omega,⟨by dsimp only;omega,by dsimp only;omega,es.symm⟩,by exact alE⟩
 have ev:v=10:=by omega
 subst ev;rw [<-hx0];exact XC (o:=0) (l:=x::xs) rfl
theorem S9{T:Tb}(h:Jp T){l:List Lk}(hw:Iz Lk.wf l:=by exact tX):PO T 172 [nY l] (ints (kC l)):=by
 have ci:=DX h.pK hw;have cn:=JZ h.vk hw
 cases hb:lI l
 ·rw [hb]at ci;rw [adn hb];refine lW (fun x d=>x == 180) h.hT ?_;simp only [zT,Lz,St.enter,ak,aG,aV];refine ew ?_;refine jM ci ?_;refine ew ?_;exact qC
 rw [hb]at ci;rw [Hy hb];refine lW (fun x d=>x == 180) h.hT ?_;simp only [zT,Lz,St.enter,ak,aG,aV];refine ew ?_;refine jM ci ?_;refine ew ?_;refine nK cn (by (refine ew ?_;try with_reducible exact aC)) ?_;intro r σ2 os g;refine ew ?_;exact apq g
theorem wK{k l:Lk}:lK k l=true↔k.a<l.a\/(k.a=l.a/\k.b<l.b):=by simp [lK]
theorem IV{k l m:Lk}(h:lK k l=true)(h2:lK l m=true):lK k m=true:=by
 rw [wK]at *;omega
theorem Z4{l:List Lk}(h:lI l=true){i:Nat}(hi:i+1<l.length):lK (l.getD i default) (l.getD (i+1) default)=true:=by
 have:=O5.1 h (i+1) hi;unfold JY at this;simp only [aH,dQ,bf]at this;rcases this.2 with h|h
 ·omega
 exact h
theorem adp{l:List Lk}(h:lI l=true):∀(j i:Nat),i<j->j<l.length->lK (l.getD i default) (l.getD j default)=true
 |0,i,hi,_=>by omega
 |
  j+1,i,hi,hj=>by
  have ha:=Z4 h hj;by_cases e:i=j
  ·subst e;exact ha
  exact IV (adp h j i (by omega) (by omega)) ha
theorem Tc{α:Type} [Inhabited α] {l:List α} {i:Nat} (h:i<l.length):l.getD i default=l[i]:=by
 rw [aj,au h];rfl
theorem adq{l:List Lk}(h:lI l=true):l.Pairwise fun k l=>lK k l=true/\0<=k.a/\k.a<k.b/\0<=l.a/\l.a<l.b:=by
 rw [fO];intro i j hi hj hij;have h1:=adp h j i hij hj;have h2:=qF (yD h hi);have h3:=qF (yD h hj);rw [Tc hi,Tc hj]at h1;rw [Tc hi]at h2;rw [Tc hj]at h3;exact⟨h1,h2.1,h2.2.1,h3.1,h3.2.1⟩
theorem nZ{l:List Lk}(h:lI l=true){x:Lk}(hx:x∈l):pJ x=true:=by
 obtain⟨i,hi⟩:=bQ.1 hx;have hlt:=(aP.1 hi).1;have:=yD h hlt
 rwa [aj,hi]at this
def afB(v:Int)(x:Lk):Option Int:=if x.a=v then some x.b else if x.b=v then some x.a else none
def Q9(v:Int)(out:List Int)(x:Lk):List Int:=if x.b=v then UO (if x.a=v then UO out x.b else out) x.a else(if x.a=v then UO out x.b else out)
def nbS(l:List Lk)(v:Int)(i:Nat):List Int:=(l.take i).foldl (Q9 v) []
def nbI(l:List Lk)(v:Int)(i:Nat):List Int:=(l.take i).filterMap (afB v)
theorem take_snoc{α:Type} [Inhabited α] {l:List α} {i:Nat} (h:i<l.length):l.take (i+1)=l.take i++[l.getD i default]:=by
 rw [jf,au h,aj,au h];rfl
theorem afC{v:Int}{out:List Int}{x:Lk}{a:Int}:a∈Q9 v out x↔a∈out\/(x.a=v/\a=x.b)\/(x.b=v/\a=x.a):=by
 unfold Q9;split<;>split<;>simp_all [X6]<;>(constructor<;>rintro(h|h)<;>simp_all)
theorem ahe{v:Int}:∀(l:List Lk) (out:List Int) (a:Int),a∈l.foldl (Q9 v) out↔a∈out\/∃x∈l,(x.a=v/\a=x.b)\/(x.b=v/\a=x.a)
 | [],out,a=>by simp
 |
  x::l,out,a=>by
  rw [iH,ahe l,afC];simp only [aI,exists_eq_or_imp,or_assoc]
theorem afD{v:Int}{out:List Int}{x:Lk}(h:Asc out):Asc (Q9 v out x):=by
 unfold Q9;split<;>split<;>first|exact SX (SX h)|exact SX h|exact h
theorem WB{v:Int}:∀(l:List Lk) (out:List Int),Asc out->Asc (l.foldl (Q9 v) out)
 | [],out,h=>h
 |x::l,out,h=>WB l _ (afD h)
theorem ard{l:List Lk}(h:lI l=true)(v:Int):nbS l v l.length=nbI l v l.length:=by
 unfold nbS nbI;rw [bK];refine abg (WB _ _ .nil) ?_ fun a=>?_
 ·refine List.Pairwise.filterMap _ ?_ (adq h);rintro k m ⟨h1,h2,h3,h4,h5⟩ b hb b' hb';rw [wK]at h1;unfold afB at hb hb';split at hb<;>split at hb'<;>(try split at hb)<;>(try split at hb')<;>simp_all<;>omega
 rw [ahe,List.mem_filterMap];simp only [dD,false_or];constructor
 ·rintro⟨x,hx,h1⟩;refine⟨x,hx,?_⟩;have:=qF (nZ h hx);unfold afB;rcases h1 with ⟨h1,rfl⟩|⟨h1,rfl⟩
  ·rw [aQ h1]
  rw [aO (by omega),aQ h1]
 rintro⟨x,hx,h1⟩;refine⟨x,hx,?_⟩;unfold afB at h1;split at h1
 ·simp_all
 split at h1<;>simp_all
def DZ:Fn:=⟨1,17,[.cell 2 3 true],(.seq (rf 2 [oN 1 (.box (.t 0)),oK 2 1 (.alloc uz)]) (.seq (rt 4 [oK 3 4 (fd 0 1),oA 4 4 (fd 0 3) [0],oA 5 4 (lF 1 4) [1],oN 6 (.nM 1 Oo 0 []),oK 7 4 (fd 0 1),oA 8 4 (fd 1 7) [4],oA 9 4 (lF 1 8) [5],oA 10 1 (.app 1 8 (.t 6) (.t 9)) [3,6],oA 11 4 (.build ZO [(0,1,(.t 5)),(1,1,(.t 10))]) [2,7],oK 12 2 (.nM 1 Oo 0 []),oK 13 4 (fd 2 1),oA 14 4 (lF 1 13) [10],oA 15 3 (.app 1 8 (.t 12) (.t 14)) [9,11,7],oA 16 4 (.build uz [(0,2,(.t 11)),(2,1,(.t 15))]) [8,12],⟨none,none,4,.store 3 (.t 2) (.t 16),[13,12,0,1,2,3,4,5,6,7,8,9,10,11,12,13]⟩]) .ret))⟩
structure Jr (T:Tb):Prop where
 hT:T 204=some DZ
def D5:Fn:=⟨1,17,[.cell 2 11 true],(.seq (rf 2 [oN 1 (.box (.t 0)),oK 2 1 (.alloc Hr)]) (.seq (rt 0 [oN 3 (fd 0 1),oA 4 0 (lF 1 3) [0],oN 5 (fd 1 1),oA 6 0 (lF 1 5) [2],oN 7 (fd 2 1),oA 8 0 (lT 3 7) [4],oA 9 0 (cl 204 [8]) [5],oN 10 (fd 5 1),oA 11 0 (lT 3 10) [7],oA 12 0 (cl 204 [11]) [8,6],oN 13 (fd 8 1),oA 14 0 (lT 3 13) [10],oA 15 0 (cl 204 [14]) [11,9],oA 16 0 (.build Hr [(0,1,(.t 4)),(1,1,(.t 6)),(2,3,(.t 9)),(5,3,(.t 12)),(8,3,(.t 15))]) [1,3,6,9,12],⟨none,none,0,.store 11 (.t 2) (.t 16),[13,12,0,1,2,3,4,5,6,7,8,9,10,11,12,13]⟩]) .ret))⟩
structure D6 (T:Tb):Prop where
 hT:T 197=some D5
 Js:Jr T
def yg:Fn:=⟨2,31,[.tmp 4],(sr [oN 4 mN] (.seq (rf 1 [oN 8 (.nM 11 Hr 0 []),oK 5 1 (oV 8)]) (.seq (sr [oW 9 0,oN 10 (ln 9),oN 11 (.qw (cI 0))] (.block 0 (.loop (sr [oN 12 (bt .lss 11 10)] (.seq (cd 12 .skip (.exit 0)) (.seq (.block 1 (.seq (rf 1 [oK 13 1 (ix 11 9 11),oK 14 1 (lT 11 13),oN 7 (.alloc Hr),⟨none,none,1,.store 11 (.t 7) (.t 14),[]⟩]) (sr [oN 15 (fd 0 7),oN 16 (lF 1 15),oW 17 1,oN 18 (bt .neq 16 17),oW 19 18,oG 19 true 20 (fd 1 7),oG 19 true 21 (lF 1 20),oG 19 true 22 (oV 1),oG 19 true 23 (bt .neq 21 22),oN 24 (.pick (.t 19) (.t 23) (.c (.bool false)))] (cd 24 (rf 2 [oK 25 2 (oV 5),oK 26 2 (lT 11 7),oN 27 (.nM 11 Hr 1 [(0,(.t 26))]),oK 28 1 (.app 11 184 (.t 25) (.t 27)),oK 5 2 (oV 28)]) .skip)))) (rg [oN 29 (bc .add 11 1),oW 11 29]))))))) (sr [oW 30 5,oW 4 30] .ret))))⟩
structure CY (T:Tb):Prop where
 hT:T 241=some yg
theorem WC{r:R}{a b:V}(h1:mP (ints r.mag) a)(h2:mP (ints r.den) b):mP (kW r) (.agg [.bool r.neg,a,b]):=by
 simp only [OV,UC,UA,LG,true_and,and_true];exact⟨h1,h2⟩
theorem P6{l:List Int}(h:kR l=[]):mP (ints l) .jZ:=by
 show mP (.sl 1 (kR l)) .jZ;rw [h];exact iV (sV 1)
theorem UR{T:Tb}(h:Jr T){r:R}(hl:r.sz<=1048576:=by exact tX):PF T 204 [kW r] (kW r):=by
 simp only [R.sz]at hl;refine kS nR h.hT ?_;simp only [DZ,Lz];refine ev ?_;refine⟨fun e1=>⟨fun e2=>?_,fun e2=>⟨by omega,?_⟩⟩,fun e1=>⟨by omega,fun e2=>?_,fun e2=>⟨by omega,?_⟩⟩⟩
 ·refine⟨by unfold rO;decide +kernel,?_⟩;exact WC (P6 e1) (P6 e2)
 ·refine⟨by unfold rO;decide +kernel,?_⟩;exact WC (P6 e1) (kM _)
 ·refine⟨by unfold rO;decide +kernel,?_⟩;exact WC (kM _) (P6 e2)
 refine⟨by unfold rO;decide +kernel,?_⟩;exact WC (kM _) (kM _)
theorem P7{T:Tb}(h:D6 T){x:Lk}(hl:x.sz<=1048576:=by exact tX):PF T 197 [RN x] (RN x):=by
 simp only [Lk.sz,R.sz]at hl;refine kS nR h.hT ?_;simp only [D5,Lz];refine ev ?_;refine jM (UR h.Js (r:=x.w) (by simp only [R.sz];omega)) ?_;refine ev ?_;refine jM (UR h.Js (r:=x.dx) (by simp only [R.sz];omega)) ?_;refine ev ?_;refine jM (UR h.Js (r:=x.dy) (by simp only [R.sz];omega)) ?_;refine ev ?_;refine⟨by unfold rO;decide +kernel,?_⟩;refine ev ?_;exact kM _
def WE(v:Int)(x:Lk):Bool:=decide (x.a≠v)&&decide (x.b≠v)
def wo(l:List Lk)(v:Int)(i:Nat):List Lk:=(l.take i).filter (WE v)
theorem aCC(l:List Lk)(v:Int):wo l v 0=[]:=by simp [wo]
theorem atW(l:List Lk)(v:Int):wo l v l.length=l.filter (WE v):=by simp [wo]
theorem aCD(l:List Lk)(v:Int){i:Nat}(h:i<l.length):wo l v (i+1)=wo l v i++(if WE v (l.getD i default)=true then [l.getD i default]else []):=by
 unfold wo;rw [take_snoc h,List.filter_append,List.filter_cons];split<;>simp
theorem atX(l:List Lk)(v:Int)(i:Nat):(wo l v i).length<=i:=by
 unfold wo;exact dw (jW _ _) (by simp;omega)
abbrev Lk0:Lk:=⟨0,0,R0,R0,R0⟩
theorem KQ:mP (RN Lk0) (.agg [iv 0,iv 0,.bool false,.jZ,.jZ,.bool false,.jZ,.jZ,.bool false,.jZ,.jZ]):=by
 show mP (.agg [iv 0,iv 0,.bool false,.sl 1 [],.sl 1 [],.bool false,.sl 1 [],.sl 1 [],.bool false,.sl 1 [],.sl 1 []]) _;simp only [OV,UC,UA,LG,ak2,sV,and_true]
theorem LQ{v w:V}{b:Bool}(h:mP v w):mP (.oJ [v,.bool b]) (.oJ [w,.bool b]):=by
 simp only [mP,wS];exact⟨_,rfl,_,_,rfl,h,_,_,rfl,rfl,rfl⟩
def lkP(a b:Int)(x:Lk):Bool:=(decide (x.a=a)&&decide (x.b=b))||(decide (x.a=b)&&decide (x.b=a))
def apI(l:List Lk)(a b:Int):Option Lk:=l.find? (lkP a b)
theorem alG{l:List Lk}{a b:Int}{x:Lk}(h:apI l a b=some x):x∈l:=List.mem_of_find?_eq_some h
theorem Nq{T:Tb}(h:uP T){n:Int}(hn:0<=n/\n<18446744073709551616:=by exact tX):PO T 69 [.int .u64 n] (ints (mk n.toNat)):=by
 have hlen:(mk n.toNat).length<=3:=lS.2 (by omega);refine lW nR h.hT ?_;simp only [xq,Lz,St.enter,ak,aG,aV];refine ew ?_;refine kV (fun _ _=>false) (α:=Nat×List Int) (fun q=>⟨mM [.int .u64 (q.1:Nat),.any,.any,slV q.2.length],slS 1 (kR q.2),0,0,[],[]⟩) (fun q=>q.2++mk q.1=mk n.toNat/\q.1<=n.toNat) (fun q=>q.1) rfl (n.toNat,[]) ?_ ?_ ?_
 ·exact⟨rfl,aK _⟩
 ·first|((refine kN ?_;exact uT);done)|((refine Sm [] (by simp) (by intro p hp;cases hp) rfl ?_)<;>(try (refine ew ?_;try with_reducible exact aC))<;>(repeat' (first|exact aC|omega|exact Ba rfl (by simp)|refine⟨?_,?_⟩|exact iV (Dn _ _ _)|exact qR rfl (by simp;done)|exact qR rfl rfl|(refine rJ rfl ?_ rfl;simp [kR];done)|(refine rJ rfl ?_ rfl;simp [kR];omega)|(refine Ho ?_ ?_;(focus ((refine ew ?_;try with_reducible exact aC);done));(intro q hq k s0 l0;simp;done))));done)
 rintro⟨m,xs⟩ ⟨hm,hle⟩;dsimp only at hm hle;have hx:xs.length<=3:=by
  have:=congrArg List.length hm;simp at this;omega
 have e1:((m:Int).tmod 1000000000)=((m % 1000000000:Nat):Int):=by rw [QV (by omega)];omega
 have e2:((m:Int).tdiv 1000000000)=((m / 1000000000:Nat):Int):=by rw [QW (by omega)];omega
 have key:0<m->(xs++[((m % 1000000000:Nat):Int)])++mk (m / 1000000000)=mk n.toNat:=fun h=>by
  rw [<-hm,mk_pos (n:=m) (by omega)];simp
 (rcases xs with _|⟨x,xs⟩<;>simp only [aG,ak,wY,vO,qA,oI]at hx ⊢)
 ·refine ew ?_;refine kY (fun hb=>?_) fun hb=>?_<;>(refine EN @hb @e1 @e2 ?_;try with_reducible exact aC)
  ·exact⟨by omega,(m / 1000000000,[]++[((m % 1000000000:Nat):Int)]),by dsimp only;omega,⟨key (by omega),by dsimp only;omega⟩,by (simp only [<-Fj];refine MX (k:=1) (Hu _ _) rfl ?_;(try (refine ew ?_;try with_reducible exact True.intro));(repeat' (first|exact True.intro|omega|exact Fh (by simp) (by simp) (by simp)|refine⟨?_,?_⟩|exact qR rfl (by simp))))⟩
  have e:mk n.toNat=[]:=by rw [<-hm,show m=0 by omega,mk_zero];rfl
  rw [e];exact qC
 refine ew ?_;refine kY (fun hb=>?_) fun hb=>?_<;>(refine EN @hb @e1 @e2 ?_;try with_reducible exact aC)
 ·refine⟨by omega,(m / 1000000000,(x::xs)++[((m % 1000000000:Nat):Int)]),by dsimp only;omega,⟨key (by omega),by dsimp only;omega⟩,by exact alF⟩
 have e:x::xs=mk n.toNat:=by rw [<-hm,show m=0 by omega,mk_zero];simp
 rw [<-e];exact XC (o:=0) (l:=x::xs) rfl
theorem afE{T:Tb}(h:xu T){l:List Int}{σ:Store}{o:Nat}(h0:jX σ o=some ⟨1,kR l⟩)(hl:l.length<=1048576:=by exact tX) :
  Run T (.fn 151 [.lG o 0 l.length] σ) (.fn (.lG o 0 (trim l).length) σ):=by
 have:∃r σ',Run T (.fn 151 [.lG o 0 l.length] σ) (.fn r σ')/\(r=.lG o 0 (trim l).length/\σ'=σ):=by
  have htl:∀n,n<=l.length->xM l l.length=xM l n->(n=0\/l.getD (n-1) 0≠0)->(trim l).length=n:=by
   intro n hn h1 h2;unfold trim;rw [h1,fD]
   cases n with
   |zero=>simp [xM]
   |
    succ m =>
    simp only [Nat.add_sub_cancel]at h2;simp only [xM];rw [aO (by omega)];omega
  refine run_end nR h.hT ?_;simp only [zH,Lz,St.enter,ak,aG,aV];refine ew ?_;refine y8 @h0 ?_;refine kV (fun _ _=>false) (α:=Nat) (fun n=>⟨mM [.lG o 0 l.length,.any,.any,iv (n:Nat)],σ,σ.length,0,[],[]⟩) (fun n=>n<=l.length/\xM l l.length=xM l n) (fun n=>n) rfl l.length ?_ ?_ ?_
  ·exact⟨by omega,rfl⟩
  ·(refine kN ?_;exact uT)
  rintro n ⟨hn,ht⟩;refine y8 @h0 ?_;refine kY (fun hb=>?_) fun hb=>?_
  ·obtain⟨m,rfl⟩:∃m,n=m+1:=⟨n-1,by omega⟩;have e1:((m+1:Nat):Int)-1=(m:Nat):=by omega
   refine EN @h0 @e1 @hb ?_;refine kY (fun hc=>?_) fun hc=>?_<;>(refine Af @hc @h0 ?_;try with_reducible exact aC)
   ·refine⟨m,by omega,⟨by omega,?_⟩,by (refine kN ?_;exact uT)⟩;rw [ht];simp only [xM,hc,if_true]
   rw [htl (m+1) hn ht (by simp only [Nat.add_sub_cancel];omega)]
  have:n=0:=by omega
  subst this;rw [htl 0 hn ht (by omega)]
  (refine Af @h0 @hb ?_;try with_reducible exact aC)
 obtain⟨r,σ',h1,rfl,rfl⟩:=this;exact h1
theorem Rh{T:Tb}(h:nT T){neg:Bool}{n:Nat}{σ:Store}{o:Nat}(h0:jX σ o=some ⟨1,kR (mk n)⟩)(hn:0<n)(hl:(mk n).length<=60:=by exact tX) :
  ∃σ',Run T (.fn 68 [.bool neg,.lG o 0 (mk n).length] σ) (.fn (.agg [.bool neg,.lG o 0 (mk n).length]) σ')/\(∀q,q<σ.length->jX σ' q=jX σ q)/\σ.length<=σ'.length:=by
 have:∃r σ',Run T (.fn 68 [.bool neg,.lG o 0 (mk n).length] σ) (.fn r σ')/\(r=.agg [.bool neg,.lG o 0 (mk n).length]/\(∀q,q<σ.length->jX σ' q=jX σ q)/\σ.length<=σ'.length):=by
  have hp:=FC.2 hn;refine run_end nR h.hT ?_;simp only [uV,Lz,St.enter,ak,aG,aV];refine ew ?_;have hlt:=kX h0;have c1:¬(((mk n).length:Nat):Int)=0:=by omega
  have c2:¬(60:Int)<((mk n).length:Nat):=by omega
  refine Du @h0 @hlt @c1 @c2 ?_;exact⟨fun q hq=>kQ hq,by omega⟩
 obtain⟨r,σ',h1,rfl,h2,h3⟩:=this;exact⟨σ',h1,h2,h3⟩
theorem Z5{T:Tb}(h:Bf T){m n:Nat}(hn:0<n)(la:(mk m).length<=900:=by exact tX)(lb:(mk n).length<=900:=by exact tX) :
  PX T 138 [ints (mk m),ints (mk n)] [(true,ints (mk (m / n))),(false,ints (mk (m % n)))]:=by
 obtain⟨A,hA⟩:∃A,mk m=A:=⟨_,rfl⟩;obtain⟨B,hB⟩:∃B,mk n=B:=⟨_,rfl⟩;have hva:val A=m:=by rw [<-hA,val_mk]
 have hbA:Lb A:=hA▸vH m;have hbB:Lb B:=hB▸vH n;rw [hA]at la ⊢;rw [hB]at lb ⊢;refine SE (fun x d=>(x == 69&&d == 28)||(x == 151&&d == 74)) h.hT ?_;simp only [Bd,Lz,St.enter,ak,aG,aV];refine ew ?_;have cas:(((A.length:Nat):Int)<=2/\((B.length:Nat):Int)<=2)\/((((A.length:Nat):Int)<=2/\¬((B.length:Nat):Int)<=2)\/¬((A.length:Nat):Int)<=2):=by omega
 rcases cas with ⟨c1,c2⟩|big
 ·have sm:m<1000000000000000000:=by
   have:=y7 hbA;rw [hva]at this;exact bn this (dw (gu (by omega) (show A.length<=2 by omega)) (by omega))
  have sn:n<1000000000000000000:=by
   have:=y7 hbB;rw [<-hB,val_mk]at this;exact bn this (dw (gu (by omega) (show (mk n).length<=2 by rw [hB];omega)) (by omega))
  have cs:=Fz h.uh sm;have ct:=Fz h.uh sn;rw [hA]at cs;rw [hB]at ct;have e1:((m:Nat):Int).tdiv (n:Nat)=((m / n:Nat):Int):=by rw [gI (by omega),Int.natCast_ediv]
  have e2:((m:Nat):Int).tmod (n:Nat)=((m % n:Nat):Int):=by rw [iR (by omega),kD]
  have d1:m / n<=m:=Nat.div_le_self ..;have d2:m % n<=m:=Nat.mod_le ..;have nz:¬((n:Nat):Int)=0:=by omega
  generalize m / n=q at *;generalize m % n=r at *;have c3:=zI h.nH (n:=((q:Nat):Int)) (by omega);have c4:=zI h.nH (n:=((r:Nat):Int)) (by omega);rw [fQ]at c3 c4;refine Af @c1 @c2 ?_;refine jM cs ?_;refine ew ?_;refine jM ct ?_;refine EN @nz @e1 @e2 ?_;have p3:=Nq h.nH (n:=((q:Nat):Int)) (by omega);rw [fQ]at p3;refine qj p3 (by (refine ew ?_;try with_reducible exact aC)) (by (refine ew ?_;try with_reducible exact aC)) ?_;intro v1 s1 o1 g;refine EN @nz @e1 @e2 ?_;refine jM c4 ?_;refine ew ?_;refine⟨by unfold rO;decide +kernel,?_⟩;exact .inl (apv g.ow g.nd rfl)
 rcases big with ⟨c1,c2⟩|c1
 case' inl=>(refine Af @c1 @c2 ?_;try with_reducible exact aC)
 case' inr=>(refine y8 @c1 ?_;try with_reducible exact aC)
 all_goals
  refine⟨by omega,?_⟩;rw [QO];refine kV (fun x d=>(x == 69&&d == 28)||(x == 151&&d == 74)) (α:=Nat×List Int×Nat) (fun q=>⟨mM [ints A,ints B,.any,.any,.any,.any,.any,.any,.lG 0 0 A.length,ints (mk q.2.2),iv ((q.1:Nat)-1)],[some ⟨1,kR q.2.1⟩],0,0,[],[]⟩) (fun q=>q.1<=A.length/\q.2.1.length=A.length/\Lb q.2.1/\(∀j,j<q.1->q.2.1.getD j 0=0)/\q.2.2<n/\val (A.drop q.1)=val (q.2.1.drop q.1)*n+q.2.2) (fun q=>q.1) rfl (A.length,List.replicate A.length 0,0) ?_ ?_ ?_
  ·exact⟨by omega,by simp,QS _,by intro j _;simp [List.getD_eq_getElem?_getD,List.getElem?_replicate];split<;>rfl,hn,by dsimp only;rw [mV (Nat.le_refl _),mV (by simp)];simp⟩
  ·rw [mk_zero];exact alE
  rintro⟨k,Q,x⟩ ⟨hk,hQ,hQb,hz,hx,hv⟩;dsimp only at hk hQ hQb hz hx hv;by_cases k0:k=0
  ·subst k0;rw [bZ,bZ,hva]at hv;obtain⟨q1,q2⟩:=Nb hv hx;have e0:¬(0:Int)<=((0:Nat):Int)-1:=by omega
   refine y8 @e0 ?_;have hr:=afE h.sZ (l:=Q) (σ:=[some ⟨1,kR Q⟩]) (o:=0) rfl (by omega);rw [hQ]at hr;refine Wv hr rfl (aK _) (by simp) ?_;refine ew ?_;rw [<-q1,<-q2];exact .inr (alh (by have:=(ZU Q).2;omega) (by rw [<-(ZU Q).1,BJ hQb]) rfl)
  obtain⟨i,rfl⟩:∃i,k=i+1:=⟨k-1,by omega⟩;have e0:(((i+1:Nat):Int)-1)=(i:Nat):=by omega
  have e1:((i:Nat):Int)<(A.length:Nat):=by omega
  have e2:(0:Int)<=(i:Nat):=by omega
  rw [e0];have ga:=vI hbA i;have hvi:=qH A i;obtain⟨t,ht⟩:∃t,(A.getD i 0).toNat+1000000000*x=t:=⟨_,rfl⟩;have htn:t<n*1000000000:=by omega
  have lt':(A.getD i 0::mk x).length<=1048576:=by
   have:(mk x).length<=B.length:=by rw [lS];exact Nat.lt_trans hx (by have:=y7 hbB;rw [<-hB,val_mk,hB]at this;exact this)
   simp only [ak];omega
  have tr:trim (A.getD i 0::mk x)=mk t:=by
   rw [BJ (by intro y hy;rcases aI.1 hy with rfl|hy;exact ga;exact vH x y hy),<-ht,val,val_mk]
  have ct:=LH h.sZ (l:=A.getD i 0::mk x) lt';rw [tr]at ct;have ely:∀y,y<=t->(mk y).length<=901:=by
   intro y hy;have:(mk y).length<=B.length+1:=by
    rw [lS,jd];have:=y7 hbB;rw [<-hB,val_mk,hB]at this;exact bn (iC hy htn) (dG _ (Nat.le_of_lt this))
   omega
  have lx:=ely;refine Af @e2 @e1 ?_;refine⟨fun e3=>?_,fun e3=>?_⟩
  case' refine_1 =>
   have x0:mk x=[]:=by cases hm:mk x with|nil=>rfl|cons a l=>rw [hm]at e3;cases e3
   rw [x0]at ct;rw [show [[V.int IntKind.i64 (A.getD i 0)]]=kR [A.getD i 0]from rfl]
   (refine ew ?_;try with_reducible exact aC)
  case' refine_2 =>
   refine y8 @e3 ?_;rw [show [V.int IntKind.i64 (A.getD i 0)]::kR (mk x)=kR (A.getD i 0::mk x)from rfl];refine ew ?_;have lm:=lt';simp only [ak]at lm;refine⟨by omega,?_⟩
  all_goals
   clear lt';refine jM ct ?_;refine ew ?_;refine kV (fun x d=>(x == 69&&d == 28)||(x == 151&&d == 74)) (α:=List Int×Nat) (fun q=>⟨mM [ints A,ints B,.any,.any,.any,.any,.any,.any,.lG 0 0 A.length,ints (mk q.2),iv (i:Nat)],[some ⟨1,kR q.1⟩],0,0,[],[]⟩) (fun q=>q.1.length=A.length/\Lb q.1/\(∀j,j<i->q.1.getD j 0=0)/\q.1.drop (i+1)=Q.drop (i+1)/\q.2+(q.1.getD i 0).toNat*n=t) (fun q=>q.2) rfl (Q,t) ?_ ?_ ?_
   ·exact⟨hQ,hQb,fun j hj=>hz j (by omega),rfl,by dsimp only;rw [hz i (by omega)];simp⟩
   ·exact alE
   rintro⟨P,y⟩ ⟨hP,hPb,hzP,hd,hy⟩;dsimp only at hP hPb hzP hd hy;have yt:y<=t:=by omega
   have ly:=ely y yt;have cc:=XI h.Gj (wC y) (wC n) (by omega) (by rw [hB];omega);rw [val_mk,val_mk,hB]at cc;refine ew ?_;refine jM cc ?_;refine ew ?_;refine kY (fun c3=>?_) fun c3=>?_<;>(refine y8 @c3 ?_;try with_reducible exact aC)
   ·have hny:n<=y:=xP.1 c3;obtain⟨d,pg,d0,d1,d2⟩:=XK h.NW hn hny (by omega) (by omega) (by rw [hB];omega);rw [hB]at pg;have pm:=XJ h.Gl (m:=n) (n:=d) (by rw [hB];omega) (by rw [mk_one d0 d1];simp);have dn:n*d<=y:=by rw [dP];exact d2
    have lnd:=ely (n*d) (by omega);have ps:=SH h.Bg dn (by omega) (by omega);rw [hB,mk_one d0 d1]at pm;have gp:=vI hPb i;have y2:y-n*d+((P.getD i 0).toNat+d)*n=t:=by rw [gG,dP d n];omega
    have gp2:P.getD i 0+d<1000000000:=by
     have:((P.getD i 0).toNat+d)*n<1000000000*n:=by rw [dP 1000000000];omega
     have:=Nat.lt_of_mul_lt_mul_right this;omega
    have d0':0<n*d:=Nat.mul_pos hn d0;have k1:=MS (l:=P) (i:=i) (d:=P.getD i 0+d) (by omega) gp2 hPb;have k2:∀j,j<i->(P.set i (P.getD i 0+d)).getD j 0=0:=by
     intro j hj;rw [sD,aO (by omega)];exact hzP j hj
    have k3:(P.set i (P.getD i 0+d)).drop (i+1)=Q.drop (i+1):=by rw [List.drop_set_of_lt (by omega),hd]
    have k4:((P.set i (P.getD i 0+d)).getD i 0)=P.getD i 0+d:=by rw [sD,aQ ⟨rfl,by omega⟩]
    have k5:y-n*d+((P.set i (P.getD i 0+d)).getD i 0).toNat*n=t:=by
     rw [k4,show (P.getD i 0+(d:Int)).toNat=(P.getD i 0).toNat+d by omega];exact y2
    have k6:y-n*d<y:=by omega
    clear y2 hy htn ht hvi k4 hzP hd d2 lx ely hv hz hx;refine jM pg ?_;refine ew ?_;rw [show [[V.int IntKind.i64 (d:Int)]]=kR [(d:Int)]from rfl];refine ew ?_;refine jM pm ?_;refine ew ?_;refine jM ps ?_;refine Af @e1 @hP ?_;exact⟨(P.set i (P.getD i 0+d),y-n*d),k6,⟨by simp [hP],k1,k2,k3,k5⟩,by exact alE⟩
   have hny:y<n:=by
    have:=@xP y n;omega
   have k1:=qH P i;rw [hd]at k1;have k2:val (A.drop i)=val (P.drop i)*n+y:=by
    rw [hvi,hv,k1,gG,jq,<-gQ];omega
   exact⟨(i,P,y),by dsimp only;omega,⟨by dsimp only;omega,hP,hPb,hzP,hny,k2⟩,by (refine kN ?_;exact uT)⟩
theorem X9{σ:Store}{b:Bool}{v:V}{l:List Int}{os:List Nat}(h:mJ σ v (ints l) os):mJ σ (.agg [.bool b,v]) (.agg [.bool b,ints l]) os:=qV (rM (by simpa using qJ h qB))
theorem Td{σ:Store}{b:Bool}{v w:V}{l m:List Int}{o1 o2:List Nat}(h:mJ σ v (ints l) o1)(k:mJ σ w (ints m) o2):mJ σ (.agg [.bool b,v,w]) (.agg [.bool b,ints l,ints m]) (o1++o2) :=
 qV (rM (qJ h (by simpa using qJ k qB)))
theorem alH{σ:Store}:mJ σ (kW R0) (kW R0) []:=Td (o1:=[]) (o2:=[]) nP nP
theorem Nr{σ:Store}:Fin σ (.agg [.bool false,.jZ,.jZ]) (kW R0):=⟨_,[],uo,alH,.nil⟩
theorem mJ.axP{σ:Store}{v:V}{l:List Int}{os:List Nat}(h:mJ σ v (ints l) os):lenOf σ v=some l.length:=by
 rcases h.zG with ⟨rfl,rfl,_⟩|⟨o,rfl,h1,_⟩
 ·rfl
 simp [lenOf,h1]
theorem O8{T:Tb}(h:nT T){neg:Bool}{σ:Store}{v:V}{os:List Nat}(h0:mJ σ v (ints []) os) :
  ∃σ',Run T (.fn 68 [.bool neg,v] σ) (.fn (.agg [.bool false,.jZ]) σ')/\(∀q,q<σ.length->jX σ' q=jX σ q)/\σ.length<=σ'.length:=by
 have:∃r σ',Run T (.fn 68 [.bool neg,v] σ) (.fn r σ')/\(r=.agg [.bool false,.jZ]/\(∀q,q<σ.length->jX σ' q=jX σ q)/\σ.length<=σ'.length):=by
  rcases h0.zG with ⟨_,rfl,_⟩|⟨o,rfl,h1,_⟩
  ·have hz:((0:Nat):Int)=0:=rfl;refine run_end nR h.hT ?_;simp only [uV,Lz,St.enter,ak,aG,aV];refine ew ?_;refine y8 @hz ?_;exact⟨fun q hq=>kQ hq,by omega⟩
  have hlt:=kX h1;have hz:((0:Nat):Int)=0:=rfl;simp only [aG];refine run_end nR h.hT ?_;simp only [uV,Lz,St.enter,ak,aG,aV];refine ew ?_;refine EN @h1 @hlt @hz ?_;exact⟨fun q hq=>kQ hq,by omega⟩
 obtain⟨r,σ',h1,rfl,h2,h3⟩:=this;exact⟨σ',h1,h2,h3⟩
theorem adr{T:Tb}(h:nT T){as:List Src}{dst:Option Nat}{env:Nat->V}{σ:Store}{kp bs:Nat}{rs ms:List Nat}{k:St->Prop}{neg:Bool}{n o:Nat}
  (h0:jX σ o=some ⟨1,kR (mk n)⟩) (hn:0<n) (ha:(as.map fun s=>s.ev env)=[.bool neg,.lG o 0 (mk n).length]) (hl:(mk n).length<=60)
  (hk:∀σ2:Store,(∀q,q<σ.length->jX σ2 q=jX σ q)->σ.length<=σ2.length->k ⟨oh env dst (.agg [.bool neg,.lG o 0 (mk n).length]),σ2,kp,bs,rs,ms⟩):Qj T 68 as dst ⟨env,σ,kp,bs,rs,ms⟩ k:=by
 have e1:Hl [o] σ=[some ⟨1,kR (mk n)⟩]:=by simp [Hl,h0,I5]
 obtain⟨σ',hr,hold,hlen⟩:=Rh h (neg:=neg) (n:=n) (σ:=Hl [o] σ) (o:=0) (by rw [e1];rfl) hn hl;refine UG (ρ:=[o]) (by simp) (fun q hq=>⟨_,by simp at hq;subst hq;exact h0⟩) ?_ hr (fun q hq=>hold q (by rw [e1];exact hq)) ?_
 ·have:=congrArg (List.map (lD (place [o]))) ha;rw [fG]at this;refine Eq.trans this ?_;simp [lD,place]
 intro σ2 h1 h2;have:=hk σ2 h1 h2;simpa [lD,lD.IC,back]using this
theorem ai6{T:Tb}(h:nT T){as:List Src}{dst:Option Nat}{env:Nat->V}{σ:Store}{kp bs:Nat}{rs ms:List Nat}{k:St->Prop}{neg:Bool}{v:V}{os:List Nat}
  (h0:mJ σ v (ints []) os) (ha:(as.map fun s=>s.ev env)=[.bool neg,v])
  (hk:∀σ2:Store,(∀q,q<σ.length->jX σ2 q=jX σ q)->σ.length<=σ2.length->k ⟨oh env dst (.agg [.bool false,.jZ]),σ2,kp,bs,rs,ms⟩):Qj T 68 as dst ⟨env,σ,kp,bs,rs,ms⟩ k:=by
 rcases h0.zG with ⟨_,rfl,_⟩|⟨o,rfl,h1,_⟩
 ·obtain⟨σ',hr,hold,hlen⟩:=O8 h (neg:=neg) (σ:=Hl [] σ) (v:=.sl 1 []) (os:=[]) nP;refine UG (ρ:=[]) (by simp) (by simp) ?_ hr (fun q hq=>by simp at hq) ?_
  ·have:=congrArg (List.map (lD (place []))) ha;rw [fG]at this;refine Eq.trans this ?_;simp [lD,place]
  intro σ2 h1 h2;have:=hk σ2 h1 h2;simpa [lD,lD.IC,back]using this
 have e1:Hl [o] σ=[some ⟨1,kR []⟩]:=by simp [Hl,h1,I5]
 obtain⟨σ',hr,hold,hlen⟩:=O8 h (neg:=neg) (σ:=Hl [o] σ) (v:=.lG 0 0 ([]:List Int).length) (os:=[0]) (SA (by rw [e1];rfl));refine UG (ρ:=[o]) (by simp) (fun q hq=>⟨_,by simp at hq;subst hq;exact h1⟩) ?_ hr (fun q hq=>hold q (by rw [e1];exact hq)) ?_
 ·have:=congrArg (List.map (lD (place [o]))) ha;rw [fG]at this;refine Eq.trans this ?_;simp [lD,place]
 intro σ2 h1 h2;have:=hk σ2 h1 h2;simpa [lD,lD.IC,back]using this
theorem Ri{T:Tb}(h:xw T){n d:Int}(ln:(mk n.natAbs).length<=60:=by exact tX)(ld:(mk d.natAbs).length<=60:=by exact tX) :
  PO T 144 [Wu (bi n),Wu (bi d)] (kW (Q.raw (RJ n d))):=by
 by_cases hd:d=0
 ·subst hd;have e:RJ n 0=none:=rfl;rw [e];refine lW nR h.hT ?_;simp only [uY,Lz,St.enter,ak,aG,aV];refine ew ?_;have c1:(((mk (0:Int).natAbs).length:Nat):Int)=0:=by
   show (((mk 0).length:Nat):Int)=0;rw [aa8];rfl
  refine y8 @c1 ?_;exact Nr
 rw [abb hd];have hg:0<Nat.gcd n.natAbs d.natAbs:=jy _ (by omega);have cg:=XM h.GU (m:=n.natAbs) (n:=d.natAbs) (by omega) (by omega);have lg:(mk (Nat.gcd n.natAbs d.natAbs)).length<=60:=dw (Nh (Nat.le_of_dvd (by omega) (Nat.gcd_dvd_right _ _))) ld;have l1:=UJ n.natAbs (Nat.gcd n.natAbs d.natAbs);have l2:=UJ d.natAbs (Nat.gcd n.natAbs d.natAbs);have cn:=Z5 h.yL (m:=n.natAbs) hg (by omega) (by omega);have cd:=Z5 h.yL (m:=d.natAbs) hg (by omega) (by omega);have c1:¬(((mk d.natAbs).length:Nat):Int)=0:=by have:=@ai1 d.natAbs;omega
 clear hg lg;generalize n.natAbs / Nat.gcd n.natAbs d.natAbs=u at *;generalize d.natAbs / Nat.gcd n.natAbs d.natAbs=v at *;generalize n.natAbs % Nat.gcd n.natAbs d.natAbs=u2 at *;generalize d.natAbs % Nat.gcd n.natAbs d.natAbs=v2 at *;refine lW (fun x d=>x == 138||x == 68) h.hT ?_;simp only [uY,Lz,St.enter,ak,aG,aV];refine ew ?_;refine y8 @c1 ?_;refine jM cg ?_;refine ew ?_;refine UF cn (by (refine ew ?_;try with_reducible exact aC)) (by (refine ew ?_;try with_reducible exact aC)) ?_;intro vs q1 o1 g;obtain⟨x,x2,rfl,hx2,g⟩:=g.of1;have B0:=g.at 0 (by simp) rfl;have B1:=g.at 1 (by simp) rfl;have B2:=g.at 2 (by simp) rfl;have lq:3<=q1.length:=g.len;have f1:∀o∈o1,3<=o:=g.fresh;have k1:=g.ow;have n1:=g.nd;clear g;refine Du @B0 @B1 @B2 @lq ?_;refine UF cd (by (refine ew ?_;try with_reducible exact aC)) (by (refine ew ?_;try with_reducible exact aC)) ?_;intro vs q2 o2 g;obtain⟨y,y2,rfl,hy2,g⟩:=g.of1
 replace B0:=(g.old 0 (by omega)).trans B0
 replace B1:=(g.old 1 (by omega)).trans B1
 replace B2:=(g.old 2 (by omega)).trans B2
 have lq2:=g.len;have apJ:=k1.lt
 replace k1:=k1.frame (σ':=q2) fun o ho=>g.old o (k1.lt o ho)
 have k2:=g.ow;have n2:=g.nd;have dj:∀o∈o1,∀p∈o2,o≠p:=fun o ho p hp e=>by
  have:=apJ o ho;have:=g.fresh p hp;omega
 have f2:∀o∈o2,3<=o:=fun o ho=>by have:=g.fresh o ho;omega
 replace lq:3<=q2.length:=by omega
 clear g lq2;have e1:=k1.axP;have e2:=k2.axP;have lfy:=k2.leaf rfl;have fcy:=XD lfy;have aCF:(o1++o2).Nodup:=by
  rw [bF];exact⟨n1,n2,dj⟩
 by_cases c2:(24:Int)<((mk u).length:Nat)
 ·refine ew7 @B0 @B1 @B2 @lq @e1 @e2 @c2 ?_;rw [aO (by omega)];exact Nr
 by_cases c3:(24:Int)<((mk v).length:Nat)
 ·refine ew8 @B0 @B1 @B2 @lq @e1 @e2 @c2 @c3 ?_;rw [aO (by omega)];exact Nr
 refine ew8 @B0 @B1 @B2 @lq @e1 @e2 @c2 @c3 ?_;rw [aQ (by omega),<-SQ];have key:=LM (!decide (decide (n<0)=decide (d<0))) u;by_cases hu:u=0
 ·subst hu;rw [mk_zero]at k1;obtain⟨q3,hr,hold,hlen⟩:=O8 h.lU (neg:=!decide (decide (n<0)=decide (d<0))) k1;refine Wv hr rfl hlen (by simp) ?_
  replace B2:=(hold 2 (by omega)).trans B2
  have lq3:3<=q3.length:=by omega
  refine Du @B2 @lq3 @lfy @fcy ?_;rw [SN,mk_zero];have k2':=k2.frame (σ':=q3.set 2 (some ⟨3,[[.bool false,.jZ,y]]⟩)) fun o ho=>by
   have:=f2 o ho;rw [kK (by omega),hold o (k2.lt o ho)]
  refine⟨.agg [.bool false,.sl 1 [],y],o2,?_,Td (o1:=[]) nP k2',n2⟩;simp only [OV,UC,UA,LG,sV,true_and,and_true];exact kM _
 rcases k1.zG with ⟨h1,_,_⟩|⟨o,rfl,h1,_⟩
 ·have:=FC.2 (jQ hu);rw [h1]at this;simp at this
 obtain⟨q3,hr,hold,hlen⟩:=Rh h.lU (neg:=!decide (decide (n<0)=decide (d<0))) h1 (jQ hu) (by omega);refine Wv hr rfl hlen (by simp) ?_
 replace B2:=(hold 2 (by omega)).trans B2
 have lq3:3<=q3.length:=by omega
 refine Du @B2 @lq3 @lfy @fcy ?_;have hb:=congrArg Bi.neg (alq (!decide (decide (n<0)=decide (d<0))) u (jQ hu));have hb:decide (sg (!decide (decide (n<0)=decide (d<0))) u<0) = !decide (decide (n<0)=decide (d<0)):=hb;rw [hb];generalize (!decide (decide (n<0)=decide (d<0)))=ng;have fr:∀p,p∈o1++o2->jX (q3.set 2 (some ⟨3,[[.bool ng,.lG o 0 (mk u).length,y]]⟩)) p=jX q2 p:=fun p hp=>by
  have h3:3<=p/\p<q2.length:=by
   rcases aN.1 hp with hp|hp
   ·exact⟨f1 p hp,k1.lt p hp⟩
   exact⟨f2 p hp,k2.lt p hp⟩
  rw [kK (by omega),hold p h3.2]
 exact wZ (Td (k1.frame fun p hp=>fr p (iw _ hp)) (k2.frame fun p hp=>fr p (eP _ hp))) aCF
theorem Z7{T:Tb}(h:oO T){a b:Q}(ha:a.ok:=by assumption)(hb:b.ok:=by assumption):PO T 131 [kW (Q.raw a),kW (Q.raw b)] (kW (Q.raw (Om a b))):=by
 cases a with
 |
  none =>
  refine lW (fun x d=>x == 144) h.hT ?_;simp only [sF,Lz,St.enter,ak,aG,aV];refine ew ?_;refine jM (zi h.kU) ?_;refine ew ?_;exact Nr
 |
  some q=>cases b with
  |
   none =>
   refine lW (fun x d=>x == 144) h.hT ?_;simp only [sF,Lz,St.enter,ak,aG,aV];refine ew ?_;refine jM (sK h.kU) ?_;refine ew ?_;refine jM (zi h.kU) ?_;refine ew ?_;exact Nr
  |
   some s =>
   obtain⟨l1,l2⟩:=KF ha;obtain⟨l3,l4⟩:=KF hb;have e:Om (some q) (some s)=RJ (q.num*s.den+s.num*q.den) (q.den*s.den):=(aaR q s).symm;rw [e];have t1:=qI q.num s.den;have t2:=qI s.num q.den;have t3:=qI q.den s.den;have t5:=qI q.num s.num;have t4:=JR (q.num*s.den) (s.num*q.den);have n1:(mk (q.den:Int).natAbs).length<=24:=by rw [dB];exact l2
   have n2:(mk (s.den:Int).natAbs).length<=24:=by rw [dB];exact l4
   refine lW (fun x d=>x == 144) h.hT ?_;simp only [sF,Lz,St.enter,ak,aG,aV];refine ew ?_;refine jM (sK h.kU) ?_;refine ew ?_;refine jM (sK h.kU) ?_;refine ew ?_;refine jM (AU h.mQ (q:=s)) ?_;refine ew ?_;refine jM (vP h.nC (x:=q.num) (y:=s.den) (by omega) (by omega)) ?_;refine ew ?_;refine jM (AU h.mQ (q:=q)) ?_;refine ew ?_;refine jM (vP h.nC (x:=s.num) (y:=q.den) (by omega) (by omega)) ?_;refine ew ?_;refine jM (ac8 h.Qr (x:=q.num*s.den) (y:=s.num*q.den) (by omega) (by omega)) ?_;refine ew ?_;refine⟨by unfold rO;decide +kernel,?_⟩;refine jM (AU h.mQ (q:=q)) ?_;refine ew ?_;refine jM (AU h.mQ (q:=s)) ?_;refine ew ?_;refine jM (vP h.nC (x:=q.den) (y:=s.den) (by omega) (by omega)) ?_;refine ew ?_;refine qj (Ri h.tH (n:=q.num*s.den+s.num*q.den) (d:=q.den*s.den) (by omega) (by omega)) (by (refine ew ?_;try with_reducible exact aC)) (by (refine ew ?_;try with_reducible exact aC)) ?_;intro v q os g;have g0:=g;obtain⟨a0,d0,_,_,rfl,_,k1,k2⟩:=g.ow.Na;have B2:=g0.at 2 (by simp) rfl;have lq:3<=q.length:=by have:=g0.len;simp at this;omega
   have la:=k1.leaf rfl;have ld:=k2.leaf rfl;have XO:=ah la ld;have fc:=fun b k=>yK (cs:=[.bool b,a0,d0]) (by simp [la,ld,show ∀b,V.leaf (.bool b)=true from fun _=>rfl]) k;refine Du @B2 @lq @XO @fc ?_;refine⟨by unfold rO;decide +kernel,?_⟩;refine Du @B2 @lq @XO @fc ?_;exact g0.aa3 (by simp)
theorem ai7{T:Tb}(h:qL T){a b:Q}(ha:a.ok:=by assumption)(hb:b.ok:=by assumption):PO T 157 [kW (Q.raw a),kW (Q.raw b)] (kW (Q.raw (VL a b))):=by
 cases a with
 |
  none =>
  refine lW (fun x d=>x == 144) h.hT ?_;simp only [sH,Lz,St.enter,ak,aG,aV];refine ew ?_;refine jM (zi h.kU) ?_;refine ew ?_;exact Nr
 |
  some q=>cases b with
  |
   none =>
   refine lW (fun x d=>x == 144) h.hT ?_;simp only [sH,Lz,St.enter,ak,aG,aV];refine ew ?_;refine jM (sK h.kU) ?_;refine ew ?_;refine jM (zi h.kU) ?_;refine ew ?_;exact Nr
  |
   some s =>
   obtain⟨l1,l2⟩:=KF ha;obtain⟨l3,l4⟩:=KF hb;have e:VL (some q) (some s)=RJ (q.num*s.num) (q.den*s.den):=(aaS q s).symm;rw [e];have t1:=qI q.num s.den;have t2:=qI s.num q.den;have t3:=qI q.den s.den;have t5:=qI q.num s.num;have t4:=JR (q.num*s.den) (s.num*q.den);have n1:(mk (q.den:Int).natAbs).length<=24:=by rw [dB];exact l2
   have n2:(mk (s.den:Int).natAbs).length<=24:=by rw [dB];exact l4
   refine lW (fun x d=>x == 144) h.hT ?_;simp only [sH,Lz,St.enter,ak,aG,aV];refine ew ?_;refine jM (sK h.kU) ?_;refine ew ?_;refine jM (sK h.kU) ?_;refine ew ?_;refine jM (vP h.nC (x:=q.num) (y:=s.num) (by omega) (by omega)) ?_;refine ew ?_;refine jM (AU h.mQ (q:=q)) ?_;refine ew ?_;refine jM (AU h.mQ (q:=s)) ?_;refine ew ?_;refine jM (vP h.nC (x:=q.den) (y:=s.den) (by omega) (by omega)) ?_;refine ew ?_;refine qj (Ri h.tH (n:=q.num*s.num) (d:=q.den*s.den) (by omega) (by omega)) (by (refine ew ?_;try with_reducible exact aC)) (by (refine ew ?_;try with_reducible exact aC)) ?_;intro v q os g;have g0:=g;obtain⟨a0,d0,_,_,rfl,_,k1,k2⟩:=g.ow.Na;have B2:=g0.at 2 (by simp) rfl;have lq:3<=q.length:=by have:=g0.len;simp at this;omega
   have la:=k1.leaf rfl;have ld:=k2.leaf rfl;have XO:=ah la ld;have fc:=fun b k=>yK (cs:=[.bool b,a0,d0]) (by simp [la,ld,show ∀b,V.leaf (.bool b)=true from fun _=>rfl]) k;refine Du @B2 @lq @XO @fc ?_;refine⟨by unfold rO;decide +kernel,?_⟩;refine Du @B2 @lq @XO @fc ?_;exact g0.aa3 (by simp)
theorem ai8{T:Tb}(h:uM T){a b:Q}(ha:a.ok:=by assumption)(hb:b.ok:=by assumption):PO T 156 [kW (Q.raw a),kW (Q.raw b)] (kW (Q.raw (VN a b))):=by
 cases a with
 |
  none =>
  refine lW (fun x d=>x == 144) h.hT ?_;simp only [sJ,Lz,St.enter,ak,aG,aV];refine ew ?_;refine jM (zi h.kU) ?_;refine ew ?_;exact Nr
 |
  some q=>cases b with
  |
   none =>
   refine lW (fun x d=>x == 144) h.hT ?_;simp only [sJ,Lz,St.enter,ak,aG,aV];refine ew ?_;refine jM (sK h.kU) ?_;refine ew ?_;refine jM (zi h.kU) ?_;refine ew ?_;exact Nr
  |
   some s =>
   obtain⟨l1,l2⟩:=KF ha;obtain⟨l3,l4⟩:=KF hb;have e:VN (some q) (some s)=RJ (q.num*s.den) (s.num*q.den):=(aaT q s).symm;rw [e];have t1:=qI q.num s.den;have t2:=qI s.num q.den;have t3:=qI q.den s.den;have t5:=qI q.num s.num;have t4:=JR (q.num*s.den) (s.num*q.den);have n1:(mk (q.den:Int).natAbs).length<=24:=by rw [dB];exact l2
   have n2:(mk (s.den:Int).natAbs).length<=24:=by rw [dB];exact l4
   refine lW (fun x d=>x == 144) h.hT ?_;simp only [sJ,Lz,St.enter,ak,aG,aV];refine ew ?_;refine jM (sK h.kU) ?_;refine ew ?_;refine jM (sK h.kU) ?_;refine ew ?_;refine jM (AU h.mQ (q:=s)) ?_;refine ew ?_;refine jM (vP h.nC (x:=q.num) (y:=s.den) (by omega) (by omega)) ?_;refine ew ?_;refine jM (AU h.mQ (q:=q)) ?_;refine ew ?_;refine jM (vP h.nC (x:=s.num) (y:=q.den) (by omega) (by omega)) ?_;refine ew ?_;refine qj (Ri h.tH (n:=q.num*s.den) (d:=s.num*q.den) (by omega) (by omega)) (by (refine ew ?_;try with_reducible exact aC)) (by (refine ew ?_;try with_reducible exact aC)) ?_;intro v q os g;have g0:=g;obtain⟨a0,d0,_,_,rfl,_,k1,k2⟩:=g.ow.Na;have B2:=g0.at 2 (by simp) rfl;have lq:3<=q.length:=by have:=g0.len;simp at this;omega
   have la:=k1.leaf rfl;have ld:=k2.leaf rfl;have XO:=ah la ld;have fc:=fun b k=>yK (cs:=[.bool b,a0,d0]) (by simp [la,ld,show ∀b,V.leaf (.bool b)=true from fun _=>rfl]) k;refine Du @B2 @lq @XO @fc ?_;refine⟨by unfold rO;decide +kernel,?_⟩;refine Du @B2 @lq @XO @fc ?_;exact g0.aa3 (by simp)
theorem ai9{T:Tb}(h:sG T){a b:Q}(ha:a.ok:=by assumption)(hb:b.ok:=by assumption):PO T 159 [kW (Q.raw a),kW (Q.raw b)] (kW (Q.raw (ae9 a b))):=by
 have hn:=Sv hb;refine lW (fun x d=>x == 131) h.hT ?_;simp only [Bq,Lz,St.enter,ak,aG,aV];refine ew ?_;refine jM (XV h.uK hb) ?_;refine ew ?_;refine qj (Z7 h.lN ha hn) (by (refine ew ?_;try with_reducible exact aC)) (by (refine ew ?_;try with_reducible exact aC)) ?_;intro v q os g;have g0:=g;obtain⟨a0,d0,_,_,rfl,_,k1,k2⟩:=g.ow.Na;have B2:=g0.at 2 (by simp) rfl;have lq:3<=q.length:=by have:=g0.len;simp at this;omega
 have la:=k1.leaf rfl;have ld:=k2.leaf rfl;have XO:=ah la ld;have fc:=fun b k=>yK (cs:=[.bool b,a0,d0]) (by simp [la,ld,show ∀b,V.leaf (.bool b)=true from fun _=>rfl]) k;refine Du @B2 @lq @XO @fc ?_;refine⟨by unfold rO;decide +kernel,?_⟩;refine Du @B2 @lq @XO @fc ?_;exact g0.aa3 (by simp)
theorem FM{T:Tb}(h:oO T){r s:R}(hr:r.cn:=by exact Qu)(hs:s.cn:=by exact Qu):PO T 131 [kW r,kW s] (kW (qm r s)):=by
 have:=Z7 h (a:=r.q) (b:=s.q) (Kt r) (Kt s);rw [hr,hs]at this;exact this
theorem Rj{T:Tb}(h:sG T){r s:R}(hr:r.cn:=by exact Qu)(hs:s.cn:=by exact Qu):PO T 159 [kW r,kW s] (kW (vS r s)):=by
 have:=ai9 h (a:=r.q) (b:=s.q) (Kt r) (Kt s);rw [hr,hs]at this;exact this
theorem Ya{T:Tb}(h:qL T){r s:R}(hr:r.cn:=by exact Qu)(hs:s.cn:=by exact Qu):PO T 157 [kW r,kW s] (kW (mulR r s)):=by
 have:=ai7 h (a:=r.q) (b:=s.q) (Kt r) (Kt s);rw [hr,hs]at this;exact this
theorem Ns{T:Tb}(h:uM T){r s:R}(hr:r.cn:=by exact Qu)(hs:s.cn:=by exact Qu):PO T 156 [kW r,kW s] (kW (uZ r s)):=by
 have:=ai8 h (a:=r.q) (b:=s.q) (Kt r) (Kt s);rw [hr,hs]at this;exact this
theorem ads{T:Tb}(h:Ci T){n:Int}(hn : -1000000000000000000<n/\n<1000000000000000000:=by exact tX):PO T 54 [iv n] (Wu (bi n)):=by
 have hl:(mk n.natAbs).length<=2:=X4 (by omega);by_cases hneg:n<0
 ·have c1:=Nq h.nH (n:=-(n+1)+1) (by omega);rw [show (-(n+1)+1).toNat=n.natAbs by omega]at c1;have e:bi n=⟨true,mk n.natAbs⟩:=by unfold bi;rw [aT hneg]
  rw [e];refine lW (fun x d=>x == 69||x == 68) h.hT ?_;simp only [uj,Lz,St.enter,ak,aG,aV];refine ew ?_;refine y8 @hneg ?_;rw [show (0:Int)-(n+1)+1 = -(n+1)+1 by omega];refine nK c1 (by (refine ew ?_;try with_reducible exact aC)) ?_;intro v q1 o1 g;have B0:=g.at 0 (by simp) rfl;have lq:1<=q1.length:=g.len;have f1:∀o∈o1,1<=o:=g.fresh;have k1:=g.ow;have n1:=g.nd;clear g;refine Af @B0 @lq ?_;rcases k1.zG with ⟨h1,_,_⟩|⟨o,rfl,h1,_⟩
  ·have:=FC.2 (show 0<n.natAbs by omega);rw [h1]at this;simp at this
  refine adr h.lU (neg:=true) h1 (by omega) rfl (by omega) ?_;intro q3 hold hlen
  replace B0:=(hold 0 (by omega)).trans B0
  have lq3:1<=q3.length:=by omega
  refine Af @B0 @lq3 ?_;refine wZ (X9 (k1.frame fun p hp=>?_)) n1;have:=f1 p hp;rw [kK (by omega),hold p (k1.lt p hp)]
 have c1:=Nq h.nH (n:=n) (by omega);rw [show n.toNat=n.natAbs by omega]at c1;have e:bi n=⟨false,mk n.natAbs⟩:=by unfold bi;rw [bI hneg]
 rw [e];refine lW (fun x d=>x == 69||x == 68) h.hT ?_;simp only [uj,Lz,St.enter,ak,aG,aV];refine ew ?_;refine y8 @hneg ?_;refine nK c1 (by (refine ew ?_;try with_reducible exact aC)) ?_;intro v q1 o1 g;have B0:=g.at 0 (by simp) rfl;have lq:1<=q1.length:=g.len;have f1:∀o∈o1,1<=o:=g.fresh;have k1:=g.ow;have n1:=g.nd;clear g;refine Af @B0 @lq ?_;by_cases h0:n.natAbs=0
 ·rw [h0,mk_zero]at k1 ⊢;refine ai6 h.lU (neg:=false) k1 rfl ?_;intro q3 hold hlen
  replace B0:=(hold 0 (by omega)).trans B0
  have lq3:1<=q3.length:=by omega
  refine Af @B0 @lq3 ?_;exact⟨.agg [.bool false,.sl 1 []],[],aa9,X9 (nP),.nil⟩
 rcases k1.zG with ⟨h1,_,_⟩|⟨o,rfl,h1,_⟩
 ·have:=FC.2 (show 0<n.natAbs by omega);rw [h1]at this;simp at this
 refine adr h.lU (neg:=false) h1 (by omega) rfl (by omega) ?_;intro q3 hold hlen
 replace B0:=(hold 0 (by omega)).trans B0
 have lq3:1<=q3.length:=by omega
 refine Af @B0 @lq3 ?_;refine wZ (X9 (k1.frame fun p hp=>?_)) n1;have:=f1 p hp;rw [kK (by omega),hold p (k1.lt p hp)]
theorem qN{T:Tb}(h:nX T){n:Int}(hn : -1000000000000000000<n/\n<1000000000000000000:=by exact tX):PO T 39 [iv n] (kW (kZ n)):=by
 rw [X5];refine lW (fun x d=>x == 54) h.hT ?_;simp only [vU,Lz,St.enter,ak,aG,aV];refine ew ?_;refine nK (ads h.N9 hn) (by (refine ew ?_;try with_reducible exact aC)) ?_;intro v q1 o1 g;obtain⟨v1,rfl,k1⟩:=g.ow.atI;have B0:=g.at 0 (by simp) rfl;have B1:=g.at 1 (by simp) rfl;have lq:2<=q1.length:=g.len;have f1:∀o∈o1,2<=o:=g.fresh;have n1:=g.nd;have la:=k1.leaf rfl;have fc:=fun b k=>yK (cs:=[.bool b,v1]) (by simp [la,show ∀b,V.leaf (.bool b)=true from fun _=>rfl]) k;clear g;refine Jg @B0 @B1 @lq @la @fc ?_;refine wZ (Td (o1:=o1) (o2:=[1]) (k1.frame fun p hp=>?_) (SA (l:=[1]) ?_)) ?_
 ·have:=f1 p hp;rw [kK (by omega),kK (by omega)]
 ·rw [kK (by omega),kT (by omega)];rfl
 rw [bF];refine⟨n1,by simp,fun a ha b hb e=>?_⟩;have:=f1 a ha;simp at hb;omega
def zo:Fn:=⟨2,12,[.cell 4 3 true],(.seq (rf 3 [oN 2 (.box (.t 0)),oK 3 1 (.box (.t 1)),oK 4 2 (.alloc uz)]) (.seq (rt 0 [oN 5 (lT 3 2),oN 6 (lT 3 2),oA 7 0 (cl 201 [5,6]) [0,1],oN 8 (lT 3 3),oN 9 (lT 3 3),oA 10 0 (cl 201 [8,9]) [3,4,2],oA 11 0 (cl 189 [7,10]) [2,5,5],⟨none,none,0,.store 3 (.t 4) (.t 11),[6,6,0,1,2,3,4,5,6]⟩]) .ret))⟩
structure D7 (T:Tb):Prop where
 hT:T 202=some zo
 wL:Bz T
 sO:GZ T
def wR:Fn:=⟨2,12,[.cell 4 3 true],(.seq (rf 3 [oN 2 (.box (.t 0)),oK 3 1 (.box (.t 1)),oK 4 2 (.alloc uz)]) (.seq (rt 0 [oN 5 (lT 3 2),oN 6 (lT 3 2),oA 7 0 (cl 157 [5,6]) [0,1],oN 8 (lT 3 3),oN 9 (lT 3 3),oA 10 0 (cl 157 [8,9]) [3,4,2],oA 11 0 (cl 131 [7,10]) [2,5,5],⟨none,none,0,.store 3 (.t 4) (.t 11),[6,6,0,1,2,3,4,5,6]⟩]) .ret))⟩
structure AV (T:Tb):Prop where
 hT:T 158=some wR
 lN:oO T
 l9:qL T
def pG:Fn:=⟨5,59,[.cell 10 11 true,.tmp 11],(.seq (rf 1 [oN 10 (.alloc Hr),oK 11 1 mF]) (.seq (sr [oW 12 0,oN 13 (cl 34 [12]),oN 14 (nt 13),oW 15 14,oG 15 false 16 (oV 1),oG 15 false 17 (cl 34 [16]),oG 15 false 18 (nt 17),oN 19 (.pick (.t 15) (.c (.bool true)) (.t 18)),oW 20 19,oG 20 false 21 (oV 0),oG 20 false 22 (oV 1),oG 20 false 23 (bt .eql 21 22),oN 24 (.pick (.t 20) (.c (.bool true)) (.t 23)),oW 25 24,oG 25 false 26 (oV 2),oG 25 false 27 (.call 35 [(.t 26),(cI 1),(cI 9999)]),oG 25 false 28 (nt 27),oN 29 (.pick (.t 25) (.c (.bool true)) (.t 28)),oW 30 29,oG 30 false 31 (oV 3),oG 30 false 32 (.call 35 [(.t 31),(cI (-1000000)),(cI 1000000)]),oG 30 false 33 (nt 32),oN 34 (.pick (.t 30) (.c (.bool true)) (.t 33)),oW 35 34,oG 35 false 36 (oV 4),oG 35 false 37 (.call 35 [(.t 36),(cI (-1000000)),(cI 1000000)]),oG 35 false 38 (nt 37),oN 39 (.pick (.t 35) (.c (.bool true)) (.t 38))] (cd 39 (sr [oN 40 (.build Hr []),oS (.store 11 (.t 10) (.t 40)),oN 11 mF] .ret) .skip)) (.seq (sr [oW 41 0,oW 42 1,oN 43 (bt .gtr 41 42)] (cd 43 (rg [oW 44 1,oW 45 0,oW 46 3,oN 47 (.un .neg (.t 46)),oW 48 4,oN 49 (.un .neg (.t 48)),oW 0 44,oW 1 45,oW 3 47,oW 4 49]) .skip)) (sr [oW 50 0,oW 51 1,oW 52 2,oN 53 (cl 36 [52]),oW 54 3,oN 55 (cl 36 [54]),oW 56 4,oN 57 (cl 36 [56]),oN 58 (.build Hr [(0,1,(.t 50)),(1,1,(.t 51)),(2,3,(.t 53)),(5,3,(.t 55)),(8,3,(.t 57))]),oS (.store 11 (.t 10) (.t 58)),oN 11 mT] .ret))))⟩
structure D8 (T:Tb):Prop where
 hT:T 14=some pG
 zO:DT T
 xU:DC T
 mO:vT T
def sqR(x y:R):R:=qm (mulR x x) (mulR y y)
theorem alI(x y:R):(sqR x y).cn:=DK _ _
theorem Yb{T:Tb}(h:AV T){x y:R}(hx:x.cn:=by exact Qu)(hy:y.cn:=by exact Qu):PF T 158 [kW x,kW y] (kW (sqR x y)):=by
 refine kS nR h.hT ?_;simp only [wR,Lz];refine ev ?_;refine jM (vN h.l9 hx hx) ?_;refine ev ?_;refine jM (vN h.l9 hy hy) ?_;refine ev ?_;refine jM (FH h.lN) ?_;refine ev ?_;refine⟨by unfold rO;decide +kernel,?_⟩;exact kM _
theorem Z8{r:R}(h:r.wf:=by
 first|with_reducible assumption|exact uq Qu):r.wf:=h
theorem abk{T:Tb}(h:D7 T){x y:R}(hx:x.wf:=by exact Z8)(hy:y.wf:=by exact Z8):PF T 202 [kW x,kW y] (kW (sqR x y)):=by
 refine kS nR h.hT ?_;simp only [zo,Lz];refine ev ?_;refine jM (Dk h.sO hx hx) ?_;refine ev ?_;refine jM (Dk h.sO hy hy) ?_;refine ev ?_;refine jM (LP h.wL Z8 Z8) ?_;refine ev ?_;refine⟨by unfold rO;decide +kernel,?_⟩;exact kM _
def axQ(l:Lk)(p q:Pt):R:=if pJ l=true then mulR l.w (sqR (vS (vS q.x p.x) l.dx) (vS (vS q.y p.y) l.dy))else R0
theorem Aw{l:Lk}(h:pJ l=true):l.w.ok=true/\l.dx.ok=true/\l.dy.ok=true/\0<wQ l.w:=by
 unfold pJ at h;simp only [aH,bf]at h;exact⟨WA h.1.1.2,h.1.2,h.2,h.1.1.2⟩
theorem Nu{l:Lk}(h:pJ l=true):l.w.cn/\l.dx.cn/\l.dy.cn:=by
 obtain⟨a,b,c,_⟩:=Aw h;exact⟨EO a,EO b,EO c⟩
def aCG(n:Nat)(x:Lk):Bool:=decide (0<=x.a)&&decide (x.a<n)&&(decide (0<=x.b)&&decide (x.b<n))
def teS(l:List Lk)(at':List Pt):Nat->R
 |0=>kZ 0
 |k+1=>qm (teS l at' k) (axQ (l.getD k default) (at'.getD (l.getD k default).a.toNat default) (at'.getD (l.getD k default).b.toNat default))
def teG(l:List Lk)(n:Nat):Bool:=l.all (aCG n)
def atY(l:List Lk)(at':List Pt):Bool:=teG l at'.length&&(teS l at' l.length).ok
def teV(l:List Lk)(at':List Pt):R:=if atY l at'=true then teS l at' l.length else R0
theorem alJ{α:Type} [Inhabited α] {f:α->Prop} {l:List α} (h:Iz f l) {k:Nat} (hk:k<l.length):f (l.getD k default):=by
 refine h.2 _ ?_;rw [aj,au hk];exact jO hk
theorem Ep.renew{s s1 σ2:Store}{cs ts rs trs:List V}{os os2:List Nat}{L:List (Nat×Obj)}(E:Ep s cs ts os L)(h1:∀o,o<s.length->jX s1 o=jX s o)(hl:s.length<=s1.length)(ho:ni σ2 rs trs os2)(hn:os2.Nodup)(hf:∀o∈os2,s1.length<=o)
  (old:∀o,o<s1.length->jX σ2 o=jX s1 o):Ep σ2 rs trs os2 L :=
 ⟨⟨ho,hn⟩,fun q hq=>⟨(old _ (bn (E.lt q hq) hl)).trans ((h1 _ (E.lt q hq)).trans (E.l q hq).1),fun hm=>by have:=hf _ hm;have:=E.lt q hq;omega⟩⟩
def Az:Fn:=⟨0,4,[.cell 0 6 true],(.seq (rf 1 [oN 0 (.alloc zz6)]) (sr [oN 1 (.call 39 [(cI 0)]),oN 2 (.call 39 [(cI 0)]),oN 3 (.build zz6 [(0,3,(.t 1)),(3,3,(.t 2))]),oS (.store 6 (.t 0) (.t 3))] .ret))⟩
structure FN (T:Tb):Prop where
 hT:T 186=some Az
 lC:nX T
def acT(p:Pa)(x d:R):R:=mulR p.share (qm x d)
def acX(c:Cd)(at':List Pt):Nat->R
 |0=>kZ 0
 |k+1=>qm (acX c at' k) (acT (c.ps.getD k default) (at'.getD (c.ps.getD k default).node.toNat default).x (c.ps.getD k default).dx)
def acY(c:Cd)(at':List Pt):Nat->R
 |0=>kZ 0
 |k+1=>qm (acY c at' k) (acT (c.ps.getD k default) (at'.getD (c.ps.getD k default).node.toNat default).y (c.ps.getD k default).dy)
def acG(c:Cd)(n:Nat):Bool:=c.ps.all fun p=>decide (p.node<n)
def adt(c:Cd)(at':List Pt):Bool:=zB c&&(acG c at'.length&&((acX c at' c.ps.length).ok&&(acY c at' c.ps.length).ok))
def acV(c:Cd)(at':List Pt):Pt:=if adt c at'=true then⟨acX c at' c.ps.length,acY c at' c.ps.length⟩else⟨R0,R0⟩
theorem alK{c:Cd}{n:Nat}(h:∀k,k<c.ps.length->(c.ps.getD k default).node<n):acG c n=true:=by
 unfold acG;rw [aX];intro x hx;obtain⟨k,hk⟩:=bQ.1 hx;have:=h k (aP.1 hk).1;rw [aj,hk]at this;exact aT this
section
variable {s s1 σ2 : Store} {a b ta tb rs trs : List V} {os os2 : List Nat} {L : List (Nat × Obj)}
end
theorem Ep.sub{s:Store}{cs ts:List V}{os:List Nat}{L L':List (Nat×Obj)}(E:Ep s cs ts os L)(h:∀q∈L',q∈L):Ep s cs ts os L':=⟨E.c,fun q hq=>E.l q (h q hq)⟩
theorem Tf{T:Tb}(h:FN T):PO T 186 [] (ptV ⟨kZ 0,kZ 0⟩):=by
 refine lW (fun x d=>x == 39) h.hT ?_;simp only [Az,Lz,St.enter,ak,aG,aV];refine ew ?_;refine nK (qN h.lC (n:=0)) (by (refine ew ?_;try with_reducible exact aC)) ?_;intro r q1 o1 G;have gl:1<=q1.length:=by simpa using G.len
 obtain⟨_,rfl,Yc⟩:=G.ow.lJ;obtain⟨x1,x2,rfl⟩:=Yc.rat
 have E:Ep [some ⟨6,[[.bool false,.jZ,.jZ,.bool false,.jZ,.jZ]]⟩] [] [] [] [(0,⟨6,[[.bool false,.jZ,.jZ,.bool false,.jZ,.jZ]]⟩)]:=⟨aa0,by simp [jX]⟩;have E1:=E.got (fun q hq=>rfl) (aK _) Yc G.nd G.fresh G.old;clear G E;refine ew ?_;refine nK (qN h.lC (n:=0)) (by (refine ew ?_;try with_reducible exact aC)) ?_;intro r q2 o2 G;have gl2:q1.length<=q2.length:=G.len;obtain⟨_,rfl,hQ2⟩:=G.ow.lJ;obtain⟨x3,x4,rfl⟩:=hQ2.rat
 have E2:=E1.got (fun q hq=>rfl) (aK _) hQ2 G.nd G.fresh G.old;clear G E1;have E:Ep q2 [.bool (kZ 0).neg,x1,x2,.bool (kZ 0).neg,x3,x4] [.bool (kZ 0).neg,ints (kZ 0).mag,ints (kZ 0).den,.bool (kZ 0).neg,ints (kZ 0).mag,ints (kZ 0).den] _ [(0,⟨6,[[.bool false,.jZ,.jZ,.bool false,.jZ,.jZ]]⟩)]:=E2;clear E2;have L0:=E.at0 (p:=0) (ob:=⟨6,[[.bool false,.jZ,.jZ,.bool false,.jZ,.jZ]]⟩) (by simp);have LF:=ah (ah (E.leaf 1 rfl rfl) (E.leaf 2 rfl rfl)) (ah (E.leaf 4 rfl rfl) (E.leaf 5 rfl rfl));refine Af @L0 @LF ?_;have n0:=(E.l (0,⟨6,[[.bool false,.jZ,.jZ,.bool false,.jZ,.jZ]]⟩) (by simp)).2;have C:=E.c.set (o:=0) (x:=some ⟨6,[[.bool (kZ 0).neg,x1,x2,.bool (kZ 0).neg,x3,x4]]⟩) n0;exact wZ (qV C.ow) C.nd
section
variable {s s1 S σ2 : Store} {a b c ta tb tc rs trs cs ts : List V} {os os2 : List Nat} {L L' : List (Nat × Obj)}
theorem Ep.to(E:Ep s cs ts os L)(ho:∀o∈os,jX S o=jX s o)(hL:∀q∈L',(q∈L/\jX S q.1=jX s q.1)\/(jX S q.1=some q.2/\q.1∉os)):Ep S cs ts os L':=by
 refine⟨E.c.frame ho,fun q hq=>?_⟩;rcases hL q hq with ⟨h1,h2⟩|h
 ·exact⟨h2.trans (E.l q h1).1,(E.l q h1).2⟩
 exact h
theorem Ep.adu(E:Ep s cs ts os L):∀o∈os,o<s.length:=fun o h=>E.c.lt o h
theorem Ep.atZ(E:Ep s (a++(b++c)) (ta++(tb++tc)) os L)(hla:a.length=ta.length)(hlb:b.length=tb.length)(h1:∀o,o<s.length->jX s1 o=jX s o)(hl:s.length<=s1.length)(ho:ni σ2 rs trs os2)(hn:os2.Nodup)(hf:∀o∈os2,s1.length<=o)
  (old:∀o,o<s1.length->jX σ2 o=jX s1 o):∃os',Ep σ2 (a++(rs++c)) (ta++(trs++tc)) os' L/\∀o∈os',o∈os\/s1.length<=o:=by
 obtain⟨a1,a2,oa,obc,e,rfl,k1,k2⟩:=pF E.c.ow;obtain⟨rfl,rfl⟩:=fJ e (by rw [hla];exact k1.len.symm);obtain⟨b1,b2,ob,oc,e,rfl,k3,k4⟩:=pF k2;obtain⟨rfl,rfl⟩:=fJ e (by rw [hlb];exact k3.len.symm);have hlt:=fun o (h:o∈oa++(ob++oc))=>E.c.lt o h;have nd:=bF.1 E.c.nd;have nd2:=bF.1 nd.2.1;have fr:∀o∈oa++(ob++oc),jX σ2 o=jX s o:=fun o h=>by
  have:=hlt o h;rw [old o (by omega),h1 o this]
 refine⟨oa++(os2++oc),⟨⟨nG (k1.frame fun o h=>fr o (by simp [h])) (nG ho (k4.frame fun o h=>fr o (by simp [h]))),?_⟩,fun q hq=>⟨(old _ (bn (E.lt q hq) hl)).trans ((h1 _ (E.lt q hq)).trans (E.l q hq).1),fun hm=>?_⟩⟩,fun o h=>?_⟩
 ·rw [bF,bF];refine⟨nd.1,⟨hn,nd2.2.1,fun x hx y hy e=>?_⟩,fun x hx y hy e=>?_⟩
  ·have:=hf x hx;have:=hlt y (by simp [hy]);omega
  rcases aN.1 hy with hy|hy
  ·have:=hf y hy;have:=hlt x (by simp [hx]);omega
  exact nd.2.2 x hx y (eP _ hy) e
 ·simp only [aN]at hm;rcases hm with hm|hm|hm
  ·exact(E.l q hq).2 (by simp [hm])
  ·have:=hf _ hm;have:=E.lt q hq;omega
  exact(E.l q hq).2 (by simp [hm])
 simp only [aN]at h;rcases h with h|h|h
 ·exact .inl (by simp [h])
 ·exact .inr (hf o h)
 exact .inl (by simp [h])
theorem Ep.upd{p:Nat}{ob ob0:Obj}(E:Ep s (a++(b++c)) (ta++(tb++tc)) os L)(hp:(p,ob0)∈L)(hla:a.length=ta.length)(hlb:b.length=tb.length)(h1:∀o,o<s.length->jX s1 o=jX s o)(hl:s.length<=s1.length)(ho:ni σ2 rs trs os2)(hn:os2.Nodup)(hf:∀o∈os2,s1.length<=o)
  (old:∀o,o<s1.length->jX σ2 o=jX s1 o) (hL:∀q∈L',(q.1≠p/\q∈L)\/q=(p,ob)) (hs:s1.length<=σ2.length):∃os',Ep (σ2.set p (some ob)) (a++(rs++c)) (ta++(trs++tc)) os' L':=by
 obtain⟨os',E2,_⟩:=E.atZ hla hlb h1 hl ho hn hf old;have hpl:=E.lt _ hp;exact⟨os',E2.SC (E2.l _ hp).2 (by dsimp only at hpl;omega) hL⟩
theorem Ep.cut(E:Ep s (a++(b++c)) (ta++(tb++tc)) os L)(hla:a.length=ta.length)(hlb:b.length=tb.length):∃os',Ep s (a++c) (ta++tc) os' L/\∀o∈os',o∈os:=by
 obtain⟨a1,a2,oa,obc,e,rfl,k1,k2⟩:=pF E.c.ow;obtain⟨rfl,rfl⟩:=fJ e (by rw [hla];exact k1.len.symm);obtain⟨b1,b2,ob,oc,e,rfl,k3,k4⟩:=pF k2;obtain⟨rfl,rfl⟩:=fJ e (by rw [hlb];exact k3.len.symm);have nd:=bF.1 E.c.nd;have nd2:=bF.1 nd.2.1;refine⟨oa++oc,⟨⟨nG k1 k4,?_⟩,fun q hq=>⟨(E.l q hq).1,fun hm=>(E.l q hq).2 ?_⟩⟩,fun o h=>?_⟩
 ·rw [bF];exact⟨nd.1,nd2.2.1,fun x hx y hy e=>nd.2.2 x hx y (eP _ hy) e⟩
 ·rcases aN.1 hm with h|h<;>simp [h]
 rcases aN.1 h with h|h<;>simp [h]
theorem Ep.swap(E:Ep s (a++(b++c)) (ta++(tb++tc)) os L)(hla:a.length=ta.length)(hlb:b.length=tb.length):∃os',Ep s (b++(a++c)) (tb++(ta++tc)) os' L/\∀o,o∈os'↔o∈os:=by
 obtain⟨a1,a2,oa,obc,e,rfl,k1,k2⟩:=pF E.c.ow;obtain⟨rfl,rfl⟩:=fJ e (by rw [hla];exact k1.len.symm);obtain⟨b1,b2,ob,oc,e,rfl,k3,k4⟩:=pF k2;obtain⟨rfl,rfl⟩:=fJ e (by rw [hlb];exact k3.len.symm);have nd:=bF.1 E.c.nd;have nd2:=bF.1 nd.2.1;have hm:∀o,o∈ob++(oa++oc)↔o∈oa++(ob++oc):=fun o=>by simp only [aN];constructor<;>rintro(h|h|h)<;>simp [h]
 refine⟨ob++(oa++oc),⟨⟨nG k3 (nG k1 k4),?_⟩,fun q hq=>⟨(E.l q hq).1,fun h=>(E.l q hq).2 ((hm _).1 h)⟩⟩,hm⟩;rw [bF,bF];refine⟨nd2.1,⟨nd.1,nd2.2.1,fun x hx y hy e=>nd.2.2 x hx y (eP _ hy) e⟩,fun x hx y hy e=>?_⟩;rcases aN.1 hy with hy|hy
 ·exact nd.2.2 y hy x (iw _ hx) e.symm
 exact nd2.2.2 x hx y hy e
theorem Ep.arh{d td:List V}(E:Ep s (d++(a++(b++c))) (td++(ta++(tb++tc))) os L)(hld:d.length=td.length)(hla:a.length=ta.length)(hlb:b.length=tb.length):∃os',Ep s (d++(b++(a++c))) (td++(tb++(ta++tc))) os' L/\∀o,o∈os'↔o∈os:=by
 obtain⟨d1,d2,od,or,e,rfl,k1,k2⟩:=pF E.c.ow;obtain⟨rfl,rfl⟩:=fJ e (by rw [hld];exact k1.len.symm);have nd:=bF.1 E.c.nd;have E2:Ep s (a++(b++c)) (ta++(tb++tc)) or []:=⟨⟨k2,nd.2.1⟩,by simp⟩;obtain⟨os',E3,hm⟩:=E2.swap hla hlb;have hmm:∀o,o∈od++os'↔o∈od++or:=fun o=>by simp only [aN,hm]
 refine⟨od++os',⟨⟨nG k1 E3.c.ow,?_⟩,fun q hq=>⟨(E.l q hq).1,fun h=>(E.l q hq).2 ((hmm _).1 h)⟩⟩,hmm⟩;rw [bF];exact⟨nd.1,E3.c.nd,fun x hx y hy e=>nd.2.2 x hx y ((hm y).1 hy) e⟩
end
theorem adv{σ:Store}{k:Nat}:∀{A T:List (List V)} {os:List Nat},(∀r∈A,r.length=k)->(∀r∈T,r.length=k)->A.length=T.length->ni σ A.flatten T.flatten os->rZ σ A T os
 |
  [],[],os,_,_,_,h=>by
  simp only [List.flatten_nil,ni]at h;simp only [rZ];exact h
 | [],t::T,_,_,_,h,_=>by simp at h
 |a::A,[],_,_,_,h,_=>by simp at h
 |
  a::A,t::T,os,ha,ht,hl,h=>by
  simp only [gJ]at h;obtain⟨v1,v2,o1,o2,e,rfl,h1,h2⟩:=pF h;have hlen:=h1.len;have e1:=ha a (by simp);have e2:=ht t (by simp);obtain⟨rfl,rfl⟩:=fJ e (by omega);simp only [rZ];exact⟨a,A,o1,o2,rfl,rfl,h1,adv (fun r hr=>ha r (by simp [hr])) (fun r hr=>ht r (by simp [hr])) (by simpa using hl) h2⟩
section
variable {s : Store} {A T : List (List V)} {a c ta tc : List V} {os : List Nat} {L : List (Nat × Obj)} {n p k : Nat}
theorem Ep.close(E:Ep s (A.flatten++c) (T.flatten++tc) os L)(hp:(p,⟨n,A⟩)∈L)(ha:∀r∈A,r.length=k)(ht:∀r∈T,r.length=k)(hl:A.length=T.length) :
  ∃os',Ep s (.lG p 0 A.length::c) (.sl n T::tc) os' (L.filter fun q=>q.1 != p):=by
 have hfl:A.flatten.length=T.flatten.length:=by
  have e1:∀(X:List (List V)),(∀r∈X,r.length=k)->X.flatten.length=X.length*k:=fun X=>by
   induction X with
   |nil=>intro _;simp
   |
    cons x X ih =>
    intro h;rw [gJ,aS,ih fun r hr=>h r (by simp [hr]),h x (by simp),ak,eH];omega
  rw [e1 A ha,e1 T ht,hl]
 obtain⟨v1,v2,o1,o2,e,rfl,h1,h2⟩:=pF E.c.ow;obtain⟨rfl,rfl⟩:=fJ e (by rw [hfl];exact h1.len.symm);have hR:=adv ha ht hl h1;have hpo:=E.l _ hp;have nd:=bF.1 E.c.nd;have hv:mJ s (.lG p 0 A.length) (.sl n T) (p::o1):=by
  simp only [mJ];exact .inr ⟨p,A,o1,by rw [hl],hpo.1,rfl,hR⟩
 refine⟨(p::o1)++o2,⟨⟨qJ hv h2,?_⟩,fun q hq=>?_⟩⟩
 ·simp only [dL,dX];exact⟨hpo.2,E.c.nd⟩
 obtain⟨hq1,hq2⟩:=eU.1 hq;have hne:q.1≠p:=by simpa using hq2
 refine⟨(E.l q hq1).1,fun hm=>?_⟩;simp only [dL,aI]at hm;rcases hm with hm|hm
 ·exact hne hm
 exact(E.l q hq1).2 hm
theorem Ep.abl(E:Ep s (A.flatten++c) (T.flatten++tc) os L)(hp:(p,⟨n,A⟩)∈L)(ha:∀r∈A,r.length=k)(ht:∀r∈T,r.length=k)(hl:A.length=T.length)(m:Nat)(hd:nO m (.sl n T)):resolve s m (.lG p 0 A.length)=some (.sl n T):=by
 obtain⟨os',E2⟩:=E.close hp ha ht hl;obtain⟨v,vs,o1,o2,e,_,h1,h2⟩:=E2.c.ow.inv;simp only [jH]at e;obtain⟨rfl,rfl⟩:=e;exact OW m h1 hd
end
def D9:Fn:=⟨1,15,[.tmp 2],(sr [oN 2 mF] (.seq (sr [oW 5 0,oN 6 (ln 5),oN 7 (.qw (cI 0))] (.block 0 (.loop (sr [oN 8 (bt .lss 7 6)] (.seq (cd 8 .skip (.exit 0)) (.seq (.block 1 (.seq (rf 1 [oK 9 1 (ix 3 5 7),oK 10 1 (lT 3 9),oN 4 (.alloc uz),⟨none,none,1,.store 3 (.t 4) (.t 10),[]⟩]) (sr [oN 11 (lT 3 4),oN 12 (cl 132 [11]),oN 13 (nt 12)] (cd 13 (sr [oN 2 mF] .ret) .skip)))) (rg [oN 14 (bc .add 7 1),oW 7 14]))))))) (sr [oN 2 mT] .ret)))⟩
structure xE (T:Tb):Prop where
 hT:T 244=some D9
 kU:pW T
def pV:Fn:=⟨1,88,[.tmp 2,.tmp 3],(sr [oN 2 mN,oN 3 mN] (.seq (sr [oW 12 0,oN 13 (cl 89 [12]),oN 14 (nt 13)] (cd 14 (sr [oN 2 mN,oN 3 mN] .ret) .skip)) (.seq (rf 1 [oN 15 (.nM 3 uz 0 []),oK 4 1 (oV 15)]) (.seq (rf 1 [oN 16 (.nM 3 uz 0 []),oK 5 1 (oV 16)]) (.seq (sr [oW 17 0,oN 18 (cl 180 [17]),oN 19 (ln 18),oN 20 (.qw (cI 0))] (.block 0 (.loop (sr [oN 21 (bt .lss 20 19)] (.seq (cd 21 .skip (.exit 0)) (.seq (.block 1 (sr [oN 22 (ix 1 18 20),oN 23 (lF 1 22),oW 7 23] (.seq (rf 1 [oK 24 1 (.call 39 [(cI 0)]),oN 8 (.alloc uz),⟨none,none,1,.store 3 (.t 8) (.t 24),[]⟩]) (.seq (rf 1 [oK 25 1 (.call 39 [(cI 0)]),oN 9 (.alloc uz),⟨none,none,1,.store 3 (.t 9) (.t 25),[]⟩]) (.seq (sr [oW 26 0,oN 27 (ln 26),oN 28 (.qw (cI 0))] (.block 2 (.loop (sr [oN 29 (bt .lss 28 27)] (.seq (cd 29 .skip (.exit 2)) (.seq (.block 3 (.seq (rf 1 [oK 30 1 (ix 11 26 28),oK 31 1 (lT 11 30),oN 11 (.alloc Hr),⟨none,none,1,.store 11 (.t 11) (.t 31),[]⟩]) (sr [oN 32 (fd 1 11),oN 33 (lF 1 32),oW 34 7,oN 35 (bt .eql 33 34)] (cd 35 (.seq (rt 0 [oN 36 (lT 3 8),oN 37 (fd 2 11),oA 38 0 (lT 3 37) [1],oN 39 (fd 5 11),oA 40 0 (lT 3 39) [3],oA 41 0 (cl 157 [38,40]) [2,4],oA 42 0 (cl 131 [36,41]) [0,5,5],⟨none,none,0,.store 3 (.t 8) (.t 42),[6,6,0,1,2,3,4,5,6]⟩]) (rt 0 [oN 43 (lT 3 9),oN 44 (fd 2 11),oA 45 0 (lT 3 44) [1],oN 46 (fd 8 11),oA 47 0 (lT 3 46) [3],oA 48 0 (cl 157 [45,47]) [2,4],oA 49 0 (cl 131 [43,48]) [0,5,5],⟨none,none,0,.store 3 (.t 9) (.t 49),[6,6,0,1,2,3,4,5,6]⟩])) (sr [oN 50 (fd 0 11),oN 51 (lF 1 50),oW 52 7,oN 53 (bt .eql 51 52)] (cd 53 (.seq (rt 0 [oN 54 (lT 3 8),oN 55 (fd 2 11),oA 56 0 (lT 3 55) [1],oN 57 (fd 5 11),oA 58 0 (lT 3 57) [3],oA 59 0 (cl 157 [56,58]) [2,4],oA 60 0 (cl 159 [54,59]) [0,5,5],⟨none,none,0,.store 3 (.t 8) (.t 60),[6,6,0,1,2,3,4,5,6]⟩]) (rt 0 [oN 61 (lT 3 9),oN 62 (fd 2 11),oA 63 0 (lT 3 62) [1],oN 64 (fd 8 11),oA 65 0 (lT 3 64) [3],oA 66 0 (cl 157 [63,65]) [2,4],oA 67 0 (cl 159 [61,66]) [0,5,5],⟨none,none,0,.store 3 (.t 9) (.t 67),[6,6,0,1,2,3,4,5,6]⟩])) .skip)))))) (rg [oN 68 (bc .add 28 1),oW 28 68]))))))) (.seq (rf 2 [oK 69 2 (oV 4),oK 70 2 (lT 3 8),oN 71 (.nM 3 uz 1 [(0,(.t 70))]),oK 72 1 (.app 3 56 (.t 69) (.t 71)),oK 4 2 (oV 72)]) (rf 2 [oK 73 2 (oV 5),oK 74 2 (lT 3 9),oN 75 (.nM 3 uz 1 [(0,(.t 74))]),oK 76 1 (.app 3 56 (.t 73) (.t 75)),oK 5 2 (oV 76)]))))))) (rg [oN 77 (bc .add 20 1),oW 20 77]))))))) (.seq (sr [oW 78 4,oN 79 (cl 244 [78]),oN 80 (nt 79),oW 81 80,oG 81 false 82 (oV 5),oG 81 false 83 (cl 244 [82]),oG 81 false 84 (nt 83),oN 85 (.pick (.t 81) (.c (.bool true)) (.t 84))] (cd 85 (sr [oN 2 mN,oN 3 mN] .ret) .skip)) (sr [oW 86 4,oW 87 5,oW 2 86,oW 3 87] .ret)))))))⟩
structure vK (T:Tb):Prop where
 hT:T 276=some pV
 lC:nX T
 pK:rU T
 lN:oO T
 l9:qL T
 qO:sG T
 vk:xC T
 tJ:xE T
def Rk(v:Int)(p:R×R)(l:Lk):R×R :=
 if l.b=v then(qm p.1 (mulR l.w l.dx),qm p.2 (mulR l.w l.dy))
 else if l.a=v then(vS p.1 (mulR l.w l.dx),vS p.2 (mulR l.w l.dy))else p
def EH(s:List Lk)(v:Int):Nat->R×R
 |0=>(kZ 0,kZ 0)
 |k+1=>Rk v (EH s v k) (s.getD k default)
theorem UU(s:List Lk)(v:Int):∀k,(EH s v k).1.cn/\(EH s v k).2.cn
 |0=>⟨zl (by decide),zl (by decide)⟩
 |
  k+1=>by
  have:=UU s v k;simp only [EH];unfold Rk;split
  ·exact⟨DK _ _,DK _ _⟩
  split
  ·exact⟨JW _ _,JW _ _⟩
  exact this
def ivG(s:List Lk):Bool:=(kC s).all fun v=>(EH s v s.length).1.ok&&(EH s v s.length).2.ok
def Rl(s:List Lk):List R:=if ivG s=true then(kC s).map fun v=>(EH s v s.length).1 else []
def Rn(s:List Lk):List R:=if ivG s=true then(kC s).map fun v=>(EH s v s.length).2 else []
theorem abm(s:List Lk):((∀r∈Rl s,r.cn)/\(Rl s).length<=10)/\((∀r∈Rn s,r.cn)/\(Rn s).length<=10):=by
 have hn:=zU s;refine⟨?_,?_⟩
 ·unfold Rl;split
  ·refine⟨fun r hr=>?_,by simpa using hn⟩;obtain⟨v,_,rfl⟩:=bC.1 hr;exact(UU s v _).1
  simp
 unfold Rn;split
 ·refine⟨fun r hr=>?_,by simpa using hn⟩;obtain⟨v,_,rfl⟩:=bC.1 hr;exact(UU s v _).2
 simp
theorem apL{s:List Lk}(h:ivG s=false):Rl s=[]/\Rn s=[]:=by
 unfold Rl Rn;rw [h];exact⟨rfl,rfl⟩
theorem alL{s:List Lk}(h:ivG s=true):Rl s=(kC s).map (fun v=>(EH s v s.length).1)/\Rn s=(kC s).map (fun v=>(EH s v s.length).2):=⟨aQ h,aQ h⟩
theorem alM{l:List R}(h:∀r∈l,r.cn)(hl:l.length<=100):Iz R.wf l:=⟨by omega,fun x hx=>uq (h x hx)⟩
theorem LU{T:Tb}(h:xE T){l:List R}(hc:∀r∈l,r.cn)(hl:l.length<=1048576):PF T 244 [oZ l] (.bool (l.all R.ok)):=by
 refine lQ nR h.hT ?_;simp only [D9,Lz];refine ev ?_;refine kV (fun _ _=>false) (α:=Nat) (fun i=>⟨mM [oZ l,.any,.any,.any,.any,oZ l,iv (l.length:Nat),iv (i:Nat)],[],0,0,[],[]⟩) (fun i=>i<=l.length/\∀k,k<i->(l.getD k default).ok=true) (fun i=>l.length-i) rfl 0 ?_ ?_ ?_
 ·exact⟨by omega,by intro k hk;omega⟩
 ·(refine kN ?_;exact MG)
 rintro i ⟨hi,hg⟩;by_cases hcc:(i:Int)<(l.length:Nat)
 ·have hil:i<l.length:=by omega
  have hmx:(l.map R.cells).getD i []=(l.getD i default).cells:=mg hil;have hmem:=getD_mem (l:=l) hil;have hgs:(l.getD i default).ok=true->∀k,k<i+1->(l.getD k default).ok=true:=fun h k hk=>by
   by_cases e:k=i
   ·subst e;exact h
   exact hg k (by omega)
  generalize l.getD i default=x at hmx hmem hgs;have cg:=P5 h.kU (hc x hmem)
  cases hx:x.ok
  ·have ha:l.all R.ok=false:=List.all_eq_false.2 ⟨x,hmem,by rw [hx];simp⟩;rw [hx]at cg;rw [ha];refine zf @hcc @hmx ?_;refine jM cg ?_
   (refine ev ?_;try with_reducible exact aC)
  rw [hx]at cg;refine zf @hcc @hmx ?_;refine jM cg ?_;refine ev ?_;exact⟨i+1,by omega,⟨by omega,hgs hx⟩,by exact atO⟩
 have ha:l.all R.ok=true:=aX.2 fun x hx=>by
  obtain⟨k,hk⟩:=bQ.1 hx;have:=hg k (by have:=(aP.1 hk).1;omega);rw [aj,hk]at this;exact this
 rw [ha]
 (refine ev1 @hcc ?_;try with_reducible exact aC)
def Rs2(v w:V)(A B:List (List V))(M:List (Nat×Obj)):Prop :=
 (A=[]/\B=[]/\v=.jZ/\w=.jZ/\M=[])\/∃p q,p≠q/\v=.lG p 0 A.length/\w=.lG q 0 B.length/\M=[(p,⟨3,A⟩),(q,⟨3,B⟩)]
def rT(l:List R):List V:=(l.map R.cells).flatten
theorem afF(l:List R)(r:R):rT (l++[r])=rT l++r.cells:=by simp [rT]
theorem flat3:∀{A:List (List V)},(∀r∈A,r.length=3)->A.flatten.length=3*A.length
 | [],_=>rfl
 |
  a::A,h=>by
  rw [gJ,aS,flat3 fun r hr=>h r (by simp [hr]),h a (by simp),ak];omega
theorem afG(l:List R):(rT l).length=3*l.length:=by
 unfold rT;rw [flat3 (fun r hr=>by obtain⟨x,_,rfl⟩:=bC.1 hr;rfl),aU]
theorem Ep.aCJ{s:Store}{a b x y ta tb tx ty:List V}{os:List Nat}{L:List (Nat×Obj)}(E:Ep s (x++(y++(a++b))) (tx++(ty++(ta++tb))) os L)(hx:x.length=tx.length)(hy:y.length=ty.length)(ha:a.length=ta.length)(hb:b.length=tb.length) :
  ∃os',Ep s ((a++x)++(b++y)) ((ta++tx)++(tb++ty)) os' L/\∀o,o∈os'↔o∈os:=by
 obtain⟨o1,E1,h1⟩:=E.arh hx hy ha;obtain⟨o2,E2,h2⟩:=E1.swap hx ha;have E2':Ep s ((a++x)++(y++(b++[]))) ((ta++tx)++(ty++(tb++[]))) o2 L:=by simpa only [cO,aW]using E2
 obtain⟨o3,E3,h3⟩:=E2'.arh (by simp [hx,ha]) hy hb;exact⟨o3,by simpa only [cO,aW]using E3,fun o=>(h3 o).trans ((h2 o).trans (h1 o))⟩
theorem PF.axT{T:Tb}{f n:Nat}{r:V}(h:PF T f [.sl n []] r):PF T f [.jZ] r :=
 .aau (by simp [wS,mP]) h (kM _)
theorem abn{σ:Store}{n m:Nat}:Fin σ (.oJ [.jZ,.jZ]) (.oJ [.sl n [],.sl m []]) :=
 ⟨.oJ [.sl n [],.sl m []],[],by simp only [mP,wS];exact⟨_,rfl,_,_,rfl,iV (by simp),_,_,rfl,iV (by simp),rfl⟩,JO (qJ (o1:=[]) (by simp [mJ]) (qJ (o1:=[]) (by simp [mJ]) qB)),.nil⟩
theorem Nv{T:Tb}(h:vK T){S:List Lk}(hw:Iz Lk.wf S)(hl:S.length<=1048576):PO T 276 [nY S] (.oJ [oZ (Rl S),oZ (Rn S)]):=by
 have ci:=DX h.pK hw
 cases h1:lI S
 ·rw [h1]at ci;have:Rl S=[]/\Rn S=[]:=by
   unfold Rl Rn;rw [adn h1];simp
  rw [this.1,this.2];refine lW nR h.hT ?_;simp only [pV,Lz,St.enter,ak,aG,aV];refine ew ?_;refine jM ci ?_;refine ew ?_;exact abn
 rw [h1]at ci;have cn:=(JZ h.vk (l:=S) hw).Wn (kJ _ _);rw [<-Hy h1]at cn;have hnl:=zU S;have afH:=fun a=>vC (l:=S) (a:=a);refine lW (fun x d=>(x == 39&&d == 24)||(x == 39&&d == 25)||(x == 131&&d == 42)||(x == 131&&d == 49)||(x == 159&&d == 60)||(x == 159&&d == 67)) h.hT ?_;simp only [pV,Lz,St.enter,ak,aG,aV];refine ew ?_;refine jM ci ?_;refine ew ?_;refine jM cn ?_;refine ew ?_;refine kV (fun x d=>(x == 39&&d == 24)||(x == 39&&d == 25)||(x == 131&&d == 42)||(x == 131&&d == 49)||(x == 159&&d == 60)||(x == 159&&d == 67)) (α:=Nat×Store×V×V×List (List V)×List (List V)×List Nat×List (Nat×Obj)) (fun q=>⟨mM [nY S,.any,.any,.any,q.2.2.1,q.2.2.2.1,.any,.any,.any,.any,.any,.any,.any,.any,.any,.any,.any,.any,ints (kC S),iv ((kC S).length:Nat),iv (q.1:Nat)],q.2.1,0,0,[],[]⟩) (fun q=>(q.1<=(kC S).length/\Rs2 q.2.2.1 q.2.2.2.1 q.2.2.2.2.1 q.2.2.2.2.2.1 q.2.2.2.2.2.2.2/\(∀r∈q.2.2.2.2.1,r.length=3)/\(∀r∈q.2.2.2.2.2.1,r.length=3)/\q.2.2.2.2.1.length=q.1/\q.2.2.2.2.2.1.length=q.1)/\Ep q.2.1 (q.2.2.2.2.1.flatten++q.2.2.2.2.2.1.flatten) (rT (((kC S).take q.1).map fun v=>(EH S v S.length).1)++rT (((kC S).take q.1).map fun v=>(EH S v S.length).2)) q.2.2.2.2.2.2.1 q.2.2.2.2.2.2.2) (fun q=>(kC S).length-q.1) rfl (0,[none,none],.jZ,.jZ,[],[],[],[]) ?_ ?_ ?_
 ·exact⟨⟨by omega,.inl ⟨rfl,rfl,rfl,rfl,rfl⟩,by simp,by simp,rfl,rfl⟩,⟨⟨by simp [rT,ni],.nil⟩,by simp⟩⟩
 ·(refine kN ?_;exact uT)
 rintro⟨i,s,v4,v5,A,B,os,M⟩ ⟨⟨hi,hvv,hA,hB,hAl,hBl⟩,E⟩;dsimp only at hi hvv hA hB hAl hBl E;by_cases hc:(i:Int)<((kC S).length:Nat)
 ·have hil:i<(kC S).length:=by omega
  have et:(kC S).take (i+1)=(kC S).take i++[(kC S).getD i 0]:=by
   rw [jf,au hil,aj,au hil];rfl
  generalize hv:(kC S).getD i 0=v at et;generalize hX:((kC S).take i).map (fun v=>(EH S v S.length).1)=X at E;generalize hY:((kC S).take i).map (fun v=>(EH S v S.length).2)=Y at E;have hTl:A.flatten.length=(rT X).length/\B.flatten.length=(rT Y).length:=by
   rw [flat3 hA,flat3 hB,afG,afG,<-hX,<-hY];simp only [aU,fD];omega
  generalize hTX:rT X=TX at *;generalize hTY:rT Y=TY at *;refine Af @hc @hv ?_;refine nK (qN h.lC (n:=0)) (by (refine ew ?_;try with_reducible exact aC)) ?_;intro r q1 o1 G;obtain⟨_,rfl,Yc⟩:=G.ow.lJ;obtain⟨x1,x2,rfl⟩:=Yc.rat
  have E1:=E.got (s1:=s++[none]) (fun o ho=>kQ ho) (by simp) Yc G.nd G.fresh G.old;have F1:=E.free (s1:=s++[none]) (p:=s.length) G.fresh (aK _) (by simp);have gl:s.length+1<=q1.length:=by simpa using G.len
  have hM:∀q∈M,q.1≠s.length:=fun q hq=>by have:=E.lt q hq;omega
  replace E1:=E1.loc (ob:=⟨3,[[.bool (kZ 0).neg,x1,x2]]⟩) F1 (by omega) hM
  have l1:=ni.leaf Yc rfl;simp only [dF,dS,dI,aH]at l1;refine Af @l1 @List.set_set.{0} ?_;generalize at1:q1.set s.length (some ⟨3,[[.bool (kZ 0).neg,x1,x2]]⟩)=s1 at *;have hs1:s.length<s1.length:=by rw [<-at1];simp;omega
  have hlq:q1.length=s1.length:=by rw [<-at1];simp
  generalize s.length=p8 at *;clear G gl at1 Yc;generalize q1.length=n1 at *;subst hlq;refine nK (qN h.lC (n:=0)) (by (refine ew ?_;try with_reducible exact aC)) ?_;intro r q2 o2 G;obtain⟨_,rfl,hQ2⟩:=G.ow.lJ;obtain⟨y1,y2,rfl⟩:=hQ2.rat
  have E2:=E1.got (s1:=s1++[none]) (fun o ho=>kQ ho) (by simp) hQ2 G.nd G.fresh G.old;have F2:=E1.free (s1:=s1++[none]) (p:=s1.length) G.fresh (aK _) (by simp);have gl:s1.length+1<=q2.length:=by simpa using G.len
  have hM2:∀q∈M++[(p8,(⟨3,[[.bool (kZ 0).neg,x1,x2]]⟩:Obj))],q.1≠s1.length:=fun q hq=>by have:=E1.lt q hq;omega
  replace E2:=E2.loc (ob:=⟨3,[[.bool (kZ 0).neg,y1,y2]]⟩) F2 (by omega) hM2
  have l2:=ni.leaf hQ2 rfl;simp only [dF,dS,dI,aH]at l2;refine Af @l2 @List.set_set.{0} ?_;have h89:p8≠s1.length:=by omega
  generalize aCK:q2.set s1.length (some ⟨3,[[.bool (kZ 0).neg,y1,y2]]⟩)=s2 at *;generalize s1.length=p9 at *;clear G gl aCK hQ2 E1 l1 l2 E;generalize hCe:A.flatten++B.flatten=Cc at *;generalize axU:TX++TY=TC at *;have hCl:Cc.length=TC.length:=by rw [<-hCe,<-axU,aS,aS,hTl.1,hTl.2]
  rw [cO,cO]at E2;obtain⟨os2,E3,_⟩:=Ep.swap (a:=Cc) (b:=[.bool (kZ 0).neg,x1,x2]++[.bool (kZ 0).neg,y1,y2]) (c:=[]) (ta:=TC) (tb:=(kZ 0).cells++(kZ 0).cells) (tc:=[]) (by simpa only [aW]using E2) hCl rfl;simp only [aW]at E3;clear E2;have E3:=E3.sub (L':=(p8,(⟨3,[[.bool (kZ 0).neg,x1,x2]]⟩:Obj))::(p9,(⟨3,[[.bool (kZ 0).neg,y1,y2]]⟩:Obj))::M) (by
   intro q hq;simp only [aI,aN,dD,or_false]at hq ⊢;rcases hq with h|h|h<;>simp [h])
  refine kV (fun x d=>(x == 39&&d == 24)||(x == 39&&d == 25)||(x == 131&&d == 42)||(x == 131&&d == 49)||(x == 159&&d == 60)||(x == 159&&d == 67)) (α:=Nat×Store×V×V×V×V×List Nat) (fun q=>⟨mM [nY S,.any,.any,.any,v4,v5,.any,iv v,.ptr p8 0 0,.ptr p9 0 0,.any,.any,.any,.any,.any,.any,.any,.any,ints (kC S),iv ((kC S).length:Nat),iv (i:Nat),.any,.any,.any,.any,.any,nY S,iv (S.length:Nat),iv (q.1:Nat)],q.2.1,0,0,[],[]⟩) (fun q=>q.1<=S.length/\Ep q.2.1 ([.bool (EH S v q.1).1.neg,q.2.2.1,q.2.2.2.1,.bool (EH S v q.1).2.neg,q.2.2.2.2.1,q.2.2.2.2.2.1]++Cc) ([.bool (EH S v q.1).1.neg,ints (EH S v q.1).1.mag,ints (EH S v q.1).1.den,.bool (EH S v q.1).2.neg,ints (EH S v q.1).2.mag,ints (EH S v q.1).2.den]++TC) q.2.2.2.2.2.2 ((p8,(⟨3,[[.bool (EH S v q.1).1.neg,q.2.2.1,q.2.2.2.1]]⟩:Obj))::(p9,(⟨3,[[.bool (EH S v q.1).2.neg,q.2.2.2.2.1,q.2.2.2.2.2.1]]⟩:Obj))::M)) (fun q=>S.length-q.1) rfl (0,s2,x1,x2,y1,y2,os2) ?_ ?_ ?_
  ·exact⟨by omega,E3⟩
  ·(refine kN ?_;exact uT)
  have hMp:∀q∈M,q.1≠p8/\q.1≠p9:=fun q hq=>⟨hM q hq,hM2 q (by simp [hq])⟩;clear E3 hM hM2 F1 F2 hs1;rintro⟨k,s,x1,x2,y1,y2,os⟩ ⟨hk,E⟩;dsimp only at hk E;have hcn:=UU S v k;by_cases hck:(k:Int)<(S.length:Nat)
  ·have hkl:k<S.length:=by omega
   have hes:EH S v (k+1)=Rk v (EH S v k) (S.getD k default):=rfl;have hmx:(S.map Lk.cells).getD k []=(S.getD k default).cells:=mg hkl;have hko:=yD h1 hkl;have hk:=Nu hko;have hnd:=qF hko;generalize S.getD k default=lk at hes hmx hk hnd;unfold Rk at hes;obtain⟨hX,hY⟩:=hcn;generalize hX0:(EH S v k).1=X at *;generalize hY0:(EH S v k).2=Y at *;have hM8:∀q∈M,q.1≠p8:=fun q hq=>hMp q hq |>.1
   have hM9:∀q∈M,q.1≠p9:=fun q hq=>hMp q hq |>.2
   have L8:=E.at0 (p:=p8) (ob:=⟨3,[[.bool X.neg,x1,x2]]⟩) (by simp);have L9:=E.at0 (p:=p9) (ob:=⟨3,[[.bool Y.neg,y1,y2]]⟩) (by simp);have E0:=(E.push (ob:=⟨11,[lk.cells]⟩)).sub (L':=(p8,(⟨3,[[.bool X.neg,x1,x2]]⟩:Obj))::(p9,(⟨3,[[.bool Y.neg,y1,y2]]⟩:Obj))::(s.length,(⟨11,[lk.cells]⟩:Obj))::M) (by
    intro q hq;simp only [aI,aN,dD,or_false]at hq ⊢;rcases hq with h|h|h|h<;>simp [h])
   have hm8:p8≠s.length:=by omega
   have hm9:p9≠s.length:=by omega
   have hfin:∀(S2:Store) (X Y:R) (x1 x2 y1 y2:V) (os:List Nat) (m:Nat),EH S v (k+1)=(X,Y)->Ep S2 ([.bool X.neg,x1,x2,.bool Y.neg,y1,y2]++Cc) ([.bool X.neg,ints X.mag,ints X.den,.bool Y.neg,ints Y.mag,ints Y.den]++TC) os ((p8,(⟨3,[[.bool X.neg,x1,x2]]⟩:Obj))::(p9,(⟨3,[[.bool Y.neg,y1,y2]]⟩:Obj))::(m,(⟨11,[lk.cells]⟩:Obj))::M) ->
     Ep S2 ([.bool (EH S v (k+1)).1.neg,x1,x2,.bool (EH S v (k+1)).2.neg,y1,y2]++Cc) ([.bool (EH S v (k+1)).1.neg,ints (EH S v (k+1)).1.mag,ints (EH S v (k+1)).1.den,.bool (EH S v (k+1)).2.neg,ints (EH S v (k+1)).2.mag,ints (EH S v (k+1)).2.den]++TC) os ((p8,(⟨3,[[.bool (EH S v (k+1)).1.neg,x1,x2]]⟩:Obj))::(p9,(⟨3,[[.bool (EH S v (k+1)).2.neg,y1,y2]]⟩:Obj))::M):=by
    intro S2 X Y x1 x2 y1 y2 os m he E;rw [he];exact E.sub fun q hq=>by
     simp only [aI]at hq ⊢;rcases hq with h|h|h<;>simp [h]
   by_cases hbv:lk.b=v
   ·rw [aQ hbv]at hes;refine Jg @hck @hmx @hbv @L8 @L9 ?_;generalize hS0:s++[some (⟨11,[lk.cells]⟩:Obj)]=S0 at *;generalize s.length=m at *;clear hS0 L8 L9 E;refine jM (vN h.l9 hk.1 hk.2.1) ?_;have L8:=E0.at0 (p:=p8) (ob:=⟨3,[[.bool X.neg,x1,x2]]⟩) (by simp);have L9:=E0.at0 (p:=p9) (ob:=⟨3,[[.bool Y.neg,y1,y2]]⟩) (by simp);have Lm:=E0.at0 (p:=m) (ob:=⟨11,[lk.cells]⟩) (by simp);have R:=ah (E0.res1 1 rfl rfl (kJ _ _)) (E0.res1 2 rfl rfl (kJ _ _));have LF:=ah (E0.leaf 1 rfl rfl) (E0.leaf 2 rfl rfl);refine Jg (ah L8 (ah L9 Lm)) @R @LF @kP @lH ?_;have hmc1:=JX lk.w lk.dx;generalize mulR lk.w lk.dx=mm1 at *;refine xk (fun o=>o∈os) (show PO T 131 [kW X,kW mm1] (kW (qm X mm1))from FM h.lN hX hmc1) (by (refine EN @R @kP @lH ?_;try with_reducible exact aC)) ?_ ?_
    ·intro o ho;have ho:o∈reach S0 (11+1) (.agg [.bool X.neg,x1,x2])++(reach S0 FD (kW mm1)++[]):=ho;rw [show reach S0 FD (kW mm1)=[]from by (refine ew ?_;try with_reducible exact aC),aW,aW]at ho;obtain⟨c,hc,ho⟩:=Ag.1 ho;rcases aI.1 hc with e|hc
     ·rw [e]at ho;simp [reach]at ho
     rcases aI.1 hc with e|hc
     ·rw [e]at ho;exact E0.reach 1 rfl rfl _ o ho
     rw [bD.1 hc]at ho;exact E0.reach 2 rfl rfl _ o ho
    intro Rr r q2 o2 hRr G;have gl:S0.length<=q2.length:=G.len;obtain⟨_,rfl,hQ⟩:=G.ow.lJ;obtain⟨z11,z12,rfl⟩:=hQ.rat
    have lz:=ni.leaf hQ rfl;simp only [dF,dS,dI,aH]at lz;have hZ1:=DK X mm1;generalize qm X mm1=Z1 at *;obtain⟨os1,E1⟩:=Ep.upd (a:=[]) (b:=[.bool X.neg,x1,x2]) (c:=[.bool Y.neg,y1,y2]++Cc) (ta:=[]) (tb:=[.bool X.neg,ints X.mag,ints X.den]) (tc:=[.bool Y.neg,ints Y.mag,ints Y.den]++TC) (p:=p8) (ob:=⟨3,[[.bool Z1.neg,z11,z12]]⟩) (ob0:=⟨3,[[.bool X.neg,x1,x2]]⟩) (L':=(p8,(⟨3,[[.bool Z1.neg,z11,z12]]⟩:Obj))::(p9,(⟨3,[[.bool Y.neg,y1,y2]]⟩:Obj))::(m,(⟨11,[lk.cells]⟩:Obj))::M) E0 (by simp) rfl rfl (fun _ _=>rfl) (aK _) hQ G.nd G.fresh G.old (by
      intro q hq;simp only [aI]at hq ⊢;rcases hq with rfl|rfl|rfl|hq
      ·exact .inr rfl
      ·exact .inl ⟨by dsimp only;omega,by simp⟩
      ·exact .inl ⟨by dsimp only;omega,by simp⟩
      exact .inl ⟨hM8 q hq,by simp [hq]⟩) gl
    have K8:=(G.old p8 L8.2).trans L8.1;have K9:=(G.old p9 L9.2).trans L9.1;have Km:=(G.old m Lm.2).trans Lm.1;have hK:p8<q2.length:=by have:=L8.2;have:=L9.2;omega
    refine Jg @lz (ah K8 (ah K9 Km)) @hK @kP @lH ?_;refine⟨by unfold rO;rfl,?_⟩;generalize q2.set p8 (some ⟨3,[[.bool Z1.neg,z11,z12]]⟩)=S1 at *;clear G gl hQ lz K8 K9 Km hK R LF L8 L9 Lm hRr hmc1 E0;refine jM (vN h.l9 hk.1 hk.2.2) ?_;have L8:=E1.at0 (p:=p8) (ob:=⟨3,[[.bool Z1.neg,z11,z12]]⟩) (by simp);have L9:=E1.at0 (p:=p9) (ob:=⟨3,[[.bool Y.neg,y1,y2]]⟩) (by simp);have Lm:=E1.at0 (p:=m) (ob:=⟨11,[lk.cells]⟩) (by simp);have R:=ah (E1.res1 4 rfl rfl (kJ _ _)) (E1.res1 5 rfl rfl (kJ _ _));have LF:=ah (E1.leaf 4 rfl rfl) (E1.leaf 5 rfl rfl);refine Jg (ah L8 (ah L9 Lm)) @R @LF @kP @lH ?_;have alN:=JX lk.w lk.dy;generalize mulR lk.w lk.dy=mm2 at *;refine xk (fun o=>o∈os1) (show PO T 131 [kW Y,kW mm2] (kW (qm Y mm2))from FM h.lN hY alN) (by (refine EN @R @kP @lH ?_;try with_reducible exact aC)) ?_ ?_
    ·intro o ho;have ho:o∈reach S1 (11+1) (.agg [.bool Y.neg,y1,y2])++(reach S1 FD (kW mm2)++[]):=ho;rw [show reach S1 FD (kW mm2)=[]from by (refine ew ?_;try with_reducible exact aC),aW,aW]at ho;obtain⟨c,hc,ho⟩:=Ag.1 ho;rcases aI.1 hc with e|hc
     ·rw [e]at ho;simp [reach]at ho
     rcases aI.1 hc with e|hc
     ·rw [e]at ho;exact E1.reach 4 rfl rfl _ o ho
     rw [bD.1 hc]at ho;exact E1.reach 5 rfl rfl _ o ho
    intro Rr r q2 o2 hRr G;have gl:S1.length<=q2.length:=G.len;obtain⟨_,rfl,hQ⟩:=G.ow.lJ;obtain⟨z21,z22,rfl⟩:=hQ.rat
    have lz:=ni.leaf hQ rfl;simp only [dF,dS,dI,aH]at lz;have hZ2:=DK Y mm2;generalize qm Y mm2=Z2 at *;obtain⟨os2,E2⟩:=Ep.upd (a:=[.bool Z1.neg,z11,z12]) (b:=[.bool Y.neg,y1,y2]) (c:=Cc) (ta:=[.bool Z1.neg,ints Z1.mag,ints Z1.den]) (tb:=[.bool Y.neg,ints Y.mag,ints Y.den]) (tc:=TC) (p:=p9) (ob:=⟨3,[[.bool Z2.neg,z21,z22]]⟩) (ob0:=⟨3,[[.bool Y.neg,y1,y2]]⟩) (L':=(p8,(⟨3,[[.bool Z1.neg,z11,z12]]⟩:Obj))::(p9,(⟨3,[[.bool Z2.neg,z21,z22]]⟩:Obj))::(m,(⟨11,[lk.cells]⟩:Obj))::M) E1 (by simp) rfl rfl (fun _ _=>rfl) (aK _) hQ G.nd G.fresh G.old (by
      intro q hq;simp only [aI]at hq ⊢;rcases hq with rfl|rfl|rfl|hq
      ·exact .inl ⟨by dsimp only;omega,by simp⟩
      ·exact .inr rfl
      ·exact .inl ⟨by dsimp only;omega,by simp⟩
      exact .inl ⟨hM9 q hq,by simp [hq]⟩) gl
    have K8:=(G.old p8 L8.2).trans L8.1;have K9:=(G.old p9 L9.2).trans L9.1;have Km:=(G.old m Lm.2).trans Lm.1;have hK:p9<q2.length:=by have:=L8.2;have:=L9.2;omega
    refine Jg @lz (ah K8 (ah K9 Km)) @hK @kP @lH ?_;refine⟨by unfold rO;rfl,?_⟩;generalize q2.set p9 (some ⟨3,[[.bool Z2.neg,z21,z22]]⟩)=S2 at *;clear G gl hQ lz K8 K9 Km hK R LF L8 L9 Lm hRr alN E1;refine⟨(k+1,S2,z11,z12,z21,z22,os2),by dsimp only;omega,⟨by dsimp only;omega,hfin S2 Z1 Z2 z11 z12 z21 z22 os2 m hes E2⟩,?_⟩;dsimp only
    (refine kN ?_;exact uT)
   rw [aO hbv]at hes;by_cases hav:lk.a=v
   ·rw [aQ hav]at hes;refine Ia @hck @hmx @hbv @hav @L8 @L9 ?_;generalize hS0:s++[some (⟨11,[lk.cells]⟩:Obj)]=S0 at *;generalize s.length=m at *;clear hS0 L8 L9 E;refine jM (vN h.l9 hk.1 hk.2.1) ?_;have L8:=E0.at0 (p:=p8) (ob:=⟨3,[[.bool X.neg,x1,x2]]⟩) (by simp);have L9:=E0.at0 (p:=p9) (ob:=⟨3,[[.bool Y.neg,y1,y2]]⟩) (by simp);have Lm:=E0.at0 (p:=m) (ob:=⟨11,[lk.cells]⟩) (by simp);have R:=ah (E0.res1 1 rfl rfl (kJ _ _)) (E0.res1 2 rfl rfl (kJ _ _));have LF:=ah (E0.leaf 1 rfl rfl) (E0.leaf 2 rfl rfl);refine Jg (ah L8 (ah L9 Lm)) @R @LF @kP @lH ?_;have hmc1:=JX lk.w lk.dx;generalize mulR lk.w lk.dx=mm1 at *;refine xk (fun o=>o∈os) (show PO T 159 [kW X,kW mm1] (kW (vS X mm1))from Rj h.qO hX hmc1) (by (refine EN @R @kP @lH ?_;try with_reducible exact aC)) ?_ ?_
    ·intro o ho;have ho:o∈reach S0 (11+1) (.agg [.bool X.neg,x1,x2])++(reach S0 FD (kW mm1)++[]):=ho;rw [show reach S0 FD (kW mm1)=[]from by (refine ew ?_;try with_reducible exact aC),aW,aW]at ho;obtain⟨c,hc,ho⟩:=Ag.1 ho;rcases aI.1 hc with e|hc
     ·rw [e]at ho;simp [reach]at ho
     rcases aI.1 hc with e|hc
     ·rw [e]at ho;exact E0.reach 1 rfl rfl _ o ho
     rw [bD.1 hc]at ho;exact E0.reach 2 rfl rfl _ o ho
    intro Rr r q2 o2 hRr G;have gl:S0.length<=q2.length:=G.len;obtain⟨_,rfl,hQ⟩:=G.ow.lJ;obtain⟨z11,z12,rfl⟩:=hQ.rat
    have lz:=ni.leaf hQ rfl;simp only [dF,dS,dI,aH]at lz;have hZ1:=JW X mm1;generalize vS X mm1=Z1 at *;obtain⟨os1,E1⟩:=Ep.upd (a:=[]) (b:=[.bool X.neg,x1,x2]) (c:=[.bool Y.neg,y1,y2]++Cc) (ta:=[]) (tb:=[.bool X.neg,ints X.mag,ints X.den]) (tc:=[.bool Y.neg,ints Y.mag,ints Y.den]++TC) (p:=p8) (ob:=⟨3,[[.bool Z1.neg,z11,z12]]⟩) (ob0:=⟨3,[[.bool X.neg,x1,x2]]⟩) (L':=(p8,(⟨3,[[.bool Z1.neg,z11,z12]]⟩:Obj))::(p9,(⟨3,[[.bool Y.neg,y1,y2]]⟩:Obj))::(m,(⟨11,[lk.cells]⟩:Obj))::M) E0 (by simp) rfl rfl (fun _ _=>rfl) (aK _) hQ G.nd G.fresh G.old (by
      intro q hq;simp only [aI]at hq ⊢;rcases hq with rfl|rfl|rfl|hq
      ·exact .inr rfl
      ·exact .inl ⟨by dsimp only;omega,by simp⟩
      ·exact .inl ⟨by dsimp only;omega,by simp⟩
      exact .inl ⟨hM8 q hq,by simp [hq]⟩) gl
    have K8:=(G.old p8 L8.2).trans L8.1;have K9:=(G.old p9 L9.2).trans L9.1;have Km:=(G.old m Lm.2).trans Lm.1;have hK:p8<q2.length:=by have:=L8.2;have:=L9.2;omega
    refine Jg @lz (ah K8 (ah K9 Km)) @hK @kP @lH ?_;refine⟨by unfold rO;rfl,?_⟩;generalize q2.set p8 (some ⟨3,[[.bool Z1.neg,z11,z12]]⟩)=S1 at *;clear G gl hQ lz K8 K9 Km hK R LF L8 L9 Lm hRr hmc1 E0;refine jM (vN h.l9 hk.1 hk.2.2) ?_;have L8:=E1.at0 (p:=p8) (ob:=⟨3,[[.bool Z1.neg,z11,z12]]⟩) (by simp);have L9:=E1.at0 (p:=p9) (ob:=⟨3,[[.bool Y.neg,y1,y2]]⟩) (by simp);have Lm:=E1.at0 (p:=m) (ob:=⟨11,[lk.cells]⟩) (by simp);have R:=ah (E1.res1 4 rfl rfl (kJ _ _)) (E1.res1 5 rfl rfl (kJ _ _));have LF:=ah (E1.leaf 4 rfl rfl) (E1.leaf 5 rfl rfl);refine Jg (ah L8 (ah L9 Lm)) @R @LF @kP @lH ?_;have alN:=JX lk.w lk.dy;generalize mulR lk.w lk.dy=mm2 at *;refine xk (fun o=>o∈os1) (show PO T 159 [kW Y,kW mm2] (kW (vS Y mm2))from Rj h.qO hY alN) (by (refine EN @R @kP @lH ?_;try with_reducible exact aC)) ?_ ?_
    ·intro o ho;have ho:o∈reach S1 (11+1) (.agg [.bool Y.neg,y1,y2])++(reach S1 FD (kW mm2)++[]):=ho;rw [show reach S1 FD (kW mm2)=[]from by (refine ew ?_;try with_reducible exact aC),aW,aW]at ho;obtain⟨c,hc,ho⟩:=Ag.1 ho;rcases aI.1 hc with e|hc
     ·rw [e]at ho;simp [reach]at ho
     rcases aI.1 hc with e|hc
     ·rw [e]at ho;exact E1.reach 4 rfl rfl _ o ho
     rw [bD.1 hc]at ho;exact E1.reach 5 rfl rfl _ o ho
    intro Rr r q2 o2 hRr G;have gl:S1.length<=q2.length:=G.len;obtain⟨_,rfl,hQ⟩:=G.ow.lJ;obtain⟨z21,z22,rfl⟩:=hQ.rat
    have lz:=ni.leaf hQ rfl;simp only [dF,dS,dI,aH]at lz;have hZ2:=JW Y mm2;generalize vS Y mm2=Z2 at *;obtain⟨os2,E2⟩:=Ep.upd (a:=[.bool Z1.neg,z11,z12]) (b:=[.bool Y.neg,y1,y2]) (c:=Cc) (ta:=[.bool Z1.neg,ints Z1.mag,ints Z1.den]) (tb:=[.bool Y.neg,ints Y.mag,ints Y.den]) (tc:=TC) (p:=p9) (ob:=⟨3,[[.bool Z2.neg,z21,z22]]⟩) (ob0:=⟨3,[[.bool Y.neg,y1,y2]]⟩) (L':=(p8,(⟨3,[[.bool Z1.neg,z11,z12]]⟩:Obj))::(p9,(⟨3,[[.bool Z2.neg,z21,z22]]⟩:Obj))::(m,(⟨11,[lk.cells]⟩:Obj))::M) E1 (by simp) rfl rfl (fun _ _=>rfl) (aK _) hQ G.nd G.fresh G.old (by
      intro q hq;simp only [aI]at hq ⊢;rcases hq with rfl|rfl|rfl|hq
      ·exact .inl ⟨by dsimp only;omega,by simp⟩
      ·exact .inr rfl
      ·exact .inl ⟨by dsimp only;omega,by simp⟩
      exact .inl ⟨hM9 q hq,by simp [hq]⟩) gl
    have K8:=(G.old p8 L8.2).trans L8.1;have K9:=(G.old p9 L9.2).trans L9.1;have Km:=(G.old m Lm.2).trans Lm.1;have hK:p9<q2.length:=by have:=L8.2;have:=L9.2;omega
    refine Jg @lz (ah K8 (ah K9 Km)) @hK @kP @lH ?_;refine⟨by unfold rO;rfl,?_⟩;generalize q2.set p9 (some ⟨3,[[.bool Z2.neg,z21,z22]]⟩)=S2 at *;clear G gl hQ lz K8 K9 Km hK R LF L8 L9 Lm hRr alN E1;refine⟨(k+1,S2,z11,z12,z21,z22,os2),by dsimp only;omega,⟨by dsimp only;omega,hfin S2 Z1 Z2 z11 z12 z21 z22 os2 m hes E2⟩,?_⟩;dsimp only
    (refine kN ?_;exact uT)
   rw [aO hav]at hes;refine Ia @hck @hmx @hbv @hav @L8 @L9 ?_;refine⟨(k+1,s++[some (⟨11,[lk.cells]⟩:Obj)],x1,x2,y1,y2,os),by dsimp only;omega,⟨by dsimp only;omega,hfin _ X Y x1 x2 y1 y2 os s.length (by rw [hes,<-hX0,<-hY0]) E0⟩,?_⟩;dsimp only
   (refine kN ?_;exact uT)
  have hke:k=S.length:=by omega
  rw [hke]at hcn E;clear hke hk;generalize hpv:EH S v S.length=pv at hcn E;obtain⟨hX',hY'⟩:=hcn;generalize hXe:pv.1=X' at *;generalize hYe:pv.2=Y' at *;have L8:=E.at0 (p:=p8) (ob:=⟨3,[[.bool X'.neg,x1,x2]]⟩) (by simp);have L9:=E.at0 (p:=p9) (ob:=⟨3,[[.bool Y'.neg,y1,y2]]⟩) (by simp);have LF:=ah (ah (E.leaf 1 rfl rfl) (E.leaf 2 rfl rfl)) (ah (E.leaf 4 rfl rfl) (E.leaf 5 rfl rfl));have Ex:Ep s ([.bool X'.neg,x1,x2]++([.bool Y'.neg,y1,y2]++(A.flatten++B.flatten))) (X'.cells++(Y'.cells++(rT X++rT Y))) os ((p8,(⟨3,[[.bool X'.neg,x1,x2]]⟩:Obj))::(p9,(⟨3,[[.bool Y'.neg,y1,y2]]⟩:Obj))::M):=by rw [hCe,hTX,hTY,axU];exact E
  obtain⟨os',E5,hmm⟩:=Ex.aCJ rfl rfl (by rw [hTX];exact hTl.1) (by rw [hTY];exact hTl.2);have axV:=E.adu;have axW:∀q∈M,q.1∉os':=fun q hq hm=>(E.l q (by simp [hq])).2 ((hmm _).1 hm);have hlt':∀o∈os',o<s.length:=fun o ho=>axV o ((hmm o).1 ho);have eX:((kC S).take (i+1)).map (fun v=>(EH S v S.length).1)=X++[X']:=by rw [et,bT,hX,bV,iM,hpv,hXe]
  have eY:((kC S).take (i+1)).map (fun v=>(EH S v S.length).2)=Y++[Y']:=by rw [et,bT,hY,bV,iM,hpv,hYe]
  have hA':∀r∈A++[[V.bool X'.neg,x1,x2]],r.length=3:=fun r hr=>by
   rcases aN.1 hr with hr|hr
   ·exact hA r hr
   rw [bD.1 hr];rfl
  have hB':∀r∈B++[[V.bool Y'.neg,y1,y2]],r.length=3:=fun r hr=>by
   rcases aN.1 hr with hr|hr
   ·exact hB r hr
   rw [bD.1 hr];rfl
  have hstep:∀S':Store,(∀o∈os',jX S' o=jX s o)->∀a b,jX S' a=some ⟨3,A++[[V.bool X'.neg,x1,x2]]⟩->jX S' b=some ⟨3,B++[[V.bool Y'.neg,y1,y2]]⟩->s.length<=a->s.length<=b ->
    Ep S' ((A++[[V.bool X'.neg,x1,x2]]).flatten++(B++[[V.bool Y'.neg,y1,y2]]).flatten) (rT (X++[X'])++rT (Y++[Y'])) os' [(a,⟨3,A++[[V.bool X'.neg,x1,x2]]⟩),(b,⟨3,B++[[V.bool Y'.neg,y1,y2]]⟩)]:=by
   intro S' h1 a b ha hb hla hlb;rw [afF,afF,gV,gV];refine E5.to h1 fun q hq=>?_;simp only [aI,dD,or_false]at hq;rcases hq with rfl|rfl
   ·exact .inr ⟨ha,fun hm=>by have:=hlt' _ hm;dsimp only at this;omega⟩
   exact .inr ⟨hb,fun hm=>by have:=hlt' _ hm;dsimp only at this;omega⟩
  rcases hvv with ⟨rfl,rfl,rfl,rfl,rfl⟩|⟨pa,pb,hne,rfl,rfl,rfl⟩
  ·refine Du @hck @L8 @L9 @LF ?_;refine⟨by omega,by omega,?_⟩;refine⟨(i+1,?st,.lG (s.length+1) 0 1,.lG (s.length+1+1+1) 0 1,[]++[[V.bool X'.neg,x1,x2]],[]++[[V.bool Y'.neg,y1,y2]],os',[(s.length+1,⟨3,[]++[[V.bool X'.neg,x1,x2]]⟩),(s.length+1+1+1,⟨3,[]++[[V.bool Y'.neg,y1,y2]]⟩)]),?c1,⟨⟨?c2,.inr ⟨_,_,by omega,rfl,rfl,rfl⟩,hA',hB',?c4,?c5⟩,?c6⟩,?c3⟩
   case c3=>dsimp only;(refine kN ?_;exact uT)
   case c1=>dsimp only;omega
   case c2=>dsimp only;omega
   case c4=>dsimp only;simp at hAl ⊢;omega
   case c5=>dsimp only;simp at hBl ⊢;omega
   case c6 =>
    dsimp only;rw [eX,eY];refine hstep _ (fun o ho=>?_) _ _ ?_ ?_ (by omega) (by omega)
    ·have:=hlt' o ho;exact Ib
    ·simp (disch:=first|omega|(simp only [aS,bY,ak,aG];omega)) only [RP];rfl
    exact kT (by simp<;>omega)
  have La:=E.at0 (p:=pa) (ob:=⟨3,A⟩) (by simp);have Lb:=E.at0 (p:=pb) (ob:=⟨3,B⟩) (by simp);have na:pa≠p8/\pa≠p9:=hMp (pa,⟨3,A⟩) (by simp);have nb:pb≠p8/\pb≠p9:=hMp (pb,⟨3,B⟩) (by simp);have na1:=na.1;have na2:=na.2;have nb1:=nb.1;have nb2:=nb.2;refine Ia @hck @L8 @L9 @LF @La @Lb ?_;refine⟨by omega,by omega,?_⟩;refine⟨(i+1,?st2,.lG (s.length+1) 0 (A.length+1),.lG (s.length+1+1+1) 0 (B.length+1),A++[[V.bool X'.neg,x1,x2]],B++[[V.bool Y'.neg,y1,y2]],os',[(s.length+1,⟨3,A++[[V.bool X'.neg,x1,x2]]⟩),(s.length+1+1+1,⟨3,B++[[V.bool Y'.neg,y1,y2]]⟩)]),?c1,⟨⟨?c2,.inr ⟨_,_,by omega,by dsimp only;rw [List.length_append];rfl,by dsimp only;rw [List.length_append];rfl,rfl⟩,hA',hB',?c4,?c5⟩,?c6⟩,?c3⟩
  case c3=>dsimp only;(refine kN ?_;exact uT)
  case c1=>dsimp only;omega
  case c2=>dsimp only;omega
  case c4=>dsimp only;simp at hAl ⊢;omega
  case c5=>dsimp only;simp at hBl ⊢;omega
  case c6 =>
   dsimp only;rw [eX,eY];refine hstep _ (fun o ho=>?_) _ _ ?_ ?_ (by omega) (by omega)
   ·have:=hlt' o ho;have ha:=fun e:o=pa=>axW (pa,⟨3,A⟩) (by simp) (e▸ho);have hb:=fun e:o=pb=>axW (pb,⟨3,B⟩) (by simp) (e▸ho);have ha:o≠pa:=ha;have hb:o≠pb:=hb;exact Ib
   ·have:=La.2;have:=Lb.2;simp (disch:=first|omega|(simp only [aS,bY,ak,aG];omega)) only [RP]
    try rfl
   exact kT (by simp<;>omega)
 have hie:i=(kC S).length:=by omega
 rw [hie,bK]at E;have hG:ivG S=(((kC S).map fun v=>(EH S v S.length).1).all R.ok&&((kC S).map fun v=>(EH S v S.length).2).all R.ok):=by
  unfold ivG;rw [jE,jE];generalize kC S=nd
  induction nd with
  |nil=>rfl
  |cons v nd ih=>simp only [dF,ih,Function.comp];cases (EH S v S.length).1.ok<;>cases (EH S v S.length).2.ok<;>simp
 have cX:∀r∈(kC S).map fun v=>(EH S v S.length).1,r.cn:=fun r hr=>by
  obtain⟨v,_,rfl⟩:=bC.1 hr;exact(UU S v _).1
 have cY:∀r∈(kC S).map fun v=>(EH S v S.length).2,r.cn:=fun r hr=>by
  obtain⟨v,_,rfl⟩:=bC.1 hr;exact(UU S v _).2
 have lX:((kC S).map fun v=>(EH S v S.length).1).length=A.length:=by rw [aU];omega
 have lY:((kC S).map fun v=>(EH S v S.length).2).length=B.length:=by rw [aU];omega
 have hgood:=alL (s:=S);have hbad:=apL (s:=S);generalize (kC S).map (fun v=>(EH S v S.length).1)=X at *;generalize (kC S).map (fun v=>(EH S v S.length).2)=Y at *;have g1:=LU h.tJ cX (by omega);have g2:=LU h.tJ cY (by omega);rcases hvv with ⟨rfl,rfl,rfl,rfl,rfl⟩|⟨pa,pb,hne,rfl,rfl,rfl⟩
 ·have e1:X=[]:=aY (by simpa using lX);have e2:Y=[]:=aY (by simpa using lY);subst e1 e2;have e3:=hgood (by rw [hG];rfl);rw [e3.1,e3.2];refine y8 @hc ?_;refine jM (PF.axT g1) ?_;refine ew ?_;refine jM (PF.axT g2) ?_;refine ew ?_;exact abn
 have E':Ep s (A.flatten++(B.flatten++[])) ((X.map R.cells).flatten++((Y.map R.cells).flatten++[])) os [(pa,⟨3,A⟩),(pb,⟨3,B⟩)]:=by simpa only [aW,rT]using E
 have hXr:∀r∈X.map R.cells,r.length=3:=fun r hr=>by obtain⟨x,_,rfl⟩:=bC.1 hr;rfl
 have hYr:∀r∈Y.map R.cells,r.length=3:=fun r hr=>by obtain⟨x,_,rfl⟩:=bC.1 hr;rfl
 have ra:=E'.abl (p:=pa) (n:=3) (by simp) hA hXr (by simp [lX]) FD (Hw _ _);obtain⟨os1,E1,_⟩:=E'.swap (by rw [flat3 hA,flat3 hXr];simp [lX]) (by rw [flat3 hB,flat3 hYr];simp [lY]);have rb:=E1.abl (p:=pb) (n:=3) (by simp) hB hYr (by simp [lY]) FD (Hw _ _);have Rf:=ah ra rb;have hF:Fin s (.oJ [.lG pa 0 A.length,.lG pb 0 B.length]) (.oJ [oZ X,oZ Y]):=by
  obtain⟨os2,E2⟩:=E'.close (p:=pa) (n:=3) (by simp) hA hXr (by simp [lX]);obtain⟨os3,E3,_⟩:=Ep.swap (a:=[.lG pa 0 A.length]) (b:=B.flatten) (c:=[]) (ta:=[oZ X]) (tb:=(Y.map R.cells).flatten) (tc:=[]) E2 rfl (by rw [flat3 hB,flat3 hYr];simp [lY]);obtain⟨os4,E4⟩:=E3.close (p:=pb) (n:=3) (by simp;omega) hB hYr (by simp [lY]);obtain⟨os5,E5,_⟩:=Ep.swap (a:=[.lG pb 0 B.length]) (b:=[.lG pa 0 A.length]) (c:=[]) (ta:=[oZ Y]) (tb:=[oZ X]) (tc:=[]) E4 rfl rfl;exact wZ (JO E5.c.ow) E5.c.nd
 refine Du @hc @Rf @kP @lH ?_
 cases hx:X.all R.ok
 ·rw [hx]at g1;refine jM g1 ?_;have e3:=hbad (by rw [hG,hx];rfl);rw [e3.1,e3.2];refine ew ?_;exact abn
 rw [hx]at g1;refine jM g1 ?_;refine EN @Rf @kP @lH ?_
 cases hy:Y.all R.ok
 ·rw [hy]at g2;refine jM g2 ?_;have e3:=hbad (by rw [hG,hx,hy];rfl);rw [e3.1,e3.2];refine ew ?_;exact abn
 rw [hy]at g2;refine jM g2 ?_;have e3:=hgood (by rw [hG,hx,hy];rfl);rw [e3.1,e3.2];refine ew ?_;exact hF
def Rd2(s:Store)(v w:V)(X Y:List R):Prop :=
 (X=[]/\Y=[]/\v=.jZ/\w=.jZ)\/∃p q,p≠q/\v=.lG p 0 X.length/\w=.lG q 0 Y.length/\jX s p=some ⟨3,X.map R.cells⟩/\jX s q=some ⟨3,Y.map R.cells⟩
theorem Rd2.fr{s s2:Store}{v w:V}{X Y:List R}(h:Rd2 s v w X Y)(hf:∀p,p<s.length->jX s2 p=jX s p):Rd2 s2 v w X Y:=by
 rcases h with h|⟨p,q,h1,h2,h3,h4,h5⟩
 ·exact .inl h
 exact .inr ⟨p,q,h1,h2,h3,(hf p (kX h4)).trans h4,(hf q (kX h5)).trans h5⟩
theorem Z9{m:List (List R)}{cols:Int}(h:BA m cols=true):(∀i,i<m.length->((m.getD i default).length:Int)=cols/\∀j,j<(m.getD i default).length->((m.getD i default).getD j default).ok=true)/\m.length<=10:=by
 unfold BA at h;simp only [aH,bf]at h;refine⟨fun i hi=>?_,h.2⟩;have:=O5.1 h.1 i hi;unfold Qv at this;simp only [aH,bf]at this;exact⟨this.1,O5.1 this.2⟩
abbrev mEl(m:List (List R))(i j:Nat):R:=(m.getD i default).getD j default
theorem alP{m:List (List R)}{n:Nat}(h:∀r∈m,(∀x∈r,x.cn)/\r.length<=n)(hn:n<=20)(hl:m.length<=10):PS (PS R.sz) m<=100000/\Iz (Iz R.wf) m:=by
 refine⟨?_,by omega,fun r hr=>alM (h r hr).1 (by have:=(h r hr).2;omega)⟩;have:=Uz (f:=PS R.sz) (k:=1000) (l:=m) fun r hr=>by
  have h1:=Uz (f:=R.sz) (k:=48) (l:=r) fun x hx=>by have:=OZ ((h r hr).1 x hx);unfold R.sz;omega
  have h2:=(h r hr).2;have:r.length*49<=20*49:=dG _ (by omega);omega
 have:m.length*1001<=10*1001:=dG _ hl;omega
def LAt(n:Nat)(v:V)(A:List (List V))(M:List (Nat×Obj)):Prop:=(A=[]/\v=.jZ/\M=[])\/∃p,v=.lG p 0 A.length/\M=[(p,⟨n,A⟩)]
def tO(l:List (List R)):List V:=(l.map fun r=>[oZ r]).flatten
theorem at6(l:List (List R))(r:List R):tO (l++[r])=tO l++[oZ r]:=by simp [tO]
theorem afI:∀{A:List (List V)},(∀r∈A,r.length=1)->A.flatten.length=A.length
 | [],_=>rfl
 |
  a::A,h=>by
  rw [gJ,aS,afI fun r hr=>h r (by simp [hr]),h a (by simp),ak];omega
theorem at7(l:List (List R)):(tO l).length=l.length:=by
 unfold tO;rw [afI (fun r hr=>by obtain⟨x,_,rfl⟩:=bC.1 hr;rfl),aU]
theorem ahf{n:Nat}{A:List (List V)}{r:List V}(h:∀r∈A,r.length=n)(hr:r.length=n):∀x∈A++[r],x.length=n:=fun x hx=>by
 rcases aN.1 hx with hx|hx
 ·exact h x hx
 rw [bD.1 hx];exact hr
def afJ(x:Nat×List R):List V:=[.lG x.1 0 x.2.length]
def abo(s:Store)(v:V)(Z:List (Nat×List R)):Prop:=((Z=[]/\v=.jZ)\/∃q,v=.lG q 0 Z.length/\jX s q=some ⟨1,Z.map afJ⟩)/\∀x∈Z,jX s x.1=some ⟨3,x.2.map R.cells⟩
theorem abo.fr{s s2:Store}{v:V}{Z:List (Nat×List R)}(h:abo s v Z)(hf:∀p,p<s.length->jX s2 p=jX s p):abo s2 v Z :=
 ⟨h.1.imp id fun ⟨q,e,hq⟩=>⟨q,e,(hf q (kX hq)).trans hq⟩,fun x hx=>(hf _ (kX (h.2 x hx))).trans (h.2 x hx)⟩
theorem abo.map{s:Store}{m:Nat}:∀{Z:List (Nat×List R)},(∀x∈Z,jX s x.1=some ⟨3,x.2.map R.cells⟩)->((Z.map afJ).mapM fun r=>r.mapM (resolve s (m+2)))=some ((Z.map (·.2)).map fun r=>[oZ r])
 | [],_=>rfl
 |
  x::Z,h=>by
  have hx:=h x (by simp);have e:resolve s (m+2) (.lG x.1 0 x.2.length)=some (oZ x.2):=by
   have h2:=afc x.2;unfold resolve;simp only [hx];rw [aQ (by simp),bZ,bH (by simp),xK (n:=m) h2];rfl
  have ih:=abo.map (m:=m) (Z:=Z) fun y hy=>h y (by simp [hy]);rw [bV,bU,ih];have:(afJ x).mapM (resolve s (m+2))=some [oZ x.2]:=by
   unfold afJ;rw [bU,e];rfl
  rw [this];rfl
theorem abo.res{s:Store}{q:Nat}{Z:List (Nat×List R)}(h:∀x∈Z,jX s x.1=some ⟨3,x.2.map R.cells⟩)(hq:jX s q=some ⟨1,Z.map afJ⟩):resolve s FD (.lG q 0 Z.length)=some (rG (Z.map (·.2))):=by
 show resolve s (9+2+1) _=_;unfold resolve;simp only [hq];rw [aQ (by simp),bZ,bH (by simp),abo.map h];rfl
def aua(s:Store)(n0:Nat)(v:V)(L:List R):Prop:=(L=[]/\v=.jZ)\/∃p,v=.lG p 0 L.length/\n0<=p/\jX s p=some ⟨3,L.map R.cells⟩
theorem aua.fr{s s2:Store}{v:V}{n0:Nat}{L:List R}(h:aua s n0 v L)(hf:∀p,p<s.length->jX s2 p=jX s p):aua s2 n0 v L :=
 h.imp id fun ⟨q,e,hn,hq⟩=>⟨q,e,hn,(hf q (kX hq)).trans hq⟩
def yh:Fn:=⟨3,30,[.tmp 6],(.seq (rf 1 [oN 5 (.box (.t 2)),oK 6 1 mF]) (.seq (sr [oW 8 0,oN 9 (ln 8),oN 10 (.qw (cI 0))] (.block 0 (.loop (sr [oN 11 (bt .lss 10 9)] (.seq (cd 11 .skip (.exit 0)) (.seq (.block 1 (sr [oW 12 10,oW 7 12] (rt 0 [oW 13 0,oW 14 7,oW 15 0,oW 16 7,oA 17 0 (ix 3 15 16) [2,3],oA 18 0 (lT 3 17) [4],oW 19 1,oW 20 7,oA 21 0 (ix 3 19 20) [6,7],oA 22 0 (lT 3 21) [8],oN 23 (lT 3 5),oA 24 0 (cl 157 [22,23]) [9,10],oA 25 0 (cl 159 [18,24]) [5,11,11],oA 26 0 (ix 3 13 14) [0,1,0,1,2,3,4,5,6,7,8,9,10,11,12],⟨none,none,0,.store 3 (.t 26) (.t 25),[13,12,12,0,1,2,3,4,5,6,7,8,9,10,11,12]⟩]))) (rg [oN 27 (bc .add 10 1),oW 10 27]))))))) (sr [oW 28 0,oN 29 (cl 244 [28]),oW 6 29] .ret)))⟩
structure CZ (T:Tb):Prop where
 hT:T 245=some yh
 l9:qL T
 qO:sG T
 tJ:xE T
def tY:Fn:=⟨2,145,[.tmp 4,.tmp 5],(sr [oN 4 mN,oN 5 mF] (sr [oW 15 0,oN 16 (ln 15),oW 6 16] (.seq (sr [oW 17 0,oW 18 1,oN 19 (cl 93 [17,18]),oN 20 (nt 19),oW 21 20,oG 21 false 22 (oV 1),oG 21 false 23 (oV 6),oG 21 false 24 (bt .lss 22 23),oN 25 (.pick (.t 21) (.c (.bool true)) (.t 24))] (cd 25 (sr [oN 4 mN,oN 5 mF] .ret) .skip)) (.seq (rf 1 [oN 26 (.nM 1 [.jZ] 0 []),oK 7 1 (oV 26)]) (.seq (sr [oW 27 0,oN 28 (ln 27),oN 29 (.qw (cI 0))] (.block 0 (.loop (sr [oN 30 (bt .lss 29 28)] (.seq (cd 30 .skip (.exit 0)) (.seq (.block 1 (sr [oN 31 (ix 1 27 29),oN 32 (lF 1 31),oW 9 32] (rf 4 [oK 33 4 (oV 7),oN 34 (.nM 3 uz 0 []),oK 35 4 (oV 9),oK 36 1 (.app 3 56 (.t 34) (.t 35)),oK 37 2 (.nM 1 [.jZ] 1 [(0,(.t 36))]),oK 38 3 (.app 1 24 (.t 33) (.t 37)),oK 7 4 (oV 38)]))) (rg [oN 39 (bc .add 29 1),oW 29 39]))))))) (.seq (sr [oN 10 (.qw (cI 0))] (.block 2 (.loop (.seq (sr [oW 40 10,oW 41 6,oN 42 (bt .lss 40 41)] (cd 42 .skip (.exit 2))) (.seq (.block 3 (sr [oW 45 10,oW 11 45] (.seq (.block 4 (.loop (.seq (sr [oW 46 11,oW 47 6,oN 48 (bt .lss 46 47),oW 49 48,oG 49 true 50 (oV 7),oG 49 true 51 (oV 11),oG 49 true 52 (ix 1 50 51),oG 49 true 53 (lF 1 52),oG 49 true 54 (oV 10),oG 49 true 55 (ix 3 53 54),oG 49 true 56 (lT 3 55),oG 49 true 57 (cl 124 [56]),oG 49 true 58 (bc .eql 57 0),oN 59 (.pick (.t 49) (.t 58) (.c (.bool false)))] (cd 59 .skip (.exit 4))) (.block 5 (rg [oW 60 11,oN 61 (bc .add 60 1),oW 11 61]))))) (.seq (sr [oW 62 11,oW 63 6,oN 64 (bt .eql 62 63)] (cd 64 (sr [oN 4 mN,oN 5 mF] .ret) .skip)) (.seq (rt 0 [oW 65 7,oW 66 10,oW 67 7,oW 68 11,oW 69 7,oW 70 11,oA 71 0 (ix 1 69 70) [4,5],oA 72 0 (lF 1 71) [6],oW 73 7,oW 74 10,oA 75 0 (ix 1 73 74) [8,9],oA 76 0 (lF 1 75) [10],oA 77 0 (ix 1 65 66) [0,1,0,1,4,5,6,7,11],⟨none,none,0,.store 1 (.t 77) (.t 72),[12,7,0,1,4,5,6,7,11]⟩,oA 78 0 (ix 1 67 68) [2,3,0,1,2,3,4,5,6,7,8,9,10,11,12,13],⟨none,none,0,.store 1 (.t 78) (.t 76),[14,11,13,0,1,2,3,4,5,6,7,8,9,10,11,12,13]⟩]) (.seq (rf 1 [oK 79 1 (oV 7),oK 80 1 (oV 10),oK 81 1 (ix 1 79 80),oK 82 1 (lF 1 81),oK 83 1 (oV 10),oK 84 1 (ix 3 82 83),oK 85 1 (lT 3 84),oN 12 (.alloc uz),⟨none,none,1,.store 3 (.t 12) (.t 85),[]⟩]) (.seq (sr [oW 86 7,oW 87 10,oN 88 (ix 1 86 87),oN 89 (lF 1 88),oN 90 (ln 89),oN 91 (.qw (cI 0))] (.block 6 (.loop (sr [oN 92 (bt .lss 91 90)] (.seq (cd 92 .skip (.exit 6)) (.seq (.block 7 (sr [oW 93 91,oW 13 93] (rt 0 [oW 94 7,oW 95 10,oA 96 0 (ix 1 94 95) [0,1],oA 97 0 (lF 1 96) [2],oW 98 13,oW 99 7,oW 100 10,oA 101 0 (ix 1 99 100) [5,6],oA 102 0 (lF 1 101) [7],oW 103 13,oA 104 0 (ix 3 102 103) [8,9],oA 105 0 (lT 3 104) [10],oN 106 (lT 3 12),oA 107 0 (cl 156 [105,106]) [11,12],oA 108 0 (ix 3 97 98) [3,4,0,1,2,3,4,5,6,7,8,9,10,11,12,13],⟨none,none,0,.store 3 (.t 108) (.t 107),[14,13,13,0,1,2,3,4,5,6,7,8,9,10,11,12,13]⟩]))) (rg [oN 109 (bc .add 91 1),oW 91 109]))))))) (.seq (sr [oW 110 7,oW 111 10,oN 112 (ix 1 110 111),oN 113 (lF 1 112),oN 114 (cl 244 [113]),oN 115 (nt 114)] (cd 115 (sr [oN 4 mN,oN 5 mF] .ret) .skip)) (sr [oW 116 7,oN 117 (ln 116),oN 118 (.qw (cI 0))] (.block 8 (.loop (sr [oN 119 (bt .lss 118 117)] (.seq (cd 119 .skip (.exit 8)) (.seq (.block 9 (sr [oW 120 118,oW 14 120] (.seq (rt 0 [oW 121 14,oW 122 10,oA 123 0 (bt .neq 121 122) [0,1],oA 124 0 (oV 123) [2],oH 124 true 125 0 (oV 7) [3],oH 124 true 126 0 (oV 14) [3],oH 124 true 127 0 (ix 1 125 126) [4,5,3],oH 124 true 128 0 (lF 1 127) [6,3],oH 124 true 129 0 (oV 7) [3],oH 124 true 130 0 (oV 10) [3],oH 124 true 131 0 (ix 1 129 130) [8,9,3],oH 124 true 132 0 (lF 1 131) [10,3],oH 124 true 133 0 (oV 7) [3],oH 124 true 134 0 (oV 14) [3],oH 124 true 135 0 (ix 1 133 134) [12,13,3],oH 124 true 136 0 (lF 1 135) [14,3],oH 124 true 137 0 (oV 10) [3],oH 124 true 138 0 (ix 3 136 137) [15,16,3],oH 124 true 139 0 (lT 3 138) [17,3],oH 124 true 140 0 (cl 245 [128,132,139]) [7,11,18,3,3],oH 124 true 141 0 (nt 140) [19,3],oA 142 0 (.pick (.t 124) (.t 141) (.c (.bool false))) [3,20]]) (cd 142 (sr [oN 4 mN,oN 5 mF] .ret) .skip)))) (rg [oN 143 (bc .add 118 1),oW 118 143]))))))))))))))) (rg [oW 43 10,oN 44 (bc .add 43 1),oW 10 44])))))) (sr [oW 144 7,oW 4 144,oN 5 mT] .ret)))))))⟩
structure Ea (T:Tb):Prop where
 hT:T 243=some tY
 Iu:CB T
 Jo:zL T
 uN:uM T
 tJ:xE T
 Ro:CZ T
abbrev MF:=Nat->List R
def KR(M:MF)(i j:Nat):R:=(M i).getD j default
def rrP(M:MF)(k:Nat):Nat->Nat->Nat
 |0,p=>p
 |f+1,p=>if wQ (KR M p k)=0 then rrP M k f (p+1)else p
def Ze(n:Nat)(M:MF)(k:Nat):Nat:=rrP M k (n-k) k
theorem axX{M:MF}{k n p:Nat}(h:p<n)(hz:wQ (KR M p k)=0):rrP M k (n-p) p=rrP M k (n-(p+1)) (p+1):=by
 rw [show n-p=(n-(p+1))+1 by omega];exact aQ hz
theorem axY{M:MF}{k n p:Nat}(h:p<n)(hz:¬wQ (KR M p k)=0):rrP M k (n-p) p=p:=by
 rw [show n-p=(n-(p+1))+1 by omega];exact aO hz
def AX(M:MF)(k p:Nat):MF:=fun i=>if i=p then M k else if i=k then M p else M i
def Qw(r:List R)(k:Nat):List R:=r.map fun x=>uZ x (r.getD k default)
def Oa(r b:List R)(f:R):List R:=(List.range r.length).map fun j=>vS (r.getD j default) (mulR (b.getD j default) f)
def BD(n:Nat)(M:MF)(k:Nat):MF:=AX M k (Ze n M k)
def Ec(n:Nat)(M:MF)(k:Nat):MF:=fun i=>if i=k then Qw (BD n M k k) k else BD n M k i
def zq(M:MF)(k:Nat):MF:=fun i=>if i=k then M k else Oa (M i) (M k) (KR M i k)
def ER(M:MF)(k i0:Nat):MF:=fun i=>if i<i0 then zq M k i else M i
def O9(n:Nat)(M:MF):Bool:=allB n fun i=>(M i).all R.ok
def Ed(n:Nat)(M:MF)(k:Nat):Option MF :=
 if (decide (Ze n M k<n)&&O9 n (zq (Ec n M k) k))=true then some (zq (Ec n M k) k)else none
def Oq(n:Nat)(m:MF):Nat->Option MF
 |0=>some m
 |k+1=>(Oq n m k).bind fun M=>Ed n M k
theorem UW{n:Nat}{m:MF}{k:Nat}(h:Oq n m k=none):∀j,k<=j->Oq n m j=none
 |0,hj=>by
        have:k=0:=by omega
        subst this;exact h
 |
  j+1,hj=>by
  by_cases e:k=j+1
  ·subst e;exact h
  unfold Oq;rw [UW h j (by omega)];rfl
theorem abp{n:Nat}{m M:MF}{k:Nat}(h:Oq n m k=some M):Oq n m (k+1)=Ed n M k:=by
 show (Oq n m k).bind _=_;rw [h];rfl
def xG(m:List (List R)):MF:=fun i=>m.getD i default
def rrC(m:List (List R))(c:Int):Bool:=BA m c&&decide ((m.length:Int)<=c)
def rrV(m:List (List R))(c:Int):Option MF:=if rrC m c=true then Oq m.length (xG m) m.length else none
def rrM(m:List (List R))(c:Int):List (List R):=match rrV m c with
 |some M=>(List.range m.length).map M
 |none=>[]
def rrB(m:List (List R))(c:Int):Bool:=(rrV m c).isSome
theorem ahg{m:List (List R)}{c:Int}(h:rrC m c=false):rrM m c=[]/\rrB m c=false:=by
 have e:rrV m c=none:=by unfold rrV;rw [h];rfl
 unfold rrM rrB;rw [e];exact⟨rfl,rfl⟩
theorem Ti{m:List (List R)}{c:Int}{k:Nat}(hc:rrC m c=true)(h:Oq m.length (xG m) k=none)(hk:k<=m.length):rrM m c=[]/\rrB m c=false:=by
 have e:rrV m c=none:=by unfold rrV;rw [aQ hc];exact UW h _ hk
 unfold rrM rrB;rw [e];exact⟨rfl,rfl⟩
theorem Pg{m:List (List R)}{c:Int}{M:MF}(hc:rrC m c=true)(h:Oq m.length (xG m) m.length=some M):rrM m c=(List.range m.length).map M/\rrB m c=true:=by
 have e:rrV m c=some M:=by unfold rrV;rw [aQ hc];exact h
 unfold rrM rrB;rw [e];exact⟨rfl,rfl⟩
def WG(n c:Nat)(M:MF):Prop:=∀i,i<n->(M i).length=c/\∀x∈M i,x.cn
theorem WG.el{n c:Nat}{M:MF}(h:WG n c M){i j:Nat}(hi:i<n)(hj:j<c):(KR M i j).cn:=(h i hi).2 _ (getD_mem (by rw [(h i hi).1];exact hj))
theorem UY(r:List R)(k:Nat):(Qw r k).length=r.length:=by unfold Qw;simp
theorem UZ(r b:List R)(f:R):(Oa r b f).length=r.length:=by unfold Oa;simp
theorem adw(r:List R)(k:Nat):∀x∈Qw r k,x.cn:=fun x hx=>by
 obtain⟨y,_,rfl⟩:=bC.1 hx;exact Nk _ _
theorem adx(r b:List R)(f:R):∀x∈Oa r b f,x.cn:=fun x hx=>by
 obtain⟨y,_,rfl⟩:=bC.1 hx;exact JW _ _
theorem ady(r b:List R)(f:R){j:Nat}(h:j<r.length):(Oa r b f).getD j default=vS (r.getD j default) (mulR (b.getD j default) f):=by
 unfold Oa;rw [aj,bM,dJ h];rfl
theorem adz(r:List R)(k:Nat){j:Nat}(h:j<r.length):(Qw r k).getD j default=uZ (r.getD j default) (r.getD k default):=by
 unfold Qw;generalize r.getD k default=y;rw [aj,bM,aj,au h];rfl
theorem WG.swap{n c:Nat}{M:MF}(h:WG n c M){k p:Nat}(hk:k<n)(hp:p<n):WG n c (AX M k p):=fun i hi=>by
 unfold AX;split
 ·exact h k hk
 split
 ·exact h p hp
 exact h i hi
theorem WG.one{n c:Nat}{M:MF}(h:WG n c M){k:Nat}(hk:k<n)(hp:Ze n M k<n):WG n c (BD n M k):=h.swap hk hp
theorem WG.two{n c:Nat}{M:MF}(h:WG n c M){k:Nat}(hk:k<n)(hp:Ze n M k<n):WG n c (Ec n M k):=fun i hi=>by
 unfold Ec;split
 ·exact⟨by rw [UY];exact(h.one hk hp k hk).1,adw _ _⟩
 exact h.one hk hp i hi
theorem WG.tri{n c:Nat}{M:MF}(h:WG n c M){k:Nat}(hk:k<n):WG n c (zq M k):=fun i hi=>by
 unfold zq;split
 ·exact h k hk
 exact⟨by rw [UZ];exact(h i hi).1,adx _ _ _⟩
theorem apM(M:MF)(k:Nat):ER M k 0=M:=by funext i;unfold ER;rw [aO (by omega)]
theorem WG.mix{n c:Nat}{M:MF}(h:WG n c M){k:Nat}(hk:k<n)(i0:Nat):WG n c (ER M k i0):=fun i hi=>by
 unfold ER;split
 ·exact h.tri hk i hi
 exact h i hi
theorem WG.step{n c:Nat}{M M':MF}(h:WG n c M){k:Nat}(hk:k<n)(e:Ed n M k=some M'):WG n c M':=by
 unfold Ed at e;split at e
 ·rename_i hc;simp only [aH,bf]at hc
  cases e
  exact(h.two hk hc.1).tri hk
 cases e
theorem U0{n:Nat}{M:MF}:O9 n M=true↔∀i,i<n->(M i).all R.ok=true:=O5
theorem ahh{n:Nat}{M:MF}{i:Nat}(hi:i<n)(h:(M i).all R.ok=false):O9 n M=false:=Q8 hi h
theorem adA{n:Nat}{M:MF}{k:Nat}(h:¬Ze n M k<n):Ed n M k=none:=by
 unfold Ed;rw [bI h];rfl
theorem alQ{n:Nat}{M:MF}{k:Nat}(h:O9 n (zq (Ec n M k) k)=false):Ed n M k=none:=by
 unfold Ed;rw [h,jI];rfl
theorem adB{n:Nat}{M:MF}{k:Nat}(hp:Ze n M k<n)(h:O9 n (zq (Ec n M k) k)=true):Ed n M k=some (zq (Ec n M k) k):=by
 unfold Ed;rw [h,aT hp];rfl
theorem afK{m:List (List R)}{c:Int}(h:rrC m c=true):m.length<=10/\(m.length:Int)<=c/\BA m c=true/\WG m.length c.toNat (xG m):=by
 unfold rrC at h;simp only [aH,bf]at h;obtain⟨h1,h2⟩:=Z9 h.1;refine⟨h2,h.2,h.1,fun i hi=>⟨?_,fun x hx=>?_⟩⟩
 ·have:=(h1 i hi).1;unfold xG;omega
 obtain⟨j,hj⟩:=bQ.1 hx;have hl:=(aP.1 hj).1;have:=(h1 i hi).2 j hl;unfold xG at hj;rw [aj,hj]at this;exact EO this
def Rq{α:Type}(a b:List α)(j:Nat):List α:=a.take j++b.drop j
theorem aub{α:Type}(a b:List α):Rq a b 0=b:=by simp [Rq]
theorem alR{α:Type}(a b:List α)(h:b.length<=a.length)(h2:a.length<=b.length):Rq a b b.length=a:=by
 unfold Rq;rw [jB,aW,bH h2]
theorem alS{α:Type}{a b:List α}{j:Nat}(h:a.length=b.length):(Rq a b j).length=b.length:=by simp [Rq];omega
theorem alT{α:Type}{a b:List α}{j:Nat}{x d:α}(h:a.length=b.length)(hj:j<b.length)(hx:a.getD j d=x):(Rq a b j).set j x=Rq a b (j+1):=by
 have e:(a.take j).length=j:=by simp;omega
 have hja:j<a.length:=by omega
 unfold Rq;rw [List.set_append_right _ _ (by omega),e,kH,dH hj,jP];have e2:a.take (j+1)=a.take j++[a[j]]:=by rw [jf,au hja];rfl
 have e3:x=a[j]:=by rw [<-hx,aj,au hja];rfl
 rw [e2,cO,e3];rfl
def yj(s:Store)(v:V)(l:List Int):Prop:=v=ints l\/∃o,v=.lG o 0 l.length/\jX s o=some ⟨1,kR l⟩
def y9(s:Store)(c:List V)(x:R):Prop:=∃v1 v2,c=[.bool x.neg,v1,v2]/\yj s v1 x.mag/\yj s v2 x.den
def Ee(s:Store)(A:List (List V))(r:List R):Prop:=A.length=r.length/\∀j,j<r.length->y9 s (A.getD j []) (r.getD j default)
def Kp(s s2:Store):Prop:=∀o l,jX s o=some ⟨1,kR l⟩->jX s2 o=jX s o
theorem Kp.refl(s:Store):Kp s s:=fun _ _ _=>rfl
theorem Kp.trans{a b c:Store}(h:Kp a b)(k:Kp b c):Kp a c:=fun o l e=>(k o l ((h o l e).trans e)).trans (h o l e)
theorem Kp.old{s s2:Store}(h:∀o,o<s.length->jX s2 o=jX s o):Kp s s2:=fun o l e=>h o (kX e)
theorem yj.fr{s s2:Store}{v:V}{l:List Int}(h:yj s v l)(k:Kp s s2):yj s2 v l:=h.imp id fun ⟨o,e,ho⟩=>⟨o,e,(k o l ho).trans ho⟩
theorem y9.fr{s s2:Store}{c:List V}{x:R}(h:y9 s c x)(k:Kp s s2):y9 s2 c x:=by
 obtain⟨v1,v2,e,h1,h2⟩:=h;exact⟨v1,v2,e,h1.fr k,h2.fr k⟩
theorem Ee.fr{s s2:Store}{A:List (List V)}{r:List R}(h:Ee s A r)(k:Kp s s2):Ee s2 A r:=⟨h.1,fun j hj=>(h.2 j hj).fr k⟩
theorem yj.leaf{s:Store}{v:V}{l:List Int}(h:yj s v l):v.leaf=true:=by
 rcases h with rfl|⟨o,rfl,_⟩<;>rfl
theorem yj.res{s:Store}{v:V}{l:List Int}(h:yj s v l)(n:Nat):resolve s (n+3) v=some (ints l):=by
 rcases h with rfl|⟨o,rfl,ho⟩
 ·rfl
 have:=SG (n:=n+1) ho (wX l)
 rwa [Fb]at this
theorem adC{s:Store}(l:List Int):yj s (ints l) l:=.inl rfl
theorem alU{s:Store}(x:R):y9 s x.cells x:=⟨_,_,rfl,adC _,adC _⟩
theorem abq{s:Store}(r:List R):Ee s (r.map R.cells) r:=⟨by simp,fun j hj=>by rw [mg hj];exact alU _⟩
theorem y9.mm{s:Store}{c:List V}{x:R}(h:y9 s c x)(n:Nat):c.mapM (resolve s (n+3))=some x.cells:=by
 obtain⟨v1,v2,rfl,h1,h2⟩:=h;simp only [bU,List.mapM_nil,h1.res,h2.res];rfl
theorem y9.res{s:Store}{c:List V}{x:R}(h:y9 s c x):resolve s FD (.agg c)=some (kW x):=by
 show resolve s (8+3+1) _=_;rw [resolve,h.mm 8];rfl
theorem Ee.mm{s:Store}{A:List (List V)}{r:List R}(h:Ee s A r)(n:Nat):(A.mapM fun (c:List V)=>c.mapM (resolve s (n+3)))=some (r.map R.cells):=by
 obtain⟨hl,h⟩:=h
 induction r generalizing A with
 |
  nil =>
  have:A=[]:=aY hl;subst this;rfl
 |
  cons x r ih =>
  rcases A with _|⟨a,A⟩
  ·simp at hl
  have h0:=h 0 (by simp);simp only [List.getD_cons_zero]at h0;rw [bU,h0.mm n,ih (by simpa using hl) fun j hj=>by simpa using h (j+1) (by simpa using hj)];rfl
theorem Ee.alV{s:Store}{A:List (List V)}{r:List R}{p:Nat}(h:Ee s A r)(hp:jX s p=some ⟨3,A⟩)(n:Nat):resolve s (n+4) (.lG p 0 r.length)=some (oZ r):=by
 rw [resolve];simp only [hp];rw [aQ (by rw [h.1];omega),bZ,bH (by rw [h.1];omega),h.mm n];rfl
theorem Ee.res{s:Store}{A:List (List V)}{r:List R}{p:Nat}(h:Ee s A r)(hp:jX s p=some ⟨3,A⟩):resolve s FD (.lG p 0 r.length)=some (oZ r):=h.alV hp 8
theorem ahi{s:Store}{v:V}{l:List Int}{os:List Nat}(h:mJ s v (ints l) os):yj s v l/\∀o∈os,∃l,jX s o=some ⟨1,kR l⟩:=by
 rcases h.zG with ⟨rfl,rfl,rfl⟩|⟨o,rfl,ho,rfl⟩
 ·exact⟨.inl rfl,by simp⟩
 exact⟨.inr ⟨o,rfl,ho⟩,fun q hq=>by rw [bD.1 hq];exact⟨_,ho⟩⟩
theorem Nw{s:Store}{c:List V}{x:R}{os:List Nat}(h:ni s c x.cells os):y9 s c x/\∀o∈os,∃l,jX s o=some ⟨1,kR l⟩:=by
 obtain⟨cs,rfl,b⟩:=h.xg;obtain⟨v1,cs,o1,o2,rfl,rfl,c,d⟩:=b.inv;obtain⟨v2,cs,o3,o4,rfl,rfl,e,f⟩:=d.inv;obtain⟨rfl,rfl⟩:=f.Dt;have k1:=ahi c;have k2:=ahi e;refine⟨⟨v1,v2,rfl,k1.1,k2.1⟩,fun o ho=>?_⟩;rcases aN.1 ho with ho|ho
 ·exact k1.2 o ho
 exact k2.2 o (by simpa using ho)
theorem Ph{s:Store}:∀{r:List R} {A:List (List V)} {os:List Nat},rZ s A (r.map R.cells) os->Ee s A r/\∀o∈os,∃l,jX s o=some ⟨1,kR l⟩
 |
  [],A,os,h=>by
  simp only [iM,rZ]at h;obtain⟨rfl,rfl⟩:=h;exact⟨⟨rfl,by simp⟩,by simp⟩
 |
  x::r,A,os,h=>by
  simp only [bV,rZ]at h;obtain⟨v,vs',o1,o2,rfl,rfl,h1,h2⟩:=h;have k1:=Nw h1;have k2:=Ph h2;refine⟨⟨by simp [k2.1.1],fun j hj=>?_⟩,fun o ho=>?_⟩
  ·cases j with
   |zero=>exact k1.1
   |succ j=>simpa using k2.1.2 j (by simpa using hj)
  rcases aN.1 ho with ho|ho
  ·exact k1.2 o ho
  exact k2.2 o ho
def BF(n c:Nat)(rp:Nat->Nat):List (List V):=(List.range n).map fun i=>[.lG (rp i) 0 c]
theorem LV(n c:Nat)(rp:Nat->Nat):(BF n c rp).length=n:=by simp [BF]
theorem J3{n c:Nat}{rp:Nat->Nat}{i:Nat}(h:i<n):(BF n c rp)[i]? = some [.lG (rp i) 0 c]:=by
 unfold BF;rw [bM,dJ h];rfl
theorem Pj{n c:Nat}{rp:Nat->Nat}{i p:Nat}:(BF n c rp).set i [.lG p 0 c]=BF n c fun x=>if x=i then p else rp x:=by
 apply fP
 intro x;unfold BF;rw [fB];simp only [aU,jG,bM];by_cases h:i=x
 ·subst h;by_cases hn:i<n
  ·simp [hn]
  rw [aQ rfl,aO hn,aZ (by simpa using hn)];rfl
 rw [aO h];by_cases hn:x<n
 ·rw [dJ hn];simp only [dh];rw [aO fun e:x=i=>h e.symm]
 rw [aZ (by simpa using hn)];rfl
structure MH (s:Store) (q n c:Nat) (rp:Nat->Nat) (A:Nat->List (List V)) (M:MF):Prop where
 inj:∀i j,i<n->j<n->rp i=rp j->i=j
 out:jX s q=some ⟨1,BF n c rp⟩
 row:∀i,i<n->jX s (rp i)=some ⟨3,A i⟩
 cel:∀i,i<n->Ee s (A i) (M i)
theorem MH.lt{s:Store}{q n c:Nat}{rp:Nat->Nat}{A:Nat->List (List V)}{M:MF}(h:MH s q n c rp A M):q<s.length/\∀i,i<n->rp i<s.length:=⟨kX h.out,fun i hi=>kX (h.row i hi)⟩
theorem MH.ne{s:Store}{q n c:Nat}{rp:Nat->Nat}{A:Nat->List (List V)}{M:MF}(h:MH s q n c rp A M){i:Nat}(hi:i<n):rp i≠q:=fun e=>by
 have:=h.row i hi;rw [e,h.out]at this;cases this
theorem MH.fr{s s2:Store}{q n c:Nat}{rp:Nat->Nat}{A:Nat->List (List V)}{M:MF}(h:MH s q n c rp A M)(hf:∀p,p<s.length->jX s2 p=jX s p):MH s2 q n c rp A M :=
 ⟨h.inj,(hf _ h.lt.1).trans h.out,fun i hi=>(hf _ (h.lt.2 i hi)).trans (h.row i hi),fun i hi=>(h.cel i hi).fr (.old hf)⟩
theorem MH.aCP{s:Store}{q n c:Nat}{rp:Nat->Nat}{A:Nat->List (List V)}{M:MF}(h:MH s q n c rp A M){i:Nat}(hi:i<n)(hl:(M i).length=c):resolve s FD (.lG (rp i) 0 c)=some (oZ (M i)):=by
 have:=(h.cel i hi).res (h.row i hi)
 rwa [hl]at this
theorem MH.res{s:Store}{q n c:Nat}{rp:Nat->Nat}{A:Nat->List (List V)}{M:MF}(h:MH s q n c rp A M)(hl:∀i,i<n->(M i).length=c):resolve s FD (.lG q 0 n)=some (rG ((List.range n).map M)):=by
 show resolve s (11+1) _=_;rw [resolve];simp only [h.out];rw [aQ (by rw [LV];omega),bZ,bH (by rw [LV];omega)];have:((BF n c rp).mapM fun (r:List V)=>r.mapM (resolve s 11))=some ((List.range n).map fun i=>[oZ (M i)]):=by
  unfold BF;rw [List.mapM_map];refine mapM_some fun i hi=>?_;have hi:=eG.1 hi;have h1:=(h.cel i hi).alV (h.row i hi) 7;rw [hl i hi]at h1;simp only [Function.comp,bU,List.mapM_nil];rw [h1];rfl
 rw [this,dh];unfold rG;rw [fG];rfl
theorem MH.put{s s2:Store}{q n c k:Nat}{rp:Nat->Nat}{A:Nat->List (List V)}{M:MF}{A2:List (List V)}{r:List R}(h:MH s q n c rp A M)(hk:k<n)(hr:jX s2 (rp k)=some ⟨3,A2⟩)(ho:∀o,o<s.length->o≠rp k->jX s2 o=jX s o)(hok:Ee s2 A2 r) :
  MH s2 q n c rp (fun i=>if i=k then A2 else A i) (fun i=>if i=k then r else M i):=by
 have kp:Kp s s2:=fun o l e=>ho o (kX e) fun e2=>by rw [e2,h.row k hk]at e;cases e
 refine⟨h.inj,(ho _ h.lt.1 fun e=>h.ne hk e.symm).trans h.out,fun i hi=>?_,fun i hi=>?_⟩
 ·by_cases e:i=k
  ·subst e;rw [aQ rfl];exact hr
  rw [aO e];exact(ho _ (h.lt.2 i hi) fun e2=>e (h.inj i k hi hk e2)).trans (h.row i hi)
 by_cases e:i=k
 ·subst e;rw [aQ rfl,aQ rfl];exact hok
 rw [aO e,aO e];exact(h.cel i hi).fr kp
theorem MH.ext{s:Store}{q n c:Nat}{rp:Nat->Nat}{A:Nat->List (List V)}{M M2:MF}(h:MH s q n c rp A M)(e:∀i,i<n->M i=M2 i):MH s q n c rp A M2 :=
 ⟨h.inj,h.out,h.row,fun i hi=>e i hi▸h.cel i hi⟩
theorem Rt{n c:Nat}{rp:Nat->Nat}(hn:0<n)(l:List Int):BF n c rp≠kR l:=fun e=>by
 have h1:=J3 (c:=c) (rp:=rp) hn;rw [e]at h1
 cases l with
 |nil=>simp [kR]at h1
 |cons x l=>simp [kR]at h1
theorem MH.swap{s:Store}{q n c k p:Nat}{rp:Nat->Nat}{A:Nat->List (List V)}{M:MF}(h:MH s q n c rp A M)(hk:k<n)(hp:p<n){rows:List (List V)}(hrows:rows=((BF n c rp).set k [.lG (rp p) 0 c]).set p [.lG (rp k) 0 c]){s2:Store}(hq:jX s2 q=some ⟨1,rows⟩)(ho:∀o,o≠q->o<s.length->jX s2 o=jX s o) :
  MH s2 q n c (fun x=>if x=p then rp k else if x=k then rp p else rp x) (fun x=>if x=p then A k else if x=k then A p else A x) (AX M k p):=by
 have kp:Kp s s2:=fun o l e=>ho o (fun e2=>by
  rw [e2,h.out]at e
  injection e with e
  injection e with _ e
  exact Rt (by omega) l e) (kX e)
 have hr:=fun i hi=>(ho _ (h.ne hi) (h.lt.2 i hi)).trans (h.row i hi);have hc:=fun i hi=>(h.cel i hi).fr kp;refine⟨fun i j hi hj e=>?_,?_,fun i hi=>?_,fun i hi=>?_⟩
 ·have inj:=h.inj;by_cases a1:i=p<;>by_cases b1:j=p
  ·omega
  ·rw [aQ a1,aO b1]at e;by_cases b2:j=k
   ·rw [aQ b2]at e;have:=inj k p hk hp e;omega
   rw [aO b2]at e;have:=inj k j hk hj e;omega
  ·rw [aO a1,aQ b1]at e;by_cases b2:i=k
   ·rw [aQ b2]at e;have:=inj p k hp hk e;omega
   rw [aO b2]at e;have:=inj i k hi hk e;omega
  rw [aO a1,aO b1]at e;by_cases a2:i=k<;>by_cases b2:j=k
  ·omega
  ·rw [aQ a2,aO b2]at e;have:=inj p j hp hj e;omega
  ·rw [aO a2,aQ b2]at e;have:=inj i p hi hp e;omega
  rw [aO a2,aO b2]at e;exact inj i j hi hj e
 ·rw [hq,hrows,Pj,Pj]
 ·split
  ·exact hr k hk
  split
  ·exact hr p hp
  exact hr i hi
 unfold AX;split
 ·exact hc k hk
 split
 ·exact hc p hp
 exact hc i hi
structure YS (s:Store) (A:Nat->List (List V)) (M:MF) (f:Nat->List Nat) (S:Nat->Prop):Prop where
 ow:∀i,S i->rZ s (A i) ((M i).map R.cells) (f i)
 nd:∀i,S i->(f i).Nodup
 ap:∀i j,S i->S j->i≠j->∀o∈f i,o∉f j
theorem auc{s:Store}{A:Nat->List (List V)}{M:MF}{f:Nat->List Nat}:YS s A M f fun _=>False:=⟨fun _ h=>h.elim,fun _ h=>h.elim,fun _ _ h=>h.elim⟩
theorem YS.kp{s s2:Store}{A:Nat->List (List V)}{M:MF}{f:Nat->List Nat}{S:Nat->Prop}(h:YS s A M f S)(k:Kp s s2):YS s2 A M f S :=
 ⟨fun i hi=>(h.ow i hi).frame fun o ho=>by obtain⟨l,hl⟩:=(Ph (h.ow i hi)).2 o ho;exact k o l hl,h.nd,h.ap⟩
theorem YS.put{s s2:Store}{A:Nat->List (List V)}{M:MF}{f:Nat->List Nat}{S:Nat->Prop}{k:Nat}{A2:List (List V)}{r:List R}{os:List Nat}(h:YS s A M f S)(kp:Kp s s2)(ho:rZ s2 A2 (r.map R.cells) os)(hn:os.Nodup)(hf:∀o∈os,s.length<=o) :
  YS s2 (fun i=>if i=k then A2 else A i) (fun i=>if i=k then r else M i) (fun i=>if i=k then os else f i) (fun i=>S i\/i=k):=by
 have h2:=h.kp kp;have lt:∀i,S i->∀o∈f i,o<s.length:=fun i hi=>(h.ow i hi).lt;refine⟨fun i hi=>?_,fun i hi=>?_,fun i j hi hj hne o h1 h3=>?_⟩
 ·by_cases e:i=k
  ·subst e;rw [aQ rfl,aQ rfl,aQ rfl];exact ho
  rw [aO e,aO e,aO e];exact h2.ow i (hi.resolve_right e)
 ·by_cases e:i=k
  ·subst e;rw [aQ rfl];exact hn
  rw [aO e];exact h.nd i (hi.resolve_right e)
 by_cases e:i=k
 ·by_cases e2:j=k
  ·omega
  rw [aQ e]at h1;rw [aO e2]at h3;have:=hf o h1;have:=lt j (hj.resolve_right e2) o h3;omega
 rw [aO e]at h1;by_cases e2:j=k
 ·rw [aQ e2]at h3;have:=hf o h3;have:=lt i (hi.resolve_right e) o h1;omega
 rw [aO e2]at h3;exact h.ap i j (hi.resolve_right e) (hj.resolve_right e2) hne o h1 h3
theorem YS.ext{s:Store}{A:Nat->List (List V)}{M M2:MF}{f:Nat->List Nat}{S S2:Nat->Prop}(h:YS s A M f S)(e:∀i,S2 i->S i/\M i=M2 i):YS s A M2 f S2 :=
 ⟨fun i hi=>(e i hi).2▸h.ow i (e i hi).1,fun i hi=>h.nd i (e i hi).1,fun i j hi hj=>h.ap i j (e i hi).1 (e j hj).1⟩
theorem YS.fin{s:Store}{q n c:Nat}{rp:Nat->Nat}{A:Nat->List (List V)}{M:MF}{f:Nat->List Nat}(h:MH s q n c rp A M)(ho:YS s A M f fun i=>i<n)(hc:0<c)(hl:∀i,i<n->(M i).length=c):Fin s (.lG q 0 n) (rG ((List.range n).map M)):=by
 have key:∀m,m<=n->∃os,rZ s ((List.range m).map fun i=>[.lG (rp i) 0 c]) (((List.range m).map M).map fun r=>[oZ r]) os/\os.Nodup/\∀o∈os,∃i,i<m/\(o=rp i\/o∈f i):=by
  intro m
  induction m with
  |zero=>intro _;exact⟨[],by simp [rZ],.nil,by simp⟩
  |
   succ m ih =>
   intro hm;obtain⟨os,k1,k2,k3⟩:=ih (by omega);have hm':m<n:=by omega
   have kinds:∀i,i<n->∀o∈f i,∃l,jX s o=some ⟨1,kR l⟩:=fun i hi=>(Ph (ho.ow i hi)).2;have hnf:∀i j,i<n->j<n->rp i∉f j:=fun i j hi hj hm=>by
    obtain⟨l,hl⟩:=kinds j hj _ hm;rw [h.row i hi]at hl;cases hl
   have hv:mJ s (.lG (rp m) 0 c) (oZ (M m)) (rp m::f m):=by
    unfold oZ;simp only [mJ];exact .inr ⟨rp m,A m,f m,by rw [aU,hl m hm'],h.row m hm',rfl,ho.ow m hm'⟩
   refine⟨os++(rp m::f m),?_,?_,fun o ho'=>?_⟩
   ·rw [iY,bT,bT,bT];exact CS k1 (ZR (ag1 hv))
   ·rw [bF,dX];refine⟨k2,⟨hnf m m hm' hm',ho.nd m hm'⟩,fun x hx y hy e=>?_⟩;subst e;obtain⟨i,hi,hi2⟩:=k3 x hx;rcases aI.1 hy with hy|hy
    ·rcases hi2 with hi2|hi2
     ·have:=h.inj i m (by omega) hm' (hi2.symm.trans hy);omega
     rw [hy]at hi2;exact hnf m i hm' (by omega) hi2
    rcases hi2 with hi2|hi2
    ·rw [hi2]at hy;exact hnf i m (by omega) hm' hy
    exact ho.ap i m (by omega) hm' (by omega) x hi2 hy
   rcases aN.1 ho' with ho'|ho'
   ·obtain⟨i,hi,k⟩:=k3 o ho';exact⟨i,by omega,k⟩
   rcases aI.1 ho' with rfl|ho'
   ·exact⟨m,by omega,.inl rfl⟩
   exact⟨m,by omega,.inr ho'⟩
 obtain⟨os,k1,k2,k3⟩:=key n (aK _);refine wZ (os:=q::os) ?_ (dX.2 ⟨fun hm=>?_,k2⟩)
 ·unfold rG;simp only [mJ];exact .inr ⟨q,_,os,by simp,h.out,rfl,k1⟩
 obtain⟨i,hi,e|e⟩:=k3 q hm
 ·exact h.ne hi e.symm
 obtain⟨l,hl⟩:=(Ph (ho.ow i hi)).2 _ e;rw [h.out]at hl
 injection hl with hl
 injection hl with _ hl
 exact Rt (by omega) l hl
theorem aje{T:Tb}{f:Nat}{as:List Src}{dst:Option Nat}{env:Nat->V}{σ:Store}{kp bs:Nat}{rs ms:List Nat}{k:List Nat->List Nat->Bool->St->Prop}{ρ:List Nat}{as':List V}{r v:V}(hn:ρ.Nodup)
  (hρ:∀o,o∈ρ->∃l,jX σ o=some ⟨1,kR l⟩) (ha:(as.map fun s=>lD (place ρ) (s.ev env))=as') (hr:Run T (.fn f as' (Hl ρ σ)) (.fn r (Hl ρ σ))) (hv:∀n,lD (back ρ n) r=v)
  (hk:k ρ [] false ⟨oh env dst v,σ,kp,bs,rs,ms⟩):Y5 T f as dst ⟨env,σ,kp,bs,rs,ms⟩ k:=by
 subst ha;exact .inr (.inr (.inr ⟨ρ,r,v,hn,fun o ho=>by obtain⟨l,h⟩:=hρ o ho;exact⟨_,h,fun g=>I5 g l⟩,hr,hv,hk⟩))
theorem alW{T:Tb}{f:Nat}{as:List Src}{dst:Option Nat}{env:Nat->V}{σ σ':Store}{kp bs:Nat}{rs ms:List Nat}{k:List Nat->List Nat->Bool->St->Prop}{as':List V}{r:V}
  (h:Run T (.fn f as' σ) (.fn r σ')) (ha:(as.map fun s=>s.ev env)=as') (hl:σ.length<=σ'.length) (hb:σ.length<=bs) (hk:k (List.range σ.length) (List.range σ.length) true ⟨oh env dst r,σ',kp,bs,rs,ms⟩) :
  Y5 T f as dst ⟨env,σ,kp,bs,rs,ms⟩ k:=by
 subst ha;exact .inr (.inr (.inl ⟨r,σ',h,hl,hb,hk⟩))
def VY(g:Nat->Nat)(a:Acc):Acc:=⟨a.i,a.R.map g,a.W.map g,a.n⟩
section
variable {g : Nat -> Nat} {L L0 : Nat} (hinj : ∀ x y,g x = g y ↔ x = y) (hlt : ∀ x,g x < L ↔ x < L0)
include hinj in
theorem abr(l:List Nat)(p:Nat):(l.map g).contains (g p)=l.contains p:=by
 rw [jT,jU,jU,bC];constructor
 ·rintro⟨q,h1,h2⟩;rw [(hinj _ _).1 h2]at h1;exact h1
 exact fun h=>⟨p,h,rfl⟩
include hlt in
theorem aac(a b:Acc):AQ L (VY g a) (VY g b)=AQ L0 a b:=by
 unfold AQ VY;simp only [jE,Function.comp_def];simp only [hlt]
include hinj hlt in
theorem ajf(d e:ql)(a b:Acc):wz L d e (VY g a) (VY g b)=wz L0 d e a b:=by
 unfold wz;rw [aac hlt,aac hlt];simp only [VY,jE,Function.comp_def];simp only [abr hinj]
 congr 6
 congr 1
 funext p
 congr 2
 funext q
 rw [bne,bne]
 congr 1
 rw [jT,beq_iff_eq,beq_iff_eq];exact hinj _ _
include hinj hlt in
theorem ahk{B:Nat->List Nat}{ops:List ql}:∀l:List Acc,okA L B ops (l.map (VY g))=okA L0 B ops l
 | []=>rfl
 |
  a::l=>by
  simp only [bV,okA,jE,Function.comp_def];rw [ahk l]
  congr 2
  funext b
  have h1:(VY g a).i=a.i:=rfl;have h2:(VY g b).i=b.i:=rfl;rw [ajf hinj hlt,h1,h2]
include hinj hlt in
theorem ahl{ops:List ql}{l l0:List Acc}(he:l=l0.map (VY g))(hk:rO L0 ops l0):rO L ops l:=by
 unfold rO at hk ⊢;rw [he,<-List.map_reverse,ahk hinj hlt];exact hk
end
def gN(l:List Nat)(L x:Nat):Nat:=match l[x]? with
 |some y=>y
 |none=>L+x
theorem ahm{l:List Nat}{L:Nat}(hl:∀o∈l,o<L)(x:Nat):gN l L x<L↔x<l.length:=by
 unfold gN
 cases h:l[x]? with
 |
  none =>
  have:=List.getElem?_eq_none_iff.1 h;simp only [];omega
 |
  some y =>
  have h1:=(aP.1 h).1;have h2:=hl y (bg h);simp only [];omega
theorem alX{l:List Nat}{L:Nat}(hl:∀o∈l,o<L)(hn:l.Nodup)(x y:Nat):gN l L x=gN l L y↔x=y:=by
 constructor
 ·intro e;have hx:=ahm hl x;have hy:=ahm hl y;by_cases h:x<l.length
  ·have h2:y<l.length:=hy.1 (e▸hx.2 h);unfold gN at e;rw [au h,au h2]at e;exact(List.getElem_inj hn).1 e
  have h2:¬y<l.length:=fun k=>h (hx.1 (e▸hy.2 k));unfold gN at e;rw [aZ (by omega),aZ (by omega)]at e;simp only []at e;omega
 rintro rfl;rfl
theorem adD{ops:List ql}{aF:Nat->Nat->Nat->List Acc}(a b c L:Nat)(hn:[a,b,c].Nodup)(hl:∀o∈[a,b,c],o<L)(ha:∀(g:Nat->Nat) (a b c:Nat),aF (g a) (g b) (g c)=(aF a b c).map (VY g))(h:rO 3 ops (aF 0 1 2)):rO L ops (aF a b c) :=
 ahl (g:=gN [a,b,c] L) (alX hl hn) (ahm hl) (ha (gN [a,b,c] L) 0 1 2) h
theorem nd2{a b:Nat}(h:a≠b):[a,b].Nodup:=by simp [h]
theorem nd3{a b c:Nat}(h:a≠b)(h2:a≠c)(h3:b≠c):[a,b,c].Nodup:=by simp [h,h2,h3]
theorem nd4{a b c d:Nat}(h:a≠b)(h2:a≠c)(h3:a≠d)(h4:b≠c)(h5:b≠d)(h6:c≠d):[a,b,c,d].Nodup:=by simp [h,h2,h3,h4,h5,h6]
theorem lt2{a b L:Nat}(h:a<L)(h2:b<L):∀o∈[a,b],o<L:=by simp [h,h2]
theorem lt3{a b c L:Nat}(h:a<L)(h2:b<L)(h3:c<L):∀o∈[a,b,c],o<L:=by simp [h,h2,h3]
structure VZ (s0 s:Store) (ri:Nat) (box:Obj) (A:List (List V)) (Z:List R) (j:Nat) (N:List (List V)) (os:List Nat):Prop where
 row:jX s ri=some ⟨3,N++A.drop j⟩
 nl:N.length=j
 ow:rZ s N ((Z.take j).map R.cells) os
 nd:os.Nodup
 fr:∀o∈os,s0.length<=o
 old:∀o,o<s0.length->o≠ri->jX s o=jX s0 o
 bx:jX s s0.length=some box
 len:s0.length<s.length
section
variable {s0 s : Store} {ri : Nat} {box : Obj} {A : List (List V)} {Z : List R} {j : Nat} {N : List (List V)} {os : List Nat}
theorem aad(hi:jX s0 ri=some ⟨3,A⟩):VZ s0 (s0++[some box]) ri box A Z 0 [] [] :=
 ⟨(kQ (kX hi)).trans (by rw [iW,bZ];exact hi),rfl,by simp [rZ],.nil,by simp,fun o ho _=>kQ ho,tZ _ _,by simp⟩
theorem VZ.kp(I:VZ s0 s ri box A Z j N os)(hi:jX s0 ri=some ⟨3,A⟩):Kp s0 s:=fun o l e=>I.old o (kX e) fun e2=>by rw [e2,hi]at e;cases e
theorem VZ.at(I:VZ s0 s ri box A Z j N os)(hj:j<A.length):(N++A.drop j)[j]? = some (A.getD j []):=by
 rw [bW (by rw [I.nl];exact aK _),I.nl,kH,dY,iL,aj,au hj];rfl
theorem VZ.step(I:VZ s0 s ri box A Z j N os)(hri:ri<s0.length)(hj:j<A.length)(hjZ:j<Z.length){z:R}(hz:Z.getD j default=z){q3:Store}{c:List V}{o3:List Nat}(old:∀o,o<s.length->jX q3 o=jX s o)(len:s.length<=q3.length)
  (ho:ni q3 c z.cells o3) (nd3:o3.Nodup) (fr3:∀o∈o3,s.length<=o):VZ s0 (q3.set ri (some ⟨3,(N++A.drop j).set j c⟩)) ri box A Z (j+1) (N++[c]) (os++o3):=by
 have hl:=I.len;have ne:∀o,ri≠o->jX (q3.set ri (some ⟨3,(N++A.drop j).set j c⟩)) o=jX q3 o:=fun o h=>kK fun e=>h e.symm;have e1:(N++A.drop j).set j c=(N++[c])++A.drop (j+1):=by
  rw [List.set_append_right _ _ (by rw [I.nl];exact aK _),I.nl,kH,dH hj,jP,cO];rfl
 refine⟨?_,by simp [I.nl],?_,?_,fun o h=>?_,fun o h1 h2=>?_,?_,by simp;omega⟩
 ·rw [kT (by omega),e1]
 ·rw [take_snoc hjZ,bT,hz];refine CS (I.ow.frame fun o h=>?_) (ZR (ho.frame fun o h=>?_))
  ·have h1:=I.fr o h;rw [ne o (by omega),old o (I.ow.lt o h)]
  have:=fr3 o h;rw [ne o (by omega)]
 ·rw [bF];refine⟨I.nd,nd3,fun x hx y hy e=>?_⟩;have:=I.ow.lt x hx;have:=fr3 y hy;omega
 ·rcases aN.1 h with h|h
  ·exact I.fr o h
  have:=fr3 o h;omega
 ·rw [ne o (fun e=>h2 e.symm),old o (by omega),I.old o h1 h2]
 rw [ne _ (by omega),old _ (by omega),I.bx]
theorem VZ.fin(I:VZ s0 s ri box A Z j N os)(h1:j=A.length)(h2:j=Z.length):jX s ri=some ⟨3,N⟩/\rZ s N (Z.map R.cells) os:=by
 have a:=I.row;have b:=I.ow;rw [h1,jB,aW]at a;rw [h2,bK]at b;exact⟨a,b⟩
end
theorem yj.r11{s:Store}{v:V}{l:List Int}(h:yj s v l):resolve s 11 v=some (ints l):=h.res 8
theorem yj.rch{s:Store}{v:V}{l:List Int}(h:yj s v l):∀n,∀o∈reach s n v,∃l,jX s o=some ⟨1,kR l⟩:=by
 intro n o ho;rcases h with rfl|⟨q,rfl,hq⟩
 ·cases n<;>simp [reach]at ho
 cases n with
 |zero=>simp [reach]at ho
 |
  succ n =>
  simp only [reach,hq,aI,fU]at ho;rcases ho with rfl|⟨r,hr,c,hc,ho⟩
  ·exact⟨_,hq⟩
  have hs:=wX l r hr c hc
  cases n with
  |zero=>simp [reach]at ho
  |succ n=>rw [JL hs]at ho;cases ho
theorem y9.rch{s:Store}{c:List V}{x:R}(h:y9 s c x):∀n,∀o∈reach s n (.agg c),∃l,jX s o=some ⟨1,kR l⟩:=by
 intro n o ho;obtain⟨v1,v2,rfl,h1,h2⟩:=h
 cases n with
 |zero=>simp [reach]at ho
 |
  succ n =>
  rw [Ag]at ho;obtain⟨c,hc,ho⟩:=ho;simp only [aI,dD,or_false]at hc;rcases hc with rfl|rfl|rfl
  ·cases n<;>simp [reach]at ho
  ·exact h1.rch n o ho
  exact h2.rch n o ho
theorem Yd{T:Tb}(h:CZ T){s0:Store}{ri rk:Nat}{A B:List (List V)}{X Y:List R}{f:R}{w1 w2:V}
  (hi:jX s0 ri=some ⟨3,A⟩) (hk:jX s0 rk=some ⟨3,B⟩) (hne:ri≠rk) (hA:Ee s0 A X) (hB:Ee s0 B Y) (hl:Y.length=X.length) (hf1:yj s0 w1 f.mag) (hf2:yj s0 w2 f.den)
  (cX:∀x∈X,x.cn) (cY:∀x∈Y,x.cn) (cf:f.cn) (hX:X.length<=1048576) :
  ∃
   s' A' os,Run T (.fn 245 [.lG ri 0 X.length,.lG rk 0 X.length,.agg [.bool f.neg,w1,w2]] s0) (.fn (.bool ((Oa X Y f).all R.ok)) s') /\
   jX s' ri=some ⟨3,A'⟩/\rZ s' A' ((Oa X Y f).map R.cells) os/\os.Nodup/\(∀o∈os,s0.length<=o)/\(∀o,o<s0.length->o≠ri->jX s' o=jX s0 o)/\s0.length<=s'.length:=by
 have lw:=ah hf1.leaf hf2.leaf;have hZl:=UZ X Y f;have hZc:=adx X Y f;have hZa:=fun j (hj:j<X.length)=>ady X Y f hj;have hri:=kX hi;have hrk:=kX hk;have hAl:=hA.1;have:∃r s',Run T (.fn 245 [.lG ri 0 X.length,.lG rk 0 X.length,.agg [.bool f.neg,w1,w2]] s0) (.fn r s')/\(r=.bool ((Oa X Y f).all R.ok)/\∃A' os,
   jX s' ri=some ⟨3,A'⟩/\rZ s' A' ((Oa X Y f).map R.cells) os/\os.Nodup/\(∀o∈os,s0.length<=o)/\(∀o,o<s0.length->o≠ri->jX s' o=jX s0 o)/\s0.length<=s'.length):=by
  generalize Oa X Y f=Z at *;obtain⟨p,hp⟩:∃p,p=s0.length:=⟨_,rfl⟩;have aCQ:ri≠p:=by omega
  have aCR:rk≠p:=by omega
  refine run_end (fun x d=>x == 157||x == 159) h.hT ?_;simp only [yh,Lz,St.enter,ak,aG,aV];refine ew ?_;have hi1:jX (s0++[some (⟨3,[[.bool f.neg,w1,w2]]⟩:Obj)]) ri=some ⟨3,A⟩:=(kQ hri).trans hi;refine Af @lw @hi ?_;refine kV (fun x d=>x == 157||x == 159) (α:=Nat×Store×List (List V)×List Nat) (fun q=>⟨mM [.lG ri 0 X.length,.lG rk 0 X.length,.any,.any,.any,.ptr s0.length 0 0,.any,.any,.lG ri 0 X.length,iv (X.length:Nat),iv (q.1:Nat)],q.2.1,s0.length,0,[],[]⟩) (fun q=>q.1<=X.length/\VZ s0 q.2.1 ri ⟨3,[[.bool f.neg,w1,w2]]⟩ A Z q.1 q.2.2.1 q.2.2.2) (fun q=>X.length-q.1) rfl (0,s0++[some (⟨3,[[.bool f.neg,w1,w2]]⟩:Obj)],[],[]) ?_ ?_ ?_
  ·exact⟨by omega,aad hi⟩
  ·(refine kN ?_;exact uT)
  rintro⟨j,s,N,os⟩ ⟨hj,I⟩;dsimp only at hj I;have hls:=I.len;have hbx:=I.bx;rw [<-hp]at hbx ⊢;by_cases hc:(j:Int)<(X.length:Nat)
  ·have hjl:j<X.length:=by omega
   obtain⟨a1,a2,ea,ka1,ka2⟩:=hA.2 j hjl;obtain⟨b1,b2,eb,kb1,kb2⟩:=hB.2 j (by omega);have kp:=I.kp hi;have cx:=cX _ (getD_mem hjl);have cy:=cY _ (getD_mem (l:=Y) (i:=j) (by omega));have hz:=hZa j hjl;have gA:=I.at (by omega);rw [ea]at gA;have gB:B[j]? = some (B.getD j []):=by
    have hjB:j<B.length:=by rw [hB.1];omega
    rw [aj,au hjB];rfl
   rw [eb]at gB;have BF:=I.row;have ork:=(I.old rk hrk (fun e=>hne e.symm)).trans hk;have hrs:ri<s.length:=by omega
   have hks:rk<s.length:=by omega
   have hps:p<s.length:=by omega
   replace kb1:=kb1.fr kp
   replace kb2:=kb2.fr kp
   have kw1:=hf1.fr kp;have kw2:=hf2.fr kp
   replace ka1:=ka1.fr kp
   replace ka2:=ka2.fr kp
   generalize X.getD j default=x at *;generalize Y.getD j default=y at *;have stp:=fun (q3:Store) (c:List V) (o3:List Nat) old len ho nd3 fr3=>I.step (q3:=q3) (c:=c) (o3:=o3) hri (by omega) (by omega) hz old len ho nd3 fr3;generalize hL:N++List.drop j A=L at *;have R1:=ah (ah kb1.r11 kb2.r11) (ah kw1.r11 kw2.r11);refine Ia @hc (ah BF (ah ork hbx)) (ah gA gB) @R1 @kP @lH ?_;refine xk (fun o=>∃l,jX s o=some ⟨1,kR l⟩) (show PO T 157 [kW y,kW f] (kW (mulR y f))from Ya h.l9 cy cf) (by (refine EN @R1 @kP @lH ?_;try with_reducible exact aC)) ?_ ?_
   ·intro o ho;have ho:o∈reach s (11+1) (.agg [.bool y.neg,b1,b2])++(reach s (11+1) (.agg [.bool f.neg,w1,w2])++[]):=ho;rw [aW]at ho;rcases aN.1 ho with ho|ho
    ·exact y9.rch ⟨_,_,rfl,kb1,kb2⟩ _ o ho
    exact y9.rch ⟨_,_,rfl,kw1,kw2⟩ _ o ho
   intro Q1 r q2 o2 Yc G;have hmc:=JX y f;generalize mulR y f=mm at *;obtain⟨_,rfl,hQ⟩:=G.ow.lJ;obtain⟨m1,m2,rfl⟩:=hQ.rat
   obtain⟨v1,v2,e,km1,km2⟩:=(Nw hQ).1;simp only [jH,and_true,true_and]at e;obtain⟨rfl,rfl⟩:=e;have gl2:s.length<=q2.length:=G.len
   replace ka1:=ka1.fr (.old G.old)
   replace ka2:=ka2.fr (.old G.old)
   have R2:=ah (ah ka1.r11 ka2.r11) (ah km1.r11 km2.r11);refine EN @R2 @kP @lH ?_;refine xk (fun o=>∃l,jX q2 o=some ⟨1,kR l⟩) (show PO T 159 [kW x,kW mm] (kW (vS x mm))from Rj h.qO cx hmc) (by (refine EN @R2 @kP @lH ?_;try with_reducible exact aC)) ?_ ?_
   ·intro o ho;have ho:o∈reach q2 (11+1) (.agg [.bool x.neg,a1,a2])++(reach q2 (11+1) (.agg [.bool mm.neg,m1,m2])++[]):=ho;rw [aW]at ho;rcases aN.1 ho with ho|ho
    ·exact y9.rch ⟨_,_,rfl,ka1,ka2⟩ _ o ho
    exact y9.rch ⟨_,_,rfl,km1,km2⟩ _ o ho
   intro Q2 r q3 o3 hQ2 G2;generalize vS x mm=z at *;obtain⟨_,rfl,hQ⟩:=G2.ow.lJ;obtain⟨z1,z2,rfl⟩:=hQ.rat
   have lz:=ni.leaf hQ rfl;simp only [dF,dS,dI,aH]at lz;have gl3:q2.length<=q3.length:=G2.len;have afM:∀o,o<s.length->jX q3 o=jX s o:=fun o ho=>(G2.old o (by omega)).trans (G.old o ho);have row3:=(afM ri hrs).trans BF;have hr3:ri<q3.length:=by omega
   have alZ:=stp q3 _ o3 afM (by omega) hQ G2.nd (fun o ho=>by have:=G2.fresh o ho;omega);have nri:∀(q:Store) (l:List Int),jX q ri=some ⟨3,L⟩->jX q ri≠some ⟨1,kR l⟩:=fun q l e k=>by rw [e]at k;cases k
   have n1:∀o∈Q1,o≠ri:=fun o ho e=>by
    obtain⟨l,hl⟩:=Yc o ho;exact nri s l BF (e▸hl)
   have n2:∀o∈Q2,o≠ri:=fun o ho e=>by
    obtain⟨l,hl⟩:=hQ2 o ho;exact nri q2 l ((G.old ri hrs).trans BF) (e▸hl)
   clear Yc hQ2 stp;refine Jg @lz (ah row3 hr3) @gA @kP @lH ?_;refine⟨?_,?_⟩
   ·have d1:ri<s.length:=hrs;clear alZ afM row3 hr3
    revert Q2
    refine Fv _ (fun R=>∀o∈R,o≠ri) 2 12 rfl (fun _=>rfl) ?_ ?_
    ·intro R hR b hb w hw hm;simp only [aI,dD,or_false]at hb;rcases hb with rfl|rfl|rfl|rfl|rfl|rfl|rfl|rfl|rfl|rfl|rfl|rfl|rfl|rfl|rfl
     all_goals first|(cases hw;done)|(rw [bD.1 hw]at hm;exact hR _ hm rfl)
    revert Q1
    refine Fv _ (fun R=>∀o∈R,o≠ri) 3 11 rfl (fun _=>rfl) ?_ ?_
    ·intro R hR b hb w hw hm;simp only [aI,dD,or_false]at hb;rcases hb with rfl|rfl|rfl|rfl|rfl|rfl|rfl|rfl|rfl|rfl|rfl|rfl|rfl|rfl|rfl
     all_goals first|(cases hw;done)|(rw [bD.1 hw]at hm;exact hR _ hm rfl)
    refine adD (aF:=fun a b c=>[⟨14,[a],[a],false⟩,⟨13,[a],[],false⟩,⟨12,[],[],true⟩,⟨11,[],[],true⟩,⟨10,[c],[],false⟩,⟨9,[b],[],false⟩,⟨8,[b],[],false⟩,⟨7,[],[],false⟩,⟨6,[],[],false⟩,⟨5,[a],[],false⟩,⟨4,[a],[],false⟩,⟨3,[],[],false⟩,⟨2,[],[],false⟩,⟨1,[],[],false⟩,⟨0,[],[],false⟩]) ri rk p s.length ?_ ?_ ?_ ?_
    ·exact nd3 hne aCQ aCR
    ·exact lt3 hrs hks hps
    ·exact fun _ _ _ _=>rfl
    unfold rO;decide +kernel
   refine⟨(j+1,?st,N++[[.bool z.neg,z1,z2]],os++o3),?c1,⟨?c2,?c4⟩,?c3⟩
   case c3=>dsimp only;(refine kN ?_;exact uT)
   case c1=>dsimp only;omega
   case c2=>dsimp only;omega
   case c4=>exact alZ
  have hje:j=X.length:=by omega
  obtain⟨f1,f2⟩:=I.fin (by omega) (by omega);have rw1:=(Ph f2).1;have Rf:=rw1.res f1;rw [hZl]at Rf;have cg:=LU h.tJ hZc (by omega);refine Af @hc @Rf ?_;refine jM cg ?_;refine ew ?_;subst hp;exact⟨N,os,f1,f2,I.nd,I.fr,I.old,by omega⟩
 obtain⟨r,s',h1,rfl,A',os,h2⟩:=this;exact⟨s',A',os,h1,h2⟩
theorem P8{s s2:Store}{q q2 p2 i c:Nat}{rp:Nat->Nat}{M:MF}(h:i=0\/MH s q i c rp (fun x=>(M x).map R.cells) M)(hq:jX s2 q2=some ⟨1,BF i c rp++[[.lG p2 0 c]]⟩)(hp:jX s2 p2=some ⟨3,(M i).map R.cells⟩)(hpl:s.length<=p2)
  (old:∀o,o<s.length->o≠q->jX s2 o=jX s o):MH s2 q2 (i+1) c (fun x=>if x=i then p2 else rp x) (fun x=>(M x).map R.cells) M:=by
 have hlt:∀x,x<i->rp x<s.length/\rp x≠q:=fun x hx=>by
  rcases h with h|h
  ·omega
  exact⟨h.lt.2 x hx,h.ne hx⟩
 refine⟨fun x y hx hy e=>?_,?_,fun x hx=>?_,fun x hx=>abq _⟩
 ·by_cases h1:x=i
  ·by_cases h2:y=i
   ·omega
   rw [aQ h1,aO h2]at e;have:=(hlt y (by omega)).1;omega
  by_cases h2:y=i
  ·rw [aO h1,aQ h2]at e;have:=(hlt x (by omega)).1;omega
  rw [aO h1,aO h2]at e;rcases h with h|h
  ·omega
  exact h.inj x y (by omega) (by omega) e
 ·rw [hq];unfold BF;rw [iY,bT]
  congr 2
  congr 1
  ·refine fZ fun x hx=>?_;have:=eG.1 hx;show [V.lG (rp x) 0 c]=[V.lG (if x=i then p2 else rp x) 0 c];rw [aO (by omega)]
  simp
 by_cases h1:x=i
 ·subst h1;rw [aQ rfl];exact hp
 rw [aO h1];have hxi:x<i:=by omega
 rcases h with h|h
 ·omega
 exact(old _ (hlt x hxi).1 (hlt x hxi).2).trans (h.row x hxi)
theorem aud{m:List (List R)}{C:Nat}(hz:PS (PS R.sz) m<=1048576)(h0:0<m.length)(hrl:∀i,i<m.length->(m.getD i default).length=C):C<=1048576:=by
 have h2:=SI (f:=PS R.sz) hz (getD_mem h0);have h3:=QU R.sz (m.getD 0 default);have:=hrl 0 h0;omega
theorem al0{α:Type}{l:List (List α)}{j:Nat}(h:j<l.length):l[j]? = some (l.getD j []):=by
 rw [aj,au h];rfl
theorem MH.cell{s:Store}{q n c:Nat}{rp:Nat->Nat}{A:Nat->List (List V)}{M:MF}(h:MH s q n c rp A M)(hl:∀i,i<n->(M i).length=c){i j:Nat}(hi:i<n)(hj:j<c):∃a1 a2,(A i)[j]? = some [.bool (KR M i j).neg,a1,a2]/\yj s a1 (KR M i j).mag/\yj s a2 (KR M i j).den:=by
 have hr:=h.cel i hi;have hjl:j<(M i).length:=by rw [hl i hi];exact hj
 obtain⟨a1,a2,e,k1,k2⟩:=hr.2 j hjl;exact⟨a1,a2,by rw [al0 (by rw [hr.1];exact hjl),e];rfl,k1,k2⟩
theorem MH.kpq{s s2:Store}{q n c:Nat}{rp:Nat->Nat}{A:Nat->List (List V)}{M:MF}(h:MH s q n c rp A M)(hn:0<n)(ho:∀o,o≠q->o<s.length->jX s2 o=jX s o):Kp s s2:=fun o l e=>ho o (fun e2=>by
  rw [e2,h.out]at e
  injection e with e
  injection e with _ e
  exact Rt hn l e) (kX e)
theorem Ye{T:Tb}(h:Ea T){m:List (List R)}{c:Int}(hw:Iz (Iz R.wf) m)(hz:rrC m c=true->PS (PS R.sz) m<=1048576)(hcw:c<=9223372036854775807):PO T 243 [rG m,iv c] (.oJ [rG (rrM m c),.bool (rrB m c)]):=by
 have c1:=VG h.Iu (m:=m) (cols:=c) hw hcw;have hml:=hw.1
 cases hc:rrC m c
 ·obtain⟨e1,e2⟩:=ahg hc;rw [e1,e2];unfold rrC at hc;generalize BA m c=x at c1 hc;have hx:x=false\/x=true:=by cases x<;>simp
  refine lW nR h.hT ?_;simp only [tY,Lz,St.enter,ak,aG,aV];refine ew ?_;refine jM c1 ?_;rcases hx with hx|hx
  ·refine y8 @hx ?_;exact(qC (sz:=1)).Ic
  have hlt:c<(m.length:Nat):=by
   rw [hx,cZ,decide_eq_false_iff_not]at hc;omega
  refine Af @hx @hlt ?_;exact(qC (sz:=1)).Ic
 obtain⟨h10,hnc,hmo,hok⟩:=afK hc;rw [hmo]at c1;have hlt:¬c<(m.length:Nat):=by omega
 obtain⟨C,rfl⟩:∃C:Nat,c=C:=⟨c.toNat,by omega⟩;rw [fQ]at hok;have hrl:∀i,i<m.length->(m.getD i default).length=C:=fun i hi=>(hok i hi).1;rcases gU m.length with h0|h0
 ·obtain⟨e1,e2⟩:=Pg hc (M:=xG m) (by rw [h0];rfl);rw [h0]at e1;rw [e1,e2];refine lW nR h.hT ?_;simp only [tY,Lz,St.enter,ak,aG,aV];refine ew ?_;refine jM c1 ?_;refine y8 @hlt ?_;refine kV (fun _ _=>false) (α:=Nat) (fun i=>⟨mM [.any,.any,.any,.any,.any,.any,iv (m.length:Nat),.jZ,.any,.any,.any,.any,.any,.any,.any,.any,.any,.any,.any,.any,.any,.any,.any,.any,.any,.any,.any,rG m,iv (m.length:Nat),iv (i:Nat)],[none],0,0,[],[]⟩) (fun i=>i=0) (fun i=>i) rfl 0 ?_ ?_ ?_
  ·rfl
  ·(refine kN ?_;exact uT)
  rintro i rfl;have hcc:¬(((0:Nat):Int)<(m.length:Nat)):=by omega
  refine y8 @hcc ?_;refine kV (fun _ _=>false) (α:=Nat) (fun k=>⟨mM [.any,.any,.any,.any,.any,.any,iv (m.length:Nat),.jZ,.any,.any,iv (k:Nat)],[none],0,0,[],[]⟩) (fun k=>k=0) (fun k=>k) rfl 0 ?_ ?_ ?_
  ·rfl
  ·(refine kN ?_;exact uT)
  rintro k rfl;refine y8 @hcc ?_;exact(qC (sz:=1)).Ic
 have hC:=aud (hz hc) h0 hrl;clear hw hz hml;refine lW (fun x d=>(x == 156&&d == 107)||(x == 245&&d == 140)) h.hT ?_;simp only [tY,Lz,St.enter,ak,aG,aV];refine ew ?_;refine jM c1 ?_;refine y8 @hlt ?_;refine kV (fun x d=>(x == 156&&d == 107)||(x == 245&&d == 140)) (α:=Nat×Store×V×Nat×(Nat->Nat)) (fun q=>⟨mM [.any,.any,.any,.any,.any,.any,iv (m.length:Nat),q.2.2.1,.any,.any,.any,.any,.any,.any,.any,.any,.any,.any,.any,.any,.any,.any,.any,.any,.any,.any,.any,rG m,iv (m.length:Nat),iv (q.1:Nat)],q.2.1,0,0,[],[]⟩) (fun q=>q.1<=m.length/\((q.1=0/\q.2.2.1=.jZ)\/(0<q.1/\q.2.2.1=.lG q.2.2.2.1 0 q.1/\MH q.2.1 q.2.2.2.1 q.1 C q.2.2.2.2 (fun x=>(xG m x).map R.cells) (xG m)))) (fun q=>m.length-q.1) rfl (0,[none],.jZ,0,fun _=>0) ?_ ?_ ?_
 ·exact⟨by omega,.inl ⟨rfl,rfl⟩⟩
 ·(refine kN ?_;exact uT)
 rintro⟨i,s,v7,qo,rp⟩ ⟨hi,hM⟩;dsimp only at hi hM;by_cases hcc:(i:Int)<(m.length:Nat)
 ·have hil:i<m.length:=by omega
  have hai:(m.map fun r=>[oZ r]).getD i []=[oZ (m.getD i default)]:=mg (f:=fun r:List R=>[oZ r]) hil;have hri:=hrl i hil;have emf:xG m i=m.getD i default:=rfl;generalize m.getD i default=r at *;have hne:(r.map R.cells=[])=False:=iy fun e=>by
   have:=congrArg List.length e;simp at this;subst this;simp at hri;omega
  rcases hM with ⟨rfl,rfl⟩|⟨hi0,rfl,hM⟩
  ·refine EN @hcc @hai @hne ?_;refine⟨⟨by omega,by omega⟩,by decide,?_⟩;refine⟨(0+1,?st,.lG (s.length+3) 0 1,s.length+3,fun x=>if x=0 then s.length+1 else rp x),?c1,⟨?c2,.inr ⟨by omega,rfl,?c4⟩⟩,?c3⟩
   case c3=>dsimp only;(refine kN ?_;exact uT)
   case c1=>dsimp only;omega
   case c2=>dsimp only;omega
   case c4 =>
    dsimp only;refine P8 (s:=s) (q:=0) (.inl rfl) ?_ ?_ (by omega) (fun o ho _=>?_)
    ·rw [kT (by simp)];rw [hri];rfl
    ·rw [emf];exact Ib
    exact Ib
  have hq:=hM.out;have hql:=hM.lt.1;have hoc:=LV i C rp;refine Jg @hcc @hai @hne @hq @hoc ?_;refine⟨⟨by omega,by omega⟩,by omega,?_⟩;refine⟨(i+1,?st2,.lG (s.length+3) 0 (i+1),s.length+3,fun x=>if x=i then s.length+1 else rp x),?c1,⟨?c2,.inr ⟨by omega,rfl,?c4⟩⟩,?c3⟩
  case c3=>dsimp only;(refine kN ?_;exact uT)
  case c1=>dsimp only;omega
  case c2=>dsimp only;omega
  case c4 =>
   dsimp only;refine P8 (s:=s) (q:=qo) (.inr hM) ?_ ?_ (by omega) (fun o ho hne=>?_)
   ·rw [kT (by simp)];rw [hri]
   ·rw [emf];have:s.length+1≠qo:=by omega
    exact Ib
   exact Ib
 have hie:i=m.length:=by omega
 subst hie;rcases hM with ⟨h1,_⟩|⟨_,rfl,hM⟩
 ·omega
 refine y8 @hcc ?_;have hql:=hM.lt.1;refine kV (fun x d=>(x == 156&&d == 107)||(x == 245&&d == 140)) (α:=Nat×Store×(Nat->Nat)×(Nat->List (List V))×MF×(Nat->List Nat)) (fun q=>⟨mM [.any,.any,.any,.any,.any,.any,iv (m.length:Nat),.lG qo 0 m.length,.any,.any,iv (q.1:Nat)],q.2.1,0,0,[],[]⟩) (fun q=>q.1<=m.length/\MH q.2.1 qo m.length C q.2.2.1 q.2.2.2.1 q.2.2.2.2.1/\Oq m.length (xG m) q.1=some q.2.2.2.2.1/\WG m.length C q.2.2.2.2.1/\(0<q.1->YS q.2.1 q.2.2.2.1 q.2.2.2.2.1 q.2.2.2.2.2 fun i=>i<m.length)) (fun q=>m.length-q.1) rfl (0,s,rp,fun x=>(xG m x).map R.cells,xG m,fun _=>[]) ?_ ?_ ?_
 ·exact⟨by omega,hM,rfl,hok,fun h=>absurd h (by omega)⟩
 ·(refine kN ?_;exact uT)
 clear hM hok hql hrl hcc hi;rintro⟨k,s,rp,A,M,f⟩ ⟨hk,hM,hIt,hOk,hOw⟩;dsimp only at hk hM hIt hOk hOw;by_cases hck:(k:Int)<(m.length:Nat)
 ·have hkl:k<m.length:=by omega
  have hkC:k<C:=by omega
  have hql:=hM.lt.1;refine y8 @hck ?_;refine kV (fun x d=>(x == 156&&d == 107)||(x == 245&&d == 140)) (α:=Nat) (fun p=>⟨mM [.any,.any,.any,.any,.any,.any,iv (m.length:Nat),.lG qo 0 m.length,.any,.any,iv (k:Nat),iv (p:Nat)],s,0,0,[],[]⟩) (fun p=>k<=p/\p<=m.length/\rrP M k (m.length-p) p=Ze m.length M k) (fun p=>m.length-p) rfl k ?_ ?_ ?_
  ·exact⟨aK _,by omega,rfl⟩
  ·(refine kN ?_;exact uT)
  rintro p ⟨hkp,hpn,hP⟩;by_cases hcp:(p:Int)<(m.length:Nat)
  ·have hpl:p<m.length:=by omega
   obtain⟨a1,a2,gA,ka1,ka2⟩:=hM.cell (fun i hi=>(hOk i hi).1) hpl hkC;have cs:=afy h.Jo (hOk.el hpl hkC);have hzz:=axX (M:=M) (k:=k) hpl;have hnz:=axY (M:=M) (k:=k) hpl;have hxc:=hOk.el hpl hkC;obtain⟨x,hx⟩:∃x,KR M p k=x:=⟨_,rfl⟩;rw [hx]at gA ka1 ka2 cs hzz hnz hxc;have R1:=ah ka1.r11 ka2.r11;have O1:=ah hM.out (hM.row p hpl);have G1:=ah (J3 (c:=C) (rp:=rp) hpl) gA;refine Du @hcp @O1 @G1 @R1 ?_;refine jM cs ?_;by_cases hs:wQ x=0
   ·refine y8 @hs ?_;exact⟨p+1,by omega,⟨by omega,by omega,(hzz hs).symm.trans hP⟩,by (refine kN ?_;exact uT)⟩
   have hPv:=(hnz hs).symm.trans hP;have ax4:¬((p:Int)=(m.length:Nat)):=by omega
   have gk:=J3 (c:=C) (rp:=rp) hkl;obtain⟨w,gS1⟩:∃w,((BF m.length C rp).set k [V.lG (rp p) 0 C])[p]? = some [w]:=by rw [Pj];exact⟨_,J3 hpl⟩
   have gS2:(((BF m.length C rp).set k [V.lG (rp p) 0 C]).set p [.lG (rp k) 0 C])[k]? = some [.lG (rp p) 0 C]:=by
    rw [Pj,Pj,J3 hkl];by_cases e:k=p
    ·subst e;simp
    rw [aO e,aQ rfl]
   have hnq:=hM.ne hpl;have hpq:=hM.lt.2 p hpl;have lx:=ah ka1.leaf ka2.leaf;refine Ia (ah hs ax4) @O1 @G1 (ah gk (ah gS1 gS2)) @lx @List.set_set.{0} ?_;refine⟨by unfold rO;rfl,?_⟩;have hl2:(s.set qo (some ⟨1,((BF m.length C rp).set k [V.lG (rp p) 0 C]).set p [.lG (rp k) 0 C]⟩)).length=s.length:=by simp
   have hM2:=hM.swap hkl hpl rfl (s2:=s.set qo (some ⟨1,((BF m.length C rp).set k [V.lG (rp p) 0 C]).set p [.lG (rp k) 0 C]⟩)) (kT hql) (fun o h _=>kK h);have kp2:=hM.kpq h0 (s2:=s.set qo (some ⟨1,((BF m.length C rp).set k [V.lG (rp p) 0 C]).set p [.lG (rp k) 0 C]⟩)) (fun o h _=>kK h)
   replace ka1:=ka1.fr kp2
   replace ka2:=ka2.fr kp2
   generalize s.set qo (some ⟨1,((BF m.length C rp).set k [V.lG (rp p) 0 C]).set p [.lG (rp k) 0 C]⟩)=s2 at *;rw [<-hl2];have hp1:Ze m.length M k<m.length:=hPv▸hpl;have e1:AX M k p=BD m.length M k:=by unfold BD;rw [<-hPv]
   rw [e1]at hM2;have ax5:=hOk.one hkl hp1;have exk:KR (BD m.length M k) k k=x:=by
    rw [<-hx,<-e1];unfold KR AX;by_cases e:k=p
    ·rw [aQ e,e]
    rw [aO e,aQ rfl]
   have hL1:=fun i hi=>(ax5 i hi).1;have e2w:Ec m.length M k=fun i=>if i=k then Qw (BD m.length M k k) k else BD m.length M k i:=rfl
   have al1:=hOk.two hkl hp1;have hstep:Oq m.length (xG m) (k+1)=Ed m.length M k:=abp hIt;have hsf:=@alQ m.length M k;have hst:=adB (n:=m.length) (M:=M) (k:=k) hp1;have aCW:=fun M'=>hOk.step (M':=M') hkl;generalize (fun x=>if x=p then rp k else if x=k then rp p else rp x)=rp2 at hM2;generalize (fun x=>if x=p then A k else if x=k then A p else A x)=A2 at hM2;have hDl:=UY (BD m.length M k k) k;have hDc:=adw (BD m.length M k k) k;have hDa:=fun j hj=>adz (BD m.length M k k) k (j:=j) hj;have hlk:=hL1 k hkl;have ax6:=fun j hj=>hM2.cell hL1 hkl (j:=j) hj;have hel:=fun j hj=>ax5.el hkl (j:=j) hj;rw [show (BD m.length M k k).getD k default=x from exk]at hDa;generalize Ec m.length M k=M2 at *;generalize hM1:BD m.length M k=M1 at *;clear hs hzz hnz cs R1 O1 G1 gk gS1 gS2 hnq hpq ax4 hM hOk hOw gA hx hP hPv kp2 hp1 e1 hql hl2 hIt w;have hrq:=hM2.ne hkl;have hrl2:=hM2.lt.2 k hkl;have aue:=hM2.lt.1;have hq2:=hM2.out;have hrk:=hM2.row k hkl;have hAk:=(hM2.cel k hkl).1;rw [hlk]at hDl hAk;have aCY:(Qw (M1 k) k).length=C:=hDl;have gk:=J3 (c:=C) (rp:=rp2) hkl
   refine kV (fun x d=>(x == 156&&d == 107)||(x == 245&&d == 140)) (α:=Nat×Store×List (List V)×List Nat) (fun q=>⟨mM [.any,.any,.any,.any,.any,.any,iv (m.length:Nat),.lG qo 0 m.length,.any,.any,iv (k:Nat),.any,.ptr s2.length 0 0,.any,.any,.any,.any,.any,.any,.any,.any,.any,.any,.any,.any,.any,.any,.any,.any,.any,.any,.any,.any,.any,.any,.any,.any,.any,.any,.any,.any,.any,.any,.any,.any,.any,.any,.any,.any,.any,.any,.any,.any,.any,.any,.any,.any,.any,.any,.any,.any,.any,.any,.any,.any,.any,.any,.any,.any,.any,.any,.any,.any,.any,.any,.any,.any,.any,.any,.any,.any,.any,.any,.any,.any,.any,.any,.any,.any,.any,iv (C:Nat),iv (q.1:Nat)],q.2.1,0,0,[],[]⟩) (fun q=>q.1<=C/\VZ s2 q.2.1 (rp2 k) ⟨3,[[.bool x.neg,a1,a2]]⟩ (A2 k) (Qw (M1 k) k) q.1 q.2.2.1 q.2.2.2) (fun q=>C-q.1) rfl (0,(s2++[none]).set s2.length (some ⟨3,[[.bool x.neg,a1,a2]]⟩),[],[]) ?_ ?_ ?_
   ·exact⟨by omega,by rw [XB];exact aad hrk⟩
   ·(refine kN ?_;exact uT)
   rintro⟨j,t,N,os⟩ ⟨hj,I⟩;dsimp only at hj I;have hlt2:=I.len;have hbx:=I.bx;obtain⟨b,hb⟩:∃b,b=s2.length:=⟨_,rfl⟩;rw [<-hb]at hbx ⊢;have hqt:=(I.old qo aue (fun e=>hrq e.symm)).trans hq2;have hrt:=I.row;by_cases hcj:(j:Int)<(C:Nat)
   ·have hjl:j<C:=by omega
    obtain⟨b1,b2,gB,kb1,kb2⟩:=ax6 j hjl;have kp:=I.kp hrk;have cy:=hel j hjl;have hz:=hDa j (by omega);rw [show (M1 k).getD j default=KR M1 k j from rfl]at hz;have gA:=I.at (by omega);have gB2:(A2 k)[j]? = some ((A2 k).getD j []):=al0 (by omega);rw [gB]at gB2;rw [<-Option.some.inj gB2]at gA
    replace kb1:=kb1.fr kp
    replace kb2:=kb2.fr kp
    have kw1:=ka1.fr kp;have kw2:=ka2.fr kp;generalize KR M1 k j=y at *;have stp:=fun (q3:Store) (c:List V) (o3:List Nat) old len ho nd3 fr3=>I.step (q3:=q3) (c:=c) (o3:=o3) hrl2 (by omega) (by omega) hz old len ho nd3 fr3;generalize hL:N++List.drop j (A2 k)=L at *;have R1:=ah (ah kb1.r11 kb2.r11) (ah kw1.r11 kw2.r11);have hrs:rp2 k<t.length:=by omega
    have hqs:qo<t.length:=by omega
    have hbs:b<t.length:=by omega
    refine Ia @hcj (ah hqt (ah hrt hbx)) (ah gk gA) @R1 @kP @lH ?_;refine xk (fun o=>∃l,jX t o=some ⟨1,kR l⟩) (show PO T 156 [kW y,kW x] (kW (uZ y x))from Ns h.uN cy hxc) (by (refine EN @R1 @kP @lH ?_;try with_reducible exact aC)) ?_ ?_
    ·intro o ho;have ho:o∈reach t (11+1) (.agg [.bool y.neg,b1,b2])++(reach t (11+1) (.agg [.bool x.neg,a1,a2])++[]):=ho;rw [aW]at ho;rcases aN.1 ho with ho|ho
     ·exact y9.rch ⟨_,_,rfl,kb1,kb2⟩ _ o ho
     exact y9.rch ⟨_,_,rfl,kw1,kw2⟩ _ o ho
    intro Q1 r q3 o3 Yc G;generalize uZ y x=z at *;obtain⟨_,rfl,hQ⟩:=G.ow.lJ;obtain⟨z1,z2,rfl⟩:=hQ.rat
    have lz:=ni.leaf hQ rfl;simp only [dF,dS,dI,aH]at lz;have gl3:t.length<=q3.length:=G.len;have afM:∀o,o<t.length->jX q3 o=jX t o:=fun o ho=>G.old o ho;have row3:=(afM _ hrs).trans hrt;have hr3:rp2 k<q3.length:=by omega
    have alZ:=stp q3 _ o3 afM gl3 hQ G.nd (fun o ho=>G.fresh o ho);have n1:∀o∈Q1,o≠rp2 k:=fun o ho e=>by
     obtain⟨l,hl⟩:=Yc o ho;rw [e,hrt]at hl;cases hl
    clear Yc stp;refine Jg @lz (ah row3 hr3) @gA @kP @lH ?_;refine⟨?_,?_⟩
    ·clear alZ afM row3 hr3
     revert Q1
     refine Fv _ (fun R=>∀o∈R,o≠rp2 k) 2 13 rfl (fun _=>rfl) ?_ ?_
     ·intro R hR b hb w hw hm;simp only [aI,dD,or_false]at hb;rcases hb with rfl|rfl|rfl|rfl|rfl|rfl|rfl|rfl|rfl|rfl|rfl|rfl|rfl|rfl|rfl|rfl
      all_goals first|(cases hw;done)|(rw [bD.1 hw]at hm;exact hR _ hm rfl)
     refine adD (aF:=fun a b c=>[⟨15,[a],[a],false⟩,⟨14,[a],[],false⟩,⟨13,[],[],true⟩,⟨12,[c],[],false⟩,⟨11,[a],[],false⟩,⟨10,[a],[],false⟩,⟨9,[],[],false⟩,⟨8,[b],[],false⟩,⟨7,[b],[],false⟩,⟨6,[],[],false⟩,⟨5,[],[],false⟩,⟨4,[],[],false⟩,⟨3,[b],[],false⟩,⟨2,[b],[],false⟩,⟨1,[],[],false⟩,⟨0,[],[],false⟩]) (rp2 k) qo b t.length ?_ ?_ ?_ ?_
     ·exact nd3 hrq (by omega) (by omega)
     ·exact lt3 hrs hqs hbs
     ·exact fun _ _ _ _=>rfl
     unfold rO;decide +kernel
    refine⟨(j+1,?st6,N++[[.bool z.neg,z1,z2]],os++o3),?c1,⟨?c2,?c4⟩,?c3⟩
    case c3=>dsimp only;(refine kN ?_;exact uT)
    case c1=>dsimp only;omega
    case c2=>dsimp only;omega
    case c4=>exact alZ
   have hje:j=C:=by omega
   obtain⟨f1,f2⟩:=I.fin (by omega) (by omega);have hM3:=hM2.put hkl f1 I.old (Ph f2).1;rw [<-e2w]at hM3;have hO3:=((auc (s:=s2) (A:=A2) (M:=M1) (f:=fun _=>[])).put (k:=k) (I.kp hrk) f2 I.nd I.fr).ext (M2:=M2) (S2:=fun x=>x<0\/x=k) (fun i hi=>⟨hi.imp (fun h=>absurd h (dA _)) id,by rw [e2w]⟩);have Rf:=hM3.aCP hkl (al1 k hkl).1;have cg:=LU h.tJ (al1 k hkl).2 (by rw [(al1 k hkl).1];exact hC);clear I hrt f1 f2 hM2 hbx hel ax6 hDa hDc hDl aCY hAk hrk hq2;rw [<-apM M2 k]at hM3 hO3;have et:zq M2 k k=M2 k:=aQ rfl
   cases hg:(M2 k).all R.ok
   ·rw [hg]at cg;obtain⟨e1,e2⟩:=Ti hc (hstep.trans (hsf (ahh hkl (by rw [et];exact hg)))) hkl;rw [e1,e2];refine Du @hcj @hqt @gk @Rf ?_;refine jM cg ?_;refine ew ?_;exact(qC (sz:=1)).Ic
   rw [hg]at cg;refine Du @hcj @hqt @gk @Rf ?_;refine jM cg ?_;refine y8 @hqt ?_;refine kV (fun x d=>(x == 156&&d == 107)||(x == 245&&d == 140)) (α:=Nat×Store×(Nat->List (List V))×(Nat->List Nat)) (fun q=>⟨mM [.any,.any,.any,.any,.any,.any,iv (m.length:Nat),.lG qo 0 m.length,.any,.any,iv (k:Nat),.any,.any,.any,.any,.any,.any,.any,.any,.any,.any,.any,.any,.any,.any,.any,.any,.any,.any,.any,.any,.any,.any,.any,.any,.any,.any,.any,.any,.any,.any,.any,.any,.any,.any,.any,.any,.any,.any,.any,.any,.any,.any,.any,.any,.any,.any,.any,.any,.any,.any,.any,.any,.any,.any,.any,.any,.any,.any,.any,.any,.any,.any,.any,.any,.any,.any,.any,.any,.any,.any,.any,.any,.any,.any,.any,.any,.any,.any,.any,.any,.any,.any,.any,.any,.any,.any,.any,.any,.any,.any,.any,.any,.any,.any,.any,.any,.any,.any,.any,.any,.any,.any,.any,.any,.any,.any,iv (m.length:Nat),iv (q.1:Nat)],q.2.1,0,0,[],[]⟩) (fun q=>q.1<=m.length/\MH q.2.1 qo m.length C rp2 q.2.2.1 (ER M2 k q.1)/\YS q.2.1 q.2.2.1 (ER M2 k q.1) q.2.2.2 (fun x=>x<q.1\/x=k)/\∀x,x<q.1->(zq M2 k x).all R.ok=true) (fun q=>m.length-q.1) rfl (0,t,fun i=>if i=k then N else A2 i,fun i=>if i=k then os else []) ?_ ?_ ?_
   ·exact⟨fV _,hM3,hO3,fun x hx=>absurd hx (dA _)⟩
   ·(refine kN ?_;exact uT)
   clear hM3 hO3 hqt Rf hcj hj hje hb hlt2;rintro⟨i,u,A3,f⟩ ⟨hi,hM,hO,hgi⟩;dsimp only at hi hM hO hgi;by_cases hci:(i:Int)<(m.length:Nat)
   ·have hil:i<m.length:=by omega
    have ax9:(zq M2 k i).all R.ok=true->∀x,x<i+1->(zq M2 k x).all R.ok=true:=fun h x hx=>by
     by_cases e:x=i
     ·subst e;exact h
     exact hgi x (by omega)
    by_cases hik:i=k
    ·have hik':((i:Int)=(k:Nat))=True:=gZ (by omega);have em:∀x,ER M2 k (i+1) x=ER M2 k i x:=fun x=>by
      unfold ER;by_cases e:x<i
      ·rw [aQ e,aQ (by omega)]
      by_cases e2:x=i
      ·rw [aO e,aQ (by omega),e2,hik,et]
      rw [aO e,aO (by omega)]
     refine Af @hci @hik' ?_;refine⟨by unfold rO;rfl,⟨(i+1,u,A3,f),by dsimp only;omega,⟨by dsimp only;omega,hM.ext fun x _=>(em x).symm,hO.ext fun x hx=>⟨?_,(em x).symm⟩,ax9 (by rw [hik,et];exact hg)⟩,by (refine kN ?_;exact uT)⟩⟩;dsimp only at hx;omega
    have hik':((i:Int)=(k:Nat))=False:=iy (by omega);have hOm:=al1.mix hkl i;have hlm:=fun x hx=>(hOm x hx).1;have emi:ER M2 k i i=M2 i:=aO (jr _);have emk:ER M2 k i k=M2 k:=by
     unfold ER;split
     ·exact et
     rfl
    obtain⟨w1,w2,gC,kc1,kc2⟩:=hM.cell hlm hil hkC;rw [show KR (ER M2 k i) i k=KR M2 i k by unfold KR;rw [emi]]at gC kc1 kc2;have etr:zq M2 k i=Oa (M2 i) (M2 k) (KR M2 i k):=aO hik;obtain⟨u2,A',o',hr,g1,g2,g3,g4,g5,g6⟩:=Yd h.Ro (hM.row i hil) (hM.row k hkl) (fun e=>hik (hM.inj i k hil hkl e)) (hM.cel i hil) (hM.cel k hkl) (by rw [hlm k hkl,hlm i hil]) kc1 kc2 (hOm i hil).2 (hOm k hkl).2 (al1.el hil hkC) (by rw [hlm i hil];exact hC);rw [hlm i hil,emi,emk,<-etr]at hr;rw [emi,emk,<-etr]at g2;have kp:Kp u u2:=fun o l e=>g5 o (kX e) (fun e2=>by rw [e2,hM.row i hil]at e;cases e);have hM4:=hM.put hil g1 g5 (Ph g2).1;have hO4:=hO.put (k:=i) kp g2 g3 g4;have em:∀x,(if x=i then zq M2 k i else ER M2 k i x)=ER M2 k (i+1) x:=fun x=>by
     unfold ER;by_cases e:x=i
     ·rw [aQ e,aQ (by omega),e]
     by_cases e2:x<i
     ·rw [aO e,aQ e2,aQ (by omega)]
     rw [aO e,aO e2,aO (by omega)]
    generalize KR M2 i k=y at *;have gi:=J3 (c:=C) (rp:=rp2) hil;have O1:=ah hM.out (hM.row i hil);refine Du @hci @hik' @O1 (ah gi (ah gk gC)) ?_;refine alW hr rfl g6 (aK _) ?_;obtain⟨bb,hbb⟩:∃bb,(zq M2 k i).all R.ok=bb:=⟨_,rfl⟩;rw [hbb];have hb2:bb=false\/bb=true:=by cases bb<;>simp
    rcases hb2 with hb2|hb2
    ·rw [hb2]at hbb;obtain⟨e1,e2⟩:=Ti hc (hstep.trans (hsf (ahh hil hbb))) hkl;rw [e1,e2];refine Du @hb2 @hik' @kP @lH ?_;refine⟨by unfold rO;rfl,?_⟩;exact(qC (sz:=1)).Ic
    rw [hb2]at hbb;refine Du @hb2 @hik' @kP @lH ?_;refine⟨by unfold rO;rfl,?_⟩;refine⟨(i+1,u2,fun x=>if x=i then A' else A3 x,fun x=>if x=i then o' else f x),by dsimp only;omega,⟨by dsimp only;omega,hM4.ext fun x _=>em x,hO4.ext fun x hx=>⟨?_,em x⟩,ax9 hbb⟩,by (refine kN ?_;exact uT)⟩;dsimp only at hx;omega
   have hie:i=m.length:=by omega
   subst hie;have ha:O9 m.length (zq M2 k)=true:=U0.2 hgi;have hnx:=hst ha;have em:∀x,x<m.length->ER M2 k m.length x=zq M2 k x:=fun x hx=>by unfold ER;rw [aQ hx]
   refine y8 @hci ?_;refine⟨(k+1,u,rp2,A3,zq M2 k,f),?c1,⟨?c2,?c4,?c5,?c6,?c7⟩,?c3⟩
   case c3=>dsimp only;(refine kN ?_;exact uT)
   case c1=>dsimp only;omega
   case c2=>dsimp only;omega
   case c4=>exact hM.ext em
   case c5=>exact hstep.trans hnx
   case c6=>exact aCW _ hnx
   case c7=>exact fun _=>hO.ext fun x hx=>⟨.inl hx,em x hx⟩
  have hpe:p=m.length:=by omega
  have hnn:Ed m.length M k=none:=adA (by rw [<-hP,hpe,kH];exact jr _);obtain⟨e1,e2⟩:=Ti hc ((abp hIt).trans hnn) hkl;rw [e1,e2];have aC1:((p:Int)=(m.length:Nat))=True:=gZ (by omega);refine Af @hcp @aC1 ?_;exact(qC (sz:=1)).Ic
 have hke:k=m.length:=by omega
 subst hke;obtain⟨e1,e2⟩:=Pg hc hIt;rw [e1,e2];refine y8 @hck ?_;exact(YS.fin hM (hOw h0) (by omega) fun i hi=>(hOk i hi).1).Ic
def Yf(s:Store)(q n c:Nat)(rp:Nat->Nat)(M:MF):Prop:=MH s q n c rp (fun x=>(M x).map R.cells) M
def adF(M:MF)(i:Nat)(r:List R):MF:=fun x=>if x=i then r else M x
theorem Yf.put{s s2:Store}{q n c k:Nat}{rp:Nat->Nat}{M:MF}{r:List R}(h:Yf s q n c rp M)(hk:k<n)(hr:jX s2 (rp k)=some ⟨3,r.map R.cells⟩)(ho:∀o,o<s.length->o≠rp k->jX s2 o=jX s o):Yf s2 q n c rp (adF M k r):=by
 have:=MH.put h hk hr ho (abq r);have e:(fun i=>if i=k then r.map R.cells else(M i).map R.cells)=fun x=>(adF M k r x).map R.cells:=by
  funext i;unfold adF;split<;>rfl
 rw [e]at this;exact this
theorem Yf.swap{s:Store}{q n c k p:Nat}{rp:Nat->Nat}{M:MF}(h:Yf s q n c rp M)(hk:k<n)(hp:p<n){rows:List (List V)}(hrows:rows=((BF n c rp).set k [.lG (rp p) 0 c]).set p [.lG (rp k) 0 c]){s2:Store}(hq:jX s2 q=some ⟨1,rows⟩)(ho:∀o,o≠q->o<s.length->jX s2 o=jX s o) :
  Yf s2 q n c (fun x=>if x=p then rp k else if x=k then rp p else rp x) (AX M k p):=by
 have:=MH.swap h hk hp hrows hq ho;have e:(fun x=>if x=p then(M k).map R.cells else if x=k then(M p).map R.cells else(M x).map R.cells)=fun x=>(AX M k p x).map R.cells:=by
  funext i;unfold AX;split
  ·rfl
  split<;>rfl
 rw [e]at this;exact this
theorem Yf.ext{s:Store}{q n c:Nat}{rp:Nat->Nat}{M M2:MF}(h:Yf s q n c rp M)(e:∀i,i<n->M i=M2 i):Yf s q n c rp M2 :=
 ⟨h.inj,h.out,fun i hi=>by rw [<-e i hi];exact h.row i hi,fun i hi=>by rw [<-e i hi];exact h.cel i hi⟩
theorem Yf.cell{s:Store}{q n c:Nat}{rp:Nat->Nat}{M:MF}(h:Yf s q n c rp M)(hl:∀i,i<n->(M i).length=c){i j:Nat}(hi:i<n)(hj:j<c):((M i).map R.cells)[j]? = some (KR M i j).cells:=by
 have hjl:j<(M i).length:=by rw [hl i hi];exact hj
 rw [mg? hjl];rfl
theorem apQ(M:MF)(i:Nat)(r:List R):adF M i r i=r:=aQ rfl
theorem apR{M:MF}{i x:Nat}{r:List R}(h:x≠i):adF M i r x=M x:=aO h
theorem MH.alV{s:Store}{q n c:Nat}{rp:Nat->Nat}{A:Nat->List (List V)}{M:MF}(h:MH s q n c rp A M)(hl:∀i,i<n->(M i).length=c)(k:Nat):resolve s (k+5) (.lG q 0 n)=some (rG ((List.range n).map M)):=by
 rw [resolve];simp only [h.out];rw [aQ (by rw [LV];omega),bZ,bH (by rw [LV];omega)];have:((BF n c rp).mapM fun (r:List V)=>r.mapM (resolve s (k+4)))=some ((List.range n).map fun i=>[oZ (M i)]):=by
  unfold BF;rw [List.mapM_map];refine mapM_some fun i hi=>?_;have hi:=eG.1 hi;have h1:=(h.cel i hi).alV (h.row i hi) k;rw [hl i hi]at h1;simp only [Function.comp,bU,List.mapM_nil];rw [h1];rfl
 rw [this,dh];unfold rG;rw [fG];rfl
def rV:Fn:=⟨2,73,[.tmp 4,.tmp 5],(sr [oN 4 mN,oN 5 mF] (sr [oW 15 0,oN 16 (ln 15),oW 6 16] (.seq (sr [oW 17 0,oW 18 6,oN 19 (cl 93 [17,18]),oN 20 (nt 19),oW 21 20,oG 21 false 22 (oV 1),oG 21 false 23 (ln 22),oG 21 false 24 (oV 6),oG 21 false 25 (bt .neq 23 24),oN 26 (.pick (.t 21) (.c (.bool true)) (.t 25))] (cd 26 (sr [oN 4 mN,oN 5 mF] .ret) .skip)) (.seq (rf 1 [oN 27 (.nM 1 [.jZ] 0 []),oK 7 1 (oV 27)]) (.seq (sr [oW 28 0,oN 29 (ln 28),oN 30 (.qw (cI 0))] (.block 0 (.loop (sr [oN 31 (bt .lss 30 29)] (.seq (cd 31 .skip (.exit 0)) (.seq (.block 1 (sr [oW 32 30,oN 33 (ix 1 28 30),oN 34 (lF 1 33),oW 8 32,oW 9 34] (rt 6 [oK 35 6 (oV 7),oN 36 (.nM 3 uz 0 []),oK 37 6 (oV 9),oA 38 1 (.app 3 56 (.t 36) (.t 37)) [1,2],oK 39 6 (oV 1),oK 40 6 (oV 8),oA 41 6 (ix 3 39 40) [4,5],oA 42 6 (lT 3 41) [6],oA 43 2 (.nM 3 uz 1 [(0,(.t 42))]) [7],oA 44 3 (.app 3 56 (.t 38) (.t 43)) [3,8,3],oA 45 4 (.nM 1 [.jZ] 1 [(0,(.t 44))]) [9],oA 46 5 (.app 1 24 (.t 35) (.t 45)) [0,10,9],oA 7 6 (oV 46) [11,11,0,1,2,3,4,5,6,7,8,9,10,11]]))) (rg [oN 47 (bc .add 30 1),oW 30 47]))))))) (sr [oW 49 7,oW 50 6,oN 51 (bc .add 50 1),oN 52 (cl 243 [49,51]),oW 48 52,oN 53 (ex 0 48),oN 54 (ex 1 48),oW 10 53,oW 11 54] (.seq (sr [oW 55 11,oN 56 (nt 55)] (cd 56 (sr [oN 4 mN,oN 5 mF] .ret) .skip)) (.seq (rf 1 [oN 57 (.nM 3 uz 0 []),oK 12 1 (oV 57)]) (.seq (sr [oW 58 10,oN 59 (ln 58),oN 60 (.qw (cI 0))] (.block 2 (.loop (sr [oN 61 (bt .lss 60 59)] (.seq (cd 61 .skip (.exit 2)) (.seq (.block 3 (sr [oN 62 (ix 1 58 60),oN 63 (lF 1 62),oW 14 63] (rf 2 [oK 64 2 (oV 12),oK 65 2 (oV 14),oK 66 2 (oV 6),oK 67 2 (ix 3 65 66),oK 68 2 (lT 3 67),oN 69 (.nM 3 uz 1 [(0,(.t 68))]),oK 70 1 (.app 3 56 (.t 64) (.t 69)),oK 12 2 (oV 70)]))) (rg [oN 71 (bc .add 60 1),oW 60 71]))))))) (sr [oW 72 12,oW 4 72,oN 5 mT] .ret))))))))))⟩
structure C9 (T:Tb):Prop where
 hT:T 231=some rV
 Iu:CB T
 Tj:Ea T
theorem afN{m:List (List R)}{c:Int}(h:rrB m c=true):∃M,rrM m c=(List.range m.length).map M/\WG m.length c.toNat M/\rrC m c=true:=by
 cases hc:rrC m c
 ·rw [(ahg hc).2]at h;cases h
 obtain⟨h10,hcl,hm,hok⟩:=afK hc
 cases e:Oq m.length (xG m) m.length with
 |none=>rw [(Ti hc e (aK _)).2]at h;cases h
 |
  some M =>
  refine⟨M,(Pg hc e).1,?_,rfl⟩;have key:∀k,k<=m.length->∀M,Oq m.length (xG m) k=some M->WG m.length c.toNat M:=by
   intro k
   induction k with
   |zero=>intro _ M e;cases e;exact hok
   |
    succ k ih =>
    intro hk M e
    cases e2:Oq m.length (xG m) k with
    |none=>rw [UW e2 _ (Nat.le_succ k)]at e;cases e
    |some M0=>rw [abp e2]at e;exact(ih (by omega) _ e2).step (by omega) e
  exact key _ (aK _) M e
def adG(n:Nat)(M:MF):List (List R):=(List.range n).map M
theorem LX(n:Nat)(M:MF):(adG n M).length=n:=by simp [adG]
theorem Yg{n i:Nat}{M:MF}(h:i<n):xG (adG n M) i=M i:=by
 unfold xG adG;rw [aj,bM,dJ h];rfl
theorem auf{m:List (List R)}{c:Int}(hc:c<=20)(h:rrC m c=true):PS (PS R.sz) m<=1048576:=by
 obtain⟨h10,hcl,hm,hok⟩:=afK h;have:=(alP (m:=m) (n:=20) (fun r hr=>by
  obtain⟨i,hi⟩:=bQ.1 hr;have hil:=(aP.1 hi).1;have:=hok i hil;rw [show xG m i=r by unfold xG;rw [aj,hi];rfl]at this;exact⟨this.2,by omega⟩) (aK _) h10).1
 omega
def ssW(m:List (List R))(b:List R):MF:=fun i=>m.getD i default++[b.getD i default]
def ssC(m:List (List R))(b:List R):Bool:=BA m m.length&&decide (b.length=m.length)
def Yh(m:List (List R))(b:List R):List (List R):=adG m.length (ssW m b)
def Yi(m:List (List R))(b:List R):Bool:=ssC m b&&rrB (Yh m b) ((m.length:Nat)+1)
def Qx(m:List (List R))(b:List R):List R:=if Yi m b=true then(rrM (Yh m b) ((m.length:Nat)+1)).map fun r=>r.getD m.length default else []
theorem aya{m:List (List R)}{b:List R}(h:ssC m b=false):Qx m b=[]/\Yi m b=false:=by
 have:Yi m b=false:=by unfold Yi;rw [h];rfl
 unfold Qx;rw [this];exact⟨rfl,rfl⟩
theorem ayb{m:List (List R)}{b:List R}(h:rrB (Yh m b) ((m.length:Nat)+1)=false):Qx m b=[]/\Yi m b=false:=by
 have:Yi m b=false:=by unfold Yi;rw [h,jI]
 unfold Qx;rw [this];exact⟨rfl,rfl⟩
theorem adH{m:List (List R)}{b:List R}(h:ssC m b=true)(h2:rrB (Yh m b) ((m.length:Nat)+1)=true):Qx m b=((rrM (Yh m b) ((m.length:Nat)+1)).map fun r=>r.getD m.length default)/\Yi m b=true:=by
 have:Yi m b=true:=by unfold Yi;rw [h,h2];rfl
 unfold Qx;rw [this];exact⟨aQ rfl,rfl⟩
theorem al2{m:List (List R)}{b:List R}(h:ssC m b=true):m.length<=10/\b.length=m.length/\BA m m.length=true/\∀i,i<m.length->(m.getD i default).length=m.length:=by
 unfold ssC at h;simp only [aH,bf]at h;obtain⟨h1,h2⟩:=Z9 h.1;exact⟨h2,h.2,h.1,fun i hi=>by have:=(h1 i hi).1;omega⟩
theorem al3(m:List (List R))(b:List R):(∀r∈Qx m b,r.cn)/\(Qx m b).length<=10:=by
 cases hb:Yi m b
 ·unfold Qx;rw [hb];simp
 have h:=hb;unfold Yi at h;simp only [aH]at h;obtain⟨h10,hbl,hm,hl⟩:=al2 h.1;obtain⟨M,e,hok,hc⟩:=afN h.2;rw [(adH h.1 h.2).1,e];have hw:(Yh m b).length=m.length:=LX _ _;refine⟨fun r hr=>?_,by simp [hw];omega⟩;rw [fG]at hr;obtain⟨i,hi,rfl⟩:=bC.1 hr;have hi:=eG.1 hi;have:=hok i hi;exact this.2 _ (getD_mem (by rw [this.1];omega))
theorem aug{m:List (List R)}{b:List R}(hm:Iz (Iz R.wf) m)(hb:Iz R.wf b)(hl:∀i,i<m.length->(m.getD i default).length=m.length)(hbl:b.length=m.length)(h10:m.length<=10):Iz (Iz R.wf) (Yh m b):=by
 refine⟨by rw [show (Yh m b).length=m.length from LX _ _];omega,fun r hr=>?_⟩;obtain⟨i,hi,rfl⟩:=bC.1 hr;have hi:=eG.1 hi;have hrow:=hm.2 _ (getD_mem hi);refine⟨by unfold ssW;rw [aS,hl i hi];simp;omega,fun x hx=>?_⟩;rcases aN.1 hx with hx|hx
 ·exact hrow.2 x hx
 rw [bD.1 hx];exact hb.2 _ (getD_mem (by omega))
theorem adI{σ:Store}:∀(n:Nat) {A T:List (List V)} {os:List Nat},rZ σ A T os->∃os',rZ σ (A.drop n) (T.drop n) os'/\os'.Sublist os
 |0,A,T,os,h=>⟨os,h,List.Sublist.refl _⟩
 |
  n+1,A,[],os,h=>by
  simp only [rZ]at h;obtain⟨rfl,rfl⟩:=h;exact⟨[],by simp [rZ],List.Sublist.refl _⟩
 |
  n+1,A,t::T,os,h=>by
  simp only [rZ]at h;obtain⟨v,vs',o1,o2,rfl,rfl,h1,h2⟩:=h;obtain⟨os',k1,k2⟩:=adI n h2;exact⟨os',k1,k2.trans (List.sublist_append_right _ _)⟩
theorem al4{σ:Store}:∀{i:Nat} {A T:List (List V)} {os:List Nat},rZ σ A T os->i<T.length->∃os',ni σ (A.getD i []) (T.getD i []) os'/\os'.Sublist os
 |i,A,[],os,h,hi=>absurd hi (dA _)
 |
  0,A,t::T,os,h,hi=>by
  simp only [rZ]at h;obtain⟨v,vs',o1,o2,rfl,rfl,h1,h2⟩:=h;exact⟨o1,h1,List.sublist_append_left _ _⟩
 |
  i+1,A,t::T,os,h,hi=>by
  simp only [rZ]at h;obtain⟨v,vs',o1,o2,rfl,rfl,h1,h2⟩:=h;obtain⟨os',k1,k2⟩:=al4 h2 (by simpa using hi);exact⟨os',k1,k2.trans (List.sublist_append_right _ _)⟩
theorem YS.col{s:Store}{A:Nat->List (List V)}{M:MF}{f:Nat->List Nat}{n c j:Nat}(ho:YS s A M f fun i=>i<n)(hl:∀i,i<n->(M i).length=c)(hj:j<c) :
  ∀m,m<=n->∃os,rZ s ((List.range m).map fun i=>(A i).getD j []) (((List.range m).map fun i=>(M i).getD j default).map R.cells) os/\os.Nodup/\∀o∈os,∃i,i<m/\o∈f i
 |0,_=>⟨[],by simp [rZ],.nil,by simp⟩
 |
  m+1,hm=>by
  obtain⟨os,k1,k2,k3⟩:=YS.col ho hl hj m (by omega);have hm':m<n:=by omega
  obtain⟨o2,h1,h2⟩:=al4 (ho.ow m hm') (i:=j) (by rw [aU,hl m hm'];exact hj);rw [mg (by rw [hl m hm'];exact hj)]at h1;refine⟨os++o2,?_,?_,fun o h=>?_⟩
  ·rw [iY,bT,bT,bT];exact CS k1 (ZR h1)
  ·rw [bF];refine⟨k2,(ho.nd m hm').sublist h2,fun x hx y hy e=>?_⟩;subst e;obtain⟨i,hi,hi2⟩:=k3 x hx;exact ho.ap i m (by omega) hm' (by omega) x hi2 (h2.subset hy)
  rcases aN.1 h with h|h
  ·obtain⟨i,hi,k⟩:=k3 o h;exact⟨i,by omega,k⟩
  exact⟨m,by omega,h2.subset h⟩
theorem YS.drop{s:Store}{A:Nat->List (List V)}{M:MF}{f:Nat->List Nat}{n:Nat}(ho:YS s A M f fun i=>i<n)(d:Nat):∃f',YS s (fun i=>(A i).drop d) (fun i=>(M i).drop d) f' (fun i=>i<n)/\∀i,i<n->∀o∈f' i,o∈f i:=by
 have h:∀i,∃os',i<n->rZ s ((A i).drop d) (((M i).drop d).map R.cells) os'/\os'.Sublist (f i):=fun i=>by
  by_cases hi:i<n
  ·obtain⟨os',k1,k2⟩:=adI d (ho.ow i hi);rw [<-kL]at k1;exact⟨os',fun _=>⟨k1,k2⟩⟩
  exact⟨[],fun h=>absurd h hi⟩
 refine⟨fun i=>Classical.choose (h i),⟨fun i hi=>?_,fun i hi=>?_,fun i j hi hj hne o h1 h2=>?_⟩,fun i hi o h1=>?_⟩
 ·exact(Classical.choose_spec (h i) hi).1
 ·exact(ho.nd i hi).sublist (Classical.choose_spec (h i) hi).2
 ·exact ho.ap i j hi hj hne o ((Classical.choose_spec (h i) hi).2.subset h1) ((Classical.choose_spec (h j) hj).2.subset h2)
 exact(Classical.choose_spec (h i) hi).2.subset h1
theorem ahn{σ:Store}{c:Nat}(hc:0<c):∀{RR:List (List R)} {rows:List (List V)} {os:List Nat},rZ σ rows (RR.map fun r=>[oZ r]) os->os.Nodup->(∀r∈RR,r.length=c) ->
  ∃
   (rp:Nat->Nat) (A:Nat->List (List V)) (f:Nat->List Nat),rows=BF RR.length c rp/\(∀i,i<RR.length->jX σ (rp i)=some ⟨3,A i⟩/\rZ σ (A i) ((xG RR i).map R.cells) (f i)/\(f i).Nodup/\rp i∈os/\∀o∈f i,o∈os) /\
   (∀i j,i<RR.length->j<RR.length->rp i=rp j->i=j)/\∀i j,i<RR.length->j<RR.length->i≠j->∀o∈f i,o∉f j
 |
  [],rows,os,h,_,_=>by
  simp only [iM,rZ]at h;obtain⟨rfl,rfl⟩:=h;exact⟨fun _=>0,fun _=>[],fun _=>[],rfl,fun i hi=>absurd hi (dA _),fun i j hi=>absurd hi (dA _),fun i j hi=>absurd hi (dA _)⟩
 |
  r::RR,rows,os,h,hn,hl=>by
  simp only [bV,rZ]at h;obtain⟨v,vs',o1,o2,rfl,rfl,h1,h2⟩:=h;rw [bF]at hn;obtain⟨n1,n2,n3⟩:=hn;obtain⟨w,vs,o3,o4,rfl,rfl,h3,h4⟩:=h1.inv;obtain⟨rfl,rfl⟩:=h4.Dt;have hr:=hl r (by simp);unfold oZ at h3;rcases h3.XE with ⟨e,_,_⟩|⟨p,A0,f0,rfl,hp,hA,rfl,hR⟩
  ·have:=congrArg List.length e;simp at this;rw [this]at hr;simp at hr;omega
  rw [aW]at n1 n3;rw [dX]at n1;obtain⟨rp,A,f,e,k1,k2,k3⟩:=ahn hc h2 n2 fun r hr=>hl r (by simp [hr]);refine⟨fun i=>match i with|0=>p|i+1=>rp i,fun i=>match i with|0=>A0|i+1=>A i,fun i=>match i with|0=>f0|i+1=>f i,?_,fun i hi=>?_,fun i j hi hj e=>?_,fun i j hi hj hne o h1 h2=>?_⟩
  ·rw [e,ak,aU,hr];unfold BF;rw [List.range_succ_eq_map,bV,fG];rfl
  ·cases i with
   |zero=>exact⟨hp,hR,n1.2,by simp,fun o h=>by simp [h]⟩
   |
    succ i =>
    obtain⟨a,b,c,d,e⟩:=k1 i (by simpa using hi);exact⟨a,b,c,by simp [d],fun o h=>by simp [e o h]⟩
  ·cases i with
   |
    zero =>
    cases j with
    |zero=>rfl
    |
     succ j =>
     have:=(k1 j (by simpa using hj)).2.2.2.1;exact absurd e fun e=>n3 p (by simp) _ this e
   |
    succ i =>
    cases j with
    |
     zero =>
     have:=(k1 i (by simpa using hi)).2.2.2.1;exact absurd e fun e=>n3 p (by simp) _ this e.symm
    |succ j=>rw [k2 i j (by simpa using hi) (by simpa using hj) e]
  cases i with
  |
   zero =>
   cases j with
   |zero=>exact hne rfl
   |succ j=>exact n3 o (by simp [show o∈f0 from h1]) o ((k1 j (by simpa using hj)).2.2.2.2 o h2) rfl
  |
   succ i =>
   cases j with
   |zero=>exact n3 o (by simp [show o∈f0 from h2]) o ((k1 i (by simpa using hi)).2.2.2.2 o h1) rfl
   |succ j=>exact k3 i j (by simpa using hi) (by simpa using hj) (by omega) o h1 h2
theorem apU{σ:Store}{c:Nat}(hc:0<c){RR:List (List R)}{v:V}{os:List Nat}(h:mJ σ v (rG RR) os)(hn:os.Nodup)(hl:∀r∈RR,r.length=c)(hne:0<RR.length) :
  ∃(q:Nat) (rp:Nat->Nat) (A:Nat->List (List V)) (f:Nat->List Nat),v=.lG q 0 RR.length/\MH σ q RR.length c rp A (xG RR)/\YS σ A (xG RR) f (fun i=>i<RR.length)/\∀i,i<RR.length->∀o∈f i,o∈os:=by
 unfold rG at h;rcases h.XE with ⟨e,_,_⟩|⟨q,rows,os',rfl,hq,_,rfl,hR⟩
 ·rw [iG]at e;subst e;exact absurd hne (jr _)
 rw [dX]at hn;obtain⟨rp,A,f,e,k1,k2,k3⟩:=ahn hc hR hn.2 hl;refine⟨q,rp,A,f,by rw [aU],⟨k2,by rw [hq,e],fun i hi=>(k1 i hi).1,fun i hi=>(Ph (k1 i hi).2.1).1⟩,⟨fun i hi=>(k1 i hi).2.1,fun i hi=>(k1 i hi).2.2.1,k3⟩,fun i hi o ho=>by simp [(k1 i hi).2.2.2.2 o ho]⟩
theorem auh{T:Tb}{f:Nat}{as as':List V}{t:V}(h:PO T f as t)(ha:wS as as'):PO T f as' t:=by
 obtain⟨r,σ',os,h1,h2,h3,h4⟩:=h;exact⟨r,σ',os,.aau ha h1 (kM _),h2,h3,h4⟩
def inC(n:Int):Bool:=decide (-1000000<=n)&&decide (n<=1000000)
theorem aho{n:Int}(h:inC n=true) : -1000000<=n/\n<=1000000:=by simpa [inC]using h
def wtC(w:Int):Bool:=decide (1<=w)&&decide (w<=9999)
theorem apW{n:Int}(h:wtC n=true):1<=n/\n<=9999:=by simpa [wtC]using h
def ajg(a b w x y:Int):Bool:=nd a&&nd b && !decide (a=b)&&wtC w&&inC x&&inC y
def nlV(a b w x y:Int):Lk:=if ajg a b w x y=true then(if b<a then⟨b,a,kZ w,kZ (-x),kZ (-y)⟩else⟨a,b,kZ w,kZ x,kZ y⟩)else Lk0
theorem Ru{T:Tb}(h:D8 T){a b w x y:Int}:PF T 14 [iv a,iv b,iv w,iv x,iv y] (.oJ [RN (nlV a b w x y),.bool (ajg a b w x y)]):=by
 have ca:=PY h.zO (a:=a);have cb:=PY h.zO (a:=b);have cw:PF T 35 [iv w,iv 1,iv 9999] (.bool (wtC w)):=SL h.xU;have cx:PF T 35 [iv x,iv (-1000000),iv 1000000] (.bool (inC x)):=SL h.xU;have cy:PF T 35 [iv y,iv (-1000000),iv 1000000] (.bool (inC y)):=SL h.xU;unfold nlV ajg
 cases h1:nd a
 ·rw [h1]at ca;refine kS nR h.hT ?_;simp only [pG,Lz];refine ev ?_;refine jM ca ?_;refine ev ?_;exact LQ KQ
 rw [h1]at ca
 cases h2:nd b
 ·rw [h2]at cb;refine kS nR h.hT ?_;simp only [pG,Lz];refine ev ?_;refine jM ca ?_;refine ev ?_;refine jM cb ?_;refine ev ?_;exact LQ KQ
 rw [h2]at cb;by_cases h3:a=b
 ·have h3':(a=b)=True:=gZ h3;simp only [h3',decide_true];refine kS nR h.hT ?_;simp only [pG,Lz];refine ev ?_;refine jM ca ?_;refine ev ?_;refine jM cb ?_;refine ev1 @h3' ?_;exact LQ KQ
 cases h4:wtC w
 ·rw [h4]at cw;refine kS nR h.hT ?_;simp only [pG,Lz];refine ev ?_;refine jM ca ?_;refine ev ?_;refine jM cb ?_;refine ev1 @h3 ?_;refine jM cw ?_;refine ev ?_;exact LQ KQ
 rw [h4]at cw;have hw:=apW h4
 cases h5:inC x
 ·rw [h5]at cx;refine kS nR h.hT ?_;simp only [pG,Lz];refine ev ?_;refine jM ca ?_;refine ev ?_;refine jM cb ?_;refine ev1 @h3 ?_;refine jM cw ?_;refine ev ?_;refine jM cx ?_;refine ev ?_;exact LQ KQ
 rw [h5]at cx;have hx:=aho h5
 cases h6:inC y
 ·rw [h6]at cy;refine kS nR h.hT ?_;simp only [pG,Lz];refine ev ?_;refine jM ca ?_;refine ev ?_;refine jM cb ?_;refine ev1 @h3 ?_;refine jM cw ?_;refine ev ?_;refine jM cx ?_;refine ev ?_;refine jM cy ?_;refine ev ?_;exact LQ KQ
 rw [h6]at cy;have hy:=aho h6;have hk:(true&&true && !decide (a=b)&&true&&true&&true)=true:=by rw [bI h3];rfl
 rw [hk];by_cases h7:b<a
 ·simp only [if_true,aQ h7];refine kS nR h.hT ?_;simp only [pG,Lz];refine ev ?_;refine jM ca ?_;refine ev ?_;refine jM cb ?_;refine ev1 @h3 ?_;refine jM cw ?_;refine ev ?_;refine jM cx ?_;refine ev ?_;refine jM cy ?_;refine ev1 @h7 ?_;refine jM (qM h.mO (n:=w) (by omega)) ?_;refine ev ?_;refine jM (qM h.mO (n:=0-x) (by omega)) ?_;refine ev ?_;refine jM (qM h.mO (n:=0-y) (by omega)) ?_;refine ev ?_;rw [Int.zero_sub,Int.zero_sub];exact kM _
 simp only [if_true,aO h7];refine kS nR h.hT ?_;simp only [pG,Lz];refine ev ?_;refine jM ca ?_;refine ev ?_;refine jM cb ?_;refine ev1 @h3 ?_;refine jM cw ?_;refine ev ?_;refine jM cx ?_;refine ev ?_;refine jM cy ?_;refine ev1 @h7 ?_;refine jM (qM h.mO (n:=w) (by omega)) ?_;refine ev ?_;refine jM (qM h.mO (n:=x) (by omega)) ?_;refine ev ?_;refine jM (qM h.mO (n:=y) (by omega)) ?_;refine ev ?_;exact kM _
def qg:Fn:=⟨2,104,[.cell 4 11 true,.cell 5 3 true,.tmp 6],(.seq (rf 4 [oN 2 (.box (.t 0)),oK 3 1 (.box (.t 1)),oK 4 2 (.alloc Hr),oK 5 3 (.alloc uz),oK 6 4 mF]) (.seq (sr [oN 10 (lT 11 2),oN 11 (cl 83 [10]),oN 12 (nt 11),oW 13 12,oG 13 false 14 (lT 11 3),oG 13 false 15 (cl 83 [14]),oG 13 false 16 (nt 15),oN 17 (.pick (.t 13) (.c (.bool true)) (.t 16)),oW 18 17,oG 18 false 19 (fd 0 2),oG 18 false 20 (lF 1 19),oG 18 false 21 (fd 0 3),oG 18 false 22 (lF 1 21),oG 18 false 23 (bt .neq 20 22),oN 24 (.pick (.t 18) (.c (.bool true)) (.t 23)),oW 25 24,oG 25 false 26 (fd 1 2),oG 25 false 27 (lF 1 26),oG 25 false 28 (fd 1 3),oG 25 false 29 (lF 1 28),oG 25 false 30 (bt .neq 27 29),oN 31 (.pick (.t 25) (.c (.bool true)) (.t 30))] (cd 31 (sr [oN 32 (.build Hr []),oN 33 (.build uz []),oS (.store 11 (.t 4) (.t 32)),oS (.store 3 (.t 5) (.t 33)),oN 6 mF] .ret) .skip)) (.seq (rf 1 [oK 34 1 (fd 2 2),oK 35 1 (lT 3 34),oK 36 1 (fd 2 3),oK 37 1 (lT 3 36),oK 38 1 (cl 189 [35,37]),oN 7 (.alloc uz),⟨none,none,1,.store 3 (.t 7) (.t 38),[]⟩]) (.seq (rf 1 [oK 39 1 (fd 0 2),oK 40 1 (lF 1 39),oK 41 1 (fd 1 2),oK 42 1 (lF 1 41),oK 43 1 (lT 3 7),oK 44 1 (.build Hr [(0,1,(.t 40)),(1,1,(.t 42)),(2,3,(.t 43))]),oN 8 (.alloc Hr),⟨none,none,1,.store 11 (.t 8) (.t 44),[]⟩]) (.seq (rt 0 [oN 45 (fd 2 2),oA 46 0 (lT 3 45) [0],oN 47 (fd 5 2),oA 48 0 (lT 3 47) [2],oA 49 0 (cl 201 [46,48]) [1,3],oN 50 (fd 2 3),oA 51 0 (lT 3 50) [5],oN 52 (fd 5 3),oA 53 0 (lT 3 52) [7],oA 54 0 (cl 201 [51,53]) [6,8,4],oA 55 0 (cl 189 [49,54]) [4,9,9],oN 56 (lT 3 7),oA 57 0 (cl 200 [55,56]) [10,11,10],oA 58 0 (fd 5 8) [0,1,2,3,4,5,6,7,8,9,10,11,12],⟨none,none,0,.store 3 (.t 58) (.t 57),[13,12,12,0,1,2,3,4,5,6,7,8,9,10,11,12]⟩]) (.seq (rt 0 [oN 59 (fd 2 2),oA 60 0 (lT 3 59) [0],oN 61 (fd 8 2),oA 62 0 (lT 3 61) [2],oA 63 0 (cl 201 [60,62]) [1,3],oN 64 (fd 2 3),oA 65 0 (lT 3 64) [5],oN 66 (fd 8 3),oA 67 0 (lT 3 66) [7],oA 68 0 (cl 201 [65,67]) [6,8,4],oA 69 0 (cl 189 [63,68]) [4,9,9],oN 70 (lT 3 7),oA 71 0 (cl 200 [69,70]) [10,11,10],oA 72 0 (fd 8 8) [0,1,2,3,4,5,6,7,8,9,10,11,12],⟨none,none,0,.store 3 (.t 72) (.t 71),[13,12,12,0,1,2,3,4,5,6,7,8,9,10,11,12]⟩]) (.seq (rt 1 [oK 73 1 (fd 2 2),oA 74 1 (lT 3 73) [0],oK 75 1 (fd 2 3),oA 76 1 (lT 3 75) [2],oA 77 1 (cl 201 [74,76]) [1,3],oK 78 1 (lT 3 7),oA 79 1 (cl 200 [77,78]) [4,5,4],oK 80 1 (fd 5 2),oA 81 1 (lT 3 80) [7],oK 82 1 (fd 5 3),oA 83 1 (lT 3 82) [9],oA 84 1 (cl 203 [81,83]) [8,10,6],oK 85 1 (fd 8 2),oA 86 1 (lT 3 85) [12],oK 87 1 (fd 8 3),oA 88 1 (lT 3 87) [14],oA 89 1 (cl 203 [86,88]) [13,15,11],oA 90 1 (cl 202 [84,89]) [11,16,16],oA 91 1 (cl 201 [79,90]) [6,17,17],oN 9 (.alloc uz),⟨none,none,1,.store 3 (.t 9) (.t 91),[19,18,18,0,1,2,3,4,5,6,7,8,9,10,11,12,13,14,15,16,17,18,19]⟩]) (.seq (sr [oN 92 (lT 11 8),oN 93 (cl 83 [92]),oN 94 (nt 93),oW 95 94,oG 95 false 96 (lT 3 9),oG 95 false 97 (cl 100 [96]),oG 95 false 98 (nt 97),oN 99 (.pick (.t 95) (.c (.bool true)) (.t 98))] (cd 99 (sr [oN 100 (.build Hr []),oN 101 (.build uz []),oS (.store 11 (.t 4) (.t 100)),oS (.store 3 (.t 5) (.t 101)),oN 6 mF] .ret) .skip)) (.seq (rt 0 [oN 102 (lT 11 8),oN 103 (lT 3 9),⟨none,none,0,.store 11 (.t 4) (.t 102),[0,0]⟩,⟨none,none,0,.store 3 (.t 5) (.t 103),[1,2,0,1,2]⟩,oA 6 0 mT [3,0,1,2,3]]) .ret)))))))))⟩
structure Ef (T:Tb):Prop where
 hT:T 196=some qg
 qG:vg T
 l7:sN T
 wL:Bz T
 KT:KN T
 sO:GZ T
 Tm:D7 T
 Qy:KL T
def zu:Fn:=⟨2,91,[.cell 4 11 true,.cell 5 3 true,.tmp 6],(.seq (rf 4 [oN 2 (.box (.t 0)),oK 3 1 (.box (.t 1)),oK 4 2 (.alloc Hr),oK 5 3 (.alloc uz),oK 6 4 mF]) (.seq (rt 2 [oK 12 2 (fd 2 2),oA 13 2 (lT 3 12) [0],oK 14 2 (fd 2 3),oA 15 2 (lT 3 14) [2],oN 7 (.alloc uz),oK 8 1 (.alloc uz),⟨none,none,2,.store 3 (.t 7) (.t 13),[4,1,0,1,4,5]⟩,⟨none,none,2,.store 3 (.t 8) (.t 15),[5,3,6,0,1,2,3,4,5,6]⟩]) (.seq (rf 1 [oK 16 1 (lT 3 7),oK 17 1 (lT 3 8),oK 18 1 (cl 131 [16,17]),oN 9 (.alloc uz),⟨none,none,1,.store 3 (.t 9) (.t 18),[]⟩]) (.seq (rf 1 [oK 19 1 (fd 0 2),oK 20 1 (lF 1 19),oK 21 1 (fd 1 2),oK 22 1 (lF 1 21),oK 23 1 (lT 3 9),oK 24 1 (.build Hr [(0,1,(.t 20)),(1,1,(.t 22)),(2,3,(.t 23))]),oN 10 (.alloc Hr),⟨none,none,1,.store 11 (.t 10) (.t 24),[]⟩]) (.seq (rt 0 [oN 25 (lT 3 7),oN 26 (fd 5 2),oA 27 0 (lT 3 26) [1],oA 28 0 (cl 157 [25,27]) [0,2],oN 29 (lT 3 8),oN 30 (fd 5 3),oA 31 0 (lT 3 30) [5],oA 32 0 (cl 157 [29,31]) [4,6,3],oA 33 0 (cl 131 [28,32]) [3,7,7],oN 34 (lT 3 9),oA 35 0 (cl 156 [33,34]) [8,9,8],oA 36 0 (fd 5 10) [0,1,2,3,4,5,6,7,8,9,10],⟨none,none,0,.store 3 (.t 36) (.t 35),[11,10,10,0,1,2,3,4,5,6,7,8,9,10]⟩]) (.seq (rt 0 [oN 37 (lT 3 7),oN 38 (fd 8 2),oA 39 0 (lT 3 38) [1],oA 40 0 (cl 157 [37,39]) [0,2],oN 41 (lT 3 8),oN 42 (fd 8 3),oA 43 0 (lT 3 42) [5],oA 44 0 (cl 157 [41,43]) [4,6,3],oA 45 0 (cl 131 [40,44]) [3,7,7],oN 46 (lT 3 9),oA 47 0 (cl 156 [45,46]) [8,9,8],oA 48 0 (fd 8 10) [0,1,2,3,4,5,6,7,8,9,10],⟨none,none,0,.store 3 (.t 48) (.t 47),[11,10,10,0,1,2,3,4,5,6,7,8,9,10]⟩]) (.seq (rt 1 [oK 49 1 (lT 3 7),oK 50 1 (lT 3 8),oA 51 1 (cl 157 [49,50]) [0,1],oK 52 1 (lT 3 9),oA 53 1 (cl 156 [51,52]) [2,3,2],oK 54 1 (fd 5 2),oA 55 1 (lT 3 54) [5],oK 56 1 (fd 5 3),oA 57 1 (lT 3 56) [7],oA 58 1 (cl 159 [55,57]) [6,8,4],oK 59 1 (fd 8 2),oA 60 1 (lT 3 59) [10],oK 61 1 (fd 8 3),oA 62 1 (lT 3 61) [12],oA 63 1 (cl 159 [60,62]) [11,13,9],oA 64 1 (cl 158 [58,63]) [9,14,14],oA 65 1 (cl 157 [53,64]) [4,15,15],oN 11 (.alloc uz),⟨none,none,1,.store 3 (.t 11) (.t 65),[17,16,16,0,1,2,3,4,5,6,7,8,9,10,11,12,13,14,15,16,17]⟩]) (.seq (sr [oN 66 (fd 2 10),oN 67 (lT 3 66),oN 68 (cl 132 [67]),oN 69 (nt 68),oW 70 69,oG 70 false 71 (fd 5 10),oG 70 false 72 (lT 3 71),oG 70 false 73 (cl 132 [72]),oG 70 false 74 (nt 73),oN 75 (.pick (.t 70) (.c (.bool true)) (.t 74)),oW 76 75,oG 76 false 77 (fd 8 10),oG 76 false 78 (lT 3 77),oG 76 false 79 (cl 132 [78]),oG 76 false 80 (nt 79),oN 81 (.pick (.t 76) (.c (.bool true)) (.t 80)),oW 82 81,oG 82 false 83 (lT 3 11),oG 82 false 84 (cl 132 [83]),oG 82 false 85 (nt 84),oN 86 (.pick (.t 82) (.c (.bool true)) (.t 85))] (cd 86 (sr [oN 87 (.build Hr []),oN 88 (.build uz []),oS (.store 11 (.t 4) (.t 87)),oS (.store 3 (.t 5) (.t 88)),oN 6 mF] .ret) .skip)) (.seq (rt 0 [oN 89 (lT 11 10),oN 90 (lT 3 11),⟨none,none,0,.store 11 (.t 4) (.t 89),[0,0]⟩,⟨none,none,0,.store 3 (.t 5) (.t 90),[1,2,0,1,2]⟩,oA 6 0 mT [3,0,1,2,3]]) .ret)))))))))⟩
structure Eh (T:Tb):Prop where
 hT:T 140=some zu
 lN:oO T
 kU:pW T
 uN:uM T
 l9:qL T
 Qk:AV T
 qO:sG T
theorem Tq{v w x y:V}{b:Bool}(h:mP v w)(h2:mP x y):mP (.oJ [v,x,.bool b]) (.oJ [w,y,.bool b]):=by
 simp only [mP,wS];exact⟨_,rfl,_,_,rfl,h,_,_,rfl,h2,_,_,rfl,rfl,rfl⟩
def rD(k l:Lk):R:=qm k.w l.w
def IB(k l:Lk):R:=uZ (qm (mulR k.w k.dx) (mulR l.w l.dx)) (rD k l)
def Ob(k l:Lk):R:=uZ (qm (mulR k.w k.dy) (mulR l.w l.dy)) (rD k l)
def Ot(k l:Lk):R:=mulR (uZ (mulR k.w l.w) (rD k l)) (sqR (vS k.dx l.dx) (vS k.dy l.dy))
theorem U1(k l:Lk):(rD k l).cn:=DK _ _
theorem afO(k l:Lk):(IB k l).cn:=Nk _ _
theorem afP(k l:Lk):(Ob k l).cn:=Nk _ _
theorem afQ(k l:Lk):(Ot k l).cn:=JX _ _
def Qz(k l:Lk):Lk:=⟨k.a,k.b,rD k l,IB k l,Ob k l⟩
def Ou(k l:Lk):Bool:=(rD k l).ok&&(IB k l).ok&&(Ob k l).ok&&(Ot k l).ok
def mgP(k l:Lk):Bool:=pJ k&&pJ l&&decide (k.a=l.a)&&decide (k.b=l.b)
def Yj(k l:Lk):Bool:=mgP k l&&Ou k l
def afR(k l:Lk):Lk:=if Yj k l=true then Qz k l else Lk0
def afS(k l:Lk):R:=if Yj k l=true then Ot k l else R0
theorem al5{r s:R}(hr:0<wQ r)(hs:0<wQ s)(ho:(qm r s).ok=true):0<wQ (qm r s):=by
 unfold wQ at *;rw [wJ]at ho;rw [UL]at ho ⊢
 cases h1:r.q with
 |none=>rw [h1]at hr;simp [xO]at hr
 |
  some a =>
  cases h2:s.q with
  |none=>rw [h2]at hs;simp [xO]at hs
  |
   some b =>
   simp only [h1,h2]at ho hr hs ⊢;simp only [Om]at ho ⊢;have hf:fits (a+b)=true:=by
    cases hf:fits (a+b)with
    |true=>rfl
    |false=>rw [ZK hf]at ho;exact absurd rfl ho
   rw [yJ hf];simp only [xO]at hr hs ⊢;have pos:∀q:Rat,0<ZL q.num↔0<q:=by
    intro q;rw [Rat.lt_iff,show (0:Rat).num=0 from rfl,show (0:Rat).den=1 from rfl,Int.zero_mul,Int.natCast_one,Int.mul_one];unfold ZL;split
    ·constructor<;>intro h<;>omega
    split
    ·constructor<;>intro h<;>omega
    constructor<;>intro h<;>omega
   rw [pos]at hr hs ⊢;have h3:a+0<a+b:=Rat.add_lt_add_left.2 hs;rw [dU]at h3;exact Std.lt_trans hr h3
theorem adJ{k l:Lk}(h:mgP k l=true):pJ (Qz k l)=((rD k l).ok&&(IB k l).ok&&(Ob k l).ok):=by
 unfold mgP at h;simp only [aH,bf]at h;obtain⟨⟨⟨h1,h2⟩,_⟩,_⟩:=h;have p1:=(Aw h1).2.2.2;have p2:=(Aw h2).2.2.2;have h1':=h1;unfold pJ at h1';simp only [aH]at h1';unfold pJ Qz;rw [h1'.1.1.1.1.1,h1'.1.1.1.1.2,h1'.1.1.1.2]
 cases hw:(rD k l).ok with
 |
  false =>
  have:¬0<xO (rD k l).q:=by rw [DL.1 hw];simp [xO]
  simp [this]
 |
  true =>
  have:0<xO (rD k l).q:=al5 p1 p2 hw;simp [this]
theorem Zf{T:Tb}(h:Ef T){k l:Lk}(hk:k.wf:=by exact Z8)(hl:l.wf:=by exact Z8):PF T 196 [RN k,RN l] (.oJ [RN (afR k l),kW (afS k l),.bool (Yj k l)]):=by
 have ck:=zQ h.qG hk;have cl:=zQ h.qG hl;have bad:mgP k l=false->mP (.oJ [RN (afR k l),kW (afS k l),.bool (Yj k l)]) (.oJ [.agg [iv 0,iv 0,.bool false,.jZ,.jZ,.bool false,.jZ,.jZ,.bool false,.jZ,.jZ],.agg [.bool false,.jZ,.jZ],.bool false]):=by
  intro hp;unfold afR afS Yj;rw [hp];exact Tq KQ uo
 cases h1:pJ k
 ·have hp:=bad (by unfold mgP;rw [h1];rfl);rw [h1]at ck;clear bad;refine kS nR h.hT ?_;simp only [qg,Lz];refine ev ?_;refine jM ck ?_;refine ev ?_;exact hp
 rw [h1]at ck
 cases h2:pJ l
 ·have hp:=bad (by unfold mgP;rw [h1,h2];rfl);rw [h2]at cl;clear bad;refine kS nR h.hT ?_;simp only [qg,Lz];refine ev ?_;refine jM ck ?_;refine ev ?_;refine jM cl ?_;refine ev ?_;exact hp
 rw [h2]at cl;by_cases h3:k.a=l.a
 case neg =>
  have hp:=bad (by unfold mgP;rw [h1,h2,bI h3];rfl);clear bad;refine kS nR h.hT ?_;simp only [qg,Lz];refine ev ?_;refine jM ck ?_;refine ev ?_;refine jM cl ?_;refine ev1 @h3 ?_;exact hp
 by_cases h4:k.b=l.b
 case neg =>
  have hp:=bad (by unfold mgP;rw [h1,h2,aT h3,bI h4];rfl);have h3':(k.a=l.a)=True:=gZ h3;clear bad;refine kS nR h.hT ?_;simp only [qg,Lz];refine ev ?_;refine jM ck ?_;refine ev ?_;refine jM cl ?_;refine zf @h3' @h4 ?_;exact hp
 have hp:mgP k l=true:=by unfold mgP;rw [h1,h2,aT h3,aT h4];rfl
 have hv:=adJ hp;have h3':(k.a=l.a)=True:=gZ h3;have h4':(k.b=l.b)=True:=gZ h4;clear bad;obtain⟨k1,k2,k3⟩:=hk;obtain⟨l1,l2,l3⟩:=hl;have e1:afR k l=if Ou k l=true then Qz k l else Lk0:=by unfold afR Yj;rw [hp,cZ]
 have e2:afS k l=if Ou k l=true then Ot k l else R0:=by unfold afS Yj;rw [hp,cZ]
 have e3:Yj k l=Ou k l:=by unfold Yj;rw [hp,cZ]
 rw [e1,e2,e3];clear e1 e2 e3;have cv:=zQ h.qG (l:=Qz k l) ⟨uq (U1 _ _),uq (afO _ _),uq (afP _ _)⟩;have co:=xA h.l7 (r:=Ot k l) (uq (afQ _ _));rw [hv]at cv;refine kS nR h.hT ?_;simp only [qg,Lz];refine ev ?_;refine jM ck ?_;refine ev ?_;refine jM cl ?_;refine zf @h3' @h4' ?_;refine jM (LP h.wL k1 l1) ?_;refine ev ?_;refine jM (Dk h.sO k1 k2) ?_;refine ev ?_;refine jM (Dk h.sO l1 l2) ?_;refine ev ?_;refine jM (LP h.wL Z8 Z8) ?_;refine ev ?_;refine jM (UM h.KT Z8 Z8) ?_;refine ev ?_;refine⟨by unfold rO;decide +kernel,?_⟩;refine ev ?_;refine jM (Dk h.sO k1 k3) ?_;refine ev ?_;refine jM (Dk h.sO l1 l3) ?_;refine ev ?_;refine jM (LP h.wL Z8 Z8) ?_;refine ev ?_;refine jM (UM h.KT Z8 Z8) ?_;refine ev ?_;refine⟨by unfold rO;decide +kernel,?_⟩;refine ev ?_;refine jM (Dk h.sO k1 l1) ?_;refine ev ?_;refine jM (UM h.KT Z8 Z8) ?_;refine ev ?_;refine jM (ZW h.Qy k2 l2) ?_;refine ev ?_;refine jM (ZW h.Qy k3 l3) ?_;refine ev ?_;refine jM (abk h.Tm Z8 Z8) ?_;refine ev ?_;refine jM (Dk h.sO Z8 (uq (alI _ _))) ?_;refine ev ?_;refine⟨by unfold rO;decide +kernel,?_⟩;refine ev ?_;have hG:Ou k l=(((rD k l).ok&&(IB k l).ok&&(Ob k l).ok)&&(Ot k l).ok):=rfl;rw [hG];clear hG
 cases hg:((rD k l).ok&&(IB k l).ok&&(Ob k l).ok)
 ·rw [hg]at cv;refine jM cv ?_;refine ev ?_;exact Tq KQ uo
 rw [hg]at cv;refine jM cv ?_;refine ev ?_
 cases hE:(Ot k l).ok
 ·rw [hE]at co;refine jM co ?_;refine ev ?_;exact Tq KQ uo
 rw [hE]at co;refine jM co ?_;refine ev ?_;refine⟨by unfold rO;decide +kernel,?_⟩;refine ev ?_;exact kM _
end Go.Ml
end
