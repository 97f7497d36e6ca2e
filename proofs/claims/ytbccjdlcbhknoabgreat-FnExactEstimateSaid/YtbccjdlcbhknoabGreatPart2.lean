/- Contracts of functions. -/
import Derived.Test.YtbccjdlcbhknoabGreatPart1
set_option linter.unusedSimpArgs false
set_option linter.unusedVariables false
set_option maxRecDepth 100000
set_option maxHeartbeats 16000000
section
namespace Go.Ml
abbrev bi(z:Int):Bi:=⟨decide (z<0),mk z.natAbs⟩
abbrev sg(neg:Bool)(n:Nat):Int:=if neg=true then -(n:Int)else n
theorem aer(n:Nat):n<1000000000 ^ (mk n).length:=lK.1 (aP _)
theorem Md{m n:Nat}(h:m≤n):(mk m).length≤(mk n).length:=lK.2 (Nat.lt_of_le_of_lt h (aer n))
theorem Gs(m n:Nat):(mk (m*n)).length≤(mk m).length+(mk n).length:=by
 rw [lK,Nat.pow_add];exact Nat.mul_lt_mul_of_lt_of_lt (aer m) (aer n)
theorem agA(m n:Nat):(mk (m+n)).length≤max (mk m).length (mk n).length+1:=by
 rw [lK,iC];have h1:=aU (aer m) (eG (n:=1000000000) (by omega) (Nat.le_max_left (mk m).length (mk n).length));have h2:=aU (aer n) (eG (n:=1000000000) (by omega) (Nat.le_max_right (mk m).length (mk n).length));omega
theorem ace(m n:Nat):(mk (m-n)).length≤(mk m).length:=Md (Nat.sub_le m n)
theorem Qp(m n:Nat):(mk (m / n)).length≤(mk m).length:=Md (Nat.div_le_self m n)
theorem XF:(mk 0).length=0:=by rw [mk_zero];rfl
theorem Eb{n:Nat}:0<(mk n).length↔0<n:=by
 constructor
 ·intro h;rcases iH n with rfl|h1
  ·rw [mk_zero]at h;simp at h
  exact h1
 intro h;have:=alR (n:=n) (by omega);omega
theorem agB{n:Nat}:(mk n).length=0↔n=0:=by
 have:=@Eb n;omega
theorem qC(x y:Int):(mk (x*y).natAbs).length≤(mk x.natAbs).length+(mk y.natAbs).length:=by
 rw [jA];exact Gs _ _
theorem H6(x y:Int):(mk (x+y).natAbs).length≤max (mk x.natAbs).length (mk y.natAbs).length+1 :=
 cZ (Md (Int.natAbs_add_le x y)) (agA _ _)
theorem aii(neg:Bool)(n:Nat)(h:0<n):bi (sg neg n)=⟨neg,mk n⟩:=by
 cases neg
 ·simp [bi,sg]
 simp [bi,sg,h]
theorem acf:bi 0=⟨false,[]⟩:=by simp [bi,mk_zero]
theorem QY(neg:Bool):sg neg 0=0:=by cases neg<;>simp [sg]
theorem atX(n:Nat):bi (n:Int)=⟨false,mk n⟩:=by simp [bi]
theorem VJ(x y:Int):sg (decide (x<0) != decide (y<0)) (x.natAbs*y.natAbs)=x*y:=by
 rw [←jA];by_cases x0:x=0
 ·subst x0;simp [sg]
 by_cases y0:y=0
 ·subst y0;simp [sg]
 rcases(show x<0∨0<x by omega)with h|h<;>rcases(show y<0∨0<y by omega)with k|k
 ·have:=Int.mul_pos_of_neg_of_neg h k;simp only [sg,h,k,decide_true,bne_self_eq_false,aX,if_false];omega
 ·have:=Int.mul_neg_of_neg_of_pos h k;have k':¬y<0:=by omega
  simp only [sg,h,k',decide_true,decide_false,Bool.bne_false,if_true];omega
 ·have:=Int.mul_neg_of_pos_of_neg h k;have h':¬x<0:=by omega
  simp only [sg,h',k,decide_true,decide_false,Bool.false_bne,if_true];omega
 have:=Int.mul_pos h k;have k':¬y<0:=by omega
 have h':¬x<0:=by omega
 simp only [sg,h',k',decide_false,bne_self_eq_false,aX,if_false];omega
theorem WS{x y:Int}(h:decide (x<0)=decide (y<0)):sg (decide (x<0)) (x.natAbs+y.natAbs)=x+y:=by
 have h':x<0↔y<0:=by simpa using h
 by_cases k:x<0
 ·have:=h'.1 k;simp only [sg,k,decide_true,if_true];omega
 have:¬y<0:=fun q=>k (h'.2 q);simp only [sg,k,decide_false,aX,if_false];omega
theorem Me{x y:Int}(h:decide (x<0)≠decide (y<0))(hl:y.natAbs≤x.natAbs):sg (decide (x<0)) (x.natAbs-y.natAbs)=x+y:=by
 have h':¬(x<0↔y<0):=by simpa using h
 by_cases k:x<0
 ·have:¬y<0:=fun q=>h' ⟨fun _=>q,fun _=>k⟩;simp only [sg,k,decide_true,if_true];omega
 have:y<0:=Classical.byContradiction fun q=>h' ⟨fun a=>absurd a k,fun a=>absurd a q⟩;simp only [sg,k,decide_false,aX,if_false];omega
def CG:Fn:=⟨2,39,[.tmp 4,.tmp 5],(sr [oN 4 mN,oN 5 (.mM (cI 0))] (.seq (rf 1 [oK 10 1 (oV 0),oK 11 1 (ln 10),oN 12 (.make F8 8 (.t 11)),oK 6 1 (oV 12)]) (sr [oN 7 (.mM (cI 0))] (.seq (sr [oW 13 0,oN 14 (ln 13),oN 15 (bc .sub 14 1),oW 8 15] (.block 0 (.loop (.seq (sr [oW 16 8,oN 17 (bc .geq 16 0)] (cd 17 .skip (.exit 0))) (.seq (.block 1 (sr [oW 20 7,oN 21 (bc .mul 20 1000000000),oW 22 0,oW 23 8,oN 24 (ix 1 22 23),oN 25 (lF 1 24),oN 26 (bt .add 21 25),oW 9 26] (sr [oW 27 6,oW 28 8,oW 29 9,oW 30 1,oN 31 (bt .quo 29 30),oN 32 (ix 1 27 28),oS (.store 1 (.t 32) (.t 31))] (rg [oW 33 9,oW 34 1,oN 35 (bt .rem 33 34),oW 7 35])))) (rg [oW 18 8,oN 19 (bc .sub 18 1),oW 8 19])))))) (sr [oW 36 6,oN 37 (cl 71 [36]),oW 38 7,oW 4 37,oW 5 38] .ret)))))⟩
structure Jp (T:Tb):Prop where
 hT:T 147=some CG
 mY:sD T
def CJ:Fn:=⟨2,27,[.tmp 4],(sr [oN 4 (.mM (cI 0))] (sr [oN 5 (.mM (cI 0))] (sr [oN 6 (.mM (cI 999999999))] (.seq (.block 0 (.loop (.seq (sr [oW 8 5,oW 9 6,oN 10 (bt .lss 8 9)] (cd 10 .skip (.exit 0))) (.block 1 (sr [oW 11 5,oW 12 6,oN 13 (bt .add 11 12),oN 14 (bc .add 13 1),oN 15 (bc .quo 14 2),oW 7 15] (sr [oW 16 1,oW 17 7,oN 18 (cl 67 [17]),oN 19 (cl 150 [16,18]),oW 20 0,oN 21 (cl 146 [19,20]),oN 22 (bc .leq 21 0)] (cd 22 (rg [oW 23 7,oW 5 23]) (rg [oW 24 7,oN 25 (bc .sub 24 1),oW 6 25])))))))) (sr [oW 26 5,oW 4 26] .ret)))))⟩
structure Jq (T:Tb):Prop where
 hT:T 148=some CJ
 qI:Ad T
 wz:yA T
 nC:wu T
def Bo:Fn:=⟨2,65,[.tmp 4,.tmp 5],(sr [oN 4 mN,oN 5 mN] (.seq (sr [oW 12 1,oN 13 (ln 12),oN 14 (bc .eql 13 1)] (cd 14 (sr [oW 16 0,oW 17 1,oN 18 (.idx 1 (.t 17) (cI 0)),oN 19 (lF 1 18),oN 20 (cl 147 [16,19]),oW 15 20,oN 21 (ex 0 15),oN 22 (ex 1 15),oW 6 21,oW 7 22] (sr [oW 23 6,oW 24 7,oN 25 (cl 67 [24]),oW 4 23,oW 5 25] .ret)) .skip)) (.seq (rf 1 [oK 26 1 (oV 0),oK 27 1 (ln 26),oN 28 (.make F8 8 (.t 27)),oK 8 1 (oV 28)]) (.seq (rf 1 [oN 29 (.ny 1 F8 0 []),oK 9 1 (oV 29)]) (.seq (sr [oW 30 0,oN 31 (ln 30),oN 32 (bc .sub 31 1),oW 10 32] (.block 0 (.loop (.seq (sr [oW 33 10,oN 34 (bc .geq 33 0)] (cd 34 .skip (.exit 0))) (.seq (.block 1 (.seq (rf 2 [oK 37 2 (oV 0),oK 38 2 (oV 10),oK 39 2 (ix 1 37 38),oK 40 2 (lF 1 39),oN 41 (.ny 1 F8 1 [(0,(.t 40))]),oK 42 2 (oV 9),oK 43 1 (.app 1 8 (.t 41) (.t 42)),oK 44 2 (cl 71 [43]),oK 9 2 (oV 44)]) (.seq (sr [oW 45 9,oW 46 1,oN 47 (cl 146 [45,46]),oN 48 (bc .lss 47 0)] (cd 48 (.exit 1) .skip)) (sr [oW 49 9,oW 50 1,oN 51 (cl 148 [49,50]),oW 11 51] (sr [oW 52 8,oW 53 10,oW 54 11,oN 55 (ix 1 52 53),oS (.store 1 (.t 55) (.t 54))] (rg [oW 56 9,oW 57 1,oW 58 11,oN 59 (cl 67 [58]),oN 60 (cl 150 [57,59]),oN 61 (cl 149 [56,60]),oW 9 61])))))) (rg [oW 35 10,oN 36 (bc .sub 35 1),oW 10 36])))))) (sr [oW 62 8,oN 63 (cl 71 [62]),oW 64 9,oW 4 63,oW 5 64] .ret))))))⟩
structure H7 (T:Tb):Prop where
 hT:T 136=some Bo
 qI:Ad T
 mY:sD T
 wz:yA T
 Xc:Jp T
 Xd:Jq T
 H8:Hr T
 nC:wu T
def CO:Fn:=⟨2,15,[.tmp 4],(sr [oN 4 mN] (.seq (.block 0 (.loop (.seq (sr [oW 6 1,oN 7 (bc .gtr 6 0)] (cd 7 .skip (.exit 0))) (.block 1 (sr [oW 8 0,oW 9 1,oN 10 (bt .rem 8 9),oW 5 10] (sr [oW 11 1,oW 0 11] (rg [oW 12 5,oW 1 12]))))))) (sr [oW 13 0,oN 14 (cl 67 [13]),oW 4 14] .ret)))⟩
structure Jr (T:Tb):Prop where
 hT:T 135=some CO
 qI:Ad T
def CP:Fn:=⟨1,30,[.tmp 2,.tmp 3],(sr [oN 2 (.mM (cI 0)),oN 3 mF] (.seq (.seq (rf 1 [oK 6 1 (oV 0),oK 7 1 (cl 121 [6]),oK 8 1 (nt 7),oK 9 1 (oV 8),oH 9 false 10 1 (oV 0) [],oG 9 false 11 (.ny 1 F8 3 [(0,(cI 854775807)),(1,(cI 223372036)),(2,(cI 9))]),oH 9 false 12 1 (cl 146 [10,11]) [],oH 9 false 13 1 (bc .gtr 12 0) [],oK 14 1 (.pick (.t 9) (.c (.bool true)) (.t 13))]) (cd 14 (sr [oN 2 (.mM (cI 0)),oN 3 mF] .ret) .skip)) (sr [oN 4 (.mM (cI 0))] (.seq (sr [oW 15 0,oN 16 (ln 15),oN 17 (bc .sub 16 1),oW 5 17] (.block 0 (.loop (.seq (sr [oW 18 5,oN 19 (bc .geq 18 0)] (cd 19 .skip (.exit 0))) (.seq (.block 1 (rg [oW 22 4,oN 23 (bc .mul 22 1000000000),oW 24 0,oW 25 5,oN 26 (ix 1 24 25),oN 27 (lF 1 26),oN 28 (bt .add 23 27),oW 4 28])) (rg [oW 20 5,oN 21 (bc .sub 20 1),oW 5 21])))))) (sr [oW 29 4,oW 2 29,oN 3 mT] .ret)))))⟩
structure Js (T:Tb):Prop where
 hT:T 134=some CP
 Ec:Ea T
 wz:yA T
def H9:Fn:=⟨2,52,[.tmp 4],(sr [oN 4 mN] (.seq (rf 2 [oN 13 (.ny 1 F8 0 []),oK 14 2 (oV 0),oK 15 1 (.app 1 8 (.t 13) (.t 14)),oK 5 2 (oV 15)]) (.seq (rf 2 [oN 16 (.ny 1 F8 0 []),oK 17 2 (oV 1),oK 18 1 (.app 1 8 (.t 16) (.t 17)),oK 6 2 (oV 18)]) (.seq (.block 0 (.loop (.seq (sr [oW 19 6,oN 20 (ln 19),oN 21 (bc .gtr 20 0)] (cd 21 .skip (.exit 0))) (.block 1 (.seq (sr [oW 22 5,oN 23 (ln 22),oN 24 (bc .lss 23 3),oW 25 24,oG 25 true 26 (oV 6),oG 25 true 27 (ln 26),oG 25 true 28 (bc .lss 27 3),oN 29 (.pick (.t 25) (.t 28) (.c (.bool false)))] (cd 29 (sr [oW 31 5,oN 32 (cl 134 [31]),oW 30 32,oN 33 (ex 0 30),oN 34 (ex 1 30),oW 7 33,oW 8 34] (sr [oW 36 6,oN 37 (cl 134 [36]),oW 35 37,oN 38 (ex 0 35),oN 39 (ex 1 35),oW 9 38,oW 10 39] (sr [oW 40 7,oW 41 9,oN 42 (cl 135 [40,41]),oW 4 42] .ret))) .skip)) (sr [oW 44 5,oW 45 6,oN 46 (cl 136 [44,45]),oW 43 46,oN 47 (ex 0 43),oN 48 (ex 1 43),oW 11 47,oW 12 48] (sr [oW 49 6,oW 5 49] (rg [oW 50 12,oW 6 50])))))))) (sr [oW 51 5,oW 4 51] .ret)))))⟩
structure Ia (T:Tb):Prop where
 hT:T 123=some H9
 Pv:Js T
 Xe:Jr T
 yD:H7 T
theorem YQ{T:Tb}(h:Hr T){m n:Nat}(hle:n≤m)(la:(mk m).length≤1000:=by exact lX)(lb:(mk n).length≤1000:=by exact lX):PF T 149 [ints (mk m),ints (mk n)] (ints (mk (m-n))):=by
 obtain⟨a,hA⟩:∃a,mk m=a:=⟨_,rfl⟩;obtain⟨b,hB⟩:∃b,mk n=b:=⟨_,rfl⟩;have hva:val a=m:=by rw [←hA,val_mk]
 have hvb:val b=n:=by rw [←hB,val_mk]
 have hba:Lb a:=hA▸uZ m;have hbb:Lb b:=hB▸uZ n;have hlen:b.length≤a.length:=by
  rcases fG a.length b.length with k|k
  ·have:=yx hba (hB▸uI n) k;omega
  exact k
 rw [hA]at la ⊢;rw [hB]at lb ⊢;refine kH nR h.hT ?_;simp only [Hq,Lz];refine ev ?_;refine kG (fun _ _=>false) (α:=Nat×Int×List Int) (fun q=>⟨kX [ints a,ints b,.any,.any,.any,slV q.2.2.length,iv q.2.1,.any,.any,.any,ints a,iv (a.length:Nat),iv (q.1:Nat)],VH 1 (kF q.2.2),0,0,[],[]⟩) (fun q=>q.1≤a.length∧q.2.2.length=q.1∧Lb q.2.2∧(q.2.1=0∨q.2.1=1)∧val q.2.2+val (b.take q.1)=val (a.take q.1)+q.2.1.toNat*1000000000 ^ q.1) (fun q=>a.length-q.1) rfl (0,0,[]) ?_ ?_ ?_
 ·exact⟨by omega,rfl,agq,.inl rfl,by simp [val]⟩
 ·exact LQ
 rintro⟨i,bo,xs⟩ ⟨hi,hD,SQ,hbo,hv⟩;dsimp only at hi hD SQ hbo hv;have ga:=vg hba i;have gb:=vg hbb i;have zb:b.length≤i→b.getD i 0=0:=OH;have hx:xs.length≤1000:=by omega
 by_cases c1:(i:Int)<(a.length:Nat)
 ·have key:∀d bo':Int,d+b.getD i 0+bo=a.getD i 0+bo'*1000000000→0≤d→d<1000000000→(bo'=0∨bo'=1)→∃a':Nat×Int×List Int,a'=(i+1,bo',xs++[d]) ∧
    a.length-a'.1<a.length-i∧(a'.1≤a.length∧a'.2.2.length=a'.1∧Lb a'.2.2∧(a'.2.1=0∨a'.2.1=1)∧val a'.2.2+val (b.take a'.1)=val (a.take a'.1)+a'.2.1.toNat*1000000000 ^ a'.1):=by
   intro d bo' hd d0 d1 hb';refine⟨_,rfl,by dsimp only;omega,by dsimp only;omega,by simp [hD],ab3 d0 d1 SQ,hb',?_⟩;dsimp only;have e2:(a.take i).length=i:=by simp;omega
   rw [xX,hD,oD (l:=a) (by omega),xX,e2];have e3:val (b.take (i+1))=val (b.take i)+1000000000 ^ i*(b.getD i 0).toNat:=by
    by_cases hb2:i<b.length
    ·rw [oD hb2,xX];congr 3;simp;omega
    rw [aY (by omega),aY (by omega),zb (by omega)];simp
   rw [e3,iC];exact aem hv (by omega)
  by_cases c2:(i:Int)<(b.length:Nat)
  ·by_cases c3:a.getD i 0-bo-b.getD i 0<0
   ·obtain⟨_,rfl,k1,k2⟩:=key (a.getD i 0-bo-b.getD i 0+1000000000) 1 (by omega) (by omega) (by omega) (.inr rfl);clear key hv zb hba hbb SQ
    (rcases xs with _|⟨x,xs⟩<;>simp only [au,aj,qX,qH,mO,lI]at hx ⊢)
    ·refine zl @c1 @c2 @c3 ?_;exact⟨by omega,_,k1,k2,by exact LU⟩
    refine zl @c1 @c2 @c3 ?_;exact⟨by omega,_,k1,k2,by exact JV⟩
   obtain⟨_,rfl,k1,k2⟩:=key (a.getD i 0-bo-b.getD i 0) 0 (by omega) (by omega) (by omega) (.inl rfl);clear key hv zb hba hbb SQ
   (rcases xs with _|⟨x,xs⟩<;>simp only [au,aj,qX,qH,mO,lI]at hx ⊢)
   ·refine zl @c1 @c2 @c3 ?_;exact⟨by omega,_,k1,k2,by exact LU⟩
   refine zl @c1 @c2 @c3 ?_;exact⟨by omega,_,k1,k2,by exact JV⟩
  have z:=zb (by omega);by_cases c3:a.getD i 0-bo<0
  ·obtain⟨_,rfl,k1,k2⟩:=key (a.getD i 0-bo+1000000000) 1 (by omega) (by omega) (by omega) (.inr rfl);clear key hv zb hba hbb SQ
   (rcases xs with _|⟨x,xs⟩<;>simp only [au,aj,qX,qH,mO,lI]at hx ⊢)
   ·refine zl @c1 @c2 @c3 ?_;exact⟨by omega,_,k1,k2,by exact LU⟩
   refine zl @c1 @c2 @c3 ?_;exact⟨by omega,_,k1,k2,by exact JV⟩
  obtain⟨_,rfl,k1,k2⟩:=key (a.getD i 0-bo) 0 (by omega) (by omega) (by omega) (.inl rfl);clear key hv zb hba hbb SQ
  (rcases xs with _|⟨x,xs⟩<;>simp only [au,aj,qX,qH,mO,lI]at hx ⊢)
  ·refine zl @c1 @c2 @c3 ?_;exact⟨by omega,_,k1,k2,by exact LU⟩
  refine zl @c1 @c2 @c3 ?_;exact⟨by omega,_,k1,k2,by exact JV⟩
 have hi2:i=a.length:=by omega
 subst hi2;rw [bQ,aY (by omega)]at hv;have hlt:=yQ SQ;rw [hD]at hlt;have hz:bo=0:=by
  rcases hbo with h|h
  ·exact h
  rw [h]at hv;simp at hv;omega
 subst hz;have ct:=yB h.mY (l:=xs) (by omega);have e:mk (val xs)=mk (m-n):=by
  congr 1
  simp at hv;omega
 rw [Cj SQ,e]at ct
 (rcases xs with _|⟨x,xs⟩<;>simp only [au,aj,qX,qH,mO,lI]at hx ⊢)
 ·refine ev1 @c1 ?_;refine Uh (as':=[.sl 1 []]) ct (by simp only [SK,SI,mX,and_true]) ?_;refine ev ?_;exact kE _
 refine ev1 @c1 ?_;refine jy ct ?_;refine ev ?_;exact kE _
theorem agC{T:Tb}(h:Jp T){m d:Nat}(d0:0<d)(d1:d<1000000000)(la:(mk m).length≤1000:=by exact lX):PF T 147 [ints (mk m),iv (d:Nat)] (.nK [ints (mk (m / d)),iv (m % d:Nat)]):=by
 obtain⟨A,hA⟩:∃A,mk m=A:=⟨_,rfl⟩;have hva:val A=m:=by rw [←hA,val_mk]
 have hbA:Lb A:=hA▸uZ m;rw [hA]at la ⊢;refine kH nR h.hT ?_;simp only [CG,Lz];refine ev ?_;refine⟨by omega,?_⟩;rw [Oz];refine kG (fun _ _=>false) (α:=Nat×List Int×Nat) (fun q=>⟨kX [ints A,iv (d:Nat),.any,.any,.any,.any,.kP 0 0 A.length,iv (q.2.2:Nat),iv ((q.1:Nat)-1)],[some ⟨1,kF q.2.1⟩],0,0,[],[]⟩) (fun q=>q.1≤A.length∧q.2.1.length=A.length∧Lb q.2.1∧q.2.2<d∧val (A.drop q.1)=val (q.2.1.drop q.1)*d+q.2.2) (fun q=>q.1) rfl (A.length,List.replicate A.length 0,0) ?_ ?_ ?_
 ·exact⟨by omega,by simp,SE _,d0,by dsimp only;rw [ni (Nat.le_refl _),ni (by simp)];simp⟩
 ·(refine jW ?_;exact zX)
 rintro⟨k,Q,x⟩ ⟨hk,hQ,hQb,hx,hv⟩;dsimp only at hk hQ hQb hx hv;by_cases k0:k=0
 ·subst k0;rw [bZ,bZ,hva]at hv;obtain⟨q1,q2⟩:=OG hv hx;have e0:¬(0:Int)≤((0:Nat):Int)-1:=by omega
  refine ev1 @e0 ?_;refine jy (yB h.mY (l:=Q) (by omega)) ?_;refine ev ?_;rw [Cj hQb,←q1,←q2];exact kE _
 obtain⟨i,rfl⟩:∃i,k=i+1:=⟨k-1,by omega⟩;have e0:(((i+1:Nat):Int)-1)=(i:Nat):=by omega
 have e1:((i:Nat):Int)<(A.length:Nat):=by omega
 have e2:(0:Int)≤(i:Nat):=by omega
 rw [e0];have ga:=vg hbA i;have hvi:=qp A i;obtain⟨t,ht⟩:∃t:Nat,t=x*1000000000+(A.getD i 0).toNat:=⟨_,rfl⟩;have ht':(x:Int)*1000000000+A.getD i 0=(t:Nat):=by omega
 have tq:t / d<1000000000:=by
  have t1:t<(x+1)*1000000000:=by omega
  exact iJ (aU t1 (dM 1000000000 hx))
 have tr:t % d<d:=jQ _ d0;have f1:((t:Nat):Int).tdiv (d:Nat)=((t / d:Nat):Int):=by rw [eU (by omega),Int.natCast_ediv]
 have f2:((t:Nat):Int).tmod (d:Nat)=((t % d:Nat):Int):=by rw [gI (by omega),jM]
 have hdm:=Nat.div_add_mod t d;have nz:¬((d:Nat):Int)=0:=by omega
 have tb:t<1000000000000000000:=by
  have t1:t<(x+1)*1000000000:=by omega
  have t2:(x+1)*1000000000≤1000000000*1000000000:=dM 1000000000 (by omega);exact aU t1 t2
 generalize t / d=q at *;generalize t % d=r at *;have k1:=OD (l:=Q) (i:=i) (d:=((q:Nat):Int)) (by omega) (by omega) hQb;have k2:val (A.drop i)=val ((Q.set i (q:Nat)).drop i)*d+r:=by
  rw [hvi,hv,drop_set_self (by omega),val,eP,iQ,eY,dH d q]at *;rw [show ((q:Nat):Int).toNat=q by omega];omega
 clear hvi hv hdm ht;simp (disch:=first|omega|assumption|(simp;done)|(simp;omega)) only [↓EVp,EVq,splice,Nat.reduceAdd,Nat.reduceEqDiff,Nat.reduceMul,Nat.reduceLT,Nat.reduceLeDiff,reduceIte,V.leaf,MS,NQ,PN,bU,dG,dR,dJ,eu,reduceCtorEq,e2,e1,ht',f1,f2,nz,hQ];exact⟨(i,Q.set i (q:Nat),r),by dsimp only;omega,⟨by dsimp only;omega,by simp [hQ],k1,tr,k2⟩,by (refine jW ?_;exact zX)⟩
theorem agD{T:Tb}(h:Jq T){r b:Nat}(b0:0<b)(hr:r<b*1000000000)(la:(mk r).length≤900:=by exact lX)(lb:(mk b).length≤900:=by exact lX):PF T 148 [ints (mk r),ints (mk b)] (iv (r / b:Nat)):=by
 have hq:r / b<1000000000:=iJ (by omega);have key:∀q,b*q≤r↔q≤r / b:=fun q=>by rw [Nat.le_div_iff_mul_le b0,dH]
 refine kQ nR h.hT ?_;simp only [CJ,Lz];refine ev ?_;generalize r / b=z at *;refine kG (fun _ _=>false) (α:=Nat×Nat) (fun q=>⟨kX [ints (mk r),ints (mk b),.any,.any,.any,iv (q.1:Nat),iv (q.2:Nat)],[],0,0,[],[]⟩) (fun q=>q.1≤z∧z≤q.2∧q.2≤999999999) (fun q=>q.2-q.1) rfl (0,999999999) ?_ ?_ ?_
 ·exact⟨by omega,by dsimp only;omega,by dsimp only;omega⟩
 ·(refine jW ?_;exact zX)
 rintro⟨lo,hi⟩ ⟨h1,h2,h3⟩;dsimp only at h1 h2 h3;refine ev ?_;refine kD (fun c1=>?_) fun c1=>?_<;>(refine ev1 @c1 ?_;try with_reducible exact True.intro)
 ·have e1:((lo:Int)+hi+1).tdiv 2=(((lo+hi+1) / 2:Nat):Int):=by rw [eU (by omega)];omega
  have q1:lo<(lo+hi+1) / 2:=by omega
  have q2:(lo+hi+1) / 2≤hi:=by omega
  generalize (lo+hi+1) / 2=q at *;have cn:=L9 h.qI (n:=((q:Nat):Int)) (by omega);rw [fU]at cn;have lq:(mk q).length≤1:=lK.2 (by omega);have lm:=Gs b q;have cc:=Uj h.wz (uI (b*q)) (uI r) (by omega) (by omega);rw [val_mk,val_mk]at cc;refine ev1 @e1 ?_;refine jy cn ?_;refine ev ?_;refine jy (xZ h.nC (m:=b) (n:=q) (by omega) (by omega)) ?_;refine ev ?_;refine jy cc ?_;refine ev ?_;have ck:NT (b*q) r≤0↔b*q≤r:=by unfold NT;repeat' split<;>omega
  refine kD (fun c2=>?_) fun c2=>?_<;>(refine ev1 @c2 ?_;try with_reducible exact True.intro)
  ·have:=(key q).1 (ck.1 c2);exact⟨(q,hi),by dsimp only;omega,⟨by dsimp only;omega,by dsimp only;omega,h3⟩,by (refine jW ?_;exact zX)⟩
  have:¬q≤z:=fun k=>c2 (ck.2 ((key q).2 k));have e2:((q:Nat):Int)-1=((q-1:Nat):Int):=by omega
  exact⟨(lo,q-1),by dsimp only;omega,⟨h1,by dsimp only;omega,by dsimp only;omega⟩,by (refine jW ?_)<;>(try (refine ev1 @e2 ?_;try with_reducible exact True.intro))<;>(repeat' (first|refine⟨?_,?_⟩|exact vH (by omega)|exact xH (by simp)|exact vI _))⟩
 have:lo=z:=by omega
 rw [this]
theorem agE{T:Tb}(h:Jr T){x y:Nat}(hx:x<1000000000000000000:=by exact lX)(hy:y<1000000000000000000:=by exact lX):PF T 135 [iv (x:Nat),iv (y:Nat)] (ints (mk (Nat.gcd x y))):=by
 refine kH nR h.hT ?_;simp only [CO,Lz];refine ev ?_;refine kG (fun _ _=>false) (α:=Nat×Nat) (fun q=>⟨kX [iv (q.1:Nat),iv (q.2:Nat)],[],0,0,[],[]⟩) (fun q=>Nat.gcd q.1 q.2=Nat.gcd x y∧q.1<1000000000000000000∧q.2<1000000000000000000) (fun q=>q.2) rfl (x,y) ?_ ?_ ?_
 ·exact⟨rfl,hx,hy⟩
 ·exact LQ
 rintro⟨u,v⟩ ⟨hg,su,sv⟩;dsimp only at hg su sv;rw [←hg];clear hg;refine ev ?_;refine kD (fun c4=>?_) fun c4=>?_<;>(refine ev1 @c4 ?_;try with_reducible exact True.intro)
 ·have v0:0<v:=by omega
  have er:((u:Nat):Int).tmod (v:Nat)=((u % v:Nat):Int):=by rw [gI (by omega),jM]
  have lr:=jQ u v0;have eg:Nat.gcd v (u % v)=Nat.gcd u v:=by rw [jD u v,Nat.gcd_rec v u,jD]
  exact⟨(v,u % v),lr,⟨eg,sv,by dsimp only;omega⟩,by (refine jW ?_)<;>(try (refine ev1 @er ?_;try with_reducible exact True.intro))<;>(repeat' (first|refine⟨?_,?_⟩|exact vH (by omega)|exact xH (by simp)|exact vI _))⟩
 have v0:v=0:=by omega
 have cu:=L9 h.qI (n:=((u:Nat):Int)) (by omega);rw [fU]at cu;refine jy cu ?_;refine ev ?_;rw [v0,Nat.gcd_zero_right];exact kE _
theorem Qq{T:Tb}(h:H7 T){m n:Nat}(hn:0<n)(la:(mk m).length≤900:=by exact lX)(lb:(mk n).length≤890:=by exact lX) :
  PF T 136 [ints (mk m),ints (mk n)] (.nK [ints (mk (m / n)),ints (mk (m % n))]):=by
 by_cases big:(mk n).length=1
 ·have n1:n<1000000000:=by have:=(lK (n:=n) (k:=1)).1 (by omega);omega
  have cs:=agC h.Xc (m:=m) hn n1 (by omega);have lr:=jQ m hn;have cn:=L9 h.qI (n:=((m % n:Nat):Int)) (by omega);rw [fU]at cn;rw [mk_one hn n1];have c0:((1:Nat):Int)=1:=rfl;refine kH nR h.hT ?_;simp only [Bo,Lz];refine ev ?_;refine ev1 @c0 ?_;refine jy cs ?_;refine ev ?_;refine jy cn ?_;refine ev ?_;exact kE _
 obtain⟨A,hA⟩:∃A,mk m=A:=⟨_,rfl⟩;obtain⟨B,hB⟩:∃B,mk n=B:=⟨_,rfl⟩;have hva:val A=m:=by rw [←hA,val_mk]
 have hbA:Lb A:=hA▸uZ m;have hbB:Lb B:=hB▸uZ n;rw [hA]at la ⊢;rw [hB]at lb big ⊢;have c1:¬((B.length:Nat):Int)=1:=by omega
 refine kH nR h.hT ?_;simp only [Bo,Lz];refine ev ?_;refine ev1 @c1 ?_;refine⟨by omega,?_⟩;rw [Oz];refine kG (fun _ _=>false) (α:=Nat×List Int×Nat) (fun q=>⟨kX [ints A,ints B,.any,.any,.any,.any,.any,.any,.kP 0 0 A.length,ints (mk q.2.2),iv ((q.1:Nat)-1)],[some ⟨1,kF q.2.1⟩],0,0,[],[]⟩) (fun q=>q.1≤A.length∧q.2.1.length=A.length∧Lb q.2.1∧(∀j,j<q.1→q.2.1.getD j 0=0)∧q.2.2<n∧val (A.drop q.1)=val (q.2.1.drop q.1)*n+q.2.2) (fun q=>q.1) rfl (A.length,List.replicate A.length 0,0) ?_ ?_ ?_
 ·exact⟨by omega,by simp,SE _,by intro j _;simp [List.getD_eq_getElem?_getD,List.getElem?_replicate];split<;>rfl,hn,by dsimp only;rw [ni (Nat.le_refl _),ni (by simp)];simp⟩
 ·rw [mk_zero];exact VI
 rintro⟨k,Q,x⟩ ⟨hk,hQ,hQb,hz,hx,hv⟩;dsimp only at hk hQ hQb hz hx hv;by_cases k0:k=0
 ·subst k0;rw [bZ,bZ,hva]at hv;obtain⟨q1,q2⟩:=OG hv hx;have e0:¬(0:Int)≤((0:Nat):Int)-1:=by omega
  refine ev1 @e0 ?_;refine jy (yB h.mY (l:=Q) (by omega)) ?_;refine ev ?_;rw [Cj hQb,←q1,←q2];exact kE _
 obtain⟨i,rfl⟩:∃i,k=i+1:=⟨k-1,by omega⟩;have e0:(((i+1:Nat):Int)-1)=(i:Nat):=by omega
 have e1:((i:Nat):Int)<(A.length:Nat):=by omega
 have e2:(0:Int)≤(i:Nat):=by omega
 rw [e0];have ga:=vg hbA i;have hvi:=qp A i;obtain⟨t,ht⟩:∃t,(A.getD i 0).toNat+1000000000*x=t:=⟨_,rfl⟩;have htn:t<n*1000000000:=by omega
 have lt':(A.getD i 0::mk x).length≤1048576:=by
  have:(mk x).length≤B.length:=by rw [lK];exact Nat.lt_trans hx (by have:=yQ hbB;rw [←hB,val_mk,hB]at this;exact this)
  simp only [aj];omega
 have tr:trim (A.getD i 0::mk x)=mk t:=by
  rw [Cj (by intro y hy;rcases aH.1 hy with rfl|hy;exact ga;exact uZ x y hy),←ht,val,val_mk]
 have ct:=yB h.mY (l:=A.getD i 0::mk x) lt';rw [tr]at ct;have ely:∀y,y≤t→(mk y).length≤891:=by
  intro y hy;have:(mk y).length≤B.length+1:=by
   rw [lK,iC];have:=yQ hbB;rw [←hB,val_mk,hB]at this;exact aU (Nat.lt_of_le_of_lt hy htn) (dM _ (Nat.le_of_lt this))
  omega
 have lx:=ely;refine qW @e2 @e1 ?_;refine⟨fun e3=>?_,fun e3=>?_⟩
 case' refine_1 =>
  have x0:mk x=[]:=by cases hm:mk x with|nil=>rfl|cons a l=>rw [hm]at e3;cases e3
  rw [x0]at ct;rw [show [[V.int IntKind.i64 (A.getD i 0)]]=kF [A.getD i 0]from rfl]
  (refine ev ?_;try with_reducible exact True.intro)
 case' refine_2 =>
  refine ev1 @e3 ?_;rw [show [V.int IntKind.i64 (A.getD i 0)]::kF (mk x)=kF (A.getD i 0::mk x)from rfl];refine ev ?_;have lm:=lt';simp only [aj]at lm;refine⟨by omega,?_⟩
 all_goals
  clear lt';refine jy ct ?_;refine ev ?_;have ly:=ely t (aP _);have cc:=Uj h.wz (uI t) (uI n) (by omega) (by rw [hB];omega);rw [val_mk,val_mk,hB]at cc;refine jy cc ?_;refine ev ?_;have gk:NT t n<0↔t<n:=by unfold NT;repeat' split<;>omega
  have k0:=hz i (by omega);have k1:=qp Q i;refine kD (fun c3=>?_) fun c3=>?_<;>(refine ev1 @c3 ?_;try with_reducible exact True.intro)
  ·have hny:=gk.1 c3;have k2:val (A.drop i)=val (Q.drop i)*n+t:=by
    rw [hvi,hv,k1,k0,eP,iQ,←eY];simp only [Int.toNat_zero,jP,aN,←ht];omega
   exact⟨(i,Q,t),by dsimp only;omega,⟨by dsimp only;omega,hQ,hQb,fun j hj=>hz j (by dsimp only at hj;omega),hny,k2⟩,by exact VI⟩
  have hny:n≤t:=by omega
  have cd:=agD h.Xd (r:=t) (b:=n) hn htn (by omega) (by rw [hB];omega);rw [hB]at cd;have hdm:=Nat.div_add_mod t n;have hml:=jQ t hn;have hq:t / n<1000000000:=iJ (by omega);obtain⟨d,hd⟩:∃d,t / n=d:=⟨_,rfl⟩;rw [hd]at cd hdm hq;have cn:=L9 h.qI (n:=((d:Nat):Int)) (by omega);rw [fU]at cn;have lq:(mk d).length≤1:=lK.2 (by omega);have pm:=xZ h.nC (m:=n) (n:=d) (by rw [hB];omega) (by omega);rw [hB]at pm;have lnd:=ely (n*d) (by omega);have ps:=YQ h.H8 (m:=t) (n:=n*d) (by omega) (by omega) (by omega);have k3:=OD (l:=Q) (i:=i) (d:=((d:Nat):Int)) (by omega) (by omega) hQb;have k4:∀j,j<i→(Q.set i (d:Nat)).getD j 0=0:=by
   intro j hj;rw [rG,if_neg (by omega)];exact hz j (by omega)
  have k5:val (A.drop i)=val ((Q.set i (d:Nat)).drop i)*n+(t-n*d):=by
   rw [hvi,hv,drop_set_self (by omega),val,eP,iQ,←eY];rw [show ((d:Nat):Int).toNat=d by omega,dH d n];omega
  have k6:t-n*d<n:=by omega
  clear hdm hv hvi k1 k0 hz lx ely ht hd hml hx;refine jy cd ?_;refine qW @e1 @hQ ?_;refine jy cn ?_;refine ev ?_;refine jy pm ?_;refine ev ?_;refine jy ps ?_;refine ev ?_;exact⟨(i,Q.set i (d:Nat),t-n*d),by dsimp only;omega,⟨by dsimp only;omega,by simp [hQ],k3,k4,k6,k5⟩,by exact VI⟩
theorem YR{T:Tb}(h:Js T){n:Nat}(hn:n<1000000000000000000:=by exact lX):PF T 134 [ints (mk n)] (.nK [iv (n:Nat),.bool true]):=by
 have hl:(mk n).length≤2:=lK.2 (by omega);have hv:=val_mk n;have c1:=YM h.Ec (l:=mk n) (by omega);rw [YB (aU hn (by omega))]at c1;have cb:Can [854775807,223372036,9]:=⟨by intro x hx;simp at hx;omega,by simp⟩;have c2:=Uj h.wz (uI n) cb (by omega) (by simp);have e2:NT (val (mk n)) (val [854775807,223372036,9]) = -1:=by
  have:val [854775807,223372036,9]=9223372036854775807:=by simp [val]
  rw [this,val_mk];unfold NT;rw [if_pos (by omega)]
 rw [e2]at c2;refine kQ nR h.hT ?_;simp only [CP,Lz];refine ev ?_;refine jy c1 ?_;refine ev ?_;refine jy c2 ?_;have c3:¬(0:Int) < -1:=by omega
 refine ev1 @c3 ?_;refine kG (fun _ _=>false) (α:=Nat) (fun k=>⟨kX [ints (mk n),.any,.any,.any,iv (val ((mk n).drop k):Nat),iv ((k:Int)-1)],[],0,0,[],[]⟩) (fun k=>k≤(mk n).length) (fun k=>k) rfl (mk n).length ?_ ?_ ?_
 ·omega
 ·have e:val ((mk n).drop (mk n).length)=0:=ni (aP _);simp only [e];exact LQ
 intro k hk;refine ev ?_;refine kD (fun h3=>?_) fun h3=>?_<;>(refine ev1 @h3 ?_;try with_reducible exact True.intro)
 ·obtain⟨m,rfl⟩:∃m,k=m+1:=⟨k-1,by omega⟩;have e1:((m+1:Nat):Int)-1=(m:Nat):=by omega
  have e2:=qp (mk n) m;have e3:=WR (l:=mk n) m;have e4:=vg (uZ n) m;refine ev1 @e1 ?_;exact⟨m,by omega,by omega,by (refine jW ?_;exact zX)⟩
 have:k=0:=by omega
 subst this;rw [bZ,hv]
theorem YS{T:Tb}(h:Ia T){m n:Nat}(la:(mk m).length≤800:=by exact lX)(lb:(mk n).length≤800:=by exact lX) :
  PF T 123 [ints (mk m),ints (mk n)] (ints (mk (Nat.gcd m n))):=by
 have em:∀k,kF (mk k)=[]→mk k=[]:=fun k e=>by cases hm:mk k with|nil=>rfl|cons a l=>rw [hm]at e;cases e
 refine kH nR h.hT ?_;simp only [H9,Lz];refine ev ?_;refine⟨fun e1=>⟨fun e2=>?_,fun e2=>?_⟩,fun e1=>⟨by omega,fun e2=>?_,fun e2=>?_⟩⟩
 case' refine_1=>have x0:=em m e1;have y0:=em n e2
 case' refine_2=>have x0:=em m e1;refine⟨by omega,?_⟩
 case' refine_3=>have y0:=em n e2
 case' refine_4=>refine⟨by omega,?_⟩
 all_goals
  refine kG (fun _ _=>false) (α:=Nat×Nat) (fun q=>⟨kX [.any,.any,.any,.any,.any,ints (mk q.1),ints (mk q.2)],[],0,0,[],[]⟩) (fun q=>Nat.gcd q.1 q.2=Nat.gcd m n∧(mk q.1).length≤800∧(mk q.2).length≤800) (fun q=>q.2) rfl (m,n) ?_ ?_ ?_
  ·exact⟨rfl,la,lb⟩
  ·dsimp only
   try rw [x0]
   try rw [y0]
   exact PV
  rintro⟨x,y⟩ ⟨hg,lx,ly⟩;dsimp only at hg lx ly;rw [←hg];clear hg la lb em e1 e2;refine ev ?_;refine kD (fun c1=>?_) fun c1=>?_<;>(refine ev1 @c1 ?_;try with_reducible exact True.intro)
  ·have hy:0<y:=Eb.1 (by omega);by_cases c2:(((mk x).length:Nat):Int)<3∧(((mk y).length:Nat):Int)<3
   ·obtain⟨c2,c3⟩:=c2;have sx:x<1000000000000000000:=by have:=lK (n:=x) (k:=2);omega
    have sy:y<1000000000000000000:=by have:=lK (n:=y) (k:=2);omega
    refine qW @c2 @c3 ?_;refine jy (YR h.Pv sx) ?_;refine ev ?_;refine jy (YR h.Pv sy) ?_;refine ev ?_;refine jy (agE h.Xe sx sy) ?_;refine ev ?_;exact kE _
   have lr:=jQ x hy;have lr2:(mk (x % y)).length≤800:=cZ (Md (Nat.le_of_lt lr)) ly;have eg:Nat.gcd y (x % y)=Nat.gcd x y:=by rw [jD x y,Nat.gcd_rec y x,jD]
   have big:((((mk x).length:Nat):Int)<3∧¬(((mk y).length:Nat):Int)<3)∨¬(((mk x).length:Nat):Int)<3:=by omega
   clear c2;rcases big with ⟨c2,c3⟩|c2
   case' inl=>(refine qW @c2 @c3 ?_;try with_reducible exact True.intro)
   case' inr=>(refine ev1 @c2 ?_;try with_reducible exact True.intro)
   all_goals
    refine jy (Qq h.yD hy (by omega) (by omega)) ?_;refine ev ?_;exact⟨(y,x % y),lr,⟨eg,ly,lr2⟩,by (refine jW ?_;exact zX)⟩
  have y0:y=0:=by have:=@Eb y;omega
  rw [y0,Nat.gcd_zero_right];exact kE _
def uJ:Fn:=⟨2,17,[.cell 4 2 true],(.seq (rf 1 [oN 4 (.alloc Z4)]) (.seq (sr [oW 5 1,oN 6 (ln 5),oN 7 (bc .eql 6 0),oW 8 7,oG 8 false 9 (oV 1),oG 8 false 10 (ln 9),oG 8 false 11 (bc .gtr 10 60),oN 12 (.pick (.t 8) (.c (.bool true)) (.t 11))] (cd 12 (sr [oN 13 (.build Z4 []),oS (.store 2 (.t 4) (.t 13))] .ret) .skip)) (sr [oW 14 0,oW 15 1,oN 16 (.build Z4 [(0,1,(.t 14)),(1,1,(.t 15))]),oS (.store 2 (.t 4) (.t 16))] .ret)))⟩
structure oU (T:Tb):Prop where
 hT:T 68=some uJ
def Ib:Fn:=⟨2,16,[.cell 4 2 true],(.seq (rf 3 [oN 2 (.box (.t 0)),oK 3 1 (.box (.t 1)),oK 4 2 (.alloc Z4)]) (.seq (rt 0 [oN 5 (fd 0 2),oA 6 0 (lF 1 5) [0],oN 7 (fd 0 3),oA 8 0 (lF 1 7) [2],oA 9 0 (.beq true (.t 6) (.t 8)) [1,3],oN 10 (fd 1 2),oA 11 0 (lF 1 10) [5],oN 12 (fd 1 3),oA 13 0 (lF 1 12) [7],oA 14 0 (cl 155 [11,13]) [6,8],oA 15 0 (cl 68 [9,14]) [4,9,9],⟨none,none,0,.store 2 (.t 4) (.t 15),[10,10,0,1,2,3,4,5,6,7,8,9,10]⟩]) .ret))⟩
structure Bq (T:Tb):Prop where
 hT:T 142=some Ib
 lV:oU T
 Hy:Hg T
def Ie:Fn:=⟨2,40,[.cell 4 2 true],(.seq (rf 3 [oN 2 (.box (.t 0)),oK 3 1 (.box (.t 1)),oK 4 2 (.alloc Z4)]) (.seq (sr [oN 5 (fd 0 2),oN 6 (lF 1 5),oN 7 (fd 0 3),oN 8 (lF 1 7),oN 9 (.beq false (.t 6) (.t 8))] (cd 9 (.seq (rt 0 [oN 10 (fd 0 2),oA 11 0 (lF 1 10) [0],oN 12 (fd 1 2),oA 13 0 (lF 1 12) [2],oN 14 (fd 1 3),oA 15 0 (lF 1 14) [4],oA 16 0 (cl 160 [13,15]) [3,5],oA 17 0 (cl 68 [11,16]) [1,6,6],⟨none,none,0,.store 2 (.t 4) (.t 17),[7,7,0,1,2,3,4,5,6,7]⟩]) .ret) .skip)) (.seq (sr [oN 18 (fd 1 2),oN 19 (lF 1 18),oN 20 (fd 1 3),oN 21 (lF 1 20),oN 22 (cl 152 [19,21]),oN 23 (bc .geq 22 0)] (cd 23 (.seq (rt 0 [oN 24 (fd 0 2),oA 25 0 (lF 1 24) [0],oN 26 (fd 1 2),oA 27 0 (lF 1 26) [2],oN 28 (fd 1 3),oA 29 0 (lF 1 28) [4],oA 30 0 (cl 154 [27,29]) [3,5],oA 31 0 (cl 68 [25,30]) [1,6,6],⟨none,none,0,.store 2 (.t 4) (.t 31),[7,7,0,1,2,3,4,5,6,7]⟩]) .ret) .skip)) (.seq (rt 0 [oN 32 (fd 0 3),oA 33 0 (lF 1 32) [0],oN 34 (fd 1 3),oA 35 0 (lF 1 34) [2],oN 36 (fd 1 2),oA 37 0 (lF 1 36) [4],oA 38 0 (cl 154 [35,37]) [3,5],oA 39 0 (cl 68 [33,38]) [1,6,6],⟨none,none,0,.store 2 (.t 4) (.t 39),[7,7,0,1,2,3,4,5,6,7]⟩]) .ret))))⟩
structure MZ (T:Tb):Prop where
 hT:T 141=some Ie
 lV:oU T
 Hw:G7 T
 Bl:He T
 aak:MV T
def CQ:Fn:=⟨1,17,[.tmp 2],(.seq (rf 1 [oN 1 (.box (.t 0)),oK 2 1 mF]) (sr [oN 3 (fd 1 1),oN 4 (lF 1 3),oN 5 (cl 126 [4]),oW 6 5,oG 6 true 7 (fd 0 1),oG 6 true 8 (lF 1 7),oG 6 true 9 (oV 8),oG 9 true 10 (fd 1 1),oG 9 true 11 (lF 1 10),oG 9 true 12 (ln 11),oG 9 true 13 (bc .eql 12 0),oG 6 true 14 (.pick (.t 9) (.t 13) (.c (.bool false))),oG 6 true 15 (nt 14),oN 16 (.pick (.t 6) (.t 15) (.c (.bool false))),oW 2 16] .ret))⟩
structure Jt (T:Tb):Prop where
 hT:T 125=some CQ
 OI:JU T
def JZ:Fn:=⟨1,6,[.cell 2 2 true],(.seq (rf 2 [oN 1 (.box (.t 0)),oK 2 1 (.alloc Z4)]) (sr [oN 3 (fd 2 1),oN 4 (lF 1 3),oN 5 (.build Z4 [(1,1,(.t 4))]),oS (.store 2 (.t 2) (.t 5))] .ret))⟩
structure Af (T:Tb):Prop where
 hT:T 143=some JZ
def MB:Fn:=⟨1,7,[.tmp 2],(.seq (rf 1 [oN 1 (.box (.t 0)),oK 2 1 mF]) (sr [oN 3 (fd 2 1),oN 4 (lF 1 3),oN 5 (ln 4),oN 6 (bc .gtr 5 0),oW 2 6] .ret))⟩
structure oJ (T:Tb):Prop where
 hT:T 132=some MB
theorem acg:lW (Oo ⟨false,[]⟩) (.agg [.bool false,.jL]):=by
 show lW (.agg [.bool false,.sl 1 []]) (.agg [.bool false,.jL]);simp only [NW,SK,SI,Ku,mX,and_true]
theorem qN:lW (kN ⟨false,[],[]⟩) (.agg [.bool false,.jL,.jL]):=by
 show lW (.agg [.bool false,.sl 1 [],.sl 1 []]) (.agg [.bool false,.jL,.jL]);simp only [NW,SK,SI,Ku,mX,and_true]
theorem DW{T:Tb}(h:oU T){neg:Bool}{n:Nat}(hl:(mk n).length≤60:=by exact lX):PF T 68 [.bool neg,ints (mk n)] (Oo (bi (sg neg n))):=by
 refine kH nR h.hT ?_;simp only [uJ,Lz];refine ev ?_;refine kD (fun h1=>?_) fun h1=>?_<;>(refine ev1 @h1 ?_;try with_reducible exact True.intro)
 ·have n0:n=0:=agB.1 (by omega);subst n0;rw [QY,acf];exact acg
 have h2:¬(60:Int)<((mk n).length:Nat):=by omega
 refine ev1 @h2 ?_;rw [aii neg n (Eb.1 (by omega))];exact kE _
theorem aqd{T:Tb}(h:Af T){r:R}:PF T 143 [kN r] (Oo ⟨false,r.den⟩):=by
 refine kH nR h.hT ?_;simp only [JZ,Lz];refine ev ?_;exact kE _
theorem Uk(a b:Bool):(!decide (a=b))=(a != b):=by cases a<;>cases b<;>rfl
theorem vJ{T:Tb}(h:Bq T){x y:Int}(lx:(mk x.natAbs).length≤30:=by exact lX)(ly:(mk y.natAbs).length≤30:=by exact lX):PF T 142 [Oo (bi x),Oo (bi y)] (Oo (bi (x*y))):=by
 have l1:=Gs x.natAbs y.natAbs;refine kH nR h.hT ?_;simp only [Ib,Lz];refine ev ?_;refine jy (YL h.Hy (by omega) (by omega)) ?_;refine ev ?_;refine jy (DW h.lV (by omega)) ?_;refine ev ?_;refine⟨by unfold pz;decide +kernel,?_⟩;rw [Uk,VJ];exact kE _
theorem aes{T:Tb}(h:MZ T){x y:Int}(lx:(mk x.natAbs).length≤59:=by exact lX)(ly:(mk y.natAbs).length≤59:=by exact lX):PF T 141 [Oo (bi x),Oo (bi y)] (Oo (bi (x+y))):=by
 have l1:=agA x.natAbs y.natAbs;have l2:=ace x.natAbs y.natAbs;have l3:=ace y.natAbs x.natAbs;refine kH nR h.hT ?_;simp only [Ie,Lz];refine ev ?_;refine kD (fun h1=>?_) fun h1=>?_<;>(refine ev1 @h1 ?_;try with_reducible exact True.intro)
 ·refine jy (amg h.aak (by omega) (by omega)) ?_;refine ev ?_;refine jy (DW h.lV (by omega)) ?_;refine ev ?_;refine⟨by unfold pz;decide +kernel,?_⟩;rw [←h1,WS h1];exact kE _
 have cc:=YK h.Hw (uI x.natAbs) (uI y.natAbs) (by omega) (by omega);rw [val_mk,val_mk]at cc;refine jy cc ?_;refine ev ?_;refine kD (fun h2=>?_) fun h2=>?_<;>(refine ev1 @h2 ?_;try with_reducible exact True.intro)
 ·have h3:=xE.1 h2;refine jy (Ui h.Bl h3 (by omega) (by omega)) ?_;refine ev ?_;refine jy (DW h.lV (by omega)) ?_;refine ev ?_;refine⟨by unfold pz;decide +kernel,?_⟩;rw [Me h1 h3];exact kE _
 have h3:x.natAbs≤y.natAbs:=by have:=@xE x.natAbs y.natAbs;omega
 refine jy (Ui h.Bl h3 (by omega) (by omega)) ?_;refine ev ?_;refine jy (DW h.lV (by omega)) ?_;refine ev ?_;refine⟨by unfold pz;decide +kernel,?_⟩;rw [Me (fun e=>h1 e.symm) h3,Int.add_comm];exact kE _
theorem agF{T:Tb}(h:Jt T){z:Bi}(hl:z.mag.length≤9223372036854775807:=by exact lX):PF T 125 [Oo z] (.bool (xY z.mag && !(z.neg&&z.mag.isEmpty))):=by
 obtain⟨neg,mag⟩:=z;have cn:=aic h.OI hl;dsimp only at cn ⊢
 cases hn:xY mag<;>rw [hn]at cn<;>cases neg
 all_goals
  refine kQ nR h.hT ?_;simp only [CQ,Lz];refine ev ?_;refine jy cn ?_
  (refine ev ?_;try with_reducible exact True.intro)
 all_goals
  cases mag<;>simp<;>omega
theorem atY{T:Tb}(h:oJ T){r:R}:PF T 132 [kN r] (.bool (!r.den.isEmpty)):=by
 refine kQ nR h.hT ?_;simp only [MB,Lz];refine ev ?_
 cases r.den<;>simp
def uK:Fn:=⟨2,18,[.cell 4 2 true],(.seq (rf 1 [oN 4 (.alloc Z4)]) (sr [oW 6 1,oN 7 (cl 70 [6]),oW 5 7] (.seq (rf 2 [oK 8 2 (oV 0),oK 9 2 (oV 8),oH 9 true 10 2 (oV 5) [],oH 9 true 11 2 (ln 10) [],oH 9 true 12 2 (bc .gtr 11 0) [],oK 13 2 (.pick (.t 9) (.t 12) (.c (.bool false))),oN 14 (.ny 1 F8 0 []),oK 15 2 (oV 5),oK 16 1 (.app 1 8 (.t 14) (.t 15)),oK 17 2 (.build Z4 [(0,1,(.t 13)),(1,1,(.t 16))]),⟨none,none,2,.store 2 (.t 4) (.t 17),[]⟩]) .ret)))⟩
structure sF (T:Tb):Prop where
 hT:T 66=some uK
 RH:MX T
def Ig:Fn:=⟨2,40,[.cell 4 2 true],(.seq (rf 3 [oN 2 (.box (.t 0)),oK 3 1 (.box (.t 1)),oK 4 2 (.alloc Z4)]) (.seq (sr [oN 5 (fd 0 2),oN 6 (lF 1 5),oN 7 (fd 0 3),oN 8 (lF 1 7),oN 9 (.beq false (.t 6) (.t 8))] (cd 9 (.seq (rt 0 [oN 10 (fd 0 2),oA 11 0 (lF 1 10) [0],oN 12 (fd 1 2),oA 13 0 (lF 1 12) [2],oN 14 (fd 1 3),oA 15 0 (lF 1 14) [4],oA 16 0 (cl 209 [13,15]) [3,5],oA 17 0 (cl 66 [11,16]) [1,6,6],⟨none,none,0,.store 2 (.t 4) (.t 17),[7,7,0,1,2,3,4,5,6,7]⟩]) .ret) .skip)) (.seq (sr [oN 18 (fd 1 2),oN 19 (lF 1 18),oN 20 (fd 1 3),oN 21 (lF 1 20),oN 22 (cl 146 [19,21]),oN 23 (bc .geq 22 0)] (cd 23 (.seq (rt 0 [oN 24 (fd 0 2),oA 25 0 (lF 1 24) [0],oN 26 (fd 1 2),oA 27 0 (lF 1 26) [2],oN 28 (fd 1 3),oA 29 0 (lF 1 28) [4],oA 30 0 (cl 149 [27,29]) [3,5],oA 31 0 (cl 66 [25,30]) [1,6,6],⟨none,none,0,.store 2 (.t 4) (.t 31),[7,7,0,1,2,3,4,5,6,7]⟩]) .ret) .skip)) (.seq (rt 0 [oN 32 (fd 0 3),oA 33 0 (lF 1 32) [0],oN 34 (fd 1 3),oA 35 0 (lF 1 34) [2],oN 36 (fd 1 2),oA 37 0 (lF 1 36) [4],oA 38 0 (cl 149 [35,37]) [3,5],oA 39 0 (cl 66 [33,38]) [1,6,6],⟨none,none,0,.store 2 (.t 4) (.t 39),[7,7,0,1,2,3,4,5,6,7]⟩]) .ret))))⟩
structure Na (T:Tb):Prop where
 hT:T 205=some Ig
 lN:sF T
 wz:yA T
 H8:Hr T
 aal:MW T
def CS:Fn:=⟨1,17,[.tmp 2],(.seq (rf 1 [oN 1 (.box (.t 0)),oK 2 1 mF]) (sr [oN 3 (fd 1 1),oN 4 (lF 1 3),oN 5 (cl 121 [4]),oW 6 5,oG 6 true 7 (fd 0 1),oG 6 true 8 (lF 1 7),oG 6 true 9 (nt 8),oG 6 true 10 (oV 9),oG 10 false 11 (fd 1 1),oG 10 false 12 (lF 1 11),oG 10 false 13 (ln 12),oG 10 false 14 (bc .gtr 13 0),oG 6 true 15 (.pick (.t 10) (.c (.bool true)) (.t 14)),oN 16 (.pick (.t 6) (.t 15) (.c (.bool false))),oW 2 16] .ret))⟩
structure Ju (T:Tb):Prop where
 hT:T 120=some CS
 Ec:Ea T
def Bv:Fn:=⟨1,12,[.tmp 2],(sr [oN 2 mF] (sr [oW 3 0,oN 4 (ln 3),oN 5 (bc .eql 4 1),oW 6 5,oG 6 true 7 (oV 0),oG 6 true 8 (.idx 1 (.t 7) (cI 0)),oG 6 true 9 (lF 1 8),oG 6 true 10 (bc .eql 9 1),oN 11 (.pick (.t 6) (.t 10) (.c (.bool false))),oW 2 11] .ret))⟩
structure Bz (T:Tb):Prop where
 hT:T 122=some Bv
theorem wS{T:Tb}(h:sF T){neg:Bool}{n:Nat}(hl:(mk n).length≤60:=by exact lX):PF T 66 [.bool neg,ints (mk n)] (Oo (bi (sg neg n))):=by
 have ct:=aep h.RH (n:=n) (by omega);by_cases n0:n=0
 ·subst n0;rw [mk_zero]at *;rw [QY,acf];refine kH nR h.hT ?_;simp only [uK,Lz];refine ev ?_;refine jy ct ?_
  cases neg
  ·refine ev ?_;exact⟨fun _=>acg,fun e=>absurd rfl e⟩
  refine ev ?_;exact⟨fun _=>acg,fun e=>absurd rfl e⟩
 have hp:=Eb.2 (iV n0);have ne:kF (mk n)≠[]:=by intro e;rw [←zB,e]at hp;simp at hp
 rw [aii neg n (by omega)];refine kH nR h.hT ?_;simp only [uK,Lz];refine ev ?_;refine jy ct ?_
 cases neg
 ·refine ev1 @ne ?_;exact⟨by omega,kE _⟩
 have c1:(0:Int)<((mk n).length:Nat):=by omega
 refine qW @ne @c1 ?_;exact⟨by omega,kE _⟩
theorem Ul{T:Tb}(h:Na T){x y:Int}(lx:(mk x.natAbs).length≤59:=by exact lX)(ly:(mk y.natAbs).length≤59:=by exact lX):PF T 205 [Oo (bi x),Oo (bi y)] (Oo (bi (x+y))):=by
 have l1:=agA x.natAbs y.natAbs;have l2:=ace x.natAbs y.natAbs;have l3:=ace y.natAbs x.natAbs;refine kH nR h.hT ?_;simp only [Ig,Lz];refine ev ?_;refine kD (fun h1=>?_) fun h1=>?_<;>(refine ev1 @h1 ?_;try with_reducible exact True.intro)
 ·refine jy (ami h.aal (by omega) (by omega)) ?_;refine ev ?_;refine jy (wS h.lN (by omega)) ?_;refine ev ?_;refine⟨by unfold pz;decide +kernel,?_⟩;rw [←h1,WS h1];exact kE _
 have cc:=Uj h.wz (uI x.natAbs) (uI y.natAbs) (by omega) (by omega);rw [val_mk,val_mk]at cc;refine jy cc ?_;refine ev ?_;refine kD (fun h2=>?_) fun h2=>?_<;>(refine ev1 @h2 ?_;try with_reducible exact True.intro)
 ·have h3:=xE.1 h2;refine jy (YQ h.H8 h3 (by omega) (by omega)) ?_;refine ev ?_;refine jy (wS h.lN (by omega)) ?_;refine ev ?_;refine⟨by unfold pz;decide +kernel,?_⟩;rw [Me h1 h3];exact kE _
 have h3:x.natAbs≤y.natAbs:=by have:=@xE x.natAbs y.natAbs;omega
 refine jy (YQ h.H8 h3 (by omega) (by omega)) ?_;refine ev ?_;refine jy (wS h.lN (by omega)) ?_;refine ev ?_;refine⟨by unfold pz;decide +kernel,?_⟩;rw [Me (fun e=>h1 e.symm) h3,Int.add_comm];exact kE _
theorem aeu{T:Tb}(h:Ju T){z:Bi}(hl:z.mag.length≤9223372036854775807:=by exact lX):PF T 120 [Oo z] (.bool (xY z.mag && !(z.neg&&z.mag.isEmpty))):=by
 obtain⟨neg,mag⟩:=z;have cn:=YM h.Ec hl;dsimp only at cn ⊢
 cases hn:xY mag<;>rw [hn]at cn<;>cases neg
 all_goals
  refine kQ nR h.hT ?_;simp only [CS,Lz];refine ev ?_;refine jy cn ?_
  (refine ev ?_;try with_reducible exact True.intro)
 all_goals
  cases mag<;>simp<;>omega
theorem Ed{T:Tb}(h:Bz T){n:Nat}:PF T 122 [ints (mk n)] (.bool (decide (n=1))):=by
 by_cases n1:n=1
 ·subst n1;rw [mk_one (by omega) (by omega)];have c0:((1:Nat):Int)=1:=rfl;refine kQ nR h.hT ?_;simp only [Bv,Lz];refine ev ?_;refine ev1 @c0 ?_;rfl
 have key:¬((mk n).length=1∧(mk n).getD 0 0=1):=by
  rintro⟨k,e⟩;have:=val_mk n
  cases hm:mk n with
  |nil=>rw [hm]at k;simp at k
  |
   cons x l =>
   rw [hm]at k e this;have:l=[]:=by simpa using k
   subst this;simp [val]at *;omega
 refine kQ nR h.hT ?_;simp only [Bv,Lz];refine ev ?_;by_cases k:(((mk n).length:Nat):Int)=1
 ·have k':=iff_true_intro k;have e:¬(mk n).getD 0 0=1:=fun e=>key ⟨by omega,e⟩;refine qW @k' @e ?_;simp [n1]
 refine ev1 @k ?_;simp [n1]
theorem Um{q:Rat}:fits q=true↔(mk q.num.natAbs).length≤24∧(mk q.den).length≤24:=by
 rw [lK,lK];simp [fits]
theorem Gt(neg:Bool)(m:Nat):(sg neg m).natAbs=m:=by cases neg<;>simp [sg]
theorem XG{n d:Int}(hd:d≠0):Q.raw (Qm n d) =
  if (mk (n.natAbs / Nat.gcd n.natAbs d.natAbs)).length≤24∧(mk (d.natAbs / Nat.gcd n.natAbs d.natAbs)).length≤24 then
   ⟨(bi (sg (decide (n<0) != decide (d<0)) (n.natAbs / Nat.gcd n.natAbs d.natAbs))).neg,mk (n.natAbs / Nat.gcd n.natAbs d.natAbs),mk (d.natAbs / Nat.gcd n.natAbs d.natAbs)⟩
  else⟨false,[],[]⟩:=by
 obtain⟨h1,h2,h3⟩:=ags (n:=n) hd;unfold Qm;rw [if_neg hd];have hg:0<Nat.gcd n.natAbs d.natAbs:=iD _ (by omega);have h4:n.natAbs / Nat.gcd n.natAbs d.natAbs=0↔n=0:=by
  constructor
  ·intro h;have:=Nat.div_mul_cancel (Nat.gcd_dvd_left n.natAbs d.natAbs);rw [h]at this;omega
  intro h;subst h;simp
 have h5:decide ((Rat.divInt n d).num<0)=decide (sg (decide (n<0) != decide (d<0)) (n.natAbs / Nat.gcd n.natAbs d.natAbs)<0):=by
  rw [h3];generalize n.natAbs / Nat.gcd n.natAbs d.natAbs=m at h4
  cases hb:(decide (n<0) != decide (d<0))
  ·simp [sg]
  by_cases hn:n=0
  ·have:=h4.2 hn;subst this;simp [sg,hn]
  have:m≠0:=fun e=>hn (h4.1 e);simp [sg,hn];omega
 by_cases hf:fits (Rat.divInt n d)=true
 ·have hf2:=Um.1 hf;rw [h1,h2]at hf2;rw [aa5 hf,if_pos hf2];simp only [Q.raw,h1,h2,h5]
 have hf2:=fun h=>hf (Um.2 h);rw [h1,h2]at hf2;rw [aa6 (by simpa using hf),if_neg hf2];rfl
def uM:Fn:=⟨2,52,[.cell 4 3 true],(.seq (rf 3 [oN 2 (.box (.t 0)),oK 3 1 (.box (.t 1)),oK 4 2 (.alloc qL)]) (.seq (sr [oN 10 (fd 1 3),oN 11 (lF 1 10),oN 12 (ln 11),oN 13 (bc .eql 12 0)] (cd 13 (sr [oN 14 (.build qL []),oS (.store 3 (.t 4) (.t 14))] .ret) .skip)) (sr [oN 15 (fd 1 2),oN 16 (lF 1 15),oN 17 (fd 1 3),oN 18 (lF 1 17),oN 19 (cl 127 [16,18]),oW 5 19] (sr [oN 21 (fd 1 2),oN 22 (lF 1 21),oW 23 5,oN 24 (cl 138 [22,23]),oW 20 24,oN 25 (ex 0 20),oN 26 (ex 1 20),oW 6 25,oW 7 26] (sr [oN 28 (fd 1 3),oN 29 (lF 1 28),oW 30 5,oN 31 (cl 138 [29,30]),oW 27 31,oN 32 (ex 0 27),oN 33 (ex 1 27),oW 8 32,oW 9 33] (.seq (sr [oW 34 6,oN 35 (ln 34),oN 36 (bc .gtr 35 24),oW 37 36,oG 37 false 38 (oV 8),oG 37 false 39 (ln 38),oG 37 false 40 (bc .gtr 39 24),oN 41 (.pick (.t 37) (.c (.bool true)) (.t 40))] (cd 41 (sr [oN 42 (.build qL []),oS (.store 3 (.t 4) (.t 42))] .ret) .skip)) (sr [oN 43 (fd 0 2),oN 44 (lF 1 43),oN 45 (fd 0 3),oN 46 (lF 1 45),oN 47 (.beq true (.t 44) (.t 46)),oW 48 6,oN 49 (cl 68 [47,48]),oW 50 8,oN 51 (.build qL [(0,2,(.t 49)),(2,1,(.t 50))]),oS (.store 3 (.t 4) (.t 51))] .ret)))))))⟩
structure wU (T:Tb):Prop where
 hT:T 144=some uM
 lV:oU T
 Ih:HY T
 yC:Bj T
def rH:Fn:=⟨2,33,[.cell 4 3 true],(.seq (rf 3 [oN 2 (.box (.t 0)),oK 3 1 (.box (.t 1)),oK 4 2 (.alloc qL)]) (.seq (sr [oN 6 (lT 3 2),oN 7 (cl 132 [6]),oN 8 (nt 7),oW 9 8,oG 9 false 10 (lT 3 3),oG 9 false 11 (cl 132 [10]),oG 9 false 12 (nt 11),oN 13 (.pick (.t 9) (.c (.bool true)) (.t 12))] (cd 13 (sr [oN 14 (.build qL []),oS (.store 3 (.t 4) (.t 14))] .ret) .skip)) (.seq (rt 1 [oK 15 1 (fd 0 2),oA 16 1 (lT 2 15) [0],oK 17 1 (lT 3 3),oA 18 1 (cl 143 [17]) [2],oA 19 1 (cl 142 [16,18]) [1,3,3],oK 20 1 (fd 0 3),oA 21 1 (lT 2 20) [5],oK 22 1 (lT 3 2),oA 23 1 (cl 143 [22]) [7,4],oA 24 1 (cl 142 [21,23]) [6,8,8],oA 25 1 (cl 141 [19,24]) [4,9,9],oN 5 (.alloc Z4),⟨none,none,1,.store 2 (.t 5) (.t 25),[11,10,10,0,1,2,3,4,5,6,7,8,9,10,11]⟩]) (.seq (rt 0 [oN 26 (lT 2 5),oN 27 (lT 3 2),oA 28 0 (cl 143 [27]) [1],oN 29 (lT 3 3),oA 30 0 (cl 143 [29]) [3,2],oA 31 0 (cl 142 [28,30]) [2,4,4],oA 32 0 (cl 144 [26,31]) [0,5,5],⟨none,none,0,.store 3 (.t 4) (.t 32),[6,6,0,1,2,3,4,5,6]⟩]) .ret))))⟩
structure nJ (T:Tb):Prop where
 hT:T 131=some rH
 kL:oJ T
 RI:MZ T
 nD:Bq T
 mZ:Af T
 sG:wU T
def BA:Fn:=⟨1,20,[.cell 2 3 true],(.seq (rf 2 [oN 1 (.box (.t 0)),oK 2 1 (.alloc qL)]) (.seq (sr [oN 3 (lT 3 1),oN 4 (cl 132 [3]),oN 5 (nt 4)] (cd 5 (sr [oN 6 (.build qL []),oS (.store 3 (.t 2) (.t 6))] .ret) .skip)) (.seq (rt 0 [oN 7 (fd 0 1),oA 8 0 (fd 0 7) [0],oA 9 0 (lF 1 8) [1],oA 10 0 (nt 9) [2],oN 11 (fd 0 1),oA 12 0 (fd 1 11) [4],oA 13 0 (lF 1 12) [5],oA 14 0 (cl 139 [13]) [6],oA 15 0 (cl 68 [10,14]) [3,7,7],oN 16 (fd 2 1),oA 17 0 (lF 1 16) [9],oA 18 0 (cl 139 [17]) [10,8],oA 19 0 (.build qL [(0,2,(.t 15)),(2,1,(.t 18))]) [8,11],⟨none,none,0,.store 3 (.t 2) (.t 19),[12,11,0,1,2,3,4,5,6,7,8,9,10,11,12]⟩]) .ret)))⟩
structure BD (T:Tb):Prop where
 hT:T 161=some BA
 lV:oU T
 kL:oJ T
 sV:vk T
def Ii:Fn:=⟨2,9,[.cell 4 3 true],(.seq (rf 3 [oN 2 (.box (.t 0)),oK 3 1 (.box (.t 1)),oK 4 2 (.alloc qL)]) (.seq (rt 0 [oN 5 (lT 3 2),oN 6 (lT 3 3),oA 7 0 (cl 161 [6]) [1],oA 8 0 (cl 131 [5,7]) [0,2,2],⟨none,none,0,.store 3 (.t 4) (.t 8),[3,3,0,1,2,3]⟩]) .ret))⟩
structure BF (T:Tb):Prop where
 hT:T 159=some Ii
 lC:nJ T
 Ij:BD T
def rJ:Fn:=⟨2,25,[.cell 4 3 true],(.seq (rf 3 [oN 2 (.box (.t 0)),oK 3 1 (.box (.t 1)),oK 4 2 (.alloc qL)]) (.seq (sr [oN 5 (lT 3 2),oN 6 (cl 132 [5]),oN 7 (nt 6),oW 8 7,oG 8 false 9 (lT 3 3),oG 8 false 10 (cl 132 [9]),oG 8 false 11 (nt 10),oN 12 (.pick (.t 8) (.c (.bool true)) (.t 11))] (cd 12 (sr [oN 13 (.build qL []),oS (.store 3 (.t 4) (.t 13))] .ret) .skip)) (.seq (rt 0 [oN 14 (fd 0 2),oA 15 0 (lT 2 14) [0],oN 16 (fd 0 3),oA 17 0 (lT 2 16) [2],oA 18 0 (cl 142 [15,17]) [1,3],oN 19 (lT 3 2),oA 20 0 (cl 143 [19]) [5,4],oN 21 (lT 3 3),oA 22 0 (cl 143 [21]) [7,6],oA 23 0 (cl 142 [20,22]) [6,8,8],oA 24 0 (cl 144 [18,23]) [4,9,9],⟨none,none,0,.store 3 (.t 4) (.t 24),[10,10,0,1,2,3,4,5,6,7,8,9,10]⟩]) .ret)))⟩
structure rM (T:Tb):Prop where
 hT:T 157=some rJ
 kL:oJ T
 nD:Bq T
 mZ:Af T
 sG:wU T
def rO:Fn:=⟨2,25,[.cell 4 3 true],(.seq (rf 3 [oN 2 (.box (.t 0)),oK 3 1 (.box (.t 1)),oK 4 2 (.alloc qL)]) (.seq (sr [oN 5 (lT 3 2),oN 6 (cl 132 [5]),oN 7 (nt 6),oW 8 7,oG 8 false 9 (lT 3 3),oG 8 false 10 (cl 132 [9]),oG 8 false 11 (nt 10),oN 12 (.pick (.t 8) (.c (.bool true)) (.t 11))] (cd 12 (sr [oN 13 (.build qL []),oS (.store 3 (.t 4) (.t 13))] .ret) .skip)) (.seq (rt 0 [oN 14 (fd 0 2),oA 15 0 (lT 2 14) [0],oN 16 (lT 3 3),oA 17 0 (cl 143 [16]) [2],oA 18 0 (cl 142 [15,17]) [1,3,3],oN 19 (fd 0 3),oA 20 0 (lT 2 19) [5],oN 21 (lT 3 2),oA 22 0 (cl 143 [21]) [7,4],oA 23 0 (cl 142 [20,22]) [6,8,8],oA 24 0 (cl 144 [18,23]) [4,9,9],⟨none,none,0,.store 3 (.t 4) (.t 24),[10,10,0,1,2,3,4,5,6,7,8,9,10]⟩]) .ret)))⟩
structure wB (T:Tb):Prop where
 hT:T 156=some rO
 kL:oJ T
 nD:Bq T
 mZ:Af T
 sG:wU T
def zF:Fn:=⟨1,16,[.tmp 2],(.seq (rf 1 [oN 1 (.box (.t 0)),oK 2 1 (.mM (cI 0))]) (.seq (sr [oN 3 (lT 3 1),oN 4 (cl 132 [3]),oN 5 (nt 4),oW 6 5,oG 6 false 7 (fd 0 1),oG 6 false 8 (fd 1 7),oG 6 false 9 (lF 1 8),oG 6 false 10 (ln 9),oG 6 false 11 (bc .eql 10 0),oN 12 (.pick (.t 6) (.c (.bool true)) (.t 11))] (cd 12 (sr [oN 2 (.mM (cI 0))] .ret) .skip)) (.seq (sr [oN 13 (fd 0 1),oN 14 (fd 0 13),oN 15 (lF 1 14)] (cd 15 (sr [oN 2 (.mM (cI (-1)))] .ret) .skip)) (sr [oN 2 (.mM (cI 1))] .ret))))⟩
structure KL (T:Tb):Prop where
 hT:T 124=some zF
 kL:oJ T
def tZ:Fn:=⟨1,46,[.tmp 2],(.seq (rf 1 [oN 1 (.box (.t 0)),oK 2 1 mF]) (.seq (sr [oN 4 (fd 0 1),oN 5 (lT 2 4),oN 6 (cl 125 [5]),oN 7 (nt 6),oW 8 7,oG 8 false 9 (fd 2 1),oG 8 false 10 (lF 1 9),oG 8 false 11 (cl 126 [10]),oG 8 false 12 (nt 11),oN 13 (.pick (.t 8) (.c (.bool true)) (.t 12)),oW 14 13,oG 14 false 15 (fd 2 1),oG 14 false 16 (lF 1 15),oG 14 false 17 (ln 16),oG 14 false 18 (bc .eql 17 0),oN 19 (.pick (.t 14) (.c (.bool true)) (.t 18))] (cd 19 (sr [oN 2 mF] .ret) .skip)) (.seq (sr [oN 20 (fd 0 1),oN 21 (fd 1 20),oN 22 (lF 1 21),oN 23 (ln 22),oN 24 (bc .gtr 23 24),oW 25 24,oG 25 false 26 (fd 2 1),oG 25 false 27 (lF 1 26),oG 25 false 28 (ln 27),oG 25 false 29 (bc .gtr 28 24),oN 30 (.pick (.t 25) (.c (.bool true)) (.t 29))] (cd 30 (sr [oN 2 mF] .ret) .skip)) (sr [oN 31 (fd 0 1),oN 32 (fd 1 31),oN 33 (lF 1 32),oN 34 (fd 2 1),oN 35 (lF 1 34),oN 36 (cl 127 [33,35]),oW 3 36] (sr [oW 37 3,oN 38 (ln 37),oN 39 (bc .eql 38 1),oW 40 39,oG 40 true 41 (oV 3),oG 40 true 42 (.idx 1 (.t 41) (cI 0)),oG 40 true 43 (lF 1 42),oG 40 true 44 (bc .eql 43 1),oN 45 (.pick (.t 40) (.t 44) (.c (.bool false))),oW 2 45] .ret)))))⟩
structure Ag (T:Tb):Prop where
 hT:T 102=some tZ
 Px:Jt T
 OI:JU T
 Ih:HY T
theorem AU{T:Tb}(h:Af T){q:Rat}:PF T 143 [kN (Q.raw (some q))] (Oo (bi q.den)):=by
 have:=aqd h (r:=Q.raw (some q));rw [atX];exact this
theorem ach{T:Tb}(h:oJ T){a:Q}:PF T 132 [kN (Q.raw a)] (.bool a.isSome):=by
 have:=atY h (r:=Q.raw a)
 cases a with
 |none=>exact this
 |
  some q =>
  have hp:=Eb.2 q.den_pos;have e:(Q.raw (some q)).den.isEmpty=false:=by
   show (mk q.den).isEmpty=false
   cases hm:mk q.den with
   |nil=>rw [hm]at hp;simp at hp
   |cons x l=>rfl
  rw [e]at this;exact this
theorem sN{T:Tb}(h:oJ T){q:Rat}:PF T 132 [kN (Q.raw (some q))] (.bool true):=ach h (a:=some q)
theorem yY{T:Tb}(h:oJ T):PF T 132 [kN (Q.raw none)] (.bool false):=ach h (a:=none)
theorem VK{T:Tb}(h:wU T){n d:Int}(ln:(mk n.natAbs).length≤60:=by exact lX)(ld:(mk d.natAbs).length≤60:=by exact lX) :
  PF T 144 [Oo (bi n),Oo (bi d)] (kN (Q.raw (Qm n d))):=by
 by_cases hd:d=0
 ·subst hd;have e:Qm n 0=none:=rfl;rw [e];refine kH nR h.hT ?_;simp only [uM,Lz];refine ev ?_;have c1:(((mk (0:Int).natAbs).length:Nat):Int)=0:=by
   show (((mk 0).length:Nat):Int)=0;rw [XF];rfl
  refine ev1 @c1 ?_;exact qN
 rw [XG hd];have hg:0<Nat.gcd n.natAbs d.natAbs:=iD _ (by omega);have cg:=YP h.Ih (m:=n.natAbs) (n:=d.natAbs) (by omega) (by omega);have lg:(mk (Nat.gcd n.natAbs d.natAbs)).length≤60:=cZ (Md (jX (by omega) (ji _ _))) ld;have l1:=Qp n.natAbs (Nat.gcd n.natAbs d.natAbs);have l2:=Qp d.natAbs (Nat.gcd n.natAbs d.natAbs);have cn:=YO h.yC (m:=n.natAbs) hg (by omega) (by omega);have cd:=YO h.yC (m:=d.natAbs) hg (by omega) (by omega);have c1:¬(((mk d.natAbs).length:Nat):Int)=0:=by have:=@agB d.natAbs;omega
 clear hg lg;generalize n.natAbs / Nat.gcd n.natAbs d.natAbs=u at *;generalize d.natAbs / Nat.gcd n.natAbs d.natAbs=v at *;have cm:=DW h.lV (neg:=!decide (decide (n<0)=decide (d<0))) (n:=u) (by omega);refine kH nR h.hT ?_;simp only [uM,Lz];refine ev ?_;refine ev1 @c1 ?_;refine jy cg ?_;refine ev ?_;refine jy cn ?_;refine ev ?_;refine jy cd ?_;refine ev ?_;by_cases k1:(24:Int)<((mk u).length:Nat)
 ·refine ev1 @k1 ?_;rw [if_neg (by omega)];exact qN
 by_cases k2:(24:Int)<((mk v).length:Nat)
 ·refine qW @k1 @k2 ?_;rw [if_neg (by omega)];exact qN
 refine qW @k1 @k2 ?_;refine jy cm ?_;refine ev ?_;rw [if_pos (by omega),Uk];rw [Gt];exact kE _
theorem LV{q:Rat}(h:Q.ok (some q)):(mk q.num.natAbs).length≤24∧(mk q.den).length≤24:=Um.1 h
theorem aev{T:Tb}(h:nJ T){a b:Q}(ha:a.ok:=by assumption)(hb:b.ok:=by assumption):PF T 131 [kN (Q.raw a),kN (Q.raw b)] (kN (Q.raw (PU a b))):=by
 cases a with
 |
  none =>
  refine kH nR h.hT ?_;simp only [rH,Lz];refine ev ?_;refine jy (yY h.kL) ?_;refine ev ?_;exact qN
 |
  some q=>cases b with
  |
   none =>
   refine kH nR h.hT ?_;simp only [rH,Lz];refine ev ?_;refine jy (sN h.kL) ?_;refine ev ?_;refine jy (yY h.kL) ?_;refine ev ?_;exact qN
  |
   some s =>
   obtain⟨l1,l2⟩:=LV ha;obtain⟨l3,l4⟩:=LV hb;have e:PU (some q) (some s)=Qm (q.num*s.den+s.num*q.den) (q.den*s.den):=(XC q s).symm;rw [e];have t1:=qC q.num s.den;have t2:=qC s.num q.den;have t3:=qC q.den s.den;have t5:=qC q.num s.num;have t4:=H6 (q.num*s.den) (s.num*q.den);have n1:(mk (q.den:Int).natAbs).length≤24:=by rw [bW];exact l2
   have n2:(mk (s.den:Int).natAbs).length≤24:=by rw [bW];exact l4
   refine kH nR h.hT ?_;simp only [rH,Lz];refine ev ?_;refine jy (sN h.kL) ?_;refine ev ?_;refine jy (sN h.kL) ?_;refine ev ?_;refine jy (AU h.mZ (q:=s)) ?_;refine ev ?_;refine jy (vJ h.nD (x:=q.num) (y:=s.den) (by omega) (by omega)) ?_;refine ev ?_;refine jy (AU h.mZ (q:=q)) ?_;refine ev ?_;refine jy (vJ h.nD (x:=s.num) (y:=q.den) (by omega) (by omega)) ?_;refine ev ?_;refine jy (aes h.RI (x:=q.num*s.den) (y:=s.num*q.den) (by omega) (by omega)) ?_;refine ev ?_;refine⟨by unfold pz;decide +kernel,?_⟩;refine jy (AU h.mZ (q:=q)) ?_;refine ev ?_;refine jy (AU h.mZ (q:=s)) ?_;refine ev ?_;refine jy (vJ h.nD (x:=q.den) (y:=s.den) (by omega) (by omega)) ?_;refine ev ?_;refine jy (VK h.sG (n:=q.num*s.den+s.num*q.den) (d:=q.den*s.den) (by omega) (by omega)) ?_;refine ev ?_;refine⟨by unfold pz;decide +kernel,?_⟩;exact kE _
theorem amj{T:Tb}(h:rM T){a b:Q}(ha:a.ok:=by assumption)(hb:b.ok:=by assumption):PF T 157 [kN (Q.raw a),kN (Q.raw b)] (kN (Q.raw (Yz a b))):=by
 cases a with
 |
  none =>
  refine kH nR h.hT ?_;simp only [rJ,Lz];refine ev ?_;refine jy (yY h.kL) ?_;refine ev ?_;exact qN
 |
  some q=>cases b with
  |
   none =>
   refine kH nR h.hT ?_;simp only [rJ,Lz];refine ev ?_;refine jy (sN h.kL) ?_;refine ev ?_;refine jy (yY h.kL) ?_;refine ev ?_;exact qN
  |
   some s =>
   obtain⟨l1,l2⟩:=LV ha;obtain⟨l3,l4⟩:=LV hb;have e:Yz (some q) (some s)=Qm (q.num*s.num) (q.den*s.den):=(ab7 q s).symm;rw [e];have t1:=qC q.num s.den;have t2:=qC s.num q.den;have t3:=qC q.den s.den;have t5:=qC q.num s.num;have t4:=H6 (q.num*s.den) (s.num*q.den);have n1:(mk (q.den:Int).natAbs).length≤24:=by rw [bW];exact l2
   have n2:(mk (s.den:Int).natAbs).length≤24:=by rw [bW];exact l4
   refine kH nR h.hT ?_;simp only [rJ,Lz];refine ev ?_;refine jy (sN h.kL) ?_;refine ev ?_;refine jy (sN h.kL) ?_;refine ev ?_;refine jy (vJ h.nD (x:=q.num) (y:=s.num) (by omega) (by omega)) ?_;refine ev ?_;refine jy (AU h.mZ (q:=q)) ?_;refine ev ?_;refine jy (AU h.mZ (q:=s)) ?_;refine ev ?_;refine jy (vJ h.nD (x:=q.den) (y:=s.den) (by omega) (by omega)) ?_;refine ev ?_;refine jy (VK h.sG (n:=q.num*s.num) (d:=q.den*s.den) (by omega) (by omega)) ?_;refine ev ?_;refine⟨by unfold pz;decide +kernel,?_⟩;exact kE _
theorem amk{T:Tb}(h:wB T){a b:Q}(ha:a.ok:=by assumption)(hb:b.ok:=by assumption):PF T 156 [kN (Q.raw a),kN (Q.raw b)] (kN (Q.raw (YA a b))):=by
 cases a with
 |
  none =>
  refine kH nR h.hT ?_;simp only [rO,Lz];refine ev ?_;refine jy (yY h.kL) ?_;refine ev ?_;exact qN
 |
  some q=>cases b with
  |
   none =>
   refine kH nR h.hT ?_;simp only [rO,Lz];refine ev ?_;refine jy (sN h.kL) ?_;refine ev ?_;refine jy (yY h.kL) ?_;refine ev ?_;exact qN
  |
   some s =>
   obtain⟨l1,l2⟩:=LV ha;obtain⟨l3,l4⟩:=LV hb;have e:YA (some q) (some s)=Qm (q.num*s.den) (s.num*q.den):=(ab8 q s).symm;rw [e];have t1:=qC q.num s.den;have t2:=qC s.num q.den;have t3:=qC q.den s.den;have t5:=qC q.num s.num;have t4:=H6 (q.num*s.den) (s.num*q.den);have n1:(mk (q.den:Int).natAbs).length≤24:=by rw [bW];exact l2
   have n2:(mk (s.den:Int).natAbs).length≤24:=by rw [bW];exact l4
   refine kH nR h.hT ?_;simp only [rO,Lz];refine ev ?_;refine jy (sN h.kL) ?_;refine ev ?_;refine jy (sN h.kL) ?_;refine ev ?_;refine jy (AU h.mZ (q:=s)) ?_;refine ev ?_;refine jy (vJ h.nD (x:=q.num) (y:=s.den) (by omega) (by omega)) ?_;refine ev ?_;refine jy (AU h.mZ (q:=q)) ?_;refine ev ?_;refine jy (vJ h.nD (x:=s.num) (y:=q.den) (by omega) (by omega)) ?_;refine ev ?_;refine jy (VK h.sG (n:=q.num*s.den) (d:=s.num*q.den) (by omega) (by omega)) ?_;refine ev ?_;refine⟨by unfold pz;decide +kernel,?_⟩;exact kE _
theorem aew{T:Tb}(h:BD T){a:Q}(ha:a.ok:=by assumption):PF T 161 [kN (Q.raw a)] (kN (Q.raw (negQ a))):=by
 cases a with
 |
  none =>
  refine kH nR h.hT ?_;simp only [BA,Lz];refine ev ?_;refine jy (yY h.kL) ?_;refine ev ?_;exact qN
 |
  some q =>
  obtain⟨l1,l2⟩:=LV ha;refine kH nR h.hT ?_;simp only [BA,Lz];refine ev ?_;refine jy (sN h.kL) ?_;refine ev ?_;refine jy (SS h.sV (l:=mk q.num.natAbs) (by omega)) ?_;refine ev ?_;refine jy (DW h.lV (neg:=!decide (q.num<0)) (n:=q.num.natAbs) (by omega)) ?_;refine ev ?_;refine jy (SS h.sV (l:=mk q.den) (by omega)) ?_;refine ev ?_;refine⟨by unfold pz;decide +kernel,?_⟩;have e:Q.raw (negQ (some q))=⟨(bi (sg (!decide (q.num<0)) q.num.natAbs)).neg,mk q.num.natAbs,mk q.den⟩:=by
   simp only [negQ,Q.raw,Rat.neg_num,Rat.neg_den,Int.natAbs_neg,R.mk.injEq,and_true];have e2:sg (!decide (q.num<0)) q.num.natAbs = -q.num:=by
    by_cases h1:q.num<0
    ·simp [sg,h1];omega
    simp [sg,h1];omega
   rw [e2]
  rw [e,Gt];exact kE _
theorem aml{T:Tb}(h:BF T){a b:Q}(ha:a.ok:=by assumption)(hb:b.ok:=by assumption):PF T 159 [kN (Q.raw a),kN (Q.raw b)] (kN (Q.raw (alT a b))):=by
 have hn:=ab5 hb;refine kH nR h.hT ?_;simp only [Ii,Lz];refine ev ?_;refine jy (aew h.Ij hb) ?_;refine ev ?_;refine jy (aev h.lC ha hn) ?_;refine ev ?_;refine⟨by unfold pz;decide +kernel,?_⟩;exact kE _
theorem ajU{T:Tb}(h:KL T){a:Q}:PF T 124 [kN (Q.raw a)] (iv (wP a)):=by
 cases a with
 |
  none =>
  refine kQ nR h.hT ?_;simp only [zF,Lz];refine ev ?_;refine jy (yY h.kL) ?_;refine ev ?_;rfl
 |
  some q =>
  refine kQ nR h.hT ?_;simp only [zF,Lz];refine ev ?_;refine jy (sN h.kL) ?_;refine ev ?_;have e:((((mk q.num.natAbs).length:Nat):Int)=0)↔q.num=0:=by have:=@agB q.num.natAbs;omega
  refine kD (fun h1=>?_) fun h1=>?_<;>(refine ev1 @h1 ?_;try with_reducible exact True.intro)
  ·have:=e.1 h1;simp [wP,sgn,this]
  have h2:¬q.num=0:=fun k=>h1 (e.2 k);by_cases h3:q.num<0
  ·have e3:(Q.raw (some q)).neg=true:=by simp [Q.raw,h3]
   refine ev1 @e3 ?_;simp [wP,sgn,h3]
  have e3:(Q.raw (some q)).neg=false:=by simp [Q.raw,h3]
  refine ev1 @e3 ?_;simp [wP,sgn,h3,h2]
theorem OJ{T:Tb}(h:Ag T){r:R}(hw:r.wf:=by exact lX):PF T 102 [kN r] (.bool r.ok):=by
 obtain⟨neg,mag,den⟩:=r;have w1:mag.length≤9223372036854775807:=hw.1;have w2:den.length≤9223372036854775807:=hw.2;clear hw;have cb:=agF h.Px (z:=⟨neg,mag⟩) w1;have cn:=aic h.Px.OI (l:=den) w2;dsimp only at cb;unfold R.ok;dsimp only
 cases h1:(xY mag && !(neg&&mag.isEmpty))
 ·rw [h1]at cb;refine kQ nR h.hT ?_;simp only [tZ,Lz];refine ev ?_;refine jy cb ?_
  (refine ev ?_;try with_reducible exact True.intro)
 rw [h1]at cb
 cases h2:xY den
 ·rw [h2]at cn;refine kQ nR h.hT ?_;simp only [tZ,Lz];refine ev ?_;refine jy cb ?_;refine ev ?_;refine jy cn ?_
  (refine ev ?_;try with_reducible exact True.intro)
 rw [h2]at cn;by_cases h3:((den.length:Nat):Int)=0
 ·have:den=[]:=bf (by omega);refine kQ nR h.hT ?_;simp only [tZ,Lz];refine ev ?_;refine jy cb ?_;refine ev ?_;refine jy cn ?_;refine ev1 @h3 ?_;subst this;rfl
 have h3':den.isEmpty=false:=by cases den with|nil=>simp at h3|cons=>rfl
 by_cases h4:(24:Int)<((mag.length:Nat):Int)
 ·have h4':¬mag.length≤24:=by omega
  refine kQ nR h.hT ?_;simp only [tZ,Lz];refine ev ?_;refine jy cb ?_;refine ev ?_;refine jy cn ?_;refine qW @h3 @h4 ?_;simp [h4']
 by_cases h5:(24:Int)<((den.length:Nat):Int)
 ·have h5':¬den.length≤24:=by omega
  refine kQ nR h.hT ?_;simp only [tZ,Lz];refine ev ?_;refine jy cb ?_;refine ev ?_;refine jy cn ?_;refine zl @h3 @h4 @h5 ?_;simp [h5']
 have h4':mag.length≤24:=by omega
 have h5':den.length≤24:=by omega
 have h6:xY mag=true:=by simp only [aG]at h1;exact h1.1
 have em:=NU h6;have ed:=NU h2;have cg:=YP h.Ih (m:=val mag) (n:=val den) (by rw [←em];omega) (by rw [←ed];omega);rw [←em,←ed]at cg;obtain⟨g,hg⟩:∃g,Nat.gcd (val mag) (val den)=g:=⟨_,rfl⟩;have hdec:∀(inst:Decidable (Nat.gcd (val mag) (val den)=1)),@decide _ inst=decide (g=1):=by
  intro inst;subst hg
  congr
 rw [hg]at cg;have key:(decide (((mk g).length:Int)=1)&&(decide ((mk g).getD 0 0=1)))=decide (g=1):=by
  by_cases g1:g=1
  ·subst g1;rw [mk_one (by omega) (by omega)];rfl
  simp only [g1,decide_false,jc,decide_eq_false_iff_not];by_cases k:(mk g).length=1
  ·right;intro e;have:=val_mk g
   cases hm:mk g with
   |nil=>rw [hm]at k;simp at k
   |
    cons x l =>
    rw [hm]at k e this;have:l=[]:=by simpa using k
    subst this;simp [val]at *;omega
  left;omega
 simp only [h3',h4',h5',decide_true,dK,jJ,bU];rw [hdec,←key];clear key;refine kQ nR h.hT ?_;simp only [tZ,Lz];refine ev ?_;refine jy cb ?_;refine ev ?_;refine jy cn ?_;refine zl @h3 @h4 @h5 ?_;refine jy cg ?_;refine ev ?_;by_cases k:(((mk g).length:Nat):Int)=1
 ·(refine ev1 @k ?_;try with_reducible exact True.intro)
 (refine ev1 @k ?_;try with_reducible exact True.intro)
def uf:Fn:=⟨1,39,[.tmp 2],(.seq (rf 1 [oN 1 (.box (.t 0)),oK 2 1 mF]) (.seq (sr [oN 3 (fd 0 1),oN 4 (lT 2 3),oN 5 (cl 120 [4]),oN 6 (nt 5),oW 7 6,oG 7 false 8 (fd 2 1),oG 7 false 9 (lF 1 8),oG 7 false 10 (cl 121 [9]),oG 7 false 11 (nt 10),oN 12 (.pick (.t 7) (.c (.bool true)) (.t 11)),oW 13 12,oG 13 false 14 (fd 2 1),oG 13 false 15 (lF 1 14),oG 13 false 16 (ln 15),oG 13 false 17 (bc .eql 16 0),oN 18 (.pick (.t 13) (.c (.bool true)) (.t 17)),oW 19 18,oG 19 false 20 (fd 2 1),oG 19 false 21 (lF 1 20),oG 19 false 22 (ln 21),oG 19 false 23 (bc .gtr 22 24),oN 24 (.pick (.t 19) (.c (.bool true)) (.t 23)),oW 25 24,oG 25 false 26 (fd 0 1),oG 25 false 27 (fd 1 26),oG 25 false 28 (lF 1 27),oG 25 false 29 (ln 28),oG 25 false 30 (bc .gtr 29 24),oN 31 (.pick (.t 25) (.c (.bool true)) (.t 30))] (cd 31 (sr [oN 2 mF] .ret) .skip)) (sr [oN 32 (fd 0 1),oN 33 (fd 1 32),oN 34 (lF 1 33),oN 35 (fd 2 1),oN 36 (lF 1 35),oN 37 (cl 123 [34,36]),oN 38 (cl 122 [37]),oW 2 38] .ret)))⟩
structure oz (T:Tb):Prop where
 hT:T 100=some uf
 Py:Ju T
 Ec:Ea T
 pW:Bz T
 Ik:Ia T
def pX:Fn:=⟨3,55,[.cell 6 3 true],(.seq (rf 1 [oN 6 (.alloc qL)]) (sr [oW 10 1,oN 11 (cl 71 [10]),oW 7 11] (sr [oW 12 2,oN 13 (cl 71 [12]),oW 8 13] (.seq (sr [oW 14 8,oN 15 (ln 14),oN 16 (bc .eql 15 0)] (cd 16 (sr [oN 17 (.build qL []),oS (.store 3 (.t 6) (.t 17))] .ret) .skip)) (.seq (sr [oW 18 8,oN 19 (cl 122 [18]),oN 20 (nt 19)] (cd 20 (sr [oW 21 7,oW 22 8,oN 23 (cl 123 [21,22]),oW 9 23] (sr [oW 24 9,oN 25 (cl 122 [24]),oN 26 (nt 25)] (cd 26 (sr [oW 28 7,oW 29 9,oN 30 (cl 136 [28,29]),oW 27 30,oN 31 (ex 0 27),oN 32 (ex 1 27),oW 7 31] (rg [oW 34 8,oW 35 9,oN 36 (cl 136 [34,35]),oW 33 36,oN 37 (ex 0 33),oN 38 (ex 1 33),oW 8 37])) .skip))) .skip)) (.seq (sr [oW 39 7,oN 40 (ln 39),oN 41 (bc .gtr 40 24),oW 42 41,oG 42 false 43 (oV 8),oG 42 false 44 (ln 43),oG 42 false 45 (bc .gtr 44 24),oN 46 (.pick (.t 42) (.c (.bool true)) (.t 45))] (cd 46 (sr [oN 47 (.build qL []),oS (.store 3 (.t 6) (.t 47))] .ret) .skip)) (.seq (rf 2 [oK 48 2 (oV 0),oK 49 2 (oV 7),oK 50 2 (cl 66 [48,49]),oN 51 (.ny 1 F8 0 []),oK 52 2 (oV 8),oK 53 1 (.app 1 8 (.t 51) (.t 52)),oK 54 2 (.build qL [(0,2,(.t 50)),(2,1,(.t 53))]),⟨none,none,2,.store 3 (.t 6) (.t 54),[]⟩]) .ret)))))))⟩
structure yE (T:Tb):Prop where
 hT:T 206=some pX
 lN:sF T
 mY:sD T
 pW:Bz T
 Ik:Ia T
 yD:H7 T
def Il:Fn:=⟨2,25,[.cell 4 3 true],(.seq (rf 3 [oN 2 (.box (.t 0)),oK 3 1 (.box (.t 1)),oK 4 2 (.alloc qL)]) (.seq (rt 0 [oN 5 (fd 0 2),oA 6 0 (fd 0 5) [0],oA 7 0 (lF 1 6) [1],oN 8 (fd 0 3),oA 9 0 (fd 0 8) [3],oA 10 0 (lF 1 9) [4],oA 11 0 (.beq true (.t 7) (.t 10)) [2,5],oN 12 (fd 0 2),oA 13 0 (fd 1 12) [7],oA 14 0 (lF 1 13) [8],oN 15 (fd 0 3),oA 16 0 (fd 1 15) [10],oA 17 0 (lF 1 16) [11],oA 18 0 (cl 150 [14,17]) [9,12],oN 19 (fd 2 2),oA 20 0 (lF 1 19) [14],oN 21 (fd 2 3),oA 22 0 (lF 1 21) [16],oA 23 0 (cl 150 [20,22]) [15,17,13],oA 24 0 (cl 206 [11,18,23]) [6,13,18,18],⟨none,none,0,.store 3 (.t 4) (.t 24),[19,19,0,1,2,3,4,5,6,7,8,9,10,11,12,13,14,15,16,17,18,19]⟩]) .ret))⟩
structure Nb (T:Tb):Prop where
 hT:T 207=some Il
 nC:wu T
 uq:yE T
def rP:Fn:=⟨2,61,[.cell 4 3 true],(.seq (rf 3 [oN 2 (.box (.t 0)),oK 3 1 (.box (.t 1)),oK 4 2 (.alloc qL)]) (.seq (sr [oN 9 (fd 2 2),oN 10 (lF 1 9),oN 11 (cl 122 [10]),oW 12 11,oG 12 true 13 (fd 2 3),oG 12 true 14 (lF 1 13),oG 12 true 15 (cl 122 [14]),oN 16 (.pick (.t 12) (.t 15) (.c (.bool false)))] (cd 16 (.seq (rf 1 [oK 17 1 (fd 0 2),oK 18 1 (lT 2 17),oK 19 1 (fd 0 3),oK 20 1 (lT 2 19),oK 21 1 (cl 205 [18,20]),oN 5 (.alloc Z4),⟨none,none,1,.store 2 (.t 5) (.t 21),[]⟩]) (.seq (rf 1 [oK 22 1 (fd 0 5),oK 23 1 (lF 1 22),oK 24 1 (fd 1 5),oK 25 1 (lF 1 24),oN 26 (.ny 1 F8 1 [(0,(cI 1))]),oK 27 1 (cl 206 [23,25,26]),⟨none,none,1,.store 3 (.t 4) (.t 27),[]⟩]) .ret)) .skip)) (.seq (rt 1 [oK 28 1 (fd 0 2),oA 29 1 (fd 0 28) [0],oA 30 1 (lF 1 29) [1],oK 31 1 (fd 0 2),oA 32 1 (fd 1 31) [3],oA 33 1 (lF 1 32) [4],oK 34 1 (fd 2 3),oA 35 1 (lF 1 34) [6],oA 36 1 (cl 150 [33,35]) [5,7],oA 37 1 (cl 66 [30,36]) [2,8,8],oN 6 (.alloc Z4),⟨none,none,1,.store 2 (.t 6) (.t 37),[10,9,9,0,1,2,3,4,5,6,7,8,9,10]⟩]) (.seq (rt 1 [oK 38 1 (fd 0 3),oA 39 1 (fd 0 38) [0],oA 40 1 (lF 1 39) [1],oK 41 1 (fd 0 3),oA 42 1 (fd 1 41) [3],oA 43 1 (lF 1 42) [4],oK 44 1 (fd 2 2),oA 45 1 (lF 1 44) [6],oA 46 1 (cl 150 [43,45]) [5,7],oA 47 1 (cl 66 [40,46]) [2,8,8],oN 7 (.alloc Z4),⟨none,none,1,.store 2 (.t 7) (.t 47),[10,9,9,0,1,2,3,4,5,6,7,8,9,10]⟩]) (.seq (rf 1 [oK 48 1 (lT 2 6),oK 49 1 (lT 2 7),oK 50 1 (cl 205 [48,49]),oN 8 (.alloc Z4),⟨none,none,1,.store 2 (.t 8) (.t 50),[]⟩]) (.seq (rt 0 [oN 51 (fd 0 8),oA 52 0 (lF 1 51) [0],oN 53 (fd 1 8),oA 54 0 (lF 1 53) [2],oN 55 (fd 2 2),oA 56 0 (lF 1 55) [4],oN 57 (fd 2 3),oA 58 0 (lF 1 57) [6],oA 59 0 (cl 150 [56,58]) [5,7],oA 60 0 (cl 206 [52,54,59]) [1,3,8,8],⟨none,none,0,.store 3 (.t 4) (.t 60),[9,9,0,1,2,3,4,5,6,7,8,9]⟩]) .ret))))))⟩
structure BG (T:Tb):Prop where
 hT:T 198=some rP
 lN:sF T
 pW:Bz T
 nC:wu T
 Io:Na T
 uq:yE T
def Ip:Fn:=⟨1,16,[.cell 2 3 true],(.seq (rf 2 [oN 1 (.box (.t 0)),oK 2 1 (.alloc qL)]) (.seq (rt 2 [oK 3 2 (fd 0 1),oA 4 2 (fd 0 3) [0],oA 5 2 (lF 1 4) [1],oA 6 2 (nt 5) [2],oK 7 2 (fd 0 1),oA 8 2 (fd 1 7) [4],oA 9 2 (lF 1 8) [5],oA 10 2 (cl 66 [6,9]) [3,6],oN 11 (.ny 1 F8 0 []),oK 12 2 (fd 2 1),oA 13 2 (lF 1 12) [9],oA 14 1 (.app 1 8 (.t 11) (.t 13)) [8,10,7],oA 15 2 (.build qL [(0,2,(.t 10)),(2,1,(.t 14))]) [7,11],⟨none,none,2,.store 3 (.t 2) (.t 15),[12,11,0,1,2,3,4,5,6,7,8,9,10,11,12]⟩]) .ret))⟩
structure Ir (T:Tb):Prop where
 hT:T 208=some Ip
 lN:sF T
def rQ:Fn:=⟨2,17,[.cell 4 3 true],(.seq (rf 3 [oN 2 (.box (.t 0)),oK 3 1 (.box (.t 1)),oK 4 2 (.alloc qL)]) (.seq (sr [oN 5 (lT 3 2),oN 6 (cl 100 [5]),oN 7 (nt 6),oW 8 7,oG 8 false 9 (lT 3 3),oG 8 false 10 (cl 100 [9]),oG 8 false 11 (nt 10),oN 12 (.pick (.t 8) (.c (.bool true)) (.t 11))] (cd 12 (sr [oN 13 (.build qL []),oS (.store 3 (.t 4) (.t 13))] .ret) .skip)) (sr [oN 14 (lT 3 2),oN 15 (lT 3 3),oN 16 (cl 198 [14,15]),oS (.store 3 (.t 4) (.t 16))] .ret)))⟩
structure pY (T:Tb):Prop where
 hT:T 189=some rQ
 kS:oz T
 Iu:BG T
def yF:Fn:=⟨2,18,[.cell 4 3 true],(.seq (rf 3 [oN 2 (.box (.t 0)),oK 3 1 (.box (.t 1)),oK 4 2 (.alloc qL)]) (.seq (sr [oN 5 (lT 3 2),oN 6 (cl 100 [5]),oN 7 (nt 6),oW 8 7,oG 8 false 9 (lT 3 3),oG 8 false 10 (cl 100 [9]),oG 8 false 11 (nt 10),oN 12 (.pick (.t 8) (.c (.bool true)) (.t 11))] (cd 12 (sr [oN 13 (.build qL []),oS (.store 3 (.t 4) (.t 13))] .ret) .skip)) (.seq (rt 0 [oN 14 (lT 3 2),oN 15 (lT 3 3),oA 16 0 (cl 208 [15]) [1],oA 17 0 (cl 198 [14,16]) [0,2,2],⟨none,none,0,.store 3 (.t 4) (.t 17),[3,3,0,1,2,3]⟩]) .ret)))⟩
structure Iw (T:Tb):Prop where
 hT:T 203=some yF
 kS:oz T
 Iu:BG T
 Nc:Ir T
def yG:Fn:=⟨2,17,[.cell 4 3 true],(.seq (rf 3 [oN 2 (.box (.t 0)),oK 3 1 (.box (.t 1)),oK 4 2 (.alloc qL)]) (.seq (sr [oN 5 (lT 3 2),oN 6 (cl 100 [5]),oN 7 (nt 6),oW 8 7,oG 8 false 9 (lT 3 3),oG 8 false 10 (cl 100 [9]),oG 8 false 11 (nt 10),oN 12 (.pick (.t 8) (.c (.bool true)) (.t 11))] (cd 12 (sr [oN 13 (.build qL []),oS (.store 3 (.t 4) (.t 13))] .ret) .skip)) (sr [oN 14 (lT 3 2),oN 15 (lT 3 3),oN 16 (cl 207 [14,15]),oS (.store 3 (.t 4) (.t 16))] .ret)))⟩
structure yH (T:Tb):Prop where
 hT:T 201=some yG
 kS:oz T
 aam:Nb T
def yI:Fn:=⟨2,34,[.cell 4 3 true],(.seq (rf 3 [oN 2 (.box (.t 0)),oK 3 1 (.box (.t 1)),oK 4 2 (.alloc qL)]) (.seq (sr [oN 5 (lT 3 2),oN 6 (cl 100 [5]),oN 7 (nt 6),oW 8 7,oG 8 false 9 (lT 3 3),oG 8 false 10 (cl 100 [9]),oG 8 false 11 (nt 10),oN 12 (.pick (.t 8) (.c (.bool true)) (.t 11))] (cd 12 (sr [oN 13 (.build qL []),oS (.store 3 (.t 4) (.t 13))] .ret) .skip)) (.seq (rt 0 [oN 14 (fd 0 2),oA 15 0 (fd 0 14) [0],oA 16 0 (lF 1 15) [1],oN 17 (fd 0 3),oA 18 0 (fd 0 17) [3],oA 19 0 (lF 1 18) [4],oA 20 0 (.beq true (.t 16) (.t 19)) [2,5],oN 21 (fd 0 2),oA 22 0 (fd 1 21) [7],oA 23 0 (lF 1 22) [8],oN 24 (fd 2 3),oA 25 0 (lF 1 24) [10],oA 26 0 (cl 150 [23,25]) [9,11],oN 27 (fd 2 2),oA 28 0 (lF 1 27) [13],oN 29 (fd 0 3),oA 30 0 (fd 1 29) [15],oA 31 0 (lF 1 30) [16],oA 32 0 (cl 150 [28,31]) [14,17,12],oA 33 0 (cl 206 [20,26,32]) [6,12,18,18],⟨none,none,0,.store 3 (.t 4) (.t 33),[19,19,0,1,2,3,4,5,6,7,8,9,10,11,12,13,14,15,16,17,18,19]⟩]) .ret)))⟩
structure Iy (T:Tb):Prop where
 hT:T 200=some yI
 kS:oz T
 nC:wu T
 uq:yE T
def zG:Fn:=⟨1,18,[.tmp 2],(.seq (rf 1 [oN 1 (.box (.t 0)),oK 2 1 (.mM (cI 0))]) (.seq (.block 0 (sr [oN 4 (lT 3 1),oN 5 (cl 100 [4]),oN 6 (nt 5),oW 7 6,oG 7 false 8 (fd 0 1),oG 7 false 9 (fd 1 8),oG 7 false 10 (lF 1 9),oG 7 false 11 (ln 10),oG 7 false 12 (bc .eql 11 0),oN 13 (.pick (.t 7) (.c (.bool true)) (.t 12)),oW 3 13] (cd 3 (sr [oN 2 (.mM (cI 0))] .ret) (sr [oN 15 (fd 0 1),oN 16 (fd 0 15),oN 17 (lF 1 16),oW 14 17] (cd 14 (sr [oN 2 (.mM (cI (-1)))] .ret) .skip))))) (sr [oN 2 (.mM (cI 1))] .ret)))⟩
structure Ee (T:Tb):Prop where
 hT:T 99=some zG
 kS:oz T
theorem pG{T:Tb}(h:oz T){r:R}(hw:r.wf:=by exact lX):PF T 100 [kN r] (.bool r.ok):=by
 obtain⟨neg,mag,den⟩:=r;have w1:mag.length≤9223372036854775807:=hw.1;have w2:den.length≤9223372036854775807:=hw.2;clear hw;have cb:=aeu h.Py (z:=⟨neg,mag⟩) w1;have cn:=YM h.Py.Ec (l:=den) w2;dsimp only at cb;unfold R.ok;dsimp only
 cases h1:(xY mag && !(neg&&mag.isEmpty))
 ·rw [h1]at cb;refine kQ nR h.hT ?_;simp only [uf,Lz];refine ev ?_;refine jy cb ?_
  (refine ev ?_;try with_reducible exact True.intro)
 rw [h1]at cb
 cases h2:xY den
 ·rw [h2]at cn;refine kQ nR h.hT ?_;simp only [uf,Lz];refine ev ?_;refine jy cb ?_;refine ev ?_;refine jy cn ?_
  (refine ev ?_;try with_reducible exact True.intro)
 rw [h2]at cn;by_cases h3:((den.length:Nat):Int)=0
 ·have:den=[]:=bf (by omega);refine kQ nR h.hT ?_;simp only [uf,Lz];refine ev ?_;refine jy cb ?_;refine ev ?_;refine jy cn ?_;refine ev1 @h3 ?_;subst this;rfl
 have h3':den.isEmpty=false:=by cases den with|nil=>simp at h3|cons=>rfl
 by_cases h5:(24:Int)<((den.length:Nat):Int)
 ·have h5':¬den.length≤24:=by omega
  refine kQ nR h.hT ?_;simp only [uf,Lz];refine ev ?_;refine jy cb ?_;refine ev ?_;refine jy cn ?_;refine qW @h3 @h5 ?_;simp [h5']
 by_cases h4:(24:Int)<((mag.length:Nat):Int)
 ·have h4':¬mag.length≤24:=by omega
  refine kQ nR h.hT ?_;simp only [uf,Lz];refine ev ?_;refine jy cb ?_;refine ev ?_;refine jy cn ?_;refine zl @h3 @h4 @h5 ?_;simp [h4']
 have h4':mag.length≤24:=by omega
 have h5':den.length≤24:=by omega
 have h6:xY mag=true:=by simp only [aG]at h1;exact h1.1
 have em:=NU h6;have ed:=NU h2;have cg:=YS h.Ik (m:=val mag) (n:=val den) (by rw [←em];omega) (by rw [←ed];omega);rw [←em,←ed]at cg;obtain⟨g,hg⟩:∃g,Nat.gcd (val mag) (val den)=g:=⟨_,rfl⟩;have hdec:∀(inst:Decidable (Nat.gcd (val mag) (val den)=1)),@decide _ inst=decide (g=1):=by
  intro inst;subst hg
  congr
 rw [hg]at cg;have co:=Ed h.pW (n:=g);simp only [h3',h4',h5',decide_true,dK,jJ,bU];rw [hdec];refine kQ nR h.hT ?_;simp only [uf,Lz];refine ev ?_;refine jy cb ?_;refine ev ?_;refine jy cn ?_;refine zl @h3 @h4 @h5 ?_;refine jy cg ?_;refine ev ?_;refine jy co ?_
 (refine ev ?_;try with_reducible exact True.intro)
def R.cn(r:R):Prop:=Q.raw r.q=r
abbrev R0:R:=⟨false,[],[]⟩
theorem SV{q:Q}(h:q.ok):(Q.raw q).cn:=by unfold R.cn;rw [Jd h]
theorem zH{r:R}(h:r.ok=true):r.cn:=ax0 h
theorem YT:R0.cn:=SV (q:=none) trivial
def pI(r s:R):R:=Q.raw (PU r.q s.q)
def NZ(r s:R):R:=Q.raw (alT r.q s.q)
def mulR(r s:R):R:=Q.raw (Yz r.q s.q)
def DC(r s:R):R:=Q.raw (YA r.q s.q)
def negR(r:R):R:=Q.raw (negQ r.q)
def kR(n:Int):R:=Q.raw (axY n)
def BH(r:R):Int:=wP r.q
theorem amm(r s:R):(pI r s).q=PU r.q s.q:=Jd (ab6 _ _)
theorem vK(r s:R):(pI r s).cn:=SV (ab6 _ _)
theorem XH(r s:R):(NZ r s).cn:=SV (apD _ _)
theorem Un(r s:R):(mulR r s).cn:=SV (apE _ _)
theorem MC(r s:R):(DC r s).cn:=SV (apF _ _)
theorem aci(r:R):(negR r).cn:=SV (ab5 (Qn r))
theorem Ef{n:Int}(h:n.natAbs<1000000000 ^ 24):(kR n).cn:=SV (apG h)
theorem amn{r:R}:r.ok=true↔r.q≠none:=by
 rw [←agt];cases r.q<;>simp
theorem wE{r:R}:r.ok=false↔r.q=none:=by
 rw [←agt];cases r.q<;>simp
theorem aqe{r:R}(h:r.cn)(hq:r.q=none):r=R0:=by
 unfold R.cn at h;rw [hq]at h;exact h.symm
theorem Qr{r:R}(h:r.cn):r.mag.length≤24∧r.den.length≤24:=by
 cases hq:r.q with
 |none=>rw [aqe h hq];simp
 |
  some q =>
  have hk:Q.ok (some q):=by rw [←hq];exact Qn r
  have:=Um.1 hk;rw [←h,hq];exact this
theorem mP{r:R}(h:r.cn):r.wf:=by have:=Qr h;exact⟨by omega,by omega⟩
theorem aex(a:Q):PU none a=none:=rfl
theorem Qs(a:Q):PU a none=none:=by cases a<;>rfl
theorem aey(a:Q):Yz a none=none:=by cases a<;>rfl
theorem aez(a:Q):YA a none=none:=by cases a<;>rfl
theorem aeA(a:Q):alT a none=none:=by cases a<;>rfl
theorem aij(x:Int):[[V.int .i64 x]]=kF [x]:=rfl
theorem amo(neg:Bool)(m k:Nat)(h:m=0→k=0):bi (sg (decide (sg neg m<0)) k)=bi (sg neg k):=by
 by_cases hm:m=0
 ·rw [h hm,QY,QY]
 have e:decide (sg neg m<0)=neg:=by
  cases neg
  ·simp [sg]
  simp [sg];omega
 rw [e]
theorem Uo{T:Tb}(h:yE T){neg:Bool}{m n:Nat}(la:(mk m).length≤60:=by exact lX)(lb:(mk n).length≤60:=by exact lX) :
  PF T 206 [.bool neg,ints (mk m),ints (mk n)] (kN (Q.raw (Qm (sg neg m) n))):=by
 have ct1:=yB h.mY (l:=mk m) (by omega);have vV:=yB h.mY (l:=mk n) (by omega);rw [Ql (uI m)]at ct1;rw [Ql (uI n)]at vV;by_cases hn:n=0
 ·subst hn;have e:Qm (sg neg m) ((0:Nat):Int)=none:=rfl;rw [e];have c1:(((mk 0).length:Nat):Int)=0:=by rw [XF];rfl
  refine kH nR h.hT ?_;simp only [pX,Lz];refine ev ?_;refine jy ct1 ?_;refine ev ?_;refine jy vV ?_;refine ev1 @c1 ?_;exact qN
 have hd:(n:Int)≠0:=by omega
 rw [XG hd];have hpos:¬((n:Int)<0):=by omega
 have e0:(decide (sg neg m<0) != decide ((n:Int)<0))=decide (sg neg m<0):=by simp [hpos]
 rw [e0,Gt,bW];have hg:0<Nat.gcd m n:=iD _ (by omega);have c1:¬(((mk n).length:Nat):Int)=0:=by have:=@agB n;omega
 have hz:m=0→m / Nat.gcd m n=0:=fun e=>by rw [e];simp
 rw [amo neg m _ hz];have fin:∀(u v:Nat),u=m / Nat.gcd m n→v=n / Nat.gcd m n→(mk u).length≤60∧(mk v).length≤60:=by
  intro u v hu hv;have l1:=Qp m (Nat.gcd m n);have l2:=Qp n (Nat.gcd m n);rw [hu,hv];omega
 have co:=Ed h.pW (n:=n);have cg:=YS h.Ik (m:=m) (n:=n) (by omega) (by omega);have lg:(mk (Nat.gcd m n)).length≤60:=cZ (Md (jX (by omega) (ji _ _))) lb;have co2:=Ed h.pW (n:=Nat.gcd m n);have cd1:=Qq h.yD (m:=m) hg (by omega) (by omega);have cd2:=Qq h.yD (m:=n) hg (by omega) (by omega);obtain⟨g,hgd⟩:∃g,Nat.gcd m n=g:=⟨_,rfl⟩;obtain⟨u,hu⟩:∃u,m / Nat.gcd m n=u:=⟨_,rfl⟩;obtain⟨v,hv⟩:∃v,n / Nat.gcd m n=v:=⟨_,rfl⟩;obtain⟨lu,lv⟩:=fin u v hu.symm hv.symm;have cm:=wS h.lN (neg:=neg) (n:=u) (by omega);have ecm:Oo (bi (sg neg u))=.agg [.bool (bi (sg neg u)).neg,ints (mk u)]:=by
  show V.agg [.bool (bi (sg neg u)).neg,ints (mk (sg neg u).natAbs)]=_;rw [Gt]
 rw [ecm]at cm;have un:n=1→u=m∧v=n:=by
  intro e;subst e;rw [Nat.gcd_one_right]at hu hv;simp at hu hv;omega
 have ug:g=1→u=m∧v=n:=by
  intro e;rw [hgd,e]at hu hv;simp at hu hv;omega
 rw [hu,hv];rw [hgd]at cg co2;rw [hu]at cd1;rw [hv]at cd2;rw [hgd]at cd1 cd2;have fin2:lW (kN (if (mk u).length≤24∧(mk v).length≤24 then⟨(bi (sg neg u)).neg,mk u,mk v⟩else⟨false,[],[]⟩))
   (if (mk u).length≤24∧(mk v).length≤24 then kN ⟨(bi (sg neg u)).neg,mk u,mk v⟩else .agg [.bool false,.jL,.jL]):=by
  split
  ·exact kE _
  exact qN
 have v0:v≠0:=by
  rw [←hv];exact Nat.ne_of_gt (Nat.div_pos (jX (by omega) (ji _ _)) hg)
 have ne:kF (mk v)≠[]:=by
  have hp:=Eb.2 (iV v0);intro e;rw [←zB,e]at hp;simp at hp
 clear fin hz hg e0 hpos hd hgd hu hv;by_cases n1:n=1
 ·rw [show decide (n=1)=true from decide_eq_true n1]at co;obtain⟨rfl,rfl⟩:=un n1;refine kH nR h.hT ?_;simp only [pX,Lz];refine ev ?_;refine jy ct1 ?_;refine ev ?_;refine jy vV ?_;refine ev1 @c1 ?_;refine jy co ?_;refine ev ?_;by_cases k1:(24:Int)<((mk u).length:Nat)
  ·refine ev1 @k1 ?_;rw [if_neg (by omega)];exact qN
  by_cases k2:(24:Int)<((mk v).length:Nat)
  ·refine qW @k1 @k2 ?_;rw [if_neg (by omega)];exact qN
  refine qW @k1 @k2 ?_;refine jy cm ?_;refine ev1 @ne ?_;rw [if_pos (by omega)];exact⟨by omega,kE _⟩
 rw [show decide (n=1)=false from decide_eq_false n1]at co;by_cases g1:g=1
 ·rw [show decide (g=1)=true from decide_eq_true g1]at co2;obtain⟨rfl,rfl⟩:=ug g1;refine kH nR h.hT ?_;simp only [pX,Lz];refine ev ?_;refine jy ct1 ?_;refine ev ?_;refine jy vV ?_;refine ev1 @c1 ?_;refine jy co ?_;refine ev ?_;refine jy cg ?_;refine ev ?_;refine jy co2 ?_;refine ev ?_;by_cases k1:(24:Int)<((mk u).length:Nat)
  ·refine ev1 @k1 ?_;rw [if_neg (by omega)];exact qN
  by_cases k2:(24:Int)<((mk v).length:Nat)
  ·refine qW @k1 @k2 ?_;rw [if_neg (by omega)];exact qN
  refine qW @k1 @k2 ?_;refine jy cm ?_;refine ev1 @ne ?_;rw [if_pos (by omega)];exact⟨by omega,kE _⟩
 rw [show decide (g=1)=false from decide_eq_false g1]at co2;refine kH nR h.hT ?_;simp only [pX,Lz];refine ev ?_;refine jy ct1 ?_;refine ev ?_;refine jy vV ?_;refine ev1 @c1 ?_;refine jy co ?_;refine ev ?_;refine jy cg ?_;refine ev ?_;refine jy co2 ?_;refine ev ?_;refine jy cd1 ?_;refine ev ?_;refine jy cd2 ?_;refine ev ?_;by_cases k1:(24:Int)<((mk u).length:Nat)
 ·refine ev1 @k1 ?_;rw [if_neg (by omega)];exact qN
 by_cases k2:(24:Int)<((mk v).length:Nat)
 ·refine qW @k1 @k2 ?_;rw [if_neg (by omega)];exact qN
 refine qW @k1 @k2 ?_;refine jy cm ?_;refine ev1 @ne ?_;rw [if_pos (by omega)];exact⟨by omega,kE _⟩
def zI:Fn:=⟨1,8,[.tmp 2],(.seq (rf 1 [oN 1 (.box (.t 0)),oK 2 1 (.mM (cI 0))]) (.seq (sr [oN 3 (lT 3 1),oN 4 (cl 102 [3]),oN 5 (nt 4)] (cd 5 (sr [oN 2 (.mM (cI 0))] .ret) .skip)) (sr [oN 6 (lT 3 1),oN 7 (cl 124 [6]),oW 2 7] .ret)))⟩
structure Eh (T:Tb):Prop where
 hT:T 101=some zI
 rU:Ag T
 YU:KL T
def Iz:Fn:=⟨1,9,[.tmp 2],(sr [oN 2 mF] (sr [oW 3 0,oN 4 (bc .geq 3 0),oW 5 4,oG 5 true 6 (oV 0),oG 5 true 7 (bc .lss 6 10),oN 8 (.pick (.t 5) (.t 7) (.c (.bool false))),oW 2 8] .ret))⟩
structure IB (T:Tb):Prop where
 hT:T 37=some Iz
def Ei:Fn:=⟨1,5,[.tmp 2],(sr [oN 2 mF] (sr [oW 3 0,oN 4 (.call 35 [(.t 3),(cI 0),(cI 9)]),oW 2 4] .ret))⟩
structure Ej (T:Tb):Prop where
 hT:T 34=some Ei
 xK:Ae T
def xM:Fn:=⟨1,34,[.tmp 2],(.seq (rf 1 [oN 1 (.box (.t 0)),oK 2 1 mF]) (sr [oN 3 (fd 0 1),oN 4 (lF 1 3),oN 5 (cl 37 [4]),oW 6 5,oG 6 true 7 (fd 1 1),oG 6 true 8 (lF 1 7),oG 6 true 9 (cl 37 [8]),oN 10 (.pick (.t 6) (.t 9) (.c (.bool false))),oW 11 10,oG 11 true 12 (fd 0 1),oG 11 true 13 (lF 1 12),oG 11 true 14 (fd 1 1),oG 11 true 15 (lF 1 14),oG 11 true 16 (bt .lss 13 15),oN 17 (.pick (.t 11) (.t 16) (.c (.bool false))),oW 18 17,oG 18 true 19 (fd 2 1),oG 18 true 20 (lT 3 19),oG 18 true 21 (cl 101 [20]),oG 18 true 22 (bc .gtr 21 0),oN 23 (.pick (.t 18) (.t 22) (.c (.bool false))),oW 24 23,oG 24 true 25 (fd 5 1),oG 24 true 26 (lT 3 25),oG 24 true 27 (cl 102 [26]),oN 28 (.pick (.t 24) (.t 27) (.c (.bool false))),oW 29 28,oG 29 true 30 (fd 8 1),oG 29 true 31 (lT 3 30),oG 29 true 32 (cl 102 [31]),oN 33 (.pick (.t 29) (.t 32) (.c (.bool false))),oW 2 33] .ret))⟩
structure uN (T:Tb):Prop where
 hT:T 84=some xM
 IC:IB T
 Em:Eh T
 rU:Ag T
def xO:Fn:=⟨1,34,[.tmp 2],(.seq (rf 1 [oN 1 (.box (.t 0)),oK 2 1 mF]) (sr [oN 3 (fd 0 1),oN 4 (lF 1 3),oN 5 (cl 34 [4]),oW 6 5,oG 6 true 7 (fd 1 1),oG 6 true 8 (lF 1 7),oG 6 true 9 (cl 34 [8]),oN 10 (.pick (.t 6) (.t 9) (.c (.bool false))),oW 11 10,oG 11 true 12 (fd 0 1),oG 11 true 13 (lF 1 12),oG 11 true 14 (fd 1 1),oG 11 true 15 (lF 1 14),oG 11 true 16 (bt .lss 13 15),oN 17 (.pick (.t 11) (.t 16) (.c (.bool false))),oW 18 17,oG 18 true 19 (fd 2 1),oG 18 true 20 (lT 3 19),oG 18 true 21 (cl 99 [20]),oG 18 true 22 (bc .gtr 21 0),oN 23 (.pick (.t 18) (.t 22) (.c (.bool false))),oW 24 23,oG 24 true 25 (fd 5 1),oG 24 true 26 (lT 3 25),oG 24 true 27 (cl 100 [26]),oN 28 (.pick (.t 24) (.t 27) (.c (.bool false))),oW 29 28,oG 29 true 30 (fd 8 1),oG 29 true 31 (lT 3 30),oG 29 true 32 (cl 100 [31]),oN 33 (.pick (.t 29) (.t 32) (.c (.bool false))),oW 2 33] .ret))⟩
structure uO (T:Tb):Prop where
 hT:T 83=some xO
 En:Ej T
 Eo:Ee T
 kS:oz T
theorem SX{T:Tb}(h:Ee T){r:R}(hw:r.wf:=by exact lX):PF T 99 [kN r] (iv (wP r.q)):=by
 have co:=pG h.kS hw
 cases ho:r.ok
 ·rw [ho]at co;have e:r.q=none:=by unfold R.q;rw [if_neg (by simp [ho])]
  rw [e];refine kQ nR h.hT ?_;simp only [zG,Lz];refine ev ?_;refine jy co ?_;refine ev ?_;rfl
 rw [ho]at co;obtain⟨q,hq,rfl⟩:=Dw ho;rw [Jd (q:=some q) hq];refine kQ nR h.hT ?_;simp only [zG,Lz];refine ev ?_;refine jy co ?_;refine ev ?_;have e:((((mk q.num.natAbs).length:Nat):Int)=0)↔q.num=0:=by have:=@agB q.num.natAbs;omega
 refine kD (fun h1=>?_) fun h1=>?_<;>(refine ev1 @h1 ?_;try with_reducible exact True.intro)
 ·have:=e.1 h1;simp [wP,sgn,this]
 have h2:¬q.num=0:=fun k=>h1 (e.2 k);by_cases h3:q.num<0
 ·have e3:(Q.raw (some q)).neg=true:=by simp [Q.raw,h3]
  refine ev1 @e3 ?_;simp [wP,sgn,h3]
 have e3:(Q.raw (some q)).neg=false:=by simp [Q.raw,h3]
 refine ev1 @e3 ?_;simp [wP,sgn,h3,h2]
theorem SY{T:Tb}(h:Eh T){r:R}(hw:r.wf:=by exact lX):PF T 101 [kN r] (iv (wP r.q)):=by
 have co:=OJ h.rU hw
 cases ho:r.ok
 ·rw [ho]at co;have e:r.q=none:=by unfold R.q;rw [if_neg (by simp [ho])]
  rw [e];refine kQ nR h.hT ?_;simp only [zI,Lz];refine ev ?_;refine jy co ?_;refine ev ?_;rfl
 rw [ho]at co;obtain⟨q,hq,rfl⟩:=Dw ho;rw [Jd (q:=some q) hq];have cs:=ajU h.YU (a:=some q);refine kQ nR h.hT ?_;simp only [zI,Lz];refine ev ?_;refine jy co ?_;refine ev ?_;refine jy cs ?_
 (refine ev ?_;try with_reducible exact True.intro)
def nd(a:Int):Bool:=decide (0≤a)&&decide (a≤9)
theorem VL{T:Tb}(h:Ej T){a:Int}:PF T 34 [iv a] (.bool (nd a)):=by
 refine kQ nR h.hT ?_;simp only [Ei,Lz];refine ev ?_;refine jy (XE h.xK) ?_;refine ev ?_;rfl
theorem YV{T:Tb}(h:IB T){a:Int}:PF T 37 [iv a] (.bool (nd a)):=by
 unfold nd;have e:decide (a≤9)=decide (a<10):=by simp;omega
 rw [e];refine kQ nR h.hT ?_;simp only [Iz,Lz];refine ev ?_;by_cases h1:0≤a
 ·(refine ev1 @h1 ?_;try with_reducible exact True.intro)
 (refine ev1 @h1 ?_;try with_reducible exact True.intro)
def qm(l:Lk):Bool:=nd l.a&&nd l.b&&decide (l.a<l.b)&&decide (0<wP l.w.q)&&l.dx.ok&&l.dy.ok
theorem zJ{T:Tb}(h:uO T){l:Lk}(hw:l.wf:=by exact lX):PF T 83 [QV l] (.bool (qm l)):=by
 have c1:=VL h.En (a:=l.a);have c2:=VL h.En (a:=l.b);have c3:=SX h.Eo hw.1;have c4:=pG h.kS hw.2.1;have c5:=pG h.kS hw.2.2;unfold qm;refine kQ nR h.hT ?_;simp only [xO,Lz];refine ev ?_;refine jy c1 ?_
 cases nd l.a
 ·(refine ev ?_;try with_reducible exact True.intro)
 refine ev ?_;refine jy c2 ?_
 cases nd l.b
 ·(refine ev ?_;try with_reducible exact True.intro)
 refine ev ?_;by_cases h3:l.a<l.b
 rotate_left
 ·(refine ev1 @h3 ?_;try with_reducible exact True.intro)
 refine ev1 @h3 ?_;refine jy c3 ?_;by_cases h6:0<wP l.w.q
 rotate_left
 ·(refine qW @h3 @h6 ?_;try with_reducible exact True.intro)
 refine qW @h3 @h6 ?_;refine jy c4 ?_
 cases l.dx.ok
 ·(refine qW @h3 @h6 ?_;try with_reducible exact True.intro)
 refine qW @h3 @h6 ?_;refine jy c5 ?_
 cases l.dy.ok
 ·(refine qW @h3 @h6 ?_;try with_reducible exact True.intro)
 (refine qW @h3 @h6 ?_;try with_reducible exact True.intro)
theorem KN{T:Tb}(h:uN T){l:Lk}(hw:l.wf:=by exact lX):PF T 84 [QV l] (.bool (qm l)):=by
 have c1:=YV h.IC (a:=l.a);have c2:=YV h.IC (a:=l.b);have c3:=SY h.Em hw.1;have c4:=OJ h.rU hw.2.1;have c5:=OJ h.rU hw.2.2;unfold qm;refine kQ nR h.hT ?_;simp only [xM,Lz];refine ev ?_;refine jy c1 ?_
 cases nd l.a
 ·(refine ev ?_;try with_reducible exact True.intro)
 refine ev ?_;refine jy c2 ?_
 cases nd l.b
 ·(refine ev ?_;try with_reducible exact True.intro)
 refine ev ?_;by_cases h3:l.a<l.b
 rotate_left
 ·(refine ev1 @h3 ?_;try with_reducible exact True.intro)
 refine ev1 @h3 ?_;refine jy c3 ?_;by_cases h6:0<wP l.w.q
 rotate_left
 ·(refine qW @h3 @h6 ?_;try with_reducible exact True.intro)
 refine qW @h3 @h6 ?_;refine jy c4 ?_
 cases l.dx.ok
 ·(refine qW @h3 @h6 ?_;try with_reducible exact True.intro)
 refine qW @h3 @h6 ?_;refine jy c5 ?_
 cases l.dy.ok
 ·(refine qW @h3 @h6 ?_;try with_reducible exact True.intro)
 (refine qW @h3 @h6 ?_;try with_reducible exact True.intro)
def BI:Fn:=⟨1,9,[.cell 2 3 true],(.seq (rf 2 [oN 1 (.box (.t 0)),oK 2 1 (.alloc qL)]) (.seq (sr [oN 3 (lT 3 1),oN 4 (cl 100 [3]),oN 5 (nt 4)] (cd 5 (sr [oN 6 (.build qL []),oS (.store 3 (.t 2) (.t 6))] .ret) .skip)) (sr [oN 7 (lT 3 1),oN 8 (cl 208 [7]),oS (.store 3 (.t 2) (.t 8))] .ret)))⟩
structure Nh (T:Tb):Prop where
 hT:T 399=some BI
 kS:oz T
 Nc:Ir T
theorem ajV{n d k:Int}(hk:k≠0):Qm (n*k) (d*k)=Qm n d:=by
 unfold Qm;by_cases hd:d=0
 ·subst hd;simp
 have:d*k≠0:=fun e=>by rcases Int.mul_eq_zero.1 e with h|h<;>omega
 rw [if_neg hd,if_neg this,Rat.divInt_mul_right hk]
theorem acj(q:Rat):Q.raw (some q)=⟨decide (q.num<0),mk q.num.natAbs,mk q.den⟩:=rfl
theorem XI(x:Int):sg (decide (x<0)) x.natAbs=x:=by
 by_cases h:x<0
 ·simp only [sg,h,decide_true,if_true];omega
 simp only [sg,h,decide_false,aX,if_false];omega
theorem at6(x:Int):sg (!decide (x<0)) x.natAbs = -x:=by
 by_cases h:x<0
 ·simp only [sg,h,decide_true,Bool.not_true,aX,if_false];omega
 simp only [sg,h,decide_false,jJ,if_true];omega
theorem amr{n:Nat}(h:0<n):kF (mk n)≠[]:=by
 have hp:=Eb.2 h;intro e;rw [←zB,e]at hp;simp at hp
theorem aeB{T:Tb}(h:Ir T){q:Rat}(hq:Q.ok (some q)):PF T 208 [kN (Q.raw (some q))] (kN (Q.raw (negQ (some q)))):=by
 obtain⟨l1,l2⟩:=LV hq;have cm:=wS h.lN (neg:=!decide (q.num<0)) (n:=q.num.natAbs) (by omega);rw [at6]at cm;have ne:=amr q.den_pos;rw [acj];have e:Q.raw (negQ (some q))=⟨decide (-q.num<0),mk (-q.num).natAbs,mk q.den⟩:=rfl;rw [e];generalize q.num.natAbs=m at *;refine kH nR h.hT ?_;simp only [Ip,Lz];refine ev ?_;refine jy cm ?_;refine ev1 @ne ?_;refine⟨by omega,?_⟩;refine⟨by unfold pz;decide +kernel,?_⟩;exact kE _
theorem ams{T:Tb}(h:Nb T){a b:Rat}(ha:Q.ok (some a))(hb:Q.ok (some b)):PF T 207 [kN (Q.raw (some a)),kN (Q.raw (some b))] (kN (Q.raw (Yz (some a) (some b)))):=by
 obtain⟨l1,l2⟩:=LV ha;obtain⟨l3,l4⟩:=LV hb;have e:Yz (some a) (some b)=Qm (a.num*b.num) (a.den*b.den):=(ab7 a b).symm;rw [e,acj,acj];have c1:=xZ h.nC (m:=a.num.natAbs) (n:=b.num.natAbs) (by omega) (by omega);have c2:=xZ h.nC (m:=a.den) (n:=b.den) (by omega) (by omega);have t1:=Gs a.num.natAbs b.num.natAbs;have t2:=Gs a.den b.den;have c3:=Uo h.uq (neg:=decide (a.num<0) != decide (b.num<0)) (m:=a.num.natAbs*b.num.natAbs) (n:=a.den*b.den) (by omega) (by omega);rw [VJ,jY,←Uk]at c3;refine kH nR h.hT ?_;simp only [Il,Lz];refine ev ?_;refine jy c1 ?_;refine ev ?_;refine jy c2 ?_;refine ev ?_;refine jy c3 ?_;refine ev ?_;refine⟨by unfold pz;decide +kernel,?_⟩;exact kE _
theorem aeC{T:Tb}(h:BG T){a b:Rat}(ha:Q.ok (some a))(hb:Q.ok (some b)):PF T 198 [kN (Q.raw (some a)),kN (Q.raw (some b))] (kN (Q.raw (PU (some a) (some b)))):=by
 obtain⟨l1,l2⟩:=LV ha;obtain⟨l3,l4⟩:=LV hb;have e:PU (some a) (some b)=Qm (a.num*b.den+b.num*a.den) (a.den*b.den):=(XC a b).symm;rw [e,acj,acj];have o1:=Ed h.pW (n:=a.den);have o2:=Ed h.pW (n:=b.den);by_cases hd:a.den=1∧b.den=1
 ·have m1:mk 1=[1]:=mk_one (by omega) (by omega);have c1:=Ul h.Io (x:=a.num) (y:=b.num) (by omega) (by omega);have t1:=H6 a.num b.num;have c2:=Uo h.uq (neg:=decide (a.num+b.num<0)) (m:=(a.num+b.num).natAbs) (n:=1) (by omega) (by rw [m1];simp);rw [XI,m1]at c2;have e2:Qm (a.num*b.den+b.num*a.den) (a.den*b.den)=Qm (a.num+b.num) ((1:Nat):Int):=by
   rw [hd.1,hd.2];simp
  rw [e2];rw [show decide (a.den=1)=true from decide_eq_true hd.1]at o1;rw [show decide (b.den=1)=true from decide_eq_true hd.2]at o2;refine kH nR h.hT ?_;simp only [rP,Lz];refine ev ?_;refine jy o1 ?_;refine ev ?_;refine jy o2 ?_;refine ev ?_;refine jy c1 ?_;refine ev ?_;simp only [aij];refine ev ?_;refine jy c2 ?_;refine ev ?_;exact kE _
 have c1:=xZ h.nC (m:=a.num.natAbs) (n:=b.den) (by omega) (by omega);have c2:=xZ h.nC (m:=b.num.natAbs) (n:=a.den) (by omega) (by omega);have c3:=xZ h.nC (m:=a.den) (n:=b.den) (by omega) (by omega);have t1:=Gs a.num.natAbs b.den;have t2:=Gs b.num.natAbs a.den;have t3:=Gs a.den b.den;have c4:=wS h.lN (neg:=decide (a.num<0)) (n:=a.num.natAbs*b.den) (by omega);have c5:=wS h.lN (neg:=decide (b.num<0)) (n:=b.num.natAbs*a.den) (by omega);have e4:∀(x:Int) (n:Nat),sg (decide (x<0)) (x.natAbs*n)=x*n:=by
  intro x n;have:=VJ x n;rw [show decide ((n:Int)<0)=false from decide_eq_false (by omega),Bool.bne_false,bW]at this;exact this
 rw [e4]at c4 c5;have t4:(mk (a.num*b.den).natAbs).length≤48:=by rw [jA,bW];omega
 have t5:(mk (b.num*a.den).natAbs).length≤48:=by rw [jA,bW];omega
 have c6:=Ul h.Io (x:=a.num*b.den) (y:=b.num*a.den) (by omega) (by omega);have t6:=H6 (a.num*b.den) (b.num*a.den);have c7:=Uo h.uq (neg:=decide (a.num*b.den+b.num*a.den<0)) (m:=(a.num*b.den+b.num*a.den).natAbs) (n:=a.den*b.den) (by omega) (by omega);rw [XI,jY]at c7;clear t1 t2 t3 t4 t5 t6 e4 e l1 l2 l3 l4;have fin:∀{P:Prop},(a.den=1→¬b.den=1→P)→(¬a.den=1→P)→P:=by
  intro P p1 p2;by_cases k:a.den=1
  ·exact p1 k fun k2=>hd ⟨k,k2⟩
  exact p2 k
 refine fin (fun k1 k2=>?_) (fun k1=>?_)
 ·rw [show decide (a.den=1)=true from decide_eq_true k1]at o1;rw [show decide (b.den=1)=false from decide_eq_false k2]at o2;refine kH nR h.hT ?_;simp only [rP,Lz];refine ev ?_;refine jy o1 ?_;refine ev ?_;refine jy o2 ?_;refine ev ?_;refine jy c1 ?_;refine ev ?_;refine jy c4 ?_;refine ev ?_;refine⟨by unfold pz;decide +kernel,?_⟩;refine jy c2 ?_;refine ev ?_;refine jy c5 ?_;refine ev ?_;refine⟨by unfold pz;decide +kernel,?_⟩;refine jy c6 ?_;refine ev ?_;refine jy c3 ?_;refine ev ?_;refine jy c7 ?_;refine ev ?_;refine⟨by unfold pz;decide +kernel,?_⟩;exact kE _
 rw [show decide (a.den=1)=false from decide_eq_false k1]at o1;refine kH nR h.hT ?_;simp only [rP,Lz];refine ev ?_;refine jy o1 ?_;refine ev ?_;refine jy c1 ?_;refine ev ?_;refine jy c4 ?_;refine ev ?_;refine⟨by unfold pz;decide +kernel,?_⟩;refine jy c2 ?_;refine ev ?_;refine jy c5 ?_;refine ev ?_;refine⟨by unfold pz;decide +kernel,?_⟩;refine jy c6 ?_;refine ev ?_;refine jy c3 ?_;refine ev ?_;refine jy c7 ?_;refine ev ?_;refine⟨by unfold pz;decide +kernel,?_⟩;exact kE _
theorem vw{T:Tb}(h:pY T){r s:R}(hr:r.wf:=by exact lX)(hs:s.wf:=by exact lX):PF T 189 [kN r,kN s] (kN (pI r s)):=by
 have o1:=pG h.kS hr;have o2:=pG h.kS hs
 cases hro:r.ok
 ·have e:pI r s=R0:=by unfold pI;rw [wE.1 hro];rfl
  rw [e];rw [hro]at o1;refine kH nR h.hT ?_;simp only [rQ,Lz];refine ev ?_;refine jy o1 ?_;refine ev ?_;exact qN
 cases hso:s.ok
 ·have e:pI r s=R0:=by unfold pI;rw [wE.1 hso,Qs];rfl
  rw [e];rw [hro]at o1;rw [hso]at o2;refine kH nR h.hT ?_;simp only [rQ,Lz];refine ev ?_;refine jy o1 ?_;refine ev ?_;refine jy o2 ?_;refine ev ?_;exact qN
 rw [hro]at o1;rw [hso]at o2;obtain⟨a,ha,rfl⟩:=Dw hro;obtain⟨b,hb,rfl⟩:=Dw hso;have e:pI (Q.raw (some a)) (Q.raw (some b))=Q.raw (PU (some a) (some b)):=by unfold pI;rw [Jd (q:=some a) ha,Jd (q:=some b) hb]
 have c:=aeC h.Iu (a:=a) (b:=b) ha hb;rw [e];refine kH nR h.hT ?_;simp only [rQ,Lz];refine ev ?_;refine jy o1 ?_;refine ev ?_;refine jy o2 ?_;refine ev ?_;refine jy c ?_;refine ev ?_;exact kE _
def sW:Fn:=⟨1,16,[.cell 2 2 true],(.seq (rf 1 [oN 2 (.alloc Z4)]) (.seq (sr [oW 3 0,oN 4 (.bin .eql (.t 3) (cI (-9223372036854775808)))] (cd 4 (.seq (rf 1 [oN 5 (.ny 1 F8 3 [(0,(cI 854775808)),(1,(cI 223372036)),(2,(cI 9))]),oK 6 1 (.call 66 [(.c (.bool true)),(.t 5)]),⟨none,none,1,.store 2 (.t 2) (.t 6),[]⟩]) .ret) .skip)) (.seq (sr [oW 7 0,oN 8 (bc .lss 7 0)] (cd 8 (sr [oW 9 0,oN 10 (.un .neg (.t 9)),oN 11 (cl 67 [10]),oN 12 (.call 66 [(.c (.bool true)),(.t 11)]),oS (.store 2 (.t 2) (.t 12))] .ret) .skip)) (sr [oW 13 0,oN 14 (cl 67 [13]),oN 15 (.call 66 [(.c (.bool false)),(.t 14)]),oS (.store 2 (.t 2) (.t 15))] .ret))))⟩
structure CU (T:Tb):Prop where
 hT:T 53=some sW
 lN:sF T
 qI:Ad T
def vM:Fn:=⟨1,7,[.cell 2 3 true],(.seq (rf 1 [oN 2 (.alloc qL)]) (.seq (rf 1 [oK 3 1 (oV 0),oK 4 1 (cl 53 [3]),oN 5 (.ny 1 F8 1 [(0,(cI 1))]),oK 6 1 (.build qL [(0,2,(.t 4)),(2,1,(.t 5))]),⟨none,none,1,.store 3 (.t 2) (.t 6),[]⟩]) .ret))⟩
structure nU (T:Tb):Prop where
 hT:T 36=some vM
 Pz:CU T
def sZ:Fn:=⟨1,16,[.cell 2 2 true],(.seq (rf 1 [oN 2 (.alloc Z4)]) (.seq (sr [oW 3 0,oN 4 (bc .lss 3 0)] (cd 4 (sr [oW 5 0,oN 6 (bc .add 5 1),oN 7 (.un .neg (.t 6)),oN 8 (.conv .u64 (.t 7)),oN 9 (.bin .add (.t 8) (.c (.int .u64 1))),oN 10 (cl 69 [9]),oN 11 (.call 68 [(.c (.bool true)),(.t 10)]),oS (.store 2 (.t 2) (.t 11))] .ret) .skip)) (sr [oW 12 0,oN 13 (.conv .u64 (.t 12)),oN 14 (cl 69 [13]),oN 15 (.call 68 [(.c (.bool false)),(.t 14)]),oS (.store 2 (.t 2) (.t 15))] .ret)))⟩
structure CV (T:Tb):Prop where
 hT:T 54=some sZ
 lV:oU T
 nG:uD T
def vN:Fn:=⟨1,7,[.cell 2 3 true],(.seq (rf 1 [oN 2 (.alloc qL)]) (.seq (rf 1 [oK 3 1 (oV 0),oK 4 1 (cl 54 [3]),oN 5 (.ny 1 F8 1 [(0,(cI 1))]),oK 6 1 (.build qL [(0,2,(.t 4)),(2,1,(.t 5))]),⟨none,none,1,.store 3 (.t 2) (.t 6),[]⟩]) .ret))⟩
structure oP (T:Tb):Prop where
 hT:T 39=some vN
 PD:CV T
theorem wV{T:Tb}(h:yH T){r s:R}(hr:r.wf:=by exact lX)(hs:s.wf:=by exact lX):PF T 201 [kN r,kN s] (kN (mulR r s)):=by
 have o1:=pG h.kS hr;have o2:=pG h.kS hs
 cases hro:r.ok
 ·have e:mulR r s=R0:=by unfold mulR;rw [wE.1 hro];rfl
  rw [e];rw [hro]at o1;refine kH nR h.hT ?_;simp only [yG,Lz];refine ev ?_;refine jy o1 ?_;refine ev ?_;exact qN
 cases hso:s.ok
 ·have e:mulR r s=R0:=by unfold mulR;rw [wE.1 hso,aey];rfl
  rw [e];rw [hro]at o1;rw [hso]at o2;refine kH nR h.hT ?_;simp only [yG,Lz];refine ev ?_;refine jy o1 ?_;refine ev ?_;refine jy o2 ?_;refine ev ?_;exact qN
 rw [hro]at o1;rw [hso]at o2;obtain⟨a,ha,rfl⟩:=Dw hro;obtain⟨b,hb,rfl⟩:=Dw hso;have e:mulR (Q.raw (some a)) (Q.raw (some b))=Q.raw (Yz (some a) (some b)):=by unfold mulR;rw [Jd (q:=some a) ha,Jd (q:=some b) hb]
 rw [e];have c:=ams h.aam (a:=a) (b:=b) ha hb;refine kH nR h.hT ?_;simp only [yG,Lz];refine ev ?_;refine jy o1 ?_;refine ev ?_;refine jy o2 ?_;refine ev ?_;refine jy c ?_;refine ev ?_;exact kE _
theorem QZ{T:Tb}(h:Iw T){r s:R}(hr:r.wf:=by exact lX)(hs:s.wf:=by exact lX):PF T 203 [kN r,kN s] (kN (NZ r s)):=by
 have o1:=pG h.kS hr;have o2:=pG h.kS hs
 cases hro:r.ok
 ·have e:NZ r s=R0:=by unfold NZ;rw [wE.1 hro];rfl
  rw [e];rw [hro]at o1;refine kH nR h.hT ?_;simp only [yF,Lz];refine ev ?_;refine jy o1 ?_;refine ev ?_;exact qN
 cases hso:s.ok
 ·have e:NZ r s=R0:=by unfold NZ;rw [wE.1 hso,aeA];rfl
  rw [e];rw [hro]at o1;rw [hso]at o2;refine kH nR h.hT ?_;simp only [yF,Lz];refine ev ?_;refine jy o1 ?_;refine ev ?_;refine jy o2 ?_;refine ev ?_;exact qN
 rw [hro]at o1;rw [hso]at o2;obtain⟨a,ha,rfl⟩:=Dw hro;obtain⟨b,hb,rfl⟩:=Dw hso;have e:NZ (Q.raw (some a)) (Q.raw (some b))=Q.raw (alT (some a) (some b)):=by unfold NZ;rw [Jd (q:=some a) ha,Jd (q:=some b) hb]
 rw [e];have c:=aeB h.Nc (q:=b) hb;have c2:=aeC h.Iu (a:=a) (b:=-b) ha (ab5 (a:=some b) hb);refine kH nR h.hT ?_;simp only [yF,Lz];refine ev ?_;refine jy o1 ?_;refine ev ?_;refine jy o2 ?_;refine ev ?_;refine jy c ?_;refine ev ?_;refine jy c2 ?_;refine ev ?_;refine⟨by unfold pz;decide +kernel,?_⟩;exact kE _
theorem N7{T:Tb}(h:Iy T){r s:R}(hr:r.wf:=by exact lX)(hs:s.wf:=by exact lX):PF T 200 [kN r,kN s] (kN (DC r s)):=by
 have o1:=pG h.kS hr;have o2:=pG h.kS hs
 cases hro:r.ok
 ·have e:DC r s=R0:=by unfold DC;rw [wE.1 hro];rfl
  rw [e];rw [hro]at o1;refine kH nR h.hT ?_;simp only [yI,Lz];refine ev ?_;refine jy o1 ?_;refine ev ?_;exact qN
 cases hso:s.ok
 ·have e:DC r s=R0:=by unfold DC;rw [wE.1 hso,aez];rfl
  rw [e];rw [hro]at o1;rw [hso]at o2;refine kH nR h.hT ?_;simp only [yI,Lz];refine ev ?_;refine jy o1 ?_;refine ev ?_;refine jy o2 ?_;refine ev ?_;exact qN
 rw [hro]at o1;rw [hso]at o2;obtain⟨a,ha,rfl⟩:=Dw hro;obtain⟨b,hb,rfl⟩:=Dw hso;have e:DC (Q.raw (some a)) (Q.raw (some b))=Q.raw (YA (some a) (some b)):=by unfold DC;rw [Jd (q:=some a) ha,Jd (q:=some b) hb]
 rw [e];obtain⟨l1,l2⟩:=LV (q:=a) ha;obtain⟨l3,l4⟩:=LV (q:=b) hb;have c1:=xZ h.nC (m:=a.num.natAbs) (n:=b.den) (by omega) (by omega);have c2:=xZ h.nC (m:=a.den) (n:=b.num.natAbs) (by omega) (by omega);have t1:=Gs a.num.natAbs b.den;have t2:=Gs a.den b.num.natAbs;have c3:=Uo h.uq (neg:=decide (a.num<0) != decide (b.num<0)) (m:=a.num.natAbs*b.den) (n:=a.den*b.num.natAbs) (by omega) (by omega);have e3:Qm (sg (decide (a.num<0) != decide (b.num<0)) (a.num.natAbs*b.den)) ((a.den*b.num.natAbs:Nat):Int)=YA (some a) (some b):=by
  have e4:YA (some a) (some b)=Qm (a.num*b.den) (b.num*a.den):=(ab8 a b).symm;rw [e4];have hden:0<b.den:=b.den_pos;rcases Int.lt_trichotomy b.num 0 with k|k|k
  ·have e5:((a.den*b.num.natAbs:Nat):Int)=(b.num*a.den)*(-1):=by
    rw [jY,Int.mul_comm b.num,Int.mul_assoc];congr 1;omega
   have e6:sg (decide (a.num<0) != decide (b.num<0)) (a.num.natAbs*b.den)=(a.num*b.den)*(-1):=by
    have:=VJ a.num (-(b.den:Int));rw [show decide (-(b.den:Int)<0)=true from decide_eq_true (by omega),Int.natAbs_neg,bW]at this;rw [show decide (b.num<0)=true from decide_eq_true k,this,Int.mul_neg,Int.mul_neg,Int.mul_one]
   rw [e5,e6,ajV (by omega)]
  ·rw [k];simp [Qm]
  have e5:((a.den*b.num.natAbs:Nat):Int)=b.num*a.den:=by
   rw [jY,Int.mul_comm b.num];congr 1;omega
  have e6:sg (decide (a.num<0) != decide (b.num<0)) (a.num.natAbs*b.den)=a.num*b.den:=by
   have:=VJ a.num (b.den:Int);rw [show decide ((b.den:Int)<0)=false from decide_eq_false (by omega),bW]at this;rw [show decide (b.num<0)=false from decide_eq_false (by omega),this]
  rw [e5,e6]
 rw [e3,←Uk]at c3;clear e3 l1 l2 l3 l4 t1 t2;rw [acj]at *;rw [acj]at *;refine kH nR h.hT ?_;simp only [yI,Lz];refine ev ?_;refine jy o1 ?_;refine ev ?_;refine jy o2 ?_;refine ev ?_;refine jy c1 ?_;refine ev ?_;refine jy c2 ?_;refine ev ?_;refine jy c3 ?_;refine ev ?_;refine⟨by unfold pz;decide +kernel,?_⟩;exact kE _
theorem aa9{T:Tb}(h:Nh T){r:R}(hr:r.wf:=by exact lX):PF T 399 [kN r] (kN (negR r)):=by
 have o1:=pG h.kS hr
 cases hro:r.ok
 ·have e:negR r=R0:=by unfold negR;rw [wE.1 hro];rfl
  rw [e];rw [hro]at o1;refine kH nR h.hT ?_;simp only [BI,Lz];refine ev ?_;refine jy o1 ?_;refine ev ?_;exact qN
 rw [hro]at o1;obtain⟨a,ha,rfl⟩:=Dw hro;have e:negR (Q.raw (some a))=Q.raw (negQ (some a)):=by unfold negR;rw [Jd (q:=some a) ha]
 rw [e];have c:=aeB h.Nc (q:=a) ha;refine kH nR h.hT ?_;simp only [BI,Lz];refine ev ?_;refine jy o1 ?_;refine ev ?_;refine jy c ?_;refine ev ?_;exact kE _
theorem Ur{n:Nat}(h:n<1000000000000000000):(mk n).length≤2:=lK.2 (by simpa using h)
theorem Us(n:Int):kR n=⟨decide (n<0),mk n.natAbs,[1]⟩:=by
 show (⟨decide ((n:Rat).num<0),mk (n:Rat).num.natAbs,mk (n:Rat).den⟩:R)=_;have m1:mk 1=[1]:=mk_one (by omega) (by omega);rw [Rat.num_intCast,Rat.den_intCast,m1]
theorem aeD{T:Tb}(h:CU T){n:Int}(hn : -1000000000000000000<n∧n<1000000000000000000:=by exact lX):PF T 53 [iv n] (Oo (bi n)):=by
 have hl:(mk n.natAbs).length≤2:=Ur (by omega);by_cases hneg:n<0
 ·have c1:=L9 h.qI (n:=-n) (by omega);have c2:=wS h.lN (neg:=true) (n:=n.natAbs) (by omega);rw [show (-n).toNat=n.natAbs by omega]at c1;rw [show sg true n.natAbs=n by simp only [sg,if_true];omega]at c2;have c0:¬n = -9223372036854775808:=by omega
  refine kH nR h.hT ?_;simp only [sW,Lz];refine ev ?_;refine qW @c0 @hneg ?_;rw [show (0:Int)-n = -n by omega];refine jy c1 ?_;refine ev ?_;refine jy c2 ?_;refine ev ?_;exact kE _
 have c1:=L9 h.qI (n:=n) (by omega);have c2:=wS h.lN (neg:=false) (n:=n.natAbs) (by omega);rw [show n.toNat=n.natAbs by omega]at c1;rw [show sg false n.natAbs=n by simp only [sg,aX,if_false];omega]at c2;have c0:¬n = -9223372036854775808:=by omega
 refine kH nR h.hT ?_;simp only [sW,Lz];refine ev ?_;refine qW @c0 @hneg ?_;refine jy c1 ?_;refine ev ?_;refine jy c2 ?_;refine ev ?_;exact kE _
theorem aeE{T:Tb}(h:CV T){n:Int}(hn : -1000000000000000000<n∧n<1000000000000000000:=by exact lX):PF T 54 [iv n] (Oo (bi n)):=by
 have hl:(mk n.natAbs).length≤2:=Ur (by omega);by_cases hneg:n<0
 ·have c1:=zD h.nG (n:=-(n+1)+1) (by omega);have c2:=DW h.lV (neg:=true) (n:=n.natAbs) (by omega);rw [show (-(n+1)+1).toNat=n.natAbs by omega]at c1;rw [show sg true n.natAbs=n by simp only [sg,if_true];omega]at c2;refine kH nR h.hT ?_;simp only [sZ,Lz];refine ev ?_;refine ev1 @hneg ?_;rw [show (0:Int)-(n+1)+1 = -(n+1)+1 by omega];refine jy c1 ?_;refine ev ?_;refine jy c2 ?_;refine ev ?_;exact kE _
 have c1:=zD h.nG (n:=n) (by omega);have c2:=DW h.lV (neg:=false) (n:=n.natAbs) (by omega);rw [show n.toNat=n.natAbs by omega]at c1;rw [show sg false n.natAbs=n by simp only [sg,aX,if_false];omega]at c2;refine kH nR h.hT ?_;simp only [sZ,Lz];refine ev ?_;refine ev1 @hneg ?_;refine jy c1 ?_;refine ev ?_;refine jy c2 ?_;refine ev ?_;exact kE _
theorem uw{T:Tb}(h:nU T){n:Int}(hn : -1000000000000000000<n∧n<1000000000000000000:=by exact lX):PF T 36 [iv n] (kN (kR n)):=by
 have c:=aeD h.Pz hn;rw [Us];refine kH nR h.hT ?_;simp only [vM,Lz];refine ev ?_;refine jy c ?_;refine ev ?_;simp only [aij];refine ev ?_;exact kE _
theorem Nj{T:Tb}(h:oP T){n:Int}(hn : -1000000000000000000<n∧n<1000000000000000000:=by exact lX):PF T 39 [iv n] (kN (kR n)):=by
 have c:=aeE h.PD hn;rw [Us];refine kH nR h.hT ?_;simp only [vN,Lz];refine ev ?_;refine jy c ?_;refine ev ?_;simp only [aij];refine ev ?_;exact kE _
def yJ:Fn:=⟨2,17,[.cell 4 3 true],(.seq (rf 3 [oN 2 (.box (.t 0)),oK 3 1 (.box (.t 1)),oK 4 2 (.alloc qL)]) (.seq (sr [oN 5 (lT 3 2),oN 6 (cl 102 [5]),oN 7 (nt 6),oW 8 7,oG 8 false 9 (lT 3 3),oG 8 false 10 (cl 102 [9]),oG 8 false 11 (nt 10),oN 12 (.pick (.t 8) (.c (.bool true)) (.t 11))] (cd 12 (sr [oN 13 (.build qL []),oS (.store 3 (.t 4) (.t 13))] .ret) .skip)) (sr [oN 14 (lT 3 2),oN 15 (lT 3 3),oN 16 (cl 131 [14,15]),oS (.store 3 (.t 4) (.t 16))] .ret)))⟩
structure Nk (T:Tb):Prop where
 hT:T 178=some yJ
 rU:Ag T
 lC:nJ T
theorem Ut{r:R}(h:r.cn:=by
 first|with_reducible assumption|with_reducible exact vK _ _|with_reducible exact XH _ _|with_reducible exact Un _ _|with_reducible exact MC _ _|with_reducible exact aci _|with_reducible exact YT|with_reducible exact Ef (by decide)):r.cn:=h
theorem DX{T:Tb}(h:nJ T){r s:R}(hr:r.cn:=by exact Ut)(hs:s.cn:=by exact Ut):PF T 131 [kN r,kN s] (kN (pI r s)):=by
 have:=aev h (a:=r.q) (b:=s.q) (Qn r) (Qn s);rw [hr,hs]at this;exact this
theorem Q5{T:Tb}(h:BF T){r s:R}(hr:r.cn:=by exact Ut)(hs:s.cn:=by exact Ut):PF T 159 [kN r,kN s] (kN (NZ r s)):=by
 have:=aml h (a:=r.q) (b:=s.q) (Qn r) (Qn s);rw [hr,hs]at this;exact this
theorem yK{T:Tb}(h:rM T){r s:R}(hr:r.cn:=by exact Ut)(hs:s.cn:=by exact Ut):PF T 157 [kN r,kN s] (kN (mulR r s)):=by
 have:=amj h (a:=r.q) (b:=s.q) (Qn r) (Qn s);rw [hr,hs]at this;exact this
theorem abb{T:Tb}(h:wB T){r s:R}(hr:r.cn:=by exact Ut)(hs:s.cn:=by exact Ut):PF T 156 [kN r,kN s] (kN (DC r s)):=by
 have:=amk h (a:=r.q) (b:=s.q) (Qn r) (Qn s);rw [hr,hs]at this;exact this
theorem abd{T:Tb}(h:BD T){r:R}(hr:r.cn:=by exact Ut):PF T 161 [kN r] (kN (negR r)):=by
 have:=aew h (a:=r.q) (Qn r);rw [hr]at this;exact this
theorem J3{T:Tb}(h:oJ T){r:R}(hr:r.cn:=by exact Ut):PF T 132 [kN r] (.bool r.ok):=by
 have:=ach h (a:=r.q);rw [hr,agt]at this;exact this
theorem abe{T:Tb}(h:Nk T){r s:R}(hr:r.wf:=by exact lX)(hs:s.wf:=by exact lX):PF T 178 [kN r,kN s] (kN (pI r s)):=by
 have o1:=OJ h.rU hr;have o2:=OJ h.rU hs
 cases hro:r.ok
 ·have e:pI r s=R0:=by unfold pI;rw [wE.1 hro];rfl
  rw [e];rw [hro]at o1;refine kH nR h.hT ?_;simp only [yJ,Lz];refine ev ?_;refine jy o1 ?_;refine ev ?_;exact qN
 cases hso:s.ok
 ·have e:pI r s=R0:=by unfold pI;rw [wE.1 hso,Qs];rfl
  rw [e];rw [hro]at o1;rw [hso]at o2;refine kH nR h.hT ?_;simp only [yJ,Lz];refine ev ?_;refine jy o1 ?_;refine ev ?_;refine jy o2 ?_;refine ev ?_;exact qN
 rw [hro]at o1;rw [hso]at o2;have c:=DX h.lC (zH hro) (zH hso);refine kH nR h.hT ?_;simp only [yJ,Lz];refine ev ?_;refine jy o1 ?_;refine ev ?_;refine jy o2 ?_;refine ev ?_;refine jy c ?_;refine ev ?_;exact kE _
def rC:Fn:=⟨2,24,[.tmp 4],(.seq (rf 2 [oN 2 (.box (.t 0)),oK 3 1 (.box (.t 1)),oK 4 2 mF]) (sr [oN 5 (fd 0 2),oN 6 (lF 1 5),oN 7 (fd 0 3),oN 8 (lF 1 7),oN 9 (bt .lss 6 8),oW 10 9,oG 10 false 11 (fd 0 2),oG 10 false 12 (lF 1 11),oG 10 false 13 (fd 0 3),oG 10 false 14 (lF 1 13),oG 10 false 15 (bt .eql 12 14),oG 10 false 16 (oV 15),oG 16 true 17 (fd 1 2),oG 16 true 18 (lF 1 17),oG 16 true 19 (fd 1 3),oG 16 true 20 (lF 1 19),oG 16 true 21 (bt .lss 18 20),oG 10 false 22 (.pick (.t 16) (.t 21) (.c (.bool false))),oN 23 (.pick (.t 10) (.c (.bool true)) (.t 22)),oW 4 23] .ret))⟩
structure xP (T:Tb):Prop where
 hT:T 111=some rC
def Ah:Fn:=⟨1,30,[.tmp 2],(sr [oN 2 mF] (.seq (sr [oW 5 0,oN 6 (ln 5),oN 7 (.mM (cI 0))] (.block 0 (.loop (sr [oN 8 (bt .lss 7 6)] (.seq (cd 8 .skip (.exit 0)) (.seq (.block 1 (.seq (rf 1 [oK 9 1 (oV 7),oK 10 1 (ix 11 5 7),oK 11 1 (lT 11 10),oN 4 (.alloc D6),oK 3 1 (oV 9),⟨none,none,1,.store 11 (.t 4) (.t 11),[]⟩]) (.seq (rt 0 [oN 12 (lT 11 4),oA 13 0 (cl 84 [12]) [0],oA 14 0 (nt 13) [1],oA 15 0 (oV 14) [2,1],oH 15 false 16 0 (oV 3) [3],oH 15 false 17 0 (bc .gtr 16 0) [4,3],oH 15 false 18 0 (oV 17) [5,3,3],oH 18 true 19 0 (oV 0) [6],oH 18 true 20 0 (oV 3) [6],oH 18 true 21 0 (bc .sub 20 1) [8,6],oH 18 true 22 0 (ix 11 19 21) [7,9,6],oH 18 true 23 0 (lT 11 22) [10,6],oH 18 true 24 0 (lT 11 4) [6],oH 18 true 25 0 (cl 111 [23,24]) [11,12,6,6],oH 18 true 26 0 (nt 25) [13,6],oH 15 false 27 0 (.pick (.t 18) (.t 26) (.c (.bool false))) [6,14,3],oA 28 0 (.pick (.t 15) (.c (.bool true)) (.t 27)) [3,15]]) (cd 28 (sr [oN 2 mF] .ret) .skip)))) (rg [oN 29 (bc .add 7 1),oW 7 29]))))))) (sr [oN 2 mT] .ret)))⟩
structure Ai (T:Tb):Prop where
 hT:T 89=some Ah
 uP:uN T
 xQ:xP T
def wW:Fn:=⟨2,24,[.tmp 4],(.seq (rf 2 [oN 2 (.box (.t 0)),oK 3 1 (.box (.t 1)),oK 4 2 mF]) (sr [oN 5 (fd 0 2),oN 6 (lF 1 5),oN 7 (fd 0 3),oN 8 (lF 1 7),oN 9 (bt .lss 6 8),oW 10 9,oG 10 false 11 (fd 0 2),oG 10 false 12 (lF 1 11),oG 10 false 13 (fd 0 3),oG 10 false 14 (lF 1 13),oG 10 false 15 (bt .eql 12 14),oG 10 false 16 (oV 15),oG 16 true 17 (fd 1 2),oG 16 true 18 (lF 1 17),oG 16 true 19 (fd 1 3),oG 16 true 20 (lF 1 19),oG 16 true 21 (bt .lss 18 20),oG 10 false 22 (.pick (.t 16) (.t 21) (.c (.bool false))),oN 23 (.pick (.t 10) (.c (.bool true)) (.t 22)),oW 4 23] .ret))⟩
structure Et (T:Tb):Prop where
 hT:T 195=some wW
def Aj:Fn:=⟨1,30,[.tmp 2],(sr [oN 2 mF] (.seq (sr [oW 5 0,oN 6 (ln 5),oN 7 (.mM (cI 0))] (.block 0 (.loop (sr [oN 8 (bt .lss 7 6)] (.seq (cd 8 .skip (.exit 0)) (.seq (.block 1 (.seq (rf 1 [oK 9 1 (oV 7),oK 10 1 (ix 11 5 7),oK 11 1 (lT 11 10),oN 4 (.alloc D6),oK 3 1 (oV 9),⟨none,none,1,.store 11 (.t 4) (.t 11),[]⟩]) (.seq (rt 0 [oN 12 (lT 11 4),oA 13 0 (cl 83 [12]) [0],oA 14 0 (nt 13) [1],oA 15 0 (oV 14) [2,1],oH 15 false 16 0 (oV 3) [3],oH 15 false 17 0 (bc .gtr 16 0) [4,3],oH 15 false 18 0 (oV 17) [5,3,3],oH 18 true 19 0 (oV 0) [6],oH 18 true 20 0 (oV 3) [6],oH 18 true 21 0 (bc .sub 20 1) [8,6],oH 18 true 22 0 (ix 11 19 21) [7,9,6],oH 18 true 23 0 (lT 11 22) [10,6],oH 18 true 24 0 (lT 11 4) [6],oH 18 true 25 0 (cl 195 [23,24]) [11,12,6,6],oH 18 true 26 0 (nt 25) [13,6],oH 15 false 27 0 (.pick (.t 18) (.t 26) (.c (.bool false))) [6,14,3],oA 28 0 (.pick (.t 15) (.c (.bool true)) (.t 27)) [3,15]]) (cd 28 (sr [oN 2 mF] .ret) .skip)))) (rg [oN 29 (bc .add 7 1),oW 7 29]))))))) (sr [oN 2 mT] .ret)))⟩
structure o8 (T:Tb):Prop where
 hT:T 193=some Aj
 qo:uO T
 Eu:Et T
def l9(k l:Lk):Bool:=decide (k.a<l.a)||(decide (k.a=l.a)&&decide (k.b<l.b))
theorem Nl{T:Tb}(h:xP T){k l:Lk}:PF T 111 [QV k,QV l] (.bool (l9 k l)):=by
 unfold l9;by_cases h1:k.a<l.a
 ·simp only [h1,decide_true,eu];refine kQ nR h.hT ?_;simp only [rC,Lz];refine ev ?_
  (refine ev1 @h1 ?_;try with_reducible exact True.intro)
 by_cases h2:k.a=l.a
 ·simp only [h2,Int.lt_irrefl,decide_true,decide_false,bU,dJ];refine kQ nR h.hT ?_;simp only [rC,Lz];refine ev ?_
  (refine qW @h2 @Int.lt_irrefl ?_;try with_reducible exact True.intro)
 simp only [h1,h2,decide_false,dG,dJ];refine kQ nR h.hT ?_;simp only [rC,Lz];refine ev ?_
 (refine qW @h1 @h2 ?_;try with_reducible exact True.intro)
theorem VN{T:Tb}(h:Et T){k l:Lk}:PF T 195 [QV k,QV l] (.bool (l9 k l)):=by
 unfold l9;by_cases h1:k.a<l.a
 ·simp only [h1,decide_true,eu];refine kQ nR h.hT ?_;simp only [wW,Lz];refine ev ?_
  (refine ev1 @h1 ?_;try with_reducible exact True.intro)
 by_cases h2:k.a=l.a
 ·simp only [h2,Int.lt_irrefl,decide_true,decide_false,bU,dJ];refine kQ nR h.hT ?_;simp only [wW,Lz];refine ev ?_
  (refine qW @h2 @Int.lt_irrefl ?_;try with_reducible exact True.intro)
 simp only [h1,h2,decide_false,dG,dJ];refine kQ nR h.hT ?_;simp only [wW,Lz];refine ev ?_
 (refine qW @h1 @h2 ?_;try with_reducible exact True.intro)
def allB(n:Nat)(p:Nat→Bool):Bool:=decide (∀i,i<n→p i=true)
theorem agG{n:Nat}{p:Nat→Bool}(h:∀i,i<n→p i=true):allB n p=true:=decide_eq_true h
theorem acn{n:Nat}{p:Nat→Bool}{i:Nat}(hi:i<n)(h:p i=false):allB n p=false:=decide_eq_false fun k=>by rw [k i hi]at h;cases h
theorem aeF{n:Nat}{p:Nat→Bool}:allB n p=true↔∀i,i<n→p i=true:=by simp [allB]
def MG(l:List Lk)(i:Nat):Bool:=qm (l.getD i default)&&(decide (i=0)||l9 (l.getD (i-1) default) (l.getD i default))
def lH(l:List Lk):Bool:=allB l.length (MG l)
theorem Uu{T:Tb}(h:Ai T){l:List Lk}(hw:Bg Lk.wf l:=by exact lX):PF T 89 [kY l] (.bool (lH l)):=by
 have hlen:=hw.1;refine kQ nR h.hT ?_;simp only [Ah,Lz];refine ev ?_;refine kG (fun _ _=>false) (α:=Nat) (fun i=>⟨kX [kY l,.any,.bool false,.any,.any,kY l,iv (l.length:Nat),iv (i:Nat)],[],0,0,[],[]⟩) (fun i=>i≤l.length∧∀j,j<i→MG l j=true) (fun i=>l.length-i) rfl 0 ?_ ?_ ?_
 ·exact⟨by omega,by intro j hj;omega⟩
 ·exact LQ
 rintro i ⟨hi,hj⟩;refine ev ?_;refine kD (fun hc=>?_) fun hc=>?_<;>(refine qW @hc @mg ?_;try with_reducible exact True.intro)
 ·have hil:i<l.length:=by omega
  have cv:=KN h.uP (l:=l.getD i default) (hw.at_ hil);have cb:=Nl h.xQ (k:=l.getD (i-1) default) (l:=l.getD i default)
  cases hv:qm (l.getD i default)
  ·rw [hv]at cv;refine jy cv ?_;refine ev ?_;have:lH l=false:=acn hil (by simp only [MG,hv,dG]);rw [this]
  rw [hv]at cv;refine jy cv ?_;by_cases h0:i=0
  ·have h0':¬(0:Int)<(i:Nat):=by omega
   refine ev1 @h0' ?_;refine⟨i+1,by omega,⟨by omega,fun j hj'=>?_⟩,by exact LQ⟩;have:j=i:=by omega
   subst this;unfold MG;rw [hv,decide_eq_true h0];rfl
  have h0':(0:Int)<(i:Nat):=by omega
  have e1:((i:Int)-1).toNat=i-1:=by omega
  cases hb:l9 (l.getD (i-1) default) (l.getD i default)
  ·rw [hb]at cb;refine zl @h0' @mg @e1 ?_;refine jy cb ?_;refine ev ?_;have:lH l=false:=acn hil (by simp only [MG,hv,hb,h0,decide_false,Bool.or_self,ku]);rw [this]
  rw [hb]at cb;refine zl @h0' @mg @e1 ?_;refine jy cb ?_;refine ev ?_;refine⟨i+1,by omega,⟨by omega,fun j hj'=>?_⟩,by exact LQ⟩;by_cases e:j=i
  ·subst e;simp only [MG,hv,hb,Bool.or_true,Bool.and_self]
  exact hj j (by omega)
 have:lH l=true:=agG fun j hj'=>hj j (by omega);rw [this]
theorem vO{T:Tb}(h:o8 T){l:List Lk}(hw:Bg Lk.wf l:=by exact lX):PF T 193 [kY l] (.bool (lH l)):=by
 have hlen:=hw.1;refine kQ nR h.hT ?_;simp only [Aj,Lz];refine ev ?_;refine kG (fun _ _=>false) (α:=Nat) (fun i=>⟨kX [kY l,.any,.bool false,.any,.any,kY l,iv (l.length:Nat),iv (i:Nat)],[],0,0,[],[]⟩) (fun i=>i≤l.length∧∀j,j<i→MG l j=true) (fun i=>l.length-i) rfl 0 ?_ ?_ ?_
 ·exact⟨by omega,by intro j hj;omega⟩
 ·exact LQ
 rintro i ⟨hi,hj⟩;refine ev ?_;refine kD (fun hc=>?_) fun hc=>?_<;>(refine qW @hc @mg ?_;try with_reducible exact True.intro)
 ·have hil:i<l.length:=by omega
  have cv:=zJ h.qo (l:=l.getD i default) (hw.at_ hil);have cb:=VN h.Eu (k:=l.getD (i-1) default) (l:=l.getD i default)
  cases hv:qm (l.getD i default)
  ·rw [hv]at cv;refine jy cv ?_;refine ev ?_;have:lH l=false:=acn hil (by simp only [MG,hv,dG]);rw [this]
  rw [hv]at cv;refine jy cv ?_;by_cases h0:i=0
  ·have h0':¬(0:Int)<(i:Nat):=by omega
   refine ev1 @h0' ?_;refine⟨i+1,by omega,⟨by omega,fun j hj'=>?_⟩,by exact LQ⟩;have:j=i:=by omega
   subst this;unfold MG;rw [hv,decide_eq_true h0];rfl
  have h0':(0:Int)<(i:Nat):=by omega
  have e1:((i:Int)-1).toNat=i-1:=by omega
  cases hb:l9 (l.getD (i-1) default) (l.getD i default)
  ·rw [hb]at cb;refine zl @h0' @mg @e1 ?_;refine jy cb ?_;refine ev ?_;have:lH l=false:=acn hil (by simp only [MG,hv,hb,h0,decide_false,Bool.or_self,ku]);rw [this]
  rw [hb]at cb;refine zl @h0' @mg @e1 ?_;refine jy cb ?_;refine ev ?_;refine⟨i+1,by omega,⟨by omega,fun j hj'=>?_⟩,by exact LQ⟩;by_cases e:j=i
  ·subst e;simp only [MG,hv,hb,Bool.or_true,Bool.and_self]
  exact hj j (by omega)
 have:lH l=true:=agG fun j hj'=>hj j (by omega);rw [this]
theorem XJ{r:R}(h:0<BH r):r.ok=true:=by
 rw [amn];intro e;unfold BH at h;rw [e]at h;simp [wP]at h
def inB(a lo hi:Int):Bool:=decide (lo≤a)&&decide (a≤hi)
def Ew(c:Cd)(i:Nat):Bool :=
 inB (c.ps.getD i default).node 0 9 && !decide ((c.ps.getD i default).node=c.node)&&(decide (i=0)||decide ((c.ps.getD (i-1) default).node<(c.ps.getD i default).node)) &&
  decide (0<BH (c.ps.getD i default).share)&&(c.ps.getD i default).dx.ok&&(c.ps.getD i default).dy.ok
def LX(l:List Pa)(n:Nat):R:=(l.take n).foldl (fun s p=>pI s p.share) (kR 0)
theorem agH(l:List Pa):LX l 0=kR 0:=by simp [LX]
theorem agI(l:List Pa){i:Nat}(h:i<l.length):LX l (i+1)=pI (LX l i) (l.getD i default).share:=by
 unfold LX;rw [dD,aB h,ak,aB h];simp only [Option.toList,Option.getD,iP,dX,iE]
theorem aeG{α:Type}{f:α→R}:∀(l:List α) (a:R),a.cn→(l.foldl (fun s p=>pI s (f p)) a).cn
 | [],_,h=>h
 |_::l,_,_=>aeG l _ (vK _ _)
theorem MH(l:List Pa)(i:Nat):(LX l i).cn:=aeG _ _ (Ef (by decide))
def at7(c:Cd):Prop:=∀i,i<c.ps.length→Ew c i=true
instance (c:Cd):Decidable (at7 c):=inferInstanceAs (Decidable (∀i,i<c.ps.length→Ew c i=true))
def rD(c:Cd):Bool:=decide (at7 c)&&inB c.node 1 9&&decide (0<BH c.total) && !c.ps.isEmpty&&decide (LX c.ps c.ps.length=kR 1)
theorem yR{c:Cd}{i:Nat}(hi:i<c.ps.length)(h:Ew c i=false):rD c=false:=by
 unfold rD;rw [decide_eq_false (fun k=>by rw [k i hi]at h;cases h)];rfl
theorem amu{c:Cd}(h:at7 c):rD c=(inB c.node 1 9&&decide (0<BH c.total) && !c.ps.isEmpty&&decide (LX c.ps c.ps.length=kR 1)):=by
 unfold rD;rw [decide_eq_true h,bU]
def CW:Fn:=⟨2,26,[.tmp 4],(sr [oN 4 mF] (.seq (sr [oW 7 0,oN 8 (ln 7),oW 9 1,oN 10 (ln 9),oN 11 (bt .neq 8 10)] (cd 11 (sr [oN 4 mF] .ret) .skip)) (.seq (sr [oW 12 0,oN 13 (ln 12),oN 14 (.mM (cI 0))] (.block 0 (.loop (sr [oN 15 (bt .lss 14 13)] (.seq (cd 15 .skip (.exit 0)) (.seq (.block 1 (sr [oW 16 14,oN 17 (ix 1 12 14),oN 18 (lF 1 17),oW 5 16,oW 6 18] (sr [oW 19 6,oW 20 1,oW 21 5,oN 22 (ix 1 20 21),oN 23 (lF 1 22),oN 24 (bt .neq 19 23)] (cd 24 (sr [oN 4 mF] .ret) .skip)))) (rg [oN 25 (bc .add 14 1),oW 14 25]))))))) (sr [oN 4 mT] .ret))))⟩
structure Jv (T:Tb):Prop where
 hT:T 52=some CW
def Ey:Fn:=⟨2,26,[.tmp 4],(sr [oN 4 mF] (.seq (sr [oW 6 0,oN 7 (ln 6),oW 8 1,oN 9 (ln 8),oN 10 (bt .neq 7 9)] (cd 10 (sr [oN 4 mF] .ret) .skip)) (.seq (sr [oW 11 0,oN 12 (ln 11),oN 13 (.mM (cI 0))] (.block 0 (.loop (sr [oN 14 (bt .lss 13 12)] (.seq (cd 14 .skip (.exit 0)) (.seq (.block 1 (sr [oW 15 13,oW 5 15] (.seq (rt 0 [oW 16 0,oW 17 5,oA 18 0 (ix 1 16 17) [0,1],oA 19 0 (lF 1 18) [2],oW 20 1,oW 21 5,oA 22 0 (ix 1 20 21) [4,5],oA 23 0 (lF 1 22) [6],oA 24 0 (bt .neq 19 23) [3,7]]) (cd 24 (sr [oN 4 mF] .ret) .skip)))) (rg [oN 25 (bc .add 13 1),oW 13 25]))))))) (sr [oN 4 mT] .ret))))⟩
structure KO (T:Tb):Prop where
 hT:T 51=some Ey
def CX:Fn:=⟨2,28,[.tmp 4],(.seq (rf 2 [oN 2 (.box (.t 0)),oK 3 1 (.box (.t 1)),oK 4 2 mF]) (sr [oN 5 (fd 0 2),oN 6 (fd 0 5),oN 7 (lF 1 6),oN 8 (fd 0 3),oN 9 (fd 0 8),oN 10 (lF 1 9),oN 11 (.beq false (.t 7) (.t 10)),oW 12 11,oG 12 true 13 (fd 0 2),oG 12 true 14 (fd 1 13),oG 12 true 15 (lF 1 14),oG 12 true 16 (fd 0 3),oG 12 true 17 (fd 1 16),oG 12 true 18 (lF 1 17),oG 12 true 19 (cl 52 [15,18]),oN 20 (.pick (.t 12) (.t 19) (.c (.bool false))),oW 21 20,oG 21 true 22 (fd 2 2),oG 21 true 23 (lF 1 22),oG 21 true 24 (fd 2 3),oG 21 true 25 (lF 1 24),oG 21 true 26 (cl 52 [23,25]),oN 27 (.pick (.t 21) (.t 26) (.c (.bool false))),oW 4 27] .ret))⟩
structure Jw (T:Tb):Prop where
 hT:T 32=some CX
 Xf:Jv T
def CY:Fn:=⟨2,28,[.tmp 4],(.seq (rf 2 [oN 2 (.box (.t 0)),oK 3 1 (.box (.t 1)),oK 4 2 mF]) (sr [oN 5 (fd 0 2),oN 6 (fd 0 5),oN 7 (lF 1 6),oN 8 (fd 0 3),oN 9 (fd 0 8),oN 10 (lF 1 9),oN 11 (.beq false (.t 7) (.t 10)),oW 12 11,oG 12 true 13 (fd 0 2),oG 12 true 14 (fd 1 13),oG 12 true 15 (lF 1 14),oG 12 true 16 (fd 0 3),oG 12 true 17 (fd 1 16),oG 12 true 18 (lF 1 17),oG 12 true 19 (cl 51 [15,18]),oN 20 (.pick (.t 12) (.t 19) (.c (.bool false))),oW 21 20,oG 21 true 22 (fd 2 2),oG 21 true 23 (lF 1 22),oG 21 true 24 (fd 2 3),oG 21 true 25 (lF 1 24),oG 21 true 26 (cl 51 [23,25]),oN 27 (.pick (.t 21) (.t 26) (.c (.bool false))),oW 4 27] .ret))⟩
structure Jy (T:Tb):Prop where
 hT:T 30=some CY
 YW:KO T
theorem agJ{T:Tb}(h:Jv T){a b:List Int}(hl:a.length≤9223372036854775807:=by exact lX)(hb:b.length≤9223372036854775807:=by exact lX):PF T 52 [ints a,ints b] (.bool (decide (a=b))):=by
 refine kQ nR h.hT ?_;simp only [CW,Lz];refine ev ?_;refine kD (fun h1=>?_) fun h1=>?_<;>(refine ev1 @h1 ?_;try with_reducible exact True.intro)
 ·have h1:a.length=b.length:=by omega
  refine kG (fun _ _=>false) (α:=Nat) (fun i=>⟨kX [ints a,ints b,.any,.any,.any,.any,.any,.any,.any,.any,.any,.any,ints a,iv (a.length:Nat),iv (i:Nat)],[],0,0,[],[]⟩) (fun i=>i≤a.length∧∀j,j<i→a.getD j 0=b.getD j 0) (fun i=>a.length-i) rfl 0 ?_ ?_ ?_
  ·exact⟨by omega,by intro j hj;omega⟩
  ·(refine jW ?_;exact zX)
  rintro i ⟨hi,hj⟩;refine ev ?_;refine kD (fun h2=>?_) fun h2=>?_<;>(refine ev1 @h2 ?_;try with_reducible exact True.intro)
  ·refine kD (fun h3=>?_) fun h3=>?_<;>(refine ev1 @h3 ?_;try with_reducible exact True.intro)
   ·refine⟨i+1,by omega,⟨by omega,fun j hj'=>?_⟩,by (refine jW ?_;exact zX)⟩;by_cases e:j=i
    ·subst e;exact h3
    exact hj j (by omega)
   have:¬a=b:=fun e=>h3 (by rw [e]);simp [this]
  have:a=b:=NV h1 fun j h=>hj j (by omega);simp [this]
 have:¬a=b:=fun e=>h1 (by rw [e]);simp [this]
theorem ajW{T:Tb}(h:KO T){a b:List Int}(hl:a.length≤9223372036854775807:=by exact lX)(hb:b.length≤9223372036854775807:=by exact lX):PF T 51 [ints a,ints b] (.bool (decide (a=b))):=by
 refine kQ nR h.hT ?_;simp only [Ey,Lz];refine ev ?_;refine kD (fun h1=>?_) fun h1=>?_<;>(refine ev1 @h1 ?_;try with_reducible exact True.intro)
 ·have h1:a.length=b.length:=by omega
  refine kG (fun _ _=>false) (α:=Nat) (fun i=>⟨kX [ints a,ints b,.any,.any,.any,.any,.any,.any,.any,.any,.any,ints a,iv (a.length:Nat),iv (i:Nat)],[],0,0,[],[]⟩) (fun i=>i≤a.length∧∀j,j<i→a.getD j 0=b.getD j 0) (fun i=>a.length-i) rfl 0 ?_ ?_ ?_
  ·exact⟨by omega,by intro j hj;omega⟩
  ·(refine jW ?_;exact zX)
  rintro i ⟨hi,hj⟩;refine ev ?_;refine kD (fun h2=>?_) fun h2=>?_<;>(refine ev1 @h2 ?_;try with_reducible exact True.intro)
  ·refine kD (fun h3=>?_) fun h3=>?_<;>(refine ev1 @h3 ?_;try with_reducible exact True.intro)
   ·refine⟨i+1,by omega,⟨by omega,fun j hj'=>?_⟩,by (refine jW ?_;exact zX)⟩;by_cases e:j=i
    ·subst e;exact h3
    exact hj j (by omega)
   have:¬a=b:=fun e=>h3 (by rw [e]);simp [this]
  have:a=b:=NV h1 fun j h=>hj j (by omega);simp [this]
 have:¬a=b:=fun e=>h1 (by rw [e]);simp [this]
theorem YX{T:Tb}(h:Jw T){y z:R}(hy:y.wf:=by exact lX)(hz:z.wf:=by exact lX):PF T 32 [kN y,kN z] (.bool (decide (y=z))):=by
 obtain⟨w1,w2⟩:=hy;obtain⟨w3,w4⟩:=hz;refine kQ nR h.hT ?_;simp only [CX,Lz];refine ev ?_
 repeat' (first|((refine kD (fun hb=>?_) fun hb=>?_)<;>(try (refine ev1 @hb ?_;try with_reducible exact True.intro)))|((refine jy (agJ h.Xf) ?_)<;>(try (refine ev ?_;try with_reducible exact True.intro))))
 all_goals (cases y;cases z;simp_all)
theorem YZ{T:Tb}(h:Jy T){y z:R}(hy:y.wf:=by exact lX)(hz:z.wf:=by exact lX):PF T 30 [kN y,kN z] (.bool (decide (y=z))):=by
 obtain⟨w1,w2⟩:=hy;obtain⟨w3,w4⟩:=hz;refine kQ nR h.hT ?_;simp only [CY,Lz];refine ev ?_
 repeat' (first|((refine kD (fun hb=>?_) fun hb=>?_)<;>(try (refine ev1 @hb ?_;try with_reducible exact True.intro)))|((refine jy (ajW h.YW) ?_)<;>(try (refine ev ?_;try with_reducible exact True.intro))))
 all_goals (cases y;cases z;simp_all)
def mJ:Fn:=⟨1,86,[.tmp 2],(.seq (rf 1 [oN 1 (.box (.t 0)),oK 2 1 mF]) (.seq (sr [oN 6 (fd 0 1),oN 7 (lF 1 6),oN 8 (bc .lss 7 1),oW 9 8,oG 9 false 10 (fd 0 1),oG 9 false 11 (lF 1 10),oG 9 false 12 (bc .geq 11 10),oN 13 (.pick (.t 9) (.c (.bool true)) (.t 12)),oW 14 13,oG 14 false 15 (fd 1 1),oG 14 false 16 (lT 3 15),oG 14 false 17 (cl 101 [16]),oG 14 false 18 (bc .leq 17 0),oN 19 (.pick (.t 14) (.c (.bool true)) (.t 18)),oW 20 19,oG 20 false 21 (fd 4 1),oG 20 false 22 (lF 1 21),oG 20 false 23 (ln 22),oG 20 false 24 (bc .eql 23 0),oN 25 (.pick (.t 20) (.c (.bool true)) (.t 24))] (cd 25 (sr [oN 2 mF] .ret) .skip)) (.seq (rf 1 [oK 26 1 (.call 39 [(cI 0)]),oN 3 (.alloc qL),⟨none,none,1,.store 3 (.t 3) (.t 26),[]⟩]) (.seq (sr [oN 27 (fd 4 1),oN 28 (lF 1 27),oN 29 (ln 28),oN 30 (.mM (cI 0))] (.block 0 (.loop (sr [oN 31 (bt .lss 30 29)] (.seq (cd 31 .skip (.exit 0)) (.seq (.block 1 (.seq (rf 1 [oK 32 1 (oV 30),oK 33 1 (ix 10 28 30),oK 34 1 (lT 10 33),oN 5 (.alloc VG),oK 4 1 (oV 32),⟨none,none,1,.store 10 (.t 5) (.t 34),[]⟩]) (.seq (.seq (rt 0 [oN 35 (fd 0 5),oA 36 0 (lF 1 35) [0],oA 37 0 (cl 37 [36]) [1],oA 38 0 (nt 37) [2],oA 39 0 (oV 38) [3,2],oH 39 false 40 0 (fd 0 5) [4],oH 39 false 41 0 (lF 1 40) [5,4],oH 39 false 42 0 (fd 0 1) [4],oH 39 false 43 0 (lF 1 42) [7,4],oH 39 false 44 0 (bt .eql 41 43) [6,8,4],oA 45 0 (.pick (.t 39) (.c (.bool true)) (.t 44)) [4,9],oA 46 0 (oV 45) [10,4],oH 46 false 47 0 (oV 4) [11],oH 46 false 48 0 (bc .gtr 47 0) [12,11],oH 46 false 49 0 (oV 48) [13,11,11],oH 49 true 50 0 (fd 4 1) [14],oH 49 true 51 0 (lF 1 50) [15,14],oH 49 true 52 0 (oV 4) [14],oH 49 true 53 0 (bc .sub 52 1) [17,14],oH 49 true 54 0 (ix 10 51 53) [16,18,14],oH 49 true 55 0 (fd 0 54) [19,14],oH 49 true 56 0 (lF 1 55) [20,14],oH 49 true 57 0 (fd 0 5) [14],oH 49 true 58 0 (lF 1 57) [22,14],oH 49 true 59 0 (bt .geq 56 58) [21,23,14],oH 46 false 60 0 (.pick (.t 49) (.t 59) (.c (.bool false))) [14,24,11],oA 61 0 (.pick (.t 46) (.c (.bool true)) (.t 60)) [11,25]]) (cd 61 (sr [oN 2 mF] .ret) .skip)) (.seq (sr [oN 62 (fd 1 5),oN 63 (lT 3 62),oN 64 (cl 101 [63]),oN 65 (bc .leq 64 0),oW 66 65,oG 66 false 67 (fd 4 5),oG 66 false 68 (lT 3 67),oG 66 false 69 (cl 102 [68]),oG 66 false 70 (nt 69),oN 71 (.pick (.t 66) (.c (.bool true)) (.t 70)),oW 72 71,oG 72 false 73 (fd 7 5),oG 72 false 74 (lT 3 73),oG 72 false 75 (cl 102 [74]),oG 72 false 76 (nt 75),oN 77 (.pick (.t 72) (.c (.bool true)) (.t 76))] (cd 77 (sr [oN 2 mF] .ret) .skip)) (rg [oN 78 (lT 3 3),oN 79 (fd 1 5),oN 80 (lT 3 79),oN 81 (cl 131 [78,80]),oS (.store 3 (.t 3) (.t 81))]))))) (rg [oN 82 (bc .add 30 1),oW 30 82]))))))) (.seq (rt 0 [oN 83 (lT 3 3),oN 84 (.call 39 [(cI 1)]),oA 85 0 (cl 32 [83,84]) [0,1,1],oA 2 0 (oV 85) [2,2,0,1,2]]) .ret)))))⟩
structure pJ (T:Tb):Prop where
 hT:T 185=some mJ
 Xg:Jw T
 IC:IB T
 lG:oP T
 Em:Eh T
 rU:Ag T
 lC:nJ T
def qU:Fn:=⟨1,85,[.tmp 2],(.seq (rf 1 [oN 1 (.box (.t 0)),oK 2 1 mF]) (.seq (rf 1 [oK 6 1 (.call 36 [(cI 0)]),oN 3 (.alloc qL),⟨none,none,1,.store 3 (.t 3) (.t 6),[]⟩]) (.seq (sr [oN 7 (fd 4 1),oN 8 (lF 1 7),oN 9 (ln 8),oN 10 (.mM (cI 0))] (.block 0 (.loop (sr [oN 11 (bt .lss 10 9)] (.seq (cd 11 .skip (.exit 0)) (.seq (.block 1 (.seq (rf 1 [oK 12 1 (oV 10),oK 13 1 (ix 10 8 10),oK 14 1 (lT 10 13),oN 5 (.alloc VG),oK 4 1 (oV 12),⟨none,none,1,.store 10 (.t 5) (.t 14),[]⟩]) (.seq (.seq (rt 0 [oN 15 (fd 0 5),oA 16 0 (lF 1 15) [0],oA 17 0 (cl 34 [16]) [1],oA 18 0 (nt 17) [2],oA 19 0 (oV 18) [3,2],oH 19 false 20 0 (fd 0 5) [4],oH 19 false 21 0 (lF 1 20) [5,4],oH 19 false 22 0 (fd 0 1) [4],oH 19 false 23 0 (lF 1 22) [7,4],oH 19 false 24 0 (bt .eql 21 23) [6,8,4],oA 25 0 (.pick (.t 19) (.c (.bool true)) (.t 24)) [4,9],oA 26 0 (oV 25) [10,4],oH 26 false 27 0 (oV 4) [11],oH 26 false 28 0 (bc .gtr 27 0) [12,11],oH 26 false 29 0 (oV 28) [13,11,11],oH 29 true 30 0 (fd 4 1) [14],oH 29 true 31 0 (lF 1 30) [15,14],oH 29 true 32 0 (oV 4) [14],oH 29 true 33 0 (bc .sub 32 1) [17,14],oH 29 true 34 0 (ix 10 31 33) [16,18,14],oH 29 true 35 0 (fd 0 34) [19,14],oH 29 true 36 0 (lF 1 35) [20,14],oH 29 true 37 0 (fd 0 5) [14],oH 29 true 38 0 (lF 1 37) [22,14],oH 29 true 39 0 (bt .geq 36 38) [21,23,14],oH 26 false 40 0 (.pick (.t 29) (.t 39) (.c (.bool false))) [14,24,11],oA 41 0 (.pick (.t 26) (.c (.bool true)) (.t 40)) [11,25],oA 42 0 (oV 41) [26,14],oH 42 false 43 0 (fd 1 5) [27],oH 42 false 44 0 (lT 3 43) [28,27],oH 42 false 45 0 (cl 99 [44]) [29,27,27],oH 42 false 46 0 (bc .leq 45 0) [30,27],oA 47 0 (.pick (.t 42) (.c (.bool true)) (.t 46)) [27,31],oA 48 0 (oV 47) [32,30],oH 48 false 49 0 (fd 4 5) [33],oH 48 false 50 0 (lT 3 49) [34,33],oH 48 false 51 0 (cl 100 [50]) [35,33,33],oH 48 false 52 0 (nt 51) [36,33],oA 53 0 (.pick (.t 48) (.c (.bool true)) (.t 52)) [33,37],oA 54 0 (oV 53) [38,36],oH 54 false 55 0 (fd 7 5) [39],oH 54 false 56 0 (lT 3 55) [40,39],oH 54 false 57 0 (cl 100 [56]) [41,39,39],oH 54 false 58 0 (nt 57) [42,39],oA 59 0 (.pick (.t 54) (.c (.bool true)) (.t 58)) [39,43]]) (cd 59 (sr [oN 2 mF] .ret) .skip)) (rg [oN 60 (lT 3 3),oN 61 (fd 1 5),oN 62 (lT 3 61),oN 63 (cl 189 [60,62]),oS (.store 3 (.t 3) (.t 63))])))) (rg [oN 64 (bc .add 10 1),oW 10 64]))))))) (.seq (rt 0 [oN 65 (fd 0 1),oA 66 0 (lF 1 65) [0],oA 67 0 (.call 35 [(.t 66),(cI 1),(cI 9)]) [1],oA 68 0 (oV 67) [2,2],oH 68 true 69 0 (fd 1 1) [3],oH 68 true 70 0 (lT 3 69) [4,3],oH 68 true 71 0 (cl 99 [70]) [5,3,3],oH 68 true 72 0 (bc .gtr 71 0) [6,3],oA 73 0 (.pick (.t 68) (.t 72) (.c (.bool false))) [3,7],oA 74 0 (oV 73) [8,6],oH 74 true 75 0 (fd 4 1) [9],oH 74 true 76 0 (lF 1 75) [10,9],oH 74 true 77 0 (ln 76) [11,9],oH 74 true 78 0 (bc .gtr 77 0) [12,9],oA 79 0 (.pick (.t 74) (.t 78) (.c (.bool false))) [9,13],oA 80 0 (oV 79) [14,9],oH 80 true 81 0 (lT 3 3) [15],oH 80 true 82 0 (.call 36 [(cI 1)]) [15,15],oH 80 true 83 0 (cl 30 [81,82]) [16,17,17,15],oA 84 0 (.pick (.t 80) (.t 83) (.c (.bool false))) [15,18],oA 2 0 (oV 84) [19,18,0,1,2,3,4,5,6,7,8,9,10,11,12,13,14,15,16,17,18,19]]) .ret))))⟩
structure pK (T:Tb):Prop where
 hT:T 294=some qU
 Xh:Jy T
 En:Ej T
 xK:Ae T
 kZ:nU T
 Eo:Ee T
 kS:oz T
 lJ:pY T
theorem arK(a:Int):nd a=inB a 0 9:=rfl
theorem agK{a b:St}(h:Fg a b:=by
 (refine KH [(0,_),(1,_)] (by simp) (by intro p hp;simp only [aH,bV,or_false]at hp;rcases hp with rfl|rfl<;>refine⟨rfl,?_⟩<;>first|exact pF _|simp [l7,V.still]) rfl ?_)<;>(try (refine ev ?_;try with_reducible exact True.intro))<;>(repeat' (first|exact True.intro|omega|exact nP rfl (by simp)|refine⟨?_,?_⟩|exact of_eq_true (tH _ _ _)|exact lY rfl (by simp;done)|exact lY rfl rfl|(refine mW rfl ?_ rfl;simp [kF];done)|(refine mW rfl ?_ rfl;simp [kF];omega)|(refine tJ ?_ ?_;(focus ((refine ev ?_;try with_reducible exact True.intro);done));(intro q hq k s0 l0;simp;done))))):Fg a b:=h
theorem uV{T:Tb}(h:pJ T){c:Cd}(hw:c.wf:=by exact lX):PF T 185 [TQ c] (.bool (rD c)):=by
 obtain⟨w1,w2⟩:=hw;have hlen:=w2.1;have cs:=SY h.Em (r:=c.total) w1;have c0:=Nj h.lG (n:=0) (by omega);have c1:=Nj h.lG (n:=1) (by omega);have ceq:=YX h.Xg (y:=LX c.ps c.ps.length) (z:=kR 1) (mP (MH _ _)) (mP (Ef (by decide)));by_cases k1:c.node<1
 ·have:rD c=false:=by unfold rD inB;rw [decide_eq_false (show ¬1≤c.node by omega)];simp
  rw [this];refine kQ nR h.hT ?_;simp only [mJ,Lz];refine ev ?_
  (refine ev1 @k1 ?_;try with_reducible exact True.intro)
 by_cases k2:10≤c.node
 ·have:rD c=false:=by unfold rD inB;rw [decide_eq_false (show ¬c.node≤9 by omega)];simp
  rw [this];refine kQ nR h.hT ?_;simp only [mJ,Lz];refine ev ?_
  (refine qW @k1 @k2 ?_;try with_reducible exact True.intro)
 have e1:inB c.node 1 9=true:=by unfold inB;rw [decide_eq_true (show 1≤c.node by omega),decide_eq_true (show c.node≤9 by omega)];rfl
 by_cases k3:wP c.total.q≤0
 ·have:rD c=false:=by unfold rD BH;rw [decide_eq_false (show ¬0<wP c.total.q by omega)];simp
  rw [this];refine kQ nR h.hT ?_;simp only [mJ,Lz];refine ev ?_;refine qW @k1 @k2 ?_;refine jy cs ?_
  (refine ev1 @k3 ?_;try with_reducible exact True.intro)
 have e2:decide (0<BH c.total)=true:=decide_eq_true (by unfold BH;omega);by_cases k4:((c.ps.length:Nat):Int)=0
 ·have e:c.ps=[]:=bf (by omega);have:rD c=false:=by unfold rD;rw [e];simp
  rw [this];refine kQ nR h.hT ?_;simp only [mJ,Lz];refine ev ?_;refine qW @k1 @k2 ?_;refine jy cs ?_
  (refine qW @k3 @k4 ?_;try with_reducible exact True.intro)
 have e3:c.ps.isEmpty=false:=by cases hp:c.ps with
  |nil=>rw [hp]at k4;simp at k4
  |cons x l=>rfl
 refine kQ nR h.hT ?_;simp only [mJ,Lz];refine ev ?_;refine qW @k1 @k2 ?_;refine jy cs ?_;refine qW @k3 @k4 ?_;refine jy c0 ?_;refine ev ?_;refine kG (fun _ _=>false) (α:=Nat) (fun i=>⟨kX [.any,.ptr 0 0 0,.bool false,.ptr 1 0 0,.any,.any,.any,.any,.any,.any,.any,.any,.any,.any,.any,.any,.any,.any,.any,.any,.any,.any,.any,.any,.any,.any,.any,.any,xJ c.ps,iv (c.ps.length:Nat),iv (i:Nat)],[some ⟨5,[c.cells]⟩,some ⟨3,[(LX c.ps i).cells]⟩],0,0,[],[]⟩) (fun i=>i≤c.ps.length∧∀j,j<i→Ew c j=true) (fun i=>c.ps.length-i) rfl 0 ?_ ?_ ?_
 ·exact⟨by omega,by intro j hj;omega⟩
 ·(refine jW ?_)<;>(try (refine ev1 @agH ?_;try with_reducible exact True.intro))<;>(repeat' (first|refine⟨?_,?_⟩|exact vH (by omega)|exact xH (by simp)|exact vI _))
 rintro i ⟨hi,hj⟩;refine ev ?_;refine kD (fun hc=>?_) fun hc=>?_<;>(refine qW @hc @mg ?_;try with_reducible exact True.intro)
 ·have hil:i<c.ps.length:=by omega
  have hwp:=w2.at_ hil;have es:=(agI c.ps hil).symm;obtain⟨p,hp⟩:∃p,c.ps.getD i default=p:=⟨_,rfl⟩;obtain⟨q,hq⟩:∃q,c.ps.getD (i-1) default=q:=⟨_,rfl⟩;rw [hp]at hwp es ⊢;have cn:=YV h.IC (a:=p.node);rw [arK]at cn;have csh:=SY h.Em (r:=p.share) hwp.1;have cdx:=OJ h.rU (r:=p.dx) hwp.2.1;have cdy:=OJ h.rU (r:=p.dy) hwp.2.2;refine jy cn ?_
  cases b1:inB p.node 0 9
  ·refine ev ?_;rw [show rD c=false from yR hil (by unfold Ew;rw [hp,b1];simp)]
  refine ev ?_;by_cases b2:p.node=c.node
  ·refine ev1 @b2 ?_;rw [show rD c=false from yR hil (by unfold Ew;rw [hp,decide_eq_true b2];simp)]
  have q2:decide (p.node=c.node)=false:=decide_eq_false b2;by_cases h0:i=0
  ·have h0':¬(0:Int)<(i:Nat):=by omega
   have q3:(decide (i=0)||decide ((c.ps.getD (i-1) default).node<p.node))=true:=by rw [decide_eq_true h0];rfl
   refine qW @b2 @h0' ?_;refine jy csh ?_;by_cases b4:wP p.share.q≤0
   ·refine ev1 @b4 ?_;rw [show rD c=false from yR hil (by unfold Ew;rw [hp,decide_eq_false (show ¬0<BH p.share by unfold BH;omega)];simp)]
   have q4:decide (0<BH p.share)=true:=decide_eq_true (by unfold BH;omega);have Qu:=DX h.lC (r:=LX c.ps i) (s:=p.share) (MH _ _) (zH (XJ (of_decide_eq_true q4)));rw [es]at Qu;refine ev1 @b4 ?_;refine jy cdx ?_
   cases b5:p.dx.ok
   ·refine ev1 @b4 ?_;rw [show rD c=false from yR hil (by unfold Ew;rw [hp,b5];simp)]
   refine ev1 @b4 ?_;refine jy cdy ?_
   cases b6:p.dy.ok
   ·refine ev1 @b4 ?_;rw [show rD c=false from yR hil (by unfold Ew;rw [hp,b6];simp)]
   refine ev1 @b4 ?_;refine jy Qu ?_;refine ev ?_;refine⟨i+1,by omega,⟨by omega,fun j hj'=>?_⟩,by exact agK⟩;by_cases e:j=i
   ·subst e;unfold Ew;rw [hp,b1,b5,b6,q4,q2,q3];rfl
   exact hj j (by omega)
  have h0':(0:Int)<(i:Nat):=by omega
  have e1:((i:Int)-1).toNat=i-1:=by omega
  by_cases b3:p.node≤q.node
  ·refine ev6 @b2 @h0' @mg @e1 @hq @b3 ?_;rw [show rD c=false from yR hil (by unfold Ew;rw [hp,hq,decide_eq_false h0,decide_eq_false (show ¬q.node<p.node by omega)];simp)]
  have q3:(decide (i=0)||decide ((c.ps.getD (i-1) default).node<p.node))=true:=by rw [hq,decide_eq_false h0,decide_eq_true (show q.node<p.node by omega)];rfl
  refine ev6 @b2 @h0' @mg @e1 @hq @b3 ?_;refine jy csh ?_;by_cases b4:wP p.share.q≤0
  ·refine ev1 @b4 ?_;rw [show rD c=false from yR hil (by unfold Ew;rw [hp,decide_eq_false (show ¬0<BH p.share by unfold BH;omega)];simp)]
  have q4:decide (0<BH p.share)=true:=decide_eq_true (by unfold BH;omega);have Qu:=DX h.lC (r:=LX c.ps i) (s:=p.share) (MH _ _) (zH (XJ (of_decide_eq_true q4)));rw [es]at Qu;refine ev1 @b4 ?_;refine jy cdx ?_
  cases b5:p.dx.ok
  ·refine ev1 @b4 ?_;rw [show rD c=false from yR hil (by unfold Ew;rw [hp,b5];simp)]
  refine ev1 @b4 ?_;refine jy cdy ?_
  cases b6:p.dy.ok
  ·refine ev1 @b4 ?_;rw [show rD c=false from yR hil (by unfold Ew;rw [hp,b6];simp)]
  refine ev1 @b4 ?_;refine jy Qu ?_;refine ev ?_;refine⟨i+1,by omega,⟨by omega,fun j hj'=>?_⟩,by exact agK⟩;by_cases e:j=i
  ·subst e;unfold Ew;rw [hp,b1,b5,b6,q4,q2,q3];rfl
  exact hj j (by omega)
 have ei:i=c.ps.length:=by omega
 subst ei;rw [amu fun j hj'=>hj j hj',e1,e2,e3];refine ev ?_;refine jy c1 ?_;refine ev ?_;refine jy ceq ?_
 (refine ev ?_;try with_reducible exact True.intro)
theorem yS{T:Tb}(h:pK T){c:Cd}(hw:c.wf:=by exact lX):PF T 294 [TQ c] (.bool (rD c)):=by
 obtain⟨w1,w2⟩:=hw;have hlen:=w2.1;have cs:=SX h.Eo (r:=c.total) w1;have c0:=uw h.kZ (n:=0) (by omega);have c1:=uw h.kZ (n:=1) (by omega);have cin:=XE h.xK (a:=c.node) (b:=1) (c:=9);have ceq:=YZ h.Xh (y:=LX c.ps c.ps.length) (z:=kR 1) (mP (MH _ _)) (mP (Ef (by decide)));refine kQ nR h.hT ?_;simp only [qU,Lz];refine ev ?_;refine jy c0 ?_;refine ev ?_;refine kG (fun _ _=>false) (α:=Nat) (fun i=>⟨kX [.any,.ptr 0 0 0,.bool false,.ptr 1 0 0,.any,.any,.any,.any,xJ c.ps,iv (c.ps.length:Nat),iv (i:Nat)],[some ⟨5,[c.cells]⟩,some ⟨3,[(LX c.ps i).cells]⟩],0,0,[],[]⟩) (fun i=>i≤c.ps.length∧∀j,j<i→Ew c j=true) (fun i=>c.ps.length-i) rfl 0 ?_ ?_ ?_
 ·exact⟨by omega,by intro j hj;omega⟩
 ·(refine jW ?_)<;>(try (refine ev1 @agH ?_;try with_reducible exact True.intro))<;>(repeat' (first|refine⟨?_,?_⟩|exact vH (by omega)|exact xH (by simp)|exact vI _))
 rintro i ⟨hi,hj⟩;refine ev ?_;refine kD (fun hc=>?_) fun hc=>?_<;>(refine qW @hc @mg ?_;try with_reducible exact True.intro)
 ·have hil:i<c.ps.length:=by omega
  have hwp:=w2.at_ hil;have es:=(agI c.ps hil).symm;obtain⟨p,hp⟩:∃p,c.ps.getD i default=p:=⟨_,rfl⟩;obtain⟨q,hq⟩:∃q,c.ps.getD (i-1) default=q:=⟨_,rfl⟩;rw [hp]at hwp es ⊢;have cn:=VL h.En (a:=p.node);rw [arK]at cn;have csh:=SX h.Eo (r:=p.share) hwp.1;have cdx:=pG h.kS (r:=p.dx) hwp.2.1;have cdy:=pG h.kS (r:=p.dy) hwp.2.2;refine jy cn ?_
  cases b1:inB p.node 0 9
  ·refine ev ?_;rw [show rD c=false from yR hil (by unfold Ew;rw [hp,b1];simp)]
  refine ev ?_;by_cases b2:p.node=c.node
  ·refine ev1 @b2 ?_;rw [show rD c=false from yR hil (by unfold Ew;rw [hp,decide_eq_true b2];simp)]
  have q2:decide (p.node=c.node)=false:=decide_eq_false b2;by_cases h0:i=0
  ·have h0':¬(0:Int)<(i:Nat):=by omega
   have q3:(decide (i=0)||decide ((c.ps.getD (i-1) default).node<p.node))=true:=by rw [decide_eq_true h0];rfl
   refine qW @b2 @h0' ?_;refine jy csh ?_;by_cases b4:wP p.share.q≤0
   ·refine ev1 @b4 ?_;rw [show rD c=false from yR hil (by unfold Ew;rw [hp,decide_eq_false (show ¬0<BH p.share by unfold BH;omega)];simp)]
   have q4:decide (0<BH p.share)=true:=decide_eq_true (by unfold BH;omega);have Qu:=vw h.lJ (r:=LX c.ps i) (s:=p.share) (mP (MH _ _)) hwp.1;rw [es]at Qu;refine ev1 @b4 ?_;refine jy cdx ?_
   cases b5:p.dx.ok
   ·refine ev1 @b4 ?_;rw [show rD c=false from yR hil (by unfold Ew;rw [hp,b5];simp)]
   refine ev1 @b4 ?_;refine jy cdy ?_
   cases b6:p.dy.ok
   ·refine ev1 @b4 ?_;rw [show rD c=false from yR hil (by unfold Ew;rw [hp,b6];simp)]
   refine ev1 @b4 ?_;refine jy Qu ?_;refine ev ?_;refine⟨i+1,by omega,⟨by omega,fun j hj'=>?_⟩,by exact agK⟩;by_cases e:j=i
   ·subst e;unfold Ew;rw [hp,b1,b5,b6,q4,q2,q3];rfl
   exact hj j (by omega)
  have h0':(0:Int)<(i:Nat):=by omega
  have e1:((i:Int)-1).toNat=i-1:=by omega
  by_cases b3:p.node≤q.node
  ·refine ev6 @b2 @h0' @mg @e1 @hq @b3 ?_;rw [show rD c=false from yR hil (by unfold Ew;rw [hp,hq,decide_eq_false h0,decide_eq_false (show ¬q.node<p.node by omega)];simp)]
  have q3:(decide (i=0)||decide ((c.ps.getD (i-1) default).node<p.node))=true:=by rw [hq,decide_eq_false h0,decide_eq_true (show q.node<p.node by omega)];rfl
  refine ev6 @b2 @h0' @mg @e1 @hq @b3 ?_;refine jy csh ?_;by_cases b4:wP p.share.q≤0
  ·refine ev1 @b4 ?_;rw [show rD c=false from yR hil (by unfold Ew;rw [hp,decide_eq_false (show ¬0<BH p.share by unfold BH;omega)];simp)]
  have q4:decide (0<BH p.share)=true:=decide_eq_true (by unfold BH;omega);have Qu:=vw h.lJ (r:=LX c.ps i) (s:=p.share) (mP (MH _ _)) hwp.1;rw [es]at Qu;refine ev1 @b4 ?_;refine jy cdx ?_
  cases b5:p.dx.ok
  ·refine ev1 @b4 ?_;rw [show rD c=false from yR hil (by unfold Ew;rw [hp,b5];simp)]
  refine ev1 @b4 ?_;refine jy cdy ?_
  cases b6:p.dy.ok
  ·refine ev1 @b4 ?_;rw [show rD c=false from yR hil (by unfold Ew;rw [hp,b6];simp)]
  refine ev1 @b4 ?_;refine jy Qu ?_;refine ev ?_;refine⟨i+1,by omega,⟨by omega,fun j hj'=>?_⟩,by exact agK⟩;by_cases e:j=i
  ·subst e;unfold Ew;rw [hp,b1,b5,b6,q4,q2,q3];rfl
  exact hj j (by omega)
 have ei:i=c.ps.length:=by omega
 subst ei;rw [amu fun j hj'=>hj j hj'];have ein:(decide (1≤c.node)&&decide (c.node≤9))=inB c.node 1 9:=rfl;rw [ein]at cin;refine ev ?_;refine jy cin ?_
 cases inB c.node 1 9
 ·(refine ev ?_;try with_reducible exact True.intro)
 refine ev ?_;refine jy cs ?_;by_cases b4:0<wP c.total.q
 rotate_left
 ·rw [show decide (0<BH c.total)=false from decide_eq_false b4]
  (refine ev1 @b4 ?_;try with_reducible exact True.intro)
 rw [show decide (0<BH c.total)=true from decide_eq_true b4];by_cases b5:(0:Int)<((c.ps.length:Nat):Int)
 rotate_left
 ·have e3:c.ps.isEmpty=true:=by cases hp:c.ps with
   |nil=>rfl
   |cons x l=>rw [hp]at b5;simp at b5
  rw [e3]
  (refine qW @b4 @b5 ?_;try with_reducible exact True.intro)
 have e3:c.ps.isEmpty=false:=by cases hp:c.ps with
  |nil=>rw [hp]at b5;simp at b5
  |cons x l=>rfl
 rw [e3];refine qW @b4 @b5 ?_;refine jy c1 ?_;refine ev ?_;refine jy ceq ?_
 (refine qW @b4 @b5 ?_;try with_reducible exact True.intro)
mutual
def lM(σ:Store):V→V→List Nat→Prop
 |v,.sl sz rows,os=>(rows=[]∧v=.sl sz []∧os=[])∨∃o rows' os',v=.kP o 0 rows.length∧jH σ o=some ⟨sz,rows'⟩∧os=o::os'∧uX σ rows' rows os'
 |v,.agg cs,os=>∃cs',v=.agg cs'∧nI σ cs' cs os
 |v,.nK cs,os=>∃cs',v=.nK cs'∧nI σ cs' cs os
 |v,.any,os=>False
 |v,.one,os=>False
 |v,.int k n,os=>v=.int k n∧os=[]
 |v,.bool b,os=>v=.bool b∧os=[]
 |v,.str s,os=>v=.str s∧os=[]
 |v,.jL,os=>False
 |v,.kP _ _ _,os=>False
 |v,.ptr _ _ _,os=>False
 |v,.oZ _ _,os=>False
def nI(σ:Store):List V→List V→List Nat→Prop
 |vs,[],os=>vs=[]∧os=[]
 |vs,t::ts,os=>∃v vs' o1 o2,vs=v::vs'∧os=o1++o2∧lM σ v t o1∧nI σ vs' ts o2
def uX(σ:Store):List (List V)→List (List V)→List Nat→Prop
 |vs,[],os=>vs=[]∧os=[]
 |vs,t::ts,os=>∃v vs' o1 o2,vs=v::vs'∧os=o1++o2∧nI σ v t o1∧uX σ vs' ts o2
end
section
variable {σ σ' : Store}
theorem kK{o:Nat}{ob:Obj}(h:jH σ o=some ob):o<σ.length:=by
 rcases fG o σ.length with k|k
 ·exact k
 rw [jH,bn k]at h;cases h
mutual
theorem lM.lt:∀{t v:V} {os:List Nat},lM σ v t os→∀o∈os,o<σ.length
 |
  .sl sz rows,v,os,h=>by
  simp only [lM]at h;rcases h with ⟨_,_,rfl⟩|⟨o,rows',os',_,h2,rfl,h3⟩
  ·intro o ho;cases ho
  intro q hq;rcases aH.1 hq with rfl|hq
  ·exact kK h2
  exact uX.lt h3 q hq
 |.agg cs,v,os,h=>by simp only [lM]at h;obtain⟨cs',_,h⟩:=h;exact nI.lt h
 |.nK cs,v,os,h=>by simp only [lM]at h;obtain⟨cs',_,h⟩:=h;exact nI.lt h
 |.any,v,os,h=>by simp [lM]at h
 |.one,v,os,h=>by simp [lM]at h
 |.int ..,v,os,h=>by simp only [lM]at h;rw [h.2];intro o ho;cases ho
 |.bool _,v,os,h=>by simp only [lM]at h;rw [h.2];intro o ho;cases ho
 |.str _,v,os,h=>by simp only [lM]at h;rw [h.2];intro o ho;cases ho
 |.jL,v,os,h=>by simp [lM]at h
 |.kP ..,v,os,h=>by simp [lM]at h
 |.ptr ..,v,os,h=>by simp [lM]at h
 |.oZ ..,v,os,h=>by simp [lM]at h
theorem nI.lt:∀{ts vs:List V} {os:List Nat},nI σ vs ts os→∀o∈os,o<σ.length
 | [],vs,os,h=>by simp only [nI]at h;rw [h.2];intro o ho;cases ho
 |
  t::ts,vs,os,h=>by
  simp only [nI]at h;obtain⟨v,vs',o1,o2,_,rfl,h1,h2⟩:=h;intro o ho;rcases aO.1 ho with ho|ho
  ·exact lM.lt h1 o ho
  exact nI.lt h2 o ho
theorem uX.lt:∀{ts vs:List (List V)} {os:List Nat},uX σ vs ts os→∀o∈os,o<σ.length
 | [],vs,os,h=>by simp only [uX]at h;rw [h.2];intro o ho;cases ho
 |
  t::ts,vs,os,h=>by
  simp only [uX]at h;obtain⟨v,vs',o1,o2,_,rfl,h1,h2⟩:=h;intro o ho;rcases aO.1 ho with ho|ho
  ·exact nI.lt h1 o ho
  exact uX.lt h2 o ho
end
mutual
theorem lM.frame:∀{t v:V} {os:List Nat},lM σ v t os→(∀o∈os,jH σ' o=jH σ o)→lM σ' v t os
 |
  .sl sz rows,v,os,h,hf=>by
  simp only [lM]at h ⊢;rcases h with h|⟨o,rows',os',h1,h2,rfl,h3⟩
  ·exact .inl h
  exact .inr ⟨o,rows',os',h1,by rw [hf o (by simp)];exact h2,rfl,uX.frame h3 fun q hq=>hf q (by simp [hq])⟩
 |.agg cs,v,os,h,hf=>by simp only [lM]at h ⊢;obtain⟨cs',e,h⟩:=h;exact⟨cs',e,nI.frame h hf⟩
 |.nK cs,v,os,h,hf=>by simp only [lM]at h ⊢;obtain⟨cs',e,h⟩:=h;exact⟨cs',e,nI.frame h hf⟩
 |.any,v,os,h,_=>by simp [lM]at h
 |.one,v,os,h,_=>by simp [lM]at h
 |.int ..,v,os,h,_=>by simpa only [lM]using h
 |.bool _,v,os,h,_=>by simpa only [lM]using h
 |.str _,v,os,h,_=>by simpa only [lM]using h
 |.jL,v,os,h,_=>by simp [lM]at h
 |.kP ..,v,os,h,_=>by simp [lM]at h
 |.ptr ..,v,os,h,_=>by simp [lM]at h
 |.oZ ..,v,os,h,_=>by simp [lM]at h
theorem nI.frame:∀{ts vs:List V} {os:List Nat},nI σ vs ts os→(∀o∈os,jH σ' o=jH σ o)→nI σ' vs ts os
 | [],vs,os,h,_=>by simpa only [nI]using h
 |
  t::ts,vs,os,h,hf=>by
  simp only [nI]at h ⊢;obtain⟨v,vs',o1,o2,e,rfl,h1,h2⟩:=h;exact⟨v,vs',o1,o2,e,rfl,lM.frame h1 fun q hq=>hf q (by simp [hq]),nI.frame h2 fun q hq=>hf q (by simp [hq])⟩
theorem uX.frame:∀{ts vs:List (List V)} {os:List Nat},uX σ vs ts os→(∀o∈os,jH σ' o=jH σ o)→uX σ' vs ts os
 | [],vs,os,h,_=>by simpa only [uX]using h
 |
  t::ts,vs,os,h,hf=>by
  simp only [uX]at h ⊢;obtain⟨v,vs',o1,o2,e,rfl,h1,h2⟩:=h;exact⟨v,vs',o1,o2,e,rfl,nI.frame h1 fun q hq=>hf q (by simp [hq]),uX.frame h2 fun q hq=>hf q (by simp [hq])⟩
end
theorem lM.leaf{t v:V}{os:List Nat}(h:lM σ v t os)(hl:t.leaf=true):v.leaf=true:=by
 cases t<;>simp only [V.leaf]at hl<;>first|(cases hl;done)|skip
 all_goals simp only [lM]at h
 all_goals first|(cases h;done)|skip
 case int=>rw [h.1];rfl
 case bool=>rw [h.1];rfl
 case str=>rw [h.1];rfl
 case sl=>rcases h with ⟨_,rfl,_⟩|⟨_,_,_,rfl,_⟩<;>rfl
theorem uX.len:∀{ts vs:List (List V)} {os:List Nat},uX σ vs ts os→vs.length=ts.length
 | [],vs,os,h=>by simp only [uX]at h;simp [h.1]
 |
  t::ts,vs,os,h=>by
  simp only [uX]at h;obtain⟨v,vs',o1,o2,rfl,_,_,h2⟩:=h;simp [uX.len h2]
mutual
theorem lM.shift{n:Nat}(hn:∀o,jH σ' (n+o)=(jH σ o).map (qK (mV n))):∀{t v:V} {os:List Nat},lM σ v t os→lM σ' (lD (mV n) v) t (os.map (n + ·))
 |
  .sl sz rows,v,os,h=>by
  simp only [lM]at h ⊢;rcases h with ⟨h1,rfl,rfl⟩|⟨o,rows',os',rfl,h2,rfl,h3⟩
  ·exact .inl ⟨h1,rfl,rfl⟩
  exact .inr ⟨n+o,_,os'.map (n + ·),rfl,by rw [hn,h2];rfl,rfl,uX.shift hn h3⟩
 |.agg cs,v,os,h=>by simp only [lM]at h ⊢;obtain⟨cs',rfl,h⟩:=h;exact⟨_,rfl,nI.shift hn h⟩
 |.nK cs,v,os,h=>by simp only [lM]at h ⊢;obtain⟨cs',rfl,h⟩:=h;exact⟨_,rfl,nI.shift hn h⟩
 |.any,v,os,h=>by simp [lM]at h
 |.one,v,os,h=>by simp [lM]at h
 |.int ..,v,os,h=>by simp only [lM]at h ⊢;obtain⟨rfl,rfl⟩:=h;exact⟨rfl,rfl⟩
 |.bool _,v,os,h=>by simp only [lM]at h ⊢;obtain⟨rfl,rfl⟩:=h;exact⟨rfl,rfl⟩
 |.str _,v,os,h=>by simp only [lM]at h ⊢;obtain⟨rfl,rfl⟩:=h;exact⟨rfl,rfl⟩
 |.jL,v,os,h=>by simp [lM]at h
 |.kP ..,v,os,h=>by simp [lM]at h
 |.ptr ..,v,os,h=>by simp [lM]at h
 |.oZ ..,v,os,h=>by simp [lM]at h
theorem nI.shift{n:Nat}(hn:∀o,jH σ' (n+o)=(jH σ o).map (qK (mV n))):∀{ts vs:List V} {os:List Nat},nI σ vs ts os→nI σ' (lD.MR (mV n) vs) ts (os.map (n + ·))
 | [],vs,os,h=>by simp only [nI]at h ⊢;obtain⟨rfl,rfl⟩:=h;exact⟨rfl,rfl⟩
 |
  t::ts,vs,os,h=>by
  simp only [nI]at h ⊢;obtain⟨v,vs',o1,o2,rfl,rfl,h1,h2⟩:=h;exact⟨_,_,_,_,rfl,by rw [bK],lM.shift hn h1,nI.shift hn h2⟩
theorem uX.shift{n:Nat}(hn:∀o,jH σ' (n+o)=(jH σ o).map (qK (mV n))):∀{ts vs:List (List V)} {os:List Nat},uX σ vs ts os→uX σ' (vs.map fun r=>r.map (lD (mV n))) ts (os.map (n + ·))
 | [],vs,os,h=>by simp only [uX]at h ⊢;obtain⟨rfl,rfl⟩:=h;exact⟨rfl,rfl⟩
 |
  t::ts,vs,os,h=>by
  simp only [uX]at h ⊢;obtain⟨v,vs',o1,o2,rfl,rfl,h1,h2⟩:=h;have hm:∀l:List V,lD.MR (mV n) l=l.map (lD (mV n)):=by
   intro l
   induction l with
   |nil=>rfl
   |cons x l ih=>simp only [lD.MR,bC,ih]
  exact⟨_,_,_,_,rfl,by rw [bK],by rw [show (fun r=>List.map (lD (mV n)) r) v=lD.MR (mV n) v from(hm v).symm];exact nI.shift hn h1,uX.shift hn h2⟩
end
def nZ:Nat→V→Prop
 |0,_=>False
 |n+1,.sl _ rows=>∀r∈rows,∀c∈r,nZ n c
 |n+1,.agg cs=>∀c∈cs,nZ n c
 |n+1,.nK cs=>∀c∈cs,nZ n c
 |_+1,_=>True
theorem OL:∀(n:Nat) {t v:V} {os:List Nat},lM σ v t os→nZ n t→resolve σ n v=some t
 |0,t,v,os,_,hd=>by simp [nZ]at hd
 |
  n+1,t,v,os,h,hd=>by
  have hl:∀(ts vs:List V) (os:List Nat),nI σ vs ts os→(∀c∈ts,nZ n c)→vs.mapM (resolve σ n)=some ts:=by
   intro ts
   induction ts with
   |nil=>intro vs os h _;simp only [nI]at h;rw [h.1];rfl
   |
    cons t ts ih =>
    intro vs os h hd;simp only [nI]at h;obtain⟨v,vs',o1,o2,rfl,rfl,h1,h2⟩:=h;rw [bD,OL n h1 (hd t (by simp)),ih vs' o2 h2 fun c hc=>hd c (by simp [hc])];rfl
  have hr:∀(ts vs:List (List V)) (os:List Nat),uX σ vs ts os→(∀r∈ts,∀c∈r,nZ n c)→(vs.mapM fun (r:List V)=>r.mapM (resolve σ n))=some ts:=by
   intro ts
   induction ts with
   |nil=>intro vs os h _;simp only [uX]at h;rw [h.1];rfl
   |
    cons t ts ih =>
    intro vs os h hd;simp only [uX]at h;obtain⟨v,vs',o1,o2,rfl,rfl,h1,h2⟩:=h;rw [bD,hl t v o1 h1 (hd t (by simp)),ih vs' o2 h2 fun c hc=>hd c (by simp [hc])];rfl
  cases t with
  |
   sl sz rows =>
   simp only [lM]at h;simp only [nZ]at hd;rcases h with ⟨rfl,rfl,_⟩|⟨o,rows',os',rfl,h2,_,h3⟩
   ·rfl
   rw [resolve];simp only [h2];have:=h3.len;rw [if_pos (by omega),bZ,aY (by omega),hr rows rows' os' h3 hd];rfl
  |
   agg cs =>
   simp only [lM]at h;obtain⟨cs',rfl,h⟩:=h;rw [resolve];rw [hl cs cs' os h hd];rfl
  |
   nK cs =>
   simp only [lM]at h;obtain⟨cs',rfl,h⟩:=h;rw [resolve];rw [hl cs cs' os h hd];rfl
  |any=>simp [lM]at h
  |one=>simp [lM]at h
  |int k i=>simp only [lM]at h;rw [h.1];rfl
  |bool b=>simp only [lM]at h;rw [h.1];rfl
  |str s=>simp only [lM]at h;rw [h.1];rfl
  |jL=>simp [lM]at h
  |kP=>simp [lM]at h
  |ptr=>simp [lM]at h
  |oZ=>simp [lM]at h
mutual
theorem lM.nT:∀{t v:V} {os:List Nat},lM σ v t os→nT v=true
 |
  .sl sz rows,v,os,h=>by
  simp only [lM]at h;rcases h with ⟨rfl,rfl,_⟩|⟨o,rows',os',rfl,_⟩<;>rfl
 |.agg cs,v,os,h=>by simp only [lM]at h;obtain⟨cs',rfl,h⟩:=h;simp only [Ml.nT];exact nI.nT h
 |.nK cs,v,os,h=>by simp only [lM]at h;obtain⟨cs',rfl,h⟩:=h;simp only [Ml.nT];exact nI.nT h
 |.any,v,os,h=>by simp [lM]at h
 |.one,v,os,h=>by simp [lM]at h
 |.int ..,v,os,h=>by simp only [lM]at h;rw [h.1];rfl
 |.bool _,v,os,h=>by simp only [lM]at h;rw [h.1];rfl
 |.str _,v,os,h=>by simp only [lM]at h;rw [h.1];rfl
 |.jL,v,os,h=>by simp [lM]at h
 |.kP ..,v,os,h=>by simp [lM]at h
 |.ptr ..,v,os,h=>by simp [lM]at h
 |.oZ ..,v,os,h=>by simp [lM]at h
theorem nI.nT:∀{ts vs:List V} {os:List Nat},nI σ vs ts os→nT.wM vs=true
 | [],vs,os,h=>by simp only [nI]at h;rw [h.1];rfl
 |
  t::ts,vs,os,h=>by
  simp only [nI]at h;obtain⟨v,vs',o1,o2,rfl,rfl,h1,h2⟩:=h;simp only [nT.wM,lM.nT h1,nI.nT h2,Bool.and_self]
end
end
end Go.Ml
end
section
namespace Go.Ml
mutual
theorem aeH{w:World}{D:DM}{X X':Nat→Prop}:∀(x:V) (v:Value),nT x=true→rd w D X x v→rd w D X' x v
 |
  .sl sz rows,v,h,hr=>by
  simp only [nT,List.isEmpty_iff]at h;subst h;simp only [rd]at hr ⊢;obtain⟨a,cap,h1,h2,_⟩:=hr;exact⟨a,cap,h1,h2,.inl (by trivial)⟩
 |
  .agg cs,v,h,hr=>by
  simp only [nT]at h;simp only [rd]at hr ⊢;obtain⟨a,rfl,hr⟩:=hr;exact⟨a,rfl,VO cs _ h hr⟩
 |
  .nK cs,v,h,hr=>by
  simp only [nT]at h;simp only [rd]at hr ⊢;obtain⟨a,rfl,hr⟩:=hr;exact⟨a,rfl,VO cs _ h hr⟩
 |.oZ ..,v,h,hr=>by simp [nT]at h
 |.any,_,_,_=>by simp [rd]
 |.one,v,h,hr=>by simpa only [rd]using hr
 |.int ..,v,h,hr=>by simpa only [rd]using hr
 |.bool _,v,h,hr=>by simpa only [rd]using hr
 |.str _,v,h,hr=>by simpa only [rd]using hr
 |.jL,v,h,hr=>by simpa only [rd]using hr
 |.kP ..,v,h,hr=>by simpa only [rd]using hr
 |.ptr ..,v,h,hr=>by simpa only [rd]using hr
theorem VO{w:World}{D:DM}{X X':Nat→Prop}:∀(xs:List V) (vs:List Value),nT.wM xs=true→pV w D X xs vs→pV w D X' xs vs
 | [],vs,_,hr=>by simpa only [pV]using hr
 |
  x::xs,vs,h,hr=>by
  simp only [nT.wM,aG]at h;simp only [pV]at hr ⊢;obtain⟨v,vs',rfl,k1,k2⟩:=hr;exact⟨v,vs',rfl,aeH x v h.1 k1,VO xs vs' h.2 k2⟩
end
mutual
theorem VP{g:Nat→Option Nat}:∀(x:V),nT x=true→nT (lD g x)=true
 |.sl sz rows,h=>by simpa only [lD]using h
 |.agg cs,h=>by simp only [nT,lD]at h ⊢;exact OM cs h
 |.nK cs,h=>by simp only [nT,lD]at h ⊢;exact OM cs h
 |.oZ ..,h=>by simp [nT]at h
 |.kP o s l,_=>by simp only [lD];split<;>rfl
 |.ptr o s l,_=>by simp only [lD];split<;>rfl
 |.any,_=>rfl
 |.one,_=>rfl
 |.int ..,_=>rfl
 |.bool _,_=>rfl
 |.str _,_=>rfl
 |.jL,_=>rfl
theorem OM{g:Nat→Option Nat}:∀(xs:List V),nT.wM xs=true→nT.wM (lD.MR g xs)=true
 | [],_=>rfl
 |
  x::xs,h=>by
  simp only [nT.wM,aG,lD.MR]at h ⊢;exact⟨VP x h.1,OM xs h.2⟩
end
theorem pR{σ σ':Store}{o:Nat}:jH (zo σ σ') o=if o<σ.length then jH σ o else(jH σ' (o-σ.length)).map (qK (mV σ.length)):=by
 unfold zo jH;by_cases h:o<σ.length
 ·rw [if_pos h,bH h]
 rw [if_neg h,bI (by omega),bG]
 cases σ'[o-σ.length]? <;> rfl
section
variable {P : Program} {ν : Nat → Option Nat} {nt : Nat} {M : Nat → Prop} {w0 : World} {D0 : DM} {st : St} {D : DM} {a : Act} {w : World}
theorem agL{x:qh}{f:Nat}{as:List Src}{as':List V}{r:V}{σ':Store}{R:List Nat}(hg:∀g want,x.g=some (g,want)→st.env g=.bool want)(hi:x.i=.call f as)
  (ha:as.mapM (fun s=>resolve st.objs FD (s.ev st.env))=some as') (ih:Sl P ν f as' [] r σ')
  (hR:R=if nT r&&Gg σ' then []else as.flatMap fun s=>reach st.objs FD (s.ev st.env)) :
  adW P ν x st { st with env:=oL st.env x.dst (lD (mV st.objs.length) r),objs:=zo (nH st.objs R) σ' }:=by
 have hlk:(nH st.objs R).length=st.objs.length:=KE R _;refine⟨rfl,rfl,by simp [zo,hlk],?_⟩;intro ops dr nt m k o htr M w0 D0 D a w hs _ K Q hK;obtain⟨t1,t2,t3,t4⟩:=Kt htr;rw [if_pos ((Gl hs t4).1 hg)];rw [hi]at t1;obtain⟨fid,xs,c1,c2,c3⟩:=L8 t1;have hrd:=Vw hs.store hs.env xs c2 ha (R:=as.flatMap fun s=>reach st.objs FD (s.ev st.env)) (fun o h=>h)
 let X':Nat→Prop:=fun b=>M b∨∃o d,D o=.live d∧d.blk=b∧o∉as.flatMap fun s=>reach st.objs FD (s.ev st.env)
 have hX:∀b,XS X' DM.none b→X' b:=by
  rintro b (h|⟨o,d,h,_⟩)
  ·exact h
  simp [DM.none]at h
 have hlt:∀b,X' b→b<w.heap.size:=by
  rintro b (h|⟨o,d,h,rfl,_⟩)
  ·exact hs.store.mlt b h
  obtain⟨_,_,_,_,_,_,_,_,h6,_⟩:=hs.store.live o d h;exact h6
 have hcall:=ih fid c1 w X' DM.none (xs.map a.eval).toArray (by simpa using Vx hrd hX)
  ⟨fun o d h=>by simp [DM.none]at h,fun o ob h=>by simp [jH]at h,fun o o' d d' h=>by simp [DM.none]at h,fun _ _=>rfl,hlt⟩
 refine Ua (c3 a w) (R:=fun v w'=>∃Dc,rd w' Dc (XS X' Dc) r v∧tY w' Dc X' σ'∧Gr (Own DM.none) w w'∧∀o d,Dc o=.live d→w.heap.size≤d.blk) (hcall.mono ?_) ?_
 ·rintro e w' ⟨v,D',rfl,h1,h2,h3,h4,_⟩;refine⟨v,rfl,D',h1,h2,h3,fun o d ho=>?_⟩;rcases h4 o d ho with ⟨_,_,h,_⟩|h
  ·simp [DM.none]at h
  exact h
 rintro v w' ⟨Dc,h1,h2,h3,h4⟩;have hsame:∀b,b<w.heap.size→w'.heap[b]? = w.heap[b]?:=fun b hb=>h3.block b hb (by rintro⟨o,d,h,_⟩;simp [DM.none]at h)
 let n:=st.objs.length
 let D':DM:=fun o=>if o<n then D.kill R o else Dc (o-n)
 have aag:∀o,o<n→D' o=D.kill R o:=fun o h=>by simp only [D',if_pos h]
 have dNew:∀j,D' (n+j)=Dc j:=fun j=>by simp only [D'];rw [if_neg (by omega)];congr 1;omega
 have Pj:∀o d,D' o=.live d→(o<n∧o∉R∧D o=.live d)∨(n≤o∧Dc (o-n)=.live d):=by
  intro o d ho;by_cases hon:o<n
  ·rw [aag o hon]at ho;obtain⟨k1,k2⟩:=Gn ho;exact .inl ⟨hon,k2,k1⟩
  simp only [D',if_neg hon]at ho;exact .inr ⟨by omega,ho⟩
 have E:Ext w D (XS M D) w' D' (XS M D'):=by
  refine⟨h3.size,fun b hb _=>hsame b hb,?_,?_⟩
  ·rintro b hb (h|⟨o,d,ho,rfl⟩)
   ·exact .inl h
   rcases Pj o d ho with ⟨_,_,k⟩|⟨_,k⟩
   ·exact .inr ⟨o,d,k,rfl⟩
   have:=h4 _ d k;omega
  intro o;by_cases hon:o<n
  ·rw [aag o hon];exact abR D R o
  rw [hs.store.far o (by omega)];trivial
 have adX:∀{x:V} {v:Value},((nT r&&Gg σ')=true→nT x=true)→rd w' Dc (XS X' Dc) x v→rd w' D' (XS M D') (lD (mV n) x) v:=by
  intro x v hx hr;have h:=Vt (D':=D') (g:=mV n) (fun j j' hj=>by simp only [mV,aC]at hj;subst hj;rw [dNew];exact uH.refl _) x v hr;by_cases hf:(nT r&&Gg σ')=true
  ·exact aeH _ _ (VP _ (hx hf)) h
  rw [if_neg hf]at hR;refine oq _ _ ⟨aP _,fun _ _ _=>rfl,fun b _ hb=>?_,fun _=>uH.refl _⟩ h;rcases hb with hb|⟨o,d,ho,rfl⟩
  ·exact .inl (.inl hb)
  rcases Pj o d ho with ⟨_,k2,k⟩|⟨_,k⟩
  ·exact .inl (.inr ⟨o,d,k,rfl,by rw [←hR];exact k2⟩)
  exact .inr ⟨_,d,k,rfl⟩
 have hcell:∀{j:Nat} {ob:Obj},jH σ' j=some ob→∀x∈ob.rows.flatten,((nT r&&Gg σ')=true→nT x=true):=by
  intro j ob hj x hx hf;simp only [aG,Gg,aZ]at hf;have hmem:some ob∈σ':=by
   unfold jH at hj
   cases hc:σ'[j]? with
   |none=>rw [hc]at hj;cases hj
   |some z=>rw [hc]at hj;simp at hj;subst hj;exact aS hc
  obtain⟨rw',hr1,hr2⟩:=List.mem_flatten.1 hx;have:=hf.2 _ hmem;simp only [aZ]at this;exact this rw' hr1 x hr2
 have hst:tY w' D' M (zo (nH st.objs R) σ'):=by
  refine⟨?_,?_,?_,?_,fun b hb=>aU (hs.store.mlt b hb) h3.size⟩
  ·intro o d ho;rcases Pj o d ho with ⟨k1,k2,k⟩|⟨k1,k⟩
   ·obtain⟨ob,c,e,g1,g2,g3,g4,g5,g6,g7,g8,g9,g10,g11⟩:=hs.store.live o d k;refine⟨ob,c,e,by rw [pR,hlk,if_pos k1,Gm,if_neg k2];exact g1,g2,g3,g4,g5,aU g6 h3.size,by rw [hsame _ g6];exact g7,g8,g9,g10,fun i x hi=>?_⟩;obtain⟨k0,y,j1,j2⟩:=g11 i x hi;exact⟨k0,y,j1,oq _ _ E j2⟩
   obtain⟨ob,c,e,g1,g2,g3,g4,g5,g6,g7,g8,g9,g10,g11⟩:=h2.live _ d k;refine⟨qK (mV n) ob,c,e,by rw [pR,hlk,if_neg (by omega),g1];rfl,g2,by simp [qK,g3],g4,fun hm=>g5 (.inl hm),g6,g7,g8,g9,?_,fun i x hi=>?_⟩
   ·intro rr hrr;simp only [qK,bM]at hrr;obtain⟨r0,hr0,rfl⟩:=hrr;simpa [qK]using g10 r0 hr0
   rw [Oy,bG,aI]at hi;obtain⟨x0,hx0,rfl⟩:=hi;obtain⟨k0,y,j1,j2⟩:=g11 i x0 hx0;exact⟨Yl k0,y,j1,adX (hcell g1 x0 (aS hx0)) j2⟩
  ·intro o ob ho;rw [pR,hlk]at ho;split at ho
   ·rename_i hon;rw [Gm]at ho;split at ho
    ·cases ho
    rename_i hR';obtain⟨d,hd⟩:=hs.store.alive o ob ho;exact⟨d,by rw [aag o hon];simp only [DM.kill,if_neg hR'];exact hd⟩
   rename_i hon;simp only [aI]at ho;obtain⟨ob0,ho,_⟩:=ho;obtain⟨d,hd⟩:=h2.alive _ ob0 ho;refine⟨d,?_⟩;show (if o<n then _ else _)=_;rw [if_neg hon];exact hd
  ·intro o o' d d' ho ho' hb;rcases Pj o d ho with ⟨a1,a2,a3⟩|⟨a1,a3⟩<;>rcases Pj o' d' ho' with ⟨b1,b2,b3⟩|⟨b1,b3⟩
   ·exact hs.store.inj o o' d d' a3 b3 hb
   ·obtain⟨_,_,_,_,_,_,_,_,g6,_⟩:=hs.store.live o d a3;have:=h4 _ d' b3;omega
   ·obtain⟨_,_,_,_,_,_,_,_,g6,_⟩:=hs.store.live o' d' b3;have:=h4 _ d a3;omega
   have:=h2.inj _ _ d d' a3 b3 hb;omega
  intro o ho;have hlo:n+σ'.length≤o:=by simpa [zo,hlk]using ho
  simp only [D'];rw [if_neg (by omega)];exact h2.far _ (by omega)
 rw [t2];refine hK D' _ w' ⟨Vr (fun t=>oq _ _ E (hs.env t)) (fun d hd=>by rw [hs.tm];exact t3 d (t2.trans hd)) (adX (fun hf=>by simp only [aG]at hf;exact hf.1) h1),?_,?_,hst,?_,?_,fun o ho=>(hs.kp o ho).trans (E.ds o)⟩ ?_
 ·rw [←hs.tm];cases x.dst<;>simp [Act.put]
 ·rw [←hs.df];cases x.dst<;>rfl
 ·exact hs.gr.trans (h3.mono fun b _ ⟨o,d,h,_⟩=>by simp [DM.none]at h)
 ·intro o d ho;rcases Pj o d ho with ⟨_,_,k⟩|⟨_,k⟩
  ·exact hs.fr o d k
  exact .inr (cZ hs.gr.size (h4 _ d k))
 intro o _ ho hu _;rw [aag o ho];simp only [DM.kill,hu];split<;>rfl
theorem abf{X:Nat→Prop}{env:Nat→V}(he:∀t,rd w D X (env t) (a.tmps.getD t undef)) :
  ∀(xs:List Operand) {as:List Src},Jk xs=some as→pV w D X (as.map fun s=>s.ev env) (xs.map a.eval)
 | [],as,h=>by simp only [Jk,aC]at h;subst h;simp [pV]
 |
  x::xs,as,h=>by
  simp only [Jk]at h;split at h<;>first|(cases h;done)|skip
  rename_i s r h1 h2;simp only [aC]at h;subst h;simp only [bC,pV];exact⟨_,_,rfl,ou he h1,abf he xs h2⟩
theorem agM{x:qh}{f:Nat}{as:List Src}{r:V}{σ':Store}(hg:∀g want,x.g=some (g,want)→st.env g=.bool want)(hi:x.i=.call f as)
  (ih:Sl P ν f (as.map fun s=>s.ev st.env) st.objs r σ') (hl:st.objs.length≤σ'.length) (hb:st.objs.length≤st.base) :
  adW P ν x st { st with env:=oL st.env x.dst r,objs:=σ' }:=by
 refine⟨rfl,rfl,hl,?_⟩;intro ops dr nt m k o htr M w0 D0 D a w hs _ K Q hK;obtain⟨t1,t2,t3,t4⟩:=Kt htr;rw [if_pos ((Gl hs t4).1 hg)];rw [hi]at t1;obtain⟨fid,xs,c1,c2,c3⟩:=L8 t1;have hcall:=ih fid c1 w M D (xs.map a.eval).toArray (by simpa using abf hs.env xs c2) hs.store;refine Ua (c3 a w) (R:=fun v w'=>∃D',rd w' D' (XS M D') r v∧tY w' D' M σ'∧Gr (Own D) w w'∧(∀o d,D' o=.live d→Own D d.blk∨w.heap.size≤d.blk)∧∀j,j<st.objs.length→uH (D j) (D' j)) (hcall.mono ?_) ?_
 ·rintro e w' ⟨v,D',rfl,h1,h2,h3,h4,h5⟩;exact⟨v,rfl,D',h1,h2,h3,h4,h5⟩
 rintro v w' ⟨D',h1,h2,h3,h4,h5⟩;have E:Ext w D (XS M D) w' D' (XS M D'):=by
  refine⟨h3.size,fun b hb hx=>h3.block b hb (fun ho=>hx (.inr ho)),?_,?_⟩
  ·rintro b hb (h|⟨o,d,ho,rfl⟩)
   ·exact .inl h
   rcases h4 o d ho with h|h
   ·exact .inr h
   omega
  intro o;rcases fG o st.objs.length with h|h
  ·exact h5 o h
  rw [hs.store.far o h];trivial
 rw [t2];refine hK D' _ w' ⟨Vr (fun t=>oq _ _ E (hs.env t)) (fun d hd=>by rw [hs.tm];exact t3 d (t2.trans hd)) h1,?_,?_,h2,?_,?_,fun o ho=>(hs.kp o ho).trans (E.ds o)⟩ ?_
 ·rw [←hs.tm];cases x.dst<;>simp [Act.put]
 ·rw [←hs.df];cases x.dst<;>rfl
 ·exact hs.gr.trans (h3.mono fun b _ ho=>by obtain⟨o,d,h,hb⟩:=ho;rw [←hb];exact hs.fr o d h)
 ·intro o d ho;rcases h4 o d ho with ⟨q,d',hq,hb⟩|h
  ·rw [←hb];exact hs.fr q d' hq
  exact .inr (cZ hs.gr.size h)
 intro o h1 h2 _ _;omega
theorem amv{W:P6}{f:Nat}{args args2:List V}{σ' σ2:Store}{r r2:V}(ha:uG args args2)(hs:ReS W σ' σ2)(hr:xG W σ' r r2)(ih:Sl P ν f args [] r σ'):Sl P ν f args2 [] r2 σ2:=by
 intro fid hf w M D vals h1 h2;refine(ih fid hf w M D vals (Ud _ _ _ _ _ ha h1) h2).mono ?_;rintro e w' ⟨v,D',rfl,k1,k2,k3,k4,k5⟩;refine⟨v,D'.win W 0,rfl,abY k2 hs.some _ _ _ hr k1,k2.re hs (dY _),k3,?_,fun o ho=>by simp at ho⟩;intro k d hk;obtain⟨o,s,l,d0,_,e2,rfl⟩:=KF hk;exact k4 o d0 e2
theorem ajX{f:Nat}{args args2:List V}{σ σ':Store}{r r2:V}(ha:uG args args2)(hr:lW r2 r)(ih:Sl P ν f args σ r σ'):Sl P ν f args2 σ r2 σ':=by
 intro fid hf w M D vals h1 h2;refine(ih fid hf w M D vals (Ud _ _ _ _ _ ha h1) h2).mono ?_;rintro e w' ⟨v,D',rfl,k1,k2⟩;exact⟨v,D',rfl,VE _ _ _ _ _ hr k1,k2⟩
end
end Go.Ml
end
section
namespace Go.Ml
section
variable {σ : Store} {ρ : List Nat}
mutual
theorem lM.gc{g:Nat→Nat}:∀{t v:V} {os:List Nat},lM σ v t os→(∀o∈os,place ρ o=some (g o)∧o∈ρ)→lM (NH ρ σ) (lD (place ρ) v) t (os.map g)
 |
  .sl sz rows,v,os,h,hg=>by
  simp only [lM]at h ⊢;rcases h with ⟨h1,rfl,rfl⟩|⟨o,rows',os',rfl,h2,rfl,h3⟩
  ·exact .inl ⟨h1,rfl,rfl⟩
  obtain⟨g1,g2⟩:=hg o (by simp);refine .inr ⟨g o,rows'.map fun r=>r.map (lD (place ρ)),os'.map g,by simp only [lD,g1],?_,rfl,uX.gc h3 fun q hq=>hg q (by simp [hq])⟩;rw [NK,qF g1];simp only [h2,bY];rfl
 |.agg cs,v,os,h,hg=>by simp only [lM]at h ⊢;obtain⟨cs',rfl,h⟩:=h;exact⟨_,rfl,nI.gc h hg⟩
 |.nK cs,v,os,h,hg=>by simp only [lM]at h ⊢;obtain⟨cs',rfl,h⟩:=h;exact⟨_,rfl,nI.gc h hg⟩
 |.any,v,os,h,_=>by simp [lM]at h
 |.one,v,os,h,_=>by simp [lM]at h
 |.int ..,v,os,h,_=>by simp only [lM]at h ⊢;obtain⟨rfl,rfl⟩:=h;exact⟨rfl,rfl⟩
 |.bool _,v,os,h,_=>by simp only [lM]at h ⊢;obtain⟨rfl,rfl⟩:=h;exact⟨rfl,rfl⟩
 |.str _,v,os,h,_=>by simp only [lM]at h ⊢;obtain⟨rfl,rfl⟩:=h;exact⟨rfl,rfl⟩
 |.jL,v,os,h,_=>by simp [lM]at h
 |.kP ..,v,os,h,_=>by simp [lM]at h
 |.ptr ..,v,os,h,_=>by simp [lM]at h
 |.oZ ..,v,os,h,_=>by simp [lM]at h
theorem nI.gc{g:Nat→Nat}:∀{ts vs:List V} {os:List Nat},nI σ vs ts os→(∀o∈os,place ρ o=some (g o)∧o∈ρ)→nI (NH ρ σ) (lD.MR (place ρ) vs) ts (os.map g)
 | [],vs,os,h,_=>by simp only [nI]at h ⊢;obtain⟨rfl,rfl⟩:=h;exact⟨rfl,rfl⟩
 |
  t::ts,vs,os,h,hg=>by
  simp only [nI]at h ⊢;obtain⟨v,vs',o1,o2,rfl,rfl,h1,h2⟩:=h;exact⟨_,_,_,_,rfl,by rw [bK],lM.gc h1 fun q hq=>hg q (by simp [hq]),nI.gc h2 fun q hq=>hg q (by simp [hq])⟩
theorem uX.gc{g:Nat→Nat}:∀{ts vs:List (List V)} {os:List Nat},uX σ vs ts os→(∀o∈os,place ρ o=some (g o)∧o∈ρ)→uX (NH ρ σ) (vs.map fun r=>r.map (lD (place ρ))) ts (os.map g)
 | [],vs,os,h,_=>by simp only [uX]at h ⊢;obtain⟨rfl,rfl⟩:=h;exact⟨rfl,rfl⟩
 |
  t::ts,vs,os,h,hg=>by
  simp only [uX]at h ⊢;obtain⟨v,vs',o1,o2,rfl,rfl,h1,h2⟩:=h;have hm:∀l:List V,lD.MR (place ρ) l=l.map (lD (place ρ)):=by
   intro l
   induction l with
   |nil=>rfl
   |cons x l ih=>simp only [lD.MR,bC,ih]
  exact⟨_,_,_,_,rfl,by rw [bK],by rw [show (fun r=>List.map (lD (place ρ)) r) v=lD.MR (place ρ) v from(hm v).symm];exact nI.gc h1 fun q hq=>hg q (by simp [hq]),uX.gc h2 fun q hq=>hg q (by simp [hq])⟩
end
theorem aco{cs:List V}:nT.wM cs=true↔∀c∈cs,nT c=true:=by
 induction cs with
 |nil=>simp [nT.wM]
 |cons c cs ih=>simp [nT.wM,ih]
mutual
theorem lM.objs:∀{t v:V} {os:List Nat},lM σ v t os→∀o∈os,∃ob,jH σ o=some ob∧∀r∈ob.rows,∀c∈r,nT c=true
 |
  .sl sz rows,v,os,h=>by
  simp only [lM]at h;rcases h with ⟨_,_,rfl⟩|⟨o,rows',os',_,h2,rfl,h3⟩
  ·intro o ho;cases ho
  intro q hq;rcases aH.1 hq with rfl|hq
  ·exact⟨_,h2,uX.nT h3⟩
  exact uX.objs h3 q hq
 |.agg cs,v,os,h=>by simp only [lM]at h;obtain⟨cs',_,h⟩:=h;exact nI.objs h
 |.nK cs,v,os,h=>by simp only [lM]at h;obtain⟨cs',_,h⟩:=h;exact nI.objs h
 |.any,v,os,h=>by simp [lM]at h
 |.one,v,os,h=>by simp [lM]at h
 |.int ..,v,os,h=>by simp only [lM]at h;rw [h.2];intro o ho;cases ho
 |.bool _,v,os,h=>by simp only [lM]at h;rw [h.2];intro o ho;cases ho
 |.str _,v,os,h=>by simp only [lM]at h;rw [h.2];intro o ho;cases ho
 |.jL,v,os,h=>by simp [lM]at h
 |.kP ..,v,os,h=>by simp [lM]at h
 |.ptr ..,v,os,h=>by simp [lM]at h
 |.oZ ..,v,os,h=>by simp [lM]at h
theorem nI.objs:∀{ts vs:List V} {os:List Nat},nI σ vs ts os→∀o∈os,∃ob,jH σ o=some ob∧∀r∈ob.rows,∀c∈r,nT c=true
 | [],vs,os,h=>by simp only [nI]at h;rw [h.2];intro o ho;cases ho
 |
  t::ts,vs,os,h=>by
  simp only [nI]at h;obtain⟨v,vs',o1,o2,_,rfl,h1,h2⟩:=h;intro o ho;rcases aO.1 ho with ho|ho
  ·exact lM.objs h1 o ho
  exact nI.objs h2 o ho
theorem uX.objs:∀{ts vs:List (List V)} {os:List Nat},uX σ vs ts os→∀o∈os,∃ob,jH σ o=some ob∧∀r∈ob.rows,∀c∈r,nT c=true
 | [],vs,os,h=>by simp only [uX]at h;rw [h.2];intro o ho;cases ho
 |
  t::ts,vs,os,h=>by
  simp only [uX]at h;obtain⟨v,vs',o1,o2,_,rfl,h1,h2⟩:=h;intro o ho;rcases aO.1 ho with ho|ho
  ·exact nI.objs h1 o ho
  exact uX.objs h2 o ho
theorem uX.nT:∀{ts vs:List (List V)} {os:List Nat},uX σ vs ts os→∀r∈vs,∀c∈r,Ml.nT c=true
 | [],vs,os,h=>by simp only [uX]at h;rw [h.1];intro r hr;cases hr
 |
  t::ts,vs,os,h=>by
  simp only [uX]at h;obtain⟨v,vs',o1,o2,rfl,_,h1,h2⟩:=h;intro r hr;rcases aH.1 hr with rfl|hr
  ·exact aco.1 (nI.nT h1)
  exact uX.nT h2 r hr
end
def PO(T:Tb)(f:Nat)(args:List V)(t:V):Prop :=
 ∃r σ' os,Run T (.fn f args []) (.fn r σ')∧lM σ' r t os∧os.Nodup∧Gg σ'=true
theorem PO.of{T:Tb}{f:Nat}{args:List V}{t r:V}{σ':Store}{os:List Nat}(h:Run T (.fn f args []) (.fn r σ'))(ho:lM σ' r t os)(hn:os.Nodup):PO T f args t:=by
 have hg:∀o∈os,place os o=some ((place os o).getD 0)∧o∈os:=by
  intro o hm;refine⟨?_,hm⟩
  cases hp:place os o with
  |none=>exact absurd hm (Dv hp)
  |some j=>rfl
 refine⟨_,_,_,.gcF os hn (fun i hi=>by simp at hi) h,ho.gc hg,?_,?_⟩
 ·refine(iR.2 ?_);refine List.Pairwise.imp_of_mem (fun {a b} ha hb hne e=>hne ?_) hn;have e1:=qF (hg a ha).1;have e2:=qF (hg b hb).1;rw [e,e2]at e1;exact(Option.some.inj e1).symm
 simp only [Gg,aZ];intro x hx;obtain⟨o,hm,rfl⟩:=bM.1 hx;obtain⟨ob,h1,h2⟩:=ho.objs o hm;rw [h1];simp only [bY,qK,aZ];intro r hr c hc;obtain⟨r0,hr0,rfl⟩:=bM.1 hr;obtain⟨c0,hc0,rfl⟩:=bM.1 hc;exact VP _ (h2 r0 hr0 c0 hc0)
theorem PO.frz{T:Tb}{f:Nat}{args:List V}{t:V}(h:PO T f args t)(hd:nZ FD t):PF T f args t:=by
 obtain⟨r,σ',os,h1,h2,_,_⟩:=h;exact .frz h1 (OL FD h2 hd)
theorem amw{T:Tb}{f:Nat}{as:List Src}{dst:Option Nat}{env:Nat→V}{σ:Store}{kp bs:Nat}{rs ms:List Nat}{k:St→Prop}{as':List V}{t:V}(h:PO T f as' t)
  (ha:NM env σ as (· = as'))
  (hk:∀r σ2 os,lM σ2 r t os→os.Nodup→(∀o∈os,σ.length≤o)→(∀o,o<σ.length→jH σ2 o=jH σ o)→σ.length≤σ2.length→k ⟨oL env dst r,σ2,kp,bs,rs,ms⟩) :
  Ro T f as dst ⟨env,σ,kp,bs,rs,ms⟩ k:=by
 obtain⟨r,σ',os,h1,h2,h3,h4⟩:=h;obtain⟨vs,e,rfl⟩:=zZ ha;refine⟨_,.own e h1 (R:=[]) (by rw [if_pos];simp [h2.nT,h4]),?_⟩;have key:∀o,jH (zo (nH σ []) σ') (σ.length+o)=(jH σ' o).map (qK (mV σ.length)):=by
  intro o;show jH (zo σ σ') _=_;rw [pR,if_neg (by omega)]
  congr 2;omega
 refine hk _ _ (os.map (σ.length + ·)) (h2.shift key) ?_ ?_ ?_ ?_
 ·exact iR.2 (h3.imp fun hne e=>hne (by omega))
 ·intro o ho;obtain⟨q,_,rfl⟩:=bM.1 ho;omega
 ·intro o ho;show jH (zo σ σ') _=_;rw [pR,if_pos ho]
 simp [zo,nH]
theorem amx{T:Tb}{f:Nat}{as:List Src}{dst:Option Nat}{env:Nat→V}{σ σ':Store}{kp bs:Nat}{rs ms:List Nat}{k:St→Prop}{r:V}
  (h:Run T (.fn f (as.map fun s=>s.ev env) σ) (.fn r σ')) (hl:σ.length≤σ'.length) (hb:σ.length≤bs) (hk:k ⟨oL env dst r,σ',kp,bs,rs,ms⟩):Ro T f as dst ⟨env,σ,kp,bs,rs,ms⟩ k :=
 ⟨_,.idn h hl hb,hk⟩
def outW:List PL→List V→St→(V→Store→Prop)→Prop
 | [],acc,st,k=>F7 (tX acc.reverse) fun v=>k v st.objs
 |r::rs,acc,st,k=>nY (r.get st) fun v=>F7 v fun v=>outW rs (v::acc) st k
theorem abg{st:St}{k:V→Store→Prop}:∀(rs:List PL) (acc:List V),outW rs acc st k→nY (rs.mapM (PL.get st)) fun vs=>k (tX (acc.reverse++vs)) st.objs
 | [],acc,h=>by simpa [nY,outW,F7]using h
 |
  r::rs,acc,h=>by
  obtain⟨v,e,h⟩:=lU h;have:=abg rs (v::acc) h;obtain⟨vs,e2,h⟩:=lU this;simp only [bD,e,e2];simpa [nY,wr]using h
def endW(rs:List PL)(e:Ex)(k:V→Store→Prop)(st:St):Prop:=match e with
 |.normal=>outW rs [] st k
 |.ret=>outW rs [] st k
 |.exit _=>False
theorem aua(rs:List PL)(k:V→Store→Prop)(st:St):endW rs .normal k st=outW rs [] st k:=nr rfl
theorem aub(rs:List PL)(k:V→Store→Prop)(st:St):endW rs .ret k st=outW rs [] st k:=nr rfl
theorem auc(acc:List V)(st:St)(k:V→Store→Prop):outW [] acc st k=F7 (tX acc.reverse) fun v=>k v st.objs:=nr rfl
theorem aud(t:Nat)(rs:List PL)(acc:List V)(st:St)(k:V→Store→Prop):outW (.tmp t::rs) acc st k=F7 (st.env t) fun v=>outW rs (v::acc) st k:=nr rfl
theorem aqf(t n:Nat)(rs:List PL)(acc:List V)(st:St)(k:V→Store→Prop):outW (.cell t n false::rs) acc st k=nY (rowAt st.objs (st.env t)) fun p=>nY p.1[p.2]? fun v=>F7 v fun v=>outW rs (v::acc) st k:=by
 simp only [outW,PL.get]
 cases rowAt st.objs (st.env t)<;>rfl
theorem aqg(t n:Nat)(rs:List PL)(acc:List V)(st:St)(k:V→Store→Prop):outW (.cell t n true::rs) acc st k=nY (rowAt st.objs (st.env t)) fun p=>if p.2+n≤p.1.length then F7 (.agg ((p.1.drop p.2).take n)) fun v=>outW rs (v::acc) st k else False:=by
 simp only [outW,PL.get]
 cases e:rowAt st.objs (st.env t)with
 |none=>rfl
 |
  some p =>
  by_cases h:p.2+n≤p.1.length
  ·simp only [nY,if_true,F7,qG,if_pos h]
  simp only [nY,if_true,F7,qG,if_neg h]
theorem run_end{T:Tb}{f:Nat}{F:Fn}{args:List V}{σ:Store}{k:V→Store→Prop}(rf:Nat→Nat→Bool)(hT:T f=some F)
  (h:wp T rf F.body (fun e st=>endW F.res e k st) (St.enter args σ)) (hl:args.length=F.nargs:=by rfl) (hk:F.body.okC=true:=by rfl):∃r σ',Run T (.fn f args σ) (.fn r σ')∧k r σ':=by
 obtain⟨e,st',h1,h2⟩:=Bd hk h;have h3:(e=.normal∨e=.ret)∧outW F.res [] st' k:=by
  cases e with
  |normal=>exact⟨.inl rfl,h2⟩
  |ret=>exact⟨.inr rfl,h2⟩
  |exit id=>exact h2.elim
 obtain⟨he,h3⟩:=h3;obtain⟨rs,e1,h4⟩:=lU (abg _ _ h3);exact⟨_,_,.fn hT hl h1 he e1,h4⟩
end
end Go.Ml
end
section
namespace Go.Ml
section
variable {σ : Store}
theorem nI.len:∀{ts vs:List V} {os:List Nat},nI σ vs ts os→vs.length=ts.length
 | [],vs,os,h=>by simp only [nI]at h;simp [h.1]
 |
  t::ts,vs,os,h=>by
  simp only [nI]at h;obtain⟨v,vs',o1,o2,rfl,_,_,h2⟩:=h;simp [nI.len h2]
theorem nI.focus:∀{ts vs:List V} {os:List Nat} (c:Nat) (t:V),nI σ vs ts os→os.Nodup→ts[c]? = some t →
  ∃
   vc oc,vs[c]? = some vc∧lM σ vc t oc∧oc.Nodup∧(∀q∈oc,q∈os) ∧
   ∀σ' vc' tc',lM σ' vc' tc' oc→(∀q∈os,q∉oc→jH σ' q=jH σ q)→nI σ' (vs.set c vc') (ts.set c tc') os
 | [],vs,os,c,t,_,_,hc=>by simp at hc
 |
  x::ts,vs,os,0,t,h,hn,hc=>by
  simp only [nI]at h;obtain⟨v,vs',o1,o2,rfl,rfl,h1,h2⟩:=h;simp at hc;subst hc;rw [bg]at hn;refine⟨v,o1,rfl,h1,hn.1,fun q hq=>by simp [hq],fun σ' vc' tc' hv hf=>?_⟩;simp only [gU,nI];exact⟨vc',vs',o1,o2,rfl,rfl,hv,h2.frame fun q hq=>hf q (by simp [hq]) fun h=>hn.2.2 q h q hq rfl⟩
 |
  x::ts,vs,os,c+1,t,h,hn,hc=>by
  simp only [nI]at h;obtain⟨v,vs',o1,o2,rfl,rfl,h1,h2⟩:=h;rw [bg]at hn;obtain⟨vc,oc,k1,k2,k3,k4,k5⟩:=nI.focus c t h2 hn.2.1 (by simpa using hc);refine⟨vc,oc,by simpa using k1,k2,k3,fun q hq=>by simp [k4 q hq],fun σ' vc' tc' hv hf=>?_⟩;simp only [List.set_cons_succ,nI];exact⟨v,_,o1,o2,rfl,rfl,h1.frame fun q hq=>hf q (by simp [hq]) fun h=>hn.2.2 q hq q (k4 q h) rfl,k5 σ' vc' tc' hv fun q hq hnq=>hf q (by simp [hq]) hnq⟩
theorem uX.focus:∀{ts vs:List (List V)} {os:List Nat} (c:Nat) (t:List V),uX σ vs ts os→os.Nodup→ts[c]? = some t →
  ∃
   vc oc,vs[c]? = some vc∧nI σ vc t oc∧oc.Nodup∧(∀q∈oc,q∈os) ∧
   ∀σ' vc' tc',nI σ' vc' tc' oc→(∀q∈os,q∉oc→jH σ' q=jH σ q)→uX σ' (vs.set c vc') (ts.set c tc') os
 | [],vs,os,c,t,_,_,hc=>by simp at hc
 |
  x::ts,vs,os,0,t,h,hn,hc=>by
  simp only [uX]at h;obtain⟨v,vs',o1,o2,rfl,rfl,h1,h2⟩:=h;simp at hc;subst hc;rw [bg]at hn;refine⟨v,o1,rfl,h1,hn.1,fun q hq=>by simp [hq],fun σ' vc' tc' hv hf=>?_⟩;simp only [gU,uX];exact⟨vc',vs',o1,o2,rfl,rfl,hv,h2.frame fun q hq=>hf q (by simp [hq]) fun h=>hn.2.2 q h q hq rfl⟩
 |
  x::ts,vs,os,c+1,t,h,hn,hc=>by
  simp only [uX]at h;obtain⟨v,vs',o1,o2,rfl,rfl,h1,h2⟩:=h;rw [bg]at hn;obtain⟨vc,oc,k1,k2,k3,k4,k5⟩:=uX.focus c t h2 hn.2.1 (by simpa using hc);refine⟨vc,oc,by simpa using k1,k2,k3,fun q hq=>by simp [k4 q hq],fun σ' vc' tc' hv hf=>?_⟩;simp only [List.set_cons_succ,uX];exact⟨v,_,o1,o2,rfl,rfl,h1.frame fun q hq=>hf q (by simp [hq]) fun h=>hn.2.2 q hq q (k4 q h) rfl,k5 σ' vc' tc' hv fun q hq hnq=>hf q (by simp [hq]) hnq⟩
theorem lM.focus{v:V}{sz:Nat}{rows:List (List V)}{os:List Nat}{i c:Nat}{row:List V}{t:V}(h:lM σ v (.sl sz rows) os)(hn:os.Nodup)(hi:rows[i]? = some row)(hc:row[c]? = some t) :
  ∃
   o rows' row' vc oc,v=.kP o 0 rows.length∧jH σ o=some ⟨sz,rows'⟩∧rows'.length=rows.length∧rows'[i]? = some row'∧row'.length=row.length∧row'[c]? = some vc∧lM σ vc t oc∧oc.Nodup∧(∀q∈oc,q∈os)∧o∈os∧o∉oc ∧
   (∀σ' tc',lM σ' vc tc' oc→(∀q∈os,q∉oc→jH σ' q=jH σ q)→lM σ' v (.sl sz (rows.set i (row.set c tc'))) os) ∧
   (∀x,oc=[]→(x.leaf=true)→(∃k n,x=.int k n)∨(∃b,x=.bool b)→lM (σ.set o (some ⟨sz,rows'.set i (row'.set c x)⟩)) v (.sl sz (rows.set i (row.set c x))) os):=by
 simp only [lM]at h;rcases h with ⟨rfl,_,_⟩|⟨o,rows',os',rfl,h2,rfl,h3⟩
 ·simp at hi
 rw [fC]at hn;obtain⟨row',oi,k1,k2,k3,k4,k5⟩:=h3.focus i row hn.2 hi;obtain⟨vc,oc,j1,j2,j3,j4,j5⟩:=k2.focus c t k3 hc;have hno:o∉oc:=fun h=>hn.1 (k4 o (j4 o h));have hset:rows'.set i (row'.set c vc)=rows':=by
  have:row'.set c vc=row':=by
   apply fF
   intro n;rw [eX];split
   ·subst_vars
    split
    ·exact j1.symm
    rename_i hlt;rw [bn (by omega)]
   rfl
  rw [this]
  apply fF
  intro n;rw [eX];split
  ·subst_vars
   split
   ·exact k1.symm
   rename_i hlt;rw [bn (by omega)]
  rfl
 refine⟨o,rows',row',vc,oc,rfl,h2,h3.len,k1,k2.len,j1,j2,j3,fun q hq=>by simp [k4 q (j4 q hq)],by simp,hno,?_,?_⟩
 ·intro σ' tc' hv hf;simp only [lM];refine .inr ⟨o,rows',os',by simp,by rw [hf o (by simp) hno];exact h2,rfl,?_⟩;have h6:=j5 σ' vc tc' hv fun q hq hnq=>hf q (by simp [k4 q hq]) hnq;have h7:=k5 σ' _ _ h6 fun q hq hnq=>hf q (by simp [hq]) fun h=>hnq (j4 q h)
  rwa [hset]at h7
 intro x hoc hl hx;have hlt:=kK h2;have hf:∀q,q≠o→jH (σ.set o (some ⟨sz,rows'.set i (row'.set c x)⟩)) q=jH σ q:=fun q hq=>by
  rw [uz hlt,if_neg (fun e=>hq e.symm)]
 simp only [lM];refine .inr ⟨o,rows'.set i (row'.set c x),os',by simp,by rw [uz hlt,if_pos rfl],rfl,?_⟩;have hno':∀q∈os',q≠o:=fun q hq e=>hn.1 (e▸hq);have hx':lM (σ.set o (some ⟨sz,rows'.set i (row'.set c x)⟩)) x x oc:=by
  rw [hoc];rcases hx with ⟨k,n,rfl⟩|⟨b,rfl⟩<;>simp [lM]
 have h6:=j5 (σ.set o (some ⟨sz,rows'.set i (row'.set c x)⟩)) x x hx' fun q hq _=>hf q (hno' q (k4 q hq));exact k5 _ _ _ h6 fun q hq _=>hf q (hno' q hq)
def Y0(σ:Store)(vs ts:List V):Prop:=∃os,nI σ vs ts os∧os.Nodup
theorem mD:∀{ts vs ts' vs':List V} {os os':List Nat},nI σ vs ts os→nI σ vs' ts' os'→nI σ (vs++vs') (ts++ts') (os++os')
 | [],vs,ts',vs',os,os',h,h'=>by simp only [nI]at h;obtain⟨rfl,rfl⟩:=h;simpa using h'
 |
  t::ts,vs,ts',vs',os,os',h,h'=>by
  simp only [nI]at h;obtain⟨v,vs1,o1,o2,rfl,rfl,h1,h2⟩:=h;simp only [bP,nI];exact⟨v,vs1++vs',o1,o2++os',rfl,by simp,h1,mD h2 h'⟩
theorem Y0.push{σ2:Store}{vs ts:List V}{r t:V}{os:List Nat}(h:Y0 σ vs ts)(h1:lM σ2 r t os)(h2:os.Nodup)(h3:∀o∈os,σ.length≤o)(h4:∀o,o<σ.length→jH σ2 o=jH σ o) :
  Y0 σ2 (vs++[r]) (ts++[t]):=by
 obtain⟨os0,k1,k2⟩:=h;refine⟨os0++os,mD (k1.frame fun o ho=>h4 o (nI.lt k1 o ho)) ?_,?_⟩
 ·simp only [nI];exact⟨r,[],os,[],rfl,by simp,h1,rfl,rfl⟩
 rw [bg];refine⟨k2,h2,fun a ha b hb e=>?_⟩;have:=nI.lt k1 a ha;have:=h3 b hb;omega
theorem Y0.frame{σ2:Store}{vs ts:List V}(h:Y0 σ vs ts)(h4:∀o,o<σ.length→jH σ2 o=jH σ o):Y0 σ2 vs ts:=by
 obtain⟨os0,k1,k2⟩:=h;exact⟨os0,k1.frame fun o ho=>h4 o (nI.lt k1 o ho),k2⟩
theorem Y0.res{vs ts:List V}(h:Y0 σ vs ts){i:Nat}{v t:V}(hv:vs[i]? = some v)(ht:ts[i]? = some t)(hd:nZ FD t):resolve σ FD v=some t:=by
 obtain⟨os,k1,k2⟩:=h;obtain⟨vc,oc,j1,j2,_⟩:=k1.focus i t k2 ht;rw [hv]at j1
 cases j1
 exact OL FD j2 hd
def Mk(T:Tb)(f:Nat)(t:V)(k:Int)(t':V)(k':Int):Prop :=
 ∀σ v os,lM σ v t os→os.Nodup→∃σ',Run T (.fn f [v,.int .i64 k] σ) (.fn (.int .i64 k') σ')∧lM σ' v t' os∧(∀o,o<σ.length→o∉os→jH σ' o=jH σ o)∧σ.length≤σ'.length
end
end Go.Ml
end
section
namespace Go.Ml
theorem EVw:(∀(rs:List PL) (k:V→Store→Prop) (st:St),endW rs .normal k st=outW rs [] st k)∧(∀(rs:List PL) (k:V→Store→Prop) (st:St),endW rs .ret k st=outW rs [] st k) ∧
  (∀(acc:List V) (st:St) (k:V→Store→Prop),outW [] acc st k=F7 (tX acc.reverse) fun v=>k v st.objs) ∧
  (∀(t:Nat) (rs:List PL) (acc:List V) (st:St) (k:V→Store→Prop),outW (.tmp t::rs) acc st k=F7 (st.env t) fun v=>outW rs (v::acc) st k) ∧
  (∀(t n:Nat) (rs:List PL) (acc:List V) (st:St) (k:V→Store→Prop),outW (.cell t n false::rs) acc st k=nY (rowAt st.objs (st.env t)) fun p=>nY p.1[p.2]? fun v=>F7 v fun v=>outW rs (v::acc) st k) ∧
  (∀(t n:Nat) (rs:List PL) (acc:List V) (st:St) (k:V→Store→Prop),outW (.cell t n true::rs) acc st k=nY (rowAt st.objs (st.env t)) fun p=>if p.2+n≤p.1.length then F7 (.agg ((p.1.drop p.2).take n)) fun v=>outW rs (v::acc) st k else False) :=
 ⟨aua,aub,auc,aud,aqf,aqg⟩
theorem tu(σ:Store)(a:Option Obj):jH (σ++[a]) σ.length=a:=by simp [jH]
theorem acp(σ:Store)(o:Nat):jH (σ++[none]) o=jH σ o:=by
 unfold jH;rcases Nat.lt_trichotomy o σ.length with h|h|h
 ·rw [bH h]
 ·subst h;simp
 rw [bn (by simp;omega),bn (by omega)]
theorem kJ{σ:Store}{a:Option Obj}{o:Nat}(h:o<σ.length):jH (σ++[a]) o=jH σ o:=by
 unfold jH;rw [bH h]
theorem aeI(σ:Store)(a b:Option Obj):(σ++[a]).set σ.length b=σ++[b]:=by
 rw [gG _ _ (aP _)];simp
theorem aeJ{σ:Store}{a b:Option Obj}{o:Nat}(h:o<σ.length):(σ++[a]).set o b=σ.set o b++[a]:=List.set_append_left _ _ h
theorem kT{σ:Store}{o:Nat}{x:Option Obj}(h:o<σ.length):jH (σ.set o x) o=x:=by
 rw [uz h,if_pos rfl]
theorem jV{σ:Store}{o p:Nat}{x:Option Obj}(h:o≠p):jH (σ.set p x) o=jH σ o:=by
 unfold jH;rw [eX,if_neg (fun e=>h e.symm)]
theorem amy(σ:Store)(k:Store→Prop):VB σ k=k σ:=nr rfl
theorem LK:(∀(σ:Store) (k:Store→Prop),VB σ k=k σ)∧(∀(σ:Store) (a:Option Obj),jH (σ++[a]) σ.length=a)∧(∀(σ:Store) (o:Nat),jH (σ++[none]) o=jH σ o) ∧
  (∀{σ:Store} {a:Option Obj} {o:Nat},o<σ.length→jH (σ++[a]) o=jH σ o)∧(∀(σ:Store) (a b:Option Obj),(σ++[a]).set σ.length b=σ++[b]) ∧
  (∀{σ:Store} {a b:Option Obj} {o:Nat},o<σ.length→(σ++[a]).set o b=σ.set o b++[a])∧(∀{σ:Store} {o:Nat} {x:Option Obj},o<σ.length→jH (σ.set o x) o=x) ∧
  (∀{σ:Store} {o p:Nat} {x:Option Obj},o≠p→jH (σ.set p x) o=jH σ o)∧(∀(σ:Store) (a:Option Obj),(σ++[a]).length=σ.length+1)∧(∀(σ:Store) (o:Nat) (x:Option Obj),(σ.set o x).length=σ.length) :=
 ⟨amy,tu,acp,fun h=>kJ h,aeI,fun h=>aeJ h,fun h=>kT h,fun h=>jV h,fun σ a=>by simp,fun σ o x=>by simp⟩
structure Got (σ σ2:Store) (r t:V) (os:List Nat):Prop where
 ow:lM σ2 r t os
 nd:os.Nodup
 fresh:∀o∈os,σ.length≤o
 old:∀o,o<σ.length→jH σ2 o=jH σ o
 len:σ.length≤σ2.length
theorem kU{T:Tb}{f:Nat}{as:List Src}{dst:Option Nat}{env:Nat→V}{σ:Store}{kp bs:Nat}{rs ms:List Nat}{k:St→Prop}{as':List V}{t:V}(h:PO T f as' t)
  (ha:NM env σ as (· = as')) (hk:∀r σ2 os,Got σ σ2 r t os→k ⟨oL env dst r,σ2,kp,bs,rs,ms⟩):Ro T f as dst ⟨env,σ,kp,bs,rs,ms⟩ k :=
 amw h ha fun r σ2 os h1 h2 h3 h4 h5=>hk r σ2 os ⟨h1,h2,h3,h4,h5⟩
theorem Y1{T:Tb}{f:Nat}{as:List Src}{dst:Option Nat}{env:Nat→V}{σ:Store}{kp bs:Nat}{rs ms:List Nat}{k:List Nat→List Nat→Bool→St→Prop}{as':List V}{t:V}(h:PO T f as' t)
  (ha:NM env σ as (· = as')) (hk:∀r σ2 os,Got σ σ2 r t os→k (nO env σ as) [] true ⟨oL env dst r,σ2,kp,bs,rs,ms⟩):agc T f as dst ⟨env,σ,kp,bs,rs,ms⟩ k:=by
 obtain⟨r,σ',os,h1,h2,h3,h4⟩:=h;obtain⟨vs,e,rfl⟩:=zZ ha;refine .inl ⟨_,r,σ',e,h1,by simp [h2.nT,h4],?_⟩;have key:∀o,jH (zo σ σ') (σ.length+o)=(jH σ' o).map (qK (mV σ.length)):=by
  intro o;rw [pR,if_neg (by omega)]
  congr 2;omega
 refine hk _ _ (os.map (σ.length + ·)) ⟨h2.shift key,?_,?_,?_,?_⟩
 ·exact iR.2 (h3.imp fun hne e=>hne (by omega))
 ·intro o ho;obtain⟨q,_,rfl⟩:=bM.1 ho;omega
 ·intro o ho;rw [pR,if_pos ho]
 simp [zo]
theorem Y0.got{σ σ2:Store}{vs ts:List V}{r t:V}{os:List Nat}(h:Y0 σ vs ts)(g:Got σ σ2 r t os):Y0 σ2 (vs++[r]) (ts++[t]):=h.push g.ow g.nd g.fresh g.old
theorem MI{σ:Store}{q:IntKind}{n:Int}{vs ts:List V}{os:List Nat}(h:nI σ vs ts os):nI σ (.int q n::vs) (.int q n::ts) os:=by
 simp only [nI];exact⟨_,vs,[],os,rfl,rfl,by simp [lM],h⟩
theorem nS{σ:Store}{b:Bool}{vs ts:List V}{os:List Nat}(h:nI σ vs ts os):nI σ (.bool b::vs) (.bool b::ts) os:=by
 simp only [nI];exact⟨_,vs,[],os,rfl,rfl,by simp [lM],h⟩
theorem oC{σ:Store}{v t:V}{vs ts:List V}{o1 o2:List Nat}(h1:lM σ v t o1)(h:nI σ vs ts o2):nI σ (v::vs) (t::ts) (o1++o2):=by
 simp only [nI];exact⟨v,vs,o1,o2,rfl,rfl,h1,h⟩
theorem nM{σ:Store}:nI σ [] [] []:=by simp [nI]
theorem nN{σ:Store}{cs ts:List V}{os:List Nat}(h:nI σ cs ts os):lM σ (.agg cs) (.agg ts) os:=by simp only [lM];exact⟨cs,rfl,h⟩
theorem IE{σ:Store}{cs ts:List V}{os:List Nat}(h:nI σ cs ts os):lM σ (.nK cs) (.nK ts) os:=by simp only [lM];exact⟨cs,rfl,h⟩
theorem Ez{σ:Store}{o:Nat}{l:List Int}(h:jH σ o=some ⟨1,kF l⟩):lM σ (.kP o 0 l.length) (ints l) [o]:=by
 simp only [lM];refine .inr ⟨o,kF l,[],by rw [zB],h,rfl,?_⟩;have:∀(l:List Int),uX σ (kF l) (kF l) []:=by
  intro l
  induction l with
  |nil=>simp [kF,uX]
  |cons x l ih=>simp only [YJ,uX];exact⟨_,_,[],[],rfl,rfl,MI nM,ih⟩
 exact this _
theorem mQ{σ:Store}:lM σ (.sl 1 []) (ints []) []:=by simp [lM,kF]
theorem lM.wX{σ:Store}{v:V}{l:List Int}{os:List Nat}(h:lM σ v (ints l) os):(l=[]∧v=.sl 1 []∧os=[])∨∃o,v=.kP o 0 l.length∧jH σ o=some ⟨1,kF l⟩∧os=[o]:=by
 simp only [lM]at h;rcases h with ⟨h1,h2,h3⟩|⟨o,rows',os',h1,h2,h3,h4⟩
 ·left;exact⟨by simpa [kF]using h1,h2,h3⟩
 right;have key:∀(l:List Int) (rows':List (List V)) (os':List Nat),uX σ rows' (kF l) os'→rows'=kF l∧os'=[]:=by
  intro l
  induction l with
  |nil=>intro rows' os' h;simp only [ajS,uX]at h;exact h
  |
   cons x l ih =>
   intro rows' os' h;simp only [YJ,uX]at h;obtain⟨v,vs',o1,o2,rfl,rfl,h1,h2⟩:=h;obtain⟨rfl,rfl⟩:=ih _ _ h2;simp only [nI,lM]at h1;obtain⟨v1,vs1,a1,a2,rfl,rfl,⟨rfl,rfl⟩,rfl,rfl⟩:=h1;exact⟨rfl,rfl⟩
 obtain⟨rfl,rfl⟩:=key l rows' os' h4;exact⟨o,by rw [h1,zB],h2,h3⟩
structure Fr (os:List Nat) (σ σ':Store):Prop where
 old:∀o,o<σ.length→o∉os→jH σ' o=jH σ o
 len:σ.length≤σ'.length
theorem Fr.refl(os:List Nat)(σ:Store):Fr os σ σ:=⟨fun _ _ _=>rfl,aP _⟩
theorem Fr.trans{os:List Nat}{a b c:Store}(h:Fr os a b)(k:Fr os b c):Fr os a c:=⟨fun o hl ho=>(k.old o (aU hl h.len) ho).trans (h.old o hl ho),cZ h.len k.len⟩
theorem Fr.mono{os os':List Nat}{a b:Store}(h:Fr os a b)(hs:∀o∈os,o∈os'):Fr os' a b:=⟨fun o hl ho=>h.old o hl fun k=>ho (hs o k),h.len⟩
theorem VQ{os:List Nat}{σ:Store}{o:Nat}{x:Option Obj}(h:o∈os):Fr os σ (σ.set o x):=⟨fun p _ hp=>jV fun e=>hp (e▸h),by simp⟩
theorem aik{os:List Nat}{σ:Store}{x:Option Obj}:Fr os σ (σ++[x]):=⟨fun p hl _=>kJ hl,by simp⟩
theorem mk_iff{T:Tb}{f:Nat}{t t':V}{k k':Int}(h:∀σ v os,lM σ v t os→os.Nodup→∃σ',Run T (.fn f [v,.int .i64 k] σ) (.fn (.int .i64 k') σ')∧lM σ' v t' os∧Fr os σ σ'):Mk T f t k t' k':=by
 intro σ v os h1 h2;obtain⟨σ',a,b,c⟩:=h σ v os h1 h2;exact⟨σ',a,b,c.old,c.len⟩
def Fin(σ:Store)(r t:V):Prop:=∃r' os,lW r' r∧lM σ r' t os∧os.Nodup
theorem rE{σ:Store}{r t:V}{os:List Nat}(h:lM σ r t os)(hn:os.Nodup):Fin σ r t:=⟨r,os,kE _,h,hn⟩
theorem CZ{σ:Store}{sz:Nat}:Fin σ .jL (.sl sz []):=⟨.sl sz [],[],by simp [lW],by simp [lM],.nil⟩
theorem N8{σ:Store}{o:Nat}{l:List Int}(h:jH σ o=some ⟨1,kF l⟩):Fin σ (.kP o 0 l.length) (ints l):=rE (Ez h) (by simp)
theorem ajZ{σ:Store}{l:List Int}(h:kF l=[]):Fin σ .jL (ints l):=by
 have:l=[]:=OE.1 h;subst this;exact CZ
theorem kW{T:Tb}{f:Nat}{F:Fn}{args:List V}{t:V}(rf:Nat→Nat→Bool)(hT:T f=some F)
  (h:wp T rf F.body (fun e st=>endW F.res e (fun r σ=>Fin σ r t) st) (St.enter args [])) (hl:args.length=F.nargs:=by rfl) (hk:F.body.okC=true:=by rfl):PO T f args t:=by
 obtain⟨r,σ',h1,r',os,h2,h3,h4⟩:=run_end rf hT h hl hk;exact .of (.afV (Aa _) h1 h2) h3 h4
theorem KP{v:V}(h:v.leaf=true)(k:List V→Prop):rY v k=k [v]:=by
 cases v<;>first|rfl|(simp [V.leaf]at h)
theorem Got.lf{σ σ2:Store}{r t:V}{os:List Nat}(g:Got σ σ2 r t os)(h:t.leaf=true)(k:List V→Prop):rY r k=k [r]:=KP (g.ow.leaf h) k
theorem Got.at{σ σ2:Store}{r t:V}{os:List Nat}(g:Got σ σ2 r t os)(o:Nat){x:Option Obj}(h:o<σ.length)(hx:jH σ o=x):jH σ2 o=x:=(g.old o h).trans hx
theorem EVl:V.leaf .one=true∧(∀k n,V.leaf (.int k n)=true)∧(∀b,V.leaf (.bool b)=true)∧(∀b,V.leaf (.str b)=true)∧V.leaf .jL=true∧(∀a b,V.leaf (.sl a b)=true)∧(∀a b c,V.leaf (.kP a b c)=true) ∧
  (∀a b c,V.leaf (.ptr a b c)=true)∧(∀a b,V.leaf (.oZ a b)=true)∧(∀a,V.leaf (.agg a)=false)∧(∀a,V.leaf (.nK a)=false)∧V.leaf .any=false :=
 ⟨rfl,fun _ _=>rfl,fun _=>rfl,fun _=>rfl,rfl,fun _ _=>rfl,fun _ _ _=>rfl,fun _ _ _=>rfl,fun _ _=>rfl,fun _=>rfl,fun _=>rfl,rfl⟩
theorem Got.lfb{σ σ2:Store}{r t:V}{os:List Nat}(g:Got σ σ2 r t os)(h:t.leaf=true):r.leaf=true:=g.ow.leaf h
theorem lM.kV{σ:Store}{r:V}{ts:List V}{os:List Nat}(h:lM σ r (.agg ts) os):∃cs,r=.agg cs∧nI σ cs ts os:=by simpa only [lM]using h
theorem lM.XK{σ:Store}{r:V}{ts:List V}{os:List Nat}(h:lM σ r (.nK ts) os):∃cs,r=.nK cs∧nI σ cs ts os:=by simpa only [lM]using h
theorem nI.acr{σ:Store}{vs ts:List V}{q:IntKind}{n:Int}{os:List Nat}(h:nI σ vs (.int q n::ts) os):∃vs',vs=.int q n::vs'∧nI σ vs' ts os:=by
 simp only [nI,lM]at h;obtain⟨v,vs',o1,o2,rfl,rfl,⟨rfl,rfl⟩,h⟩:=h;exact⟨vs',rfl,h⟩
theorem nI.vP{σ:Store}{vs ts:List V}{b:Bool}{os:List Nat}(h:nI σ vs (.bool b::ts) os):∃vs',vs=.bool b::vs'∧nI σ vs' ts os:=by
 simp only [nI,lM]at h;obtain⟨v,vs',o1,o2,rfl,rfl,⟨rfl,rfl⟩,h⟩:=h;exact⟨vs',rfl,h⟩
theorem nI.inv{σ:Store}{vs ts:List V}{t:V}{os:List Nat}(h:nI σ vs (t::ts) os):∃v vs' o1 o2,vs=v::vs'∧os=o1++o2∧lM σ v t o1∧nI σ vs' ts o2:=by
 simpa only [nI]using h
theorem nI.C9{σ:Store}{vs:List V}{os:List Nat}(h:nI σ vs [] os):vs=[]∧os=[]:=by simpa only [nI]using h
theorem nI.leaf:∀{σ:Store} {ts vs:List V} {os:List Nat},nI σ vs ts os→ts.all V.leaf=true→vs.all V.leaf=true
 |_,[],vs,os,h,_=>by obtain⟨rfl,_⟩:=h.C9;rfl
 |
  σ,t::ts,vs,os,h,hl=>by
  obtain⟨v,vs',o1,o2,rfl,rfl,h1,h2⟩:=h.inv;simp only [dh,aG]at hl ⊢;exact⟨h1.leaf hl.1,h2.leaf hl.2⟩
theorem rF{cs:List V}(h:cs.all V.leaf=true)(k:List V→Prop):rY (.agg cs) k=k cs:=by
 unfold rY;simp only [V.cells?];rw [if_pos h];rfl
theorem lM.amz{σ:Store}{v:V}{n:Bool}{l:List Int}{os:List Nat}(h:lM σ v (.agg [.bool n,ints l]) os):∃v1,v=.agg [.bool n,v1]∧lM σ v1 (ints l) os:=by
 obtain⟨cs,rfl,a⟩:=h.kV;obtain⟨cs,rfl,b⟩:=a.vP;obtain⟨v1,cs,o1,o2,rfl,rfl,c,d⟩:=b.inv;obtain⟨rfl,rfl⟩:=d.C9;exact⟨v1,rfl,by simpa using c⟩
theorem lM.J4{σ:Store}{v:V}{n:Bool}{l m:List Int}{os:List Nat}(h:lM σ v (.agg [.bool n,ints l,ints m]) os) :
  ∃v1 v2 o1 o2,v=.agg [.bool n,v1,v2]∧os=o1++o2∧lM σ v1 (ints l) o1∧lM σ v2 (ints m) o2:=by
 obtain⟨cs,rfl,a⟩:=h.kV;obtain⟨cs,rfl,b⟩:=a.vP;obtain⟨v1,cs,o1,o2,rfl,rfl,c,d⟩:=b.inv;obtain⟨v2,cs,o3,o4,rfl,rfl,e,f⟩:=d.inv;obtain⟨rfl,rfl⟩:=f.C9;exact⟨v1,v2,o1,o3,rfl,by simp,c,e⟩
structure Ow (n:Nat) (σ:Store) (vs ts:List V):Prop where
 ex:∃os,nI σ vs ts os∧os.Nodup∧∀o∈os,n≤o
theorem agN{n:Nat}{σ:Store}:Ow n σ [] []:=⟨[],nM,.nil,by simp⟩
theorem Ow.set{n:Nat}{σ:Store}{vs ts:List V}(h:Ow n σ vs ts){o:Nat}{x:Option Obj}(ho:o<n):Ow n (σ.set o x) vs ts:=by
 obtain⟨os,a,b,c⟩:=h.ex;exact⟨os,a.frame fun q hq=>jV (by have:=c q hq;omega),b,c⟩
theorem Ow.snoc{n:Nat}{σ:Store}{vs ts:List V}(h:Ow n σ vs ts){x:Option Obj}:Ow n (σ++[x]) vs ts:=by
 obtain⟨os,a,b,c⟩:=h.ex;exact⟨os,a.frame fun q hq=>kJ (a.lt q hq),b,c⟩
theorem Ow.got{n:Nat}{σ σ2:Store}{vs ts:List V}{r t:V}{os:List Nat}(h:Ow n σ vs ts)(g:Got σ σ2 r t os)(hn:n≤σ.length):Ow n σ2 (vs++[r]) (ts++[t]):=by
 obtain⟨os0,a,b,c⟩:=h.ex;refine⟨os0++os,mD (a.frame fun o ho=>g.old o (a.lt o ho)) ?_,?_,fun o ho=>?_⟩
 ·simpa using oC g.ow nM
 ·rw [bg];refine⟨b,g.nd,fun x hx y hy e=>?_⟩;have:=a.lt x hx;have:=g.fresh y hy;omega
 rcases aO.1 ho with ho|ho
 ·exact c o ho
 have:=g.fresh o ho;omega
theorem Ow.int{n:Nat}{σ:Store}{vs ts:List V}(h:Ow n σ vs ts)(q:IntKind)(k:Int):Ow n σ (vs++[.int q k]) (ts++[.int q k]):=by
 obtain⟨os0,a,b,c⟩:=h.ex;exact⟨os0,by simpa using mD a (MI (q:=q) (n:=k) nM),b,c⟩
theorem Ow.bool{n:Nat}{σ:Store}{vs ts:List V}(h:Ow n σ vs ts)(k:Bool):Ow n σ (vs++[.bool k]) (ts++[.bool k]):=by
 obtain⟨os0,a,b,c⟩:=h.ex;exact⟨os0,by simpa using mD a (nS (b:=k) nM),b,c⟩
theorem pq:∀{σ:Store} {ts ts' vs:List V} {os:List Nat},nI σ vs (ts++ts') os→∃v1 v2 o1 o2,vs=v1++v2∧os=o1++o2∧nI σ v1 ts o1∧nI σ v2 ts' o2
 |σ,[],ts',vs,os,h=>⟨[],vs,[],os,rfl,rfl,nM,h⟩
 |
  σ,t::ts,ts',vs,os,h=>by
  obtain⟨v,vs',o1,o2,rfl,rfl,h1,h2⟩:=nI.inv h;obtain⟨a,b,c,d,rfl,rfl,h3,h4⟩:=pq h2;exact⟨v::a,b,o1++c,d,rfl,by simp,oC h1 h3,h4⟩
theorem Ow.flat{n:Nat}{σ:Store}{vs ts cs tcs:List V}(h:Ow n σ (vs++[.agg cs]) (ts++[.agg tcs]))(hl:vs.length=ts.length):Ow n σ (vs++cs) (ts++tcs):=by
 obtain⟨os0,a,b,c⟩:=h.ex;obtain⟨v1,v2,o1,o2,e,rfl,h1,h2⟩:=pq a;have hl1:=h1.len;obtain⟨rfl,rfl⟩:=dZ e (by omega);obtain⟨v,vs',o3,o4,e2,rfl,h3,h4⟩:=h2.inv;simp only [List.cons.injEq]at e2;obtain⟨rfl,rfl⟩:=e2;obtain⟨_,rfl⟩:=h4.C9;obtain⟨cs',e3,h5⟩:=h3.kV
 cases e3
 exact⟨o1++o3,mD h1 h5,by simpa using b,fun o ho=>c o (by simpa using ho)⟩
theorem Ow.fin{n:Nat}{σ:Store}{vs ts:List V}(h:Ow n σ vs ts):Fin σ (.agg vs) (.agg ts):=by
 obtain⟨os0,a,b,c⟩:=h.ex;exact rE (nN a) b
theorem KQ:∀{σ:Store} {ts vs ts' vs':List (List V)} {os os':List Nat},uX σ vs ts os→uX σ vs' ts' os'→uX σ (vs++vs') (ts++ts') (os++os')
 |σ,[],vs,ts',vs',os,os',h,h'=>by simp only [uX]at h;obtain⟨rfl,rfl⟩:=h;simpa using h'
 |
  σ,t::ts,vs,ts',vs',os,os',h,h'=>by
  simp only [uX]at h;obtain⟨v,vs1,o1,o2,rfl,rfl,h1,h2⟩:=h;simp only [bP,uX];exact⟨v,vs1++vs',o1,o2++os',rfl,by simp,h1,KQ h2 h'⟩
theorem ain{σ:Store}{v t:List V}{os:List Nat}(h:nI σ v t os):uX σ [v] [t] os:=by
 simp only [uX];exact⟨v,[],os,[],rfl,by simp,h,rfl,rfl⟩
structure aan (n:Nat) (σ:Store) (vs ts:List (List V)):Prop where
 ex:∃os,uX σ vs ts os∧os.Nodup∧∀o∈os,n≤o
theorem amA{n:Nat}{σ:Store}:aan n σ [] []:=⟨[],by simp [uX],.nil,by simp⟩
theorem aan.set{n:Nat}{σ:Store}{vs ts:List (List V)}(h:aan n σ vs ts){o:Nat}{x:Option Obj}(ho:o<n):aan n (σ.set o x) vs ts:=by
 obtain⟨os,a,b,c⟩:=h.ex;exact⟨os,a.frame fun q hq=>jV (by have:=c q hq;omega),b,c⟩
theorem aan.got{n:Nat}{σ σ2:Store}{vs ts:List (List V)}{cs tcs:List V}{os:List Nat}(h:aan n σ vs ts)(g:Got σ σ2 (.agg cs) (.agg tcs) os)(hn:n≤σ.length):aan n σ2 (vs++[cs]) (ts++[tcs]):=by
 obtain⟨os0,a,b,c⟩:=h.ex;obtain⟨cs',e,h5⟩:=g.ow.kV
 cases e
 refine⟨os0++os,KQ (a.frame fun o ho=>g.old o (a.lt o ho)) (ain h5),?_,fun o ho=>?_⟩
 ·rw [bg];refine⟨b,g.nd,fun x hx y hy e=>?_⟩;have:=a.lt x hx;have:=g.fresh y hy;omega
 rcases aO.1 ho with ho|ho
 ·exact c o ho
 have:=g.fresh o ho;omega
theorem aan.fin{n o sz:Nat}{σ:Store}{vs ts:List (List V)}(h:aan n σ vs ts)(ho:jH σ o=some ⟨sz,vs⟩)(hn:o<n):Fin σ (.kP o 0 ts.length) (.sl sz ts):=by
 obtain⟨os0,a,b,c⟩:=h.ex;refine rE (os:=o::os0) ?_ (fC.2 ⟨fun k=>by have:=c o k;omega,b⟩);simp only [lM];exact .inr ⟨o,vs,os0,rfl,ho,rfl,a⟩
theorem ew{P Q:Prop}(h:Q)(e:P=Q:=by conv=>lhs;simp (maxSteps:=1000000) (disch:=first|omega|assumption|(simp;done)|(simp;omega)) only [↓EVp,↓EVw,LK,EVl,EVq,splice,Nat.reduceAdd,Nat.reduceEqDiff,Nat.reduceMul,Nat.reduceLT,Nat.reduceLeDiff,Nat.reduceBEq,reduceIte,MS,NQ,PN,bU,dG,dR,dJ,eu,reduceCtorEq]):P:=Eq.mpr (e) h
theorem qj{P Q A1:Prop}(x1:A1)(h:Q)(e:A1→P=Q:=by intro x1;conv=>lhs;simp (maxSteps:=1000000) (disch:=first|omega|assumption|(simp;done)|(simp;omega)) only [↓EVp,↓EVw,LK,EVl,EVq,splice,Nat.reduceAdd,Nat.reduceEqDiff,Nat.reduceMul,Nat.reduceLT,Nat.reduceLeDiff,Nat.reduceBEq,reduceIte,MS,NQ,PN,bU,dG,dR,dJ,eu,reduceCtorEq,x1]):P:=Eq.mpr (e x1) h
theorem uh{P Q A1 A2:Prop}(x1:A1)(x2:A2)(h:Q)(e:A1→A2→P=Q:=by intro x1 x2;conv=>lhs;simp (maxSteps:=1000000) (disch:=first|omega|assumption|(simp;done)|(simp;omega)) only [↓EVp,↓EVw,LK,EVl,EVq,splice,Nat.reduceAdd,Nat.reduceEqDiff,Nat.reduceMul,Nat.reduceLT,Nat.reduceLeDiff,Nat.reduceBEq,reduceIte,MS,NQ,PN,bU,dG,dR,dJ,eu,reduceCtorEq,x1,x2]):P:=Eq.mpr (e x1 x2) h
theorem vW{P Q A1 A2 A3:Prop}(x1:A1)(x2:A2)(x3:A3)(h:Q)(e:A1→A2→A3→P=Q:=by intro x1 x2 x3;conv=>lhs;simp (maxSteps:=1000000) (disch:=first|omega|assumption|(simp;done)|(simp;omega)) only [↓EVp,↓EVw,LK,EVl,EVq,splice,Nat.reduceAdd,Nat.reduceEqDiff,Nat.reduceMul,Nat.reduceLT,Nat.reduceLeDiff,Nat.reduceBEq,reduceIte,MS,NQ,PN,bU,dG,dR,dJ,eu,reduceCtorEq,x1,x2,x3]):P:=Eq.mpr (e x1 x2 x3) h
theorem DF{P Q A1 A2 A3 A4:Prop}(x1:A1)(x2:A2)(x3:A3)(x4:A4)(h:Q)(e:A1→A2→A3→A4→P=Q:=by intro x1 x2 x3 x4;conv=>lhs;simp (maxSteps:=1000000) (disch:=first|omega|assumption|(simp;done)|(simp;omega)) only [↓EVp,↓EVw,LK,EVl,EVq,splice,Nat.reduceAdd,Nat.reduceEqDiff,Nat.reduceMul,Nat.reduceLT,Nat.reduceLeDiff,Nat.reduceBEq,reduceIte,MS,NQ,PN,bU,dG,dR,dJ,eu,reduceCtorEq,x1,x2,x3,x4]):P:=Eq.mpr (e x1 x2 x3 x4) h
theorem Df{P Q A1 A2 A3 A4 A5:Prop}(x1:A1)(x2:A2)(x3:A3)(x4:A4)(x5:A5)(h:Q)(e:A1→A2→A3→A4→A5→P=Q:=by intro x1 x2 x3 x4 x5;conv=>lhs;simp (maxSteps:=1000000) (disch:=first|omega|assumption|(simp;done)|(simp;omega)) only [↓EVp,↓EVw,LK,EVl,EVq,splice,Nat.reduceAdd,Nat.reduceEqDiff,Nat.reduceMul,Nat.reduceLT,Nat.reduceLeDiff,Nat.reduceBEq,reduceIte,MS,NQ,PN,bU,dG,dR,dJ,eu,reduceCtorEq,x1,x2,x3,x4,x5]):P:=Eq.mpr (e x1 x2 x3 x4 x5) h
theorem zK{P Q A1 A2 A3 A4 A5 A6:Prop}(x1:A1)(x2:A2)(x3:A3)(x4:A4)(x5:A5)(x6:A6)(h:Q)(e:A1→A2→A3→A4→A5→A6→P=Q:=by intro x1 x2 x3 x4 x5 x6;conv=>lhs;simp (maxSteps:=1000000) (disch:=first|omega|assumption|(simp;done)|(simp;omega)) only [↓EVp,↓EVw,LK,EVl,EVq,splice,Nat.reduceAdd,Nat.reduceEqDiff,Nat.reduceMul,Nat.reduceLT,Nat.reduceLeDiff,Nat.reduceBEq,reduceIte,MS,NQ,PN,bU,dG,dR,dJ,eu,reduceCtorEq,x1,x2,x3,x4,x5,x6]):P:=Eq.mpr (e x1 x2 x3 x4 x5 x6) h
theorem ew7{P Q A1 A2 A3 A4 A5 A6 A7:Prop}(x1:A1)(x2:A2)(x3:A3)(x4:A4)(x5:A5)(x6:A6)(x7:A7)(h:Q)(e:A1→A2→A3→A4→A5→A6→A7→P=Q:=by intro x1 x2 x3 x4 x5 x6 x7;conv=>lhs;simp (maxSteps:=1000000) (disch:=first|omega|assumption|(simp;done)|(simp;omega)) only [↓EVp,↓EVw,LK,EVl,EVq,splice,Nat.reduceAdd,Nat.reduceEqDiff,Nat.reduceMul,Nat.reduceLT,Nat.reduceLeDiff,Nat.reduceBEq,reduceIte,MS,NQ,PN,bU,dG,dR,dJ,eu,reduceCtorEq,x1,x2,x3,x4,x5,x6,x7]):P:=Eq.mpr (e x1 x2 x3 x4 x5 x6 x7) h
theorem ew8{P Q A1 A2 A3 A4 A5 A6 A7 A8:Prop}(x1:A1)(x2:A2)(x3:A3)(x4:A4)(x5:A5)(x6:A6)(x7:A7)(x8:A8)(h:Q)(e:A1→A2→A3→A4→A5→A6→A7→A8→P=Q:=by intro x1 x2 x3 x4 x5 x6 x7 x8;conv=>lhs;simp (maxSteps:=1000000) (disch:=first|omega|assumption|(simp;done)|(simp;omega)) only [↓EVp,↓EVw,LK,EVl,EVq,splice,Nat.reduceAdd,Nat.reduceEqDiff,Nat.reduceMul,Nat.reduceLT,Nat.reduceLeDiff,Nat.reduceBEq,reduceIte,MS,NQ,PN,bU,dG,dR,dJ,eu,reduceCtorEq,x1,x2,x3,x4,x5,x6,x7,x8]):P:=Eq.mpr (e x1 x2 x3 x4 x5 x6 x7 x8) h
end Go.Ml
end
namespace Go.Ml
theorem qw{l:List V}{env:Nat→V}(h:NS l 0 env:=by (try (refine ew ?_;try with_reducible exact True.intro))<;>(repeat' (first|refine⟨?_,?_⟩|exact vH (by omega)|exact xH (by simp)|exact vI _))):NS l 0 env:=h
end Go.Ml
namespace Go.Ml
theorem AV{a b:Option Obj}(h:a=b:=by simp (disch:=first|omega|(simp only [aJ,aW,aj,au];omega)) only [LK]):a=b:=h
end Go.Ml
section
namespace Go.Ml
theorem Mk.go{T:Tb}{f:Nat}{t t':V}{k k':Int}(h:Mk T f t k t' k'){σ:Store}{v:V}{os:List Nat}(ho:lM σ v t os)(hn:os.Nodup) :
  ∃σ',Run T (.fn f [v,.int .i64 k] σ) (.fn (.int .i64 k') σ')∧lM σ' v t' os∧Fr os σ σ':=by
 obtain⟨σ',a,b,c,d⟩:=h σ v os ho hn;exact⟨σ',a,b,⟨c,d⟩⟩
def V.sca:V→Bool
 |.int _ _=>true
 |.bool _=>true
 |_=>false
theorem aqj{σ:Store}{x:V}(h:x.sca=true):lM σ x x []:=by cases x<;>simp_all [V.sca,lM]
theorem lM.aqk{σ:Store}{v x:V}{os:List Nat}(h:lM σ v x os)(hx:x.sca=true):v=x∧os=[]:=by
 cases x<;>simp_all [V.sca,lM]
structure Cs (σ:Store) (cs ts:List V) (os:List Nat):Prop where
 ow:nI σ cs ts os
 nd:os.Nodup
theorem aue{α:Type}{l:List α}{i:Nat}{x:α}(h:l[i]? = some x):l.set i x=l:=by
 apply fF
 intro n;rw [eX];split
 ·subst_vars
  split
  ·exact h.symm
  rename_i hlt;rw [bn (by omega)]
 rfl
section
variable {σ σ' : Store} {cs ts : List V} {os : List Nat}
theorem Cs.lt(h:Cs σ cs ts os):∀q∈os,q<σ.length:=h.ow.lt
theorem Cs.frame(h:Cs σ cs ts os)(f:∀q∈os,jH σ' q=jH σ q):Cs σ' cs ts os:=⟨h.ow.frame f,h.nd⟩
theorem Cs.fr{os':List Nat}(h:Cs σ cs ts os)(f:Fr os' σ σ')(hd:∀q∈os,q∉os'):Cs σ' cs ts os:=h.frame fun q hq=>f.old q (h.lt q hq) (hd q hq)
theorem Cs.snoc(h:Cs σ cs ts os){x:Option Obj}:Cs (σ++[x]) cs ts os:=h.frame fun q hq=>kJ (h.lt q hq)
theorem Cs.set(h:Cs σ cs ts os){o:Nat}{x:Option Obj}(ho:o∉os):Cs (σ.set o x) cs ts os:=h.frame fun q hq=>jV fun e=>ho (e▸hq)
theorem Cs.sca(h:Cs σ cs ts os)(c:Nat)(x:V){t:V}(ht:ts[c]? = some t)(hs:t.sca=true:=by rfl)(hx:x.sca=true:=by rfl):Cs σ (cs.set c x) (ts.set c x) os:=by
 obtain⟨vc,oc,j1,j2,j3,j4,j5⟩:=h.ow.focus c t h.nd ht;obtain⟨rfl,rfl⟩:=j2.aqk hs;exact⟨j5 σ x x (aqj hx) fun _ _ _=>rfl,h.nd⟩
theorem Cs.call{T:Tb}{f:Nat}{t t' v:V}{k k':Int}(h:Cs σ cs ts os)(c:Nat)(hm:Mk T f t k t' k')(hv:cs[c]? = some v)(ht:ts[c]? = some t) :
  ∃σ',Run T (.fn f [v,.int .i64 k] σ) (.fn (.int .i64 k') σ')∧Cs σ' cs (ts.set c t') os∧Fr os σ σ':=by
 obtain⟨vc,oc,j1,j2,j3,j4,j5⟩:=h.ow.focus c t h.nd ht;rw [hv]at j1
 cases j1
 obtain⟨σ',m1,m2,m3⟩:=hm.go j2 j3;refine⟨σ',m1,⟨?_,h.nd⟩,m3.mono j4⟩;have:=j5 σ' v t' m2 fun q hq' hq=>m3.old q (h.lt q hq') hq
 rwa [aue hv]at this
theorem Cs.part{T:Tb}{f:Nat}{t2 t2':List V}{k k':Int}(h:Cs σ cs ts os)(n m:Nat)(hm:Mk T f (.agg t2) k (.agg t2') k')(ht:(ts.drop n).take m=t2)(hn:n+m≤ts.length) :
  ∃σ',Run T (.fn f [.agg ((cs.drop n).take m),.int .i64 k] σ) (.fn (.int .i64 k') σ')∧Cs σ' cs (ts.take n++t2'++ts.drop (n+m)) os∧Fr os σ σ':=by
 have e:ts=ts.take n++(t2++ts.drop (n+m)):=by
  rw [←ht]
  conv=>lhs;rw [←fH n ts,←fH m (ts.drop n),List.drop_drop]
 have lt2:t2.length=m:=by rw [←ht];simp;omega
 have h1:=h.ow;rw [e]at h1;obtain⟨c1,c2,o1,o2,rfl,rfl,a1,a2⟩:=pq h1;have l1:=a1.len;obtain⟨c3,c4,o3,o4,rfl,rfl,a3,a4⟩:=pq a2;have l2:=a3.len;have nd:=h.nd;have l1':c1.length=n:=by rw [l1];simp;omega
 have e2:((c1++(c3++c4)).drop n).take m=c3:=by
  rw [←l1',List.drop_left,←lt2,←l2,List.take_left]
 rw [e2];simp only [bg,aO]at nd;obtain⟨nd1,⟨nd3,nd4,d34⟩,d1⟩:=nd;obtain⟨σ',m1,m2,m3⟩:=hm.go (nN a3) nd3;obtain⟨cs',e3,m4⟩:=m2.kV
 cases e3
 have lt:=h.lt;refine⟨σ',m1,⟨?_,h.nd⟩,m3.mono (by simp +contextual)⟩;rw [bJ];refine mD (a1.frame fun q hq=>m3.old q (lt q (by simp [hq])) fun hk=>d1 q hq q (.inl hk) rfl) (mD m4 (a4.frame fun q hq=>m3.old q (lt q (by simp [hq])) fun hk=>d34 q hk q hq rfl))
theorem Cs.got{σ2:Store}{r t:V}{os2:List Nat}(h:Cs σ cs ts os)(g:Got σ σ2 r t os2):Cs σ2 (cs++[r]) (ts++[t]) (os++os2):=by
 refine⟨mD (h.ow.frame fun q hq=>g.old q (h.lt q hq)) (by simpa using oC g.ow nM),?_⟩;rw [bg];refine⟨h.nd,g.nd,fun x hx y hy e=>?_⟩;have:=h.lt x hx;have:=g.fresh y hy;omega
theorem Np:Cs σ [] [] []:=⟨nM,.nil⟩
theorem Cs.res(h:Cs σ cs ts os)(c:Nat){v t:V}(hv:cs[c]? = some v)(ht:ts[c]? = some t)(hd:nZ FD t):resolve σ FD v=some t:=by
 obtain⟨vc,oc,j1,j2,_⟩:=h.ow.focus c t h.nd ht;rw [hv]at j1
 cases j1
 exact OL FD j2 hd
end
theorem lM.aip{σ:Store}{v:V}{sz:Nat}{rows:List (List V)}{os:List Nat}{i:Nat}{row:List V}(h:lM σ v (.sl sz rows) os)(hn:os.Nodup)(hi:rows[i]? = some row) :
  ∃
   o R cs oc,v=.kP o 0 rows.length∧jH σ o=some ⟨sz,R⟩∧R.length=rows.length∧R[i]? = some cs∧Cs σ cs row oc∧(∀q∈oc,q∈os)∧o∈os∧o∉oc ∧
   (∀σ' cs' row',Cs σ' cs' row' oc→jH σ' o=some ⟨sz,R.set i cs'⟩→Fr (o::oc) σ σ'→lM σ' v (.sl sz (rows.set i row')) os):=by
 simp only [lM]at h;rcases h with ⟨rfl,_,_⟩|⟨o,R,os',rfl,h2,rfl,h3⟩
 ·simp at hi
 rw [fC]at hn;have hlt:=h3.lt;obtain⟨cs,oc,k1,k2,k3,k4,k5⟩:=h3.focus i row hn.2 hi;refine⟨o,R,cs,oc,rfl,h2,h3.len,k1,⟨k2,k3⟩,fun q hq=>by simp [k4 q hq],by simp,fun k=>hn.1 (k4 o k),?_⟩;intro σ' cs' row' hc ho hf;simp only [lM];refine .inr ⟨o,_,os',by simp,ho,rfl,k5 σ' cs' row' hc.ow fun q hq hnq=>hf.old q (hlt q hq) fun hk=>?_⟩;rcases aH.1 hk with rfl|hk
 ·exact hn.1 hq
 exact hnq hk
theorem lM.agO{σ:Store}{v:V}{sz:Nat}{rows:List (List V)}{os:List Nat}(h:lM σ v (.sl sz rows) os) :
  (rows=[]∧v=.sl sz []∧os=[])∨∃o R os',v=.kP o 0 rows.length∧jH σ o=some ⟨sz,R⟩∧R.length=rows.length∧os=o::os'∧uX σ R rows os':=by
 simp only [lM]at h;rcases h with ⟨rfl,h1,h2⟩|⟨o,R,os',rfl,h2,rfl,h3⟩
 ·exact .inl ⟨rfl,h1,h2⟩
 exact .inr ⟨o,R,os',rfl,h2,h3.len,rfl,h3⟩
theorem lM.obj{σ:Store}{o n:Nat}{sz:Nat}{rows:List (List V)}{os:List Nat}(h:lM σ (.kP o 0 n) (.sl sz rows) os):∃R,jH σ o=some ⟨sz,R⟩∧R.length=n:=by
 rcases h.agO with ⟨_,e,_⟩|⟨o,R,os',e,h2,h3,_,_⟩
 ·cases e
 cases e;exact⟨R,h2,h3⟩
theorem agP{α:Type} [Inhabited α] (f:α→Nat) {l:List α} {i:Nat} (h:i<l.length):l.length+f (l.getD i default)≤Dy f l:=by
 have h1:=SH f h;have h2:=sumTo_le f l (i+1);unfold Dy;omega
theorem uj{T:Tb}{f:Nat}{as:List Src}{dst:Option Nat}{env:Nat→V}{σ σ':Store}{kp bs:Nat}{rs ms:List Nat}{k:St→Prop}{as':List V}{r:V}
  (h:Run T (.fn f as' σ) (.fn r σ')) (ha:(as.map fun s=>s.ev env)=as') (hl:σ.length≤σ'.length) (hb:σ.length≤bs) (hk:k ⟨oL env dst r,σ',kp,bs,rs,ms⟩):Ro T f as dst ⟨env,σ,kp,bs,rs,ms⟩ k:=by
 subst ha;exact amx h hl hb hk
def TR{α:Type}(f:Int→α→α)(c:α→Nat):Int→List α→List α
 |_,[]=>[]
 |k,x::l=>f k x::TR f c (k+c x) l
def EC{α:Type}(c:α→Nat)(l:List α)(i:Nat):Nat:=((l.take i).map c).sum
theorem aeK{α:Type}(c:α→Nat)(l:List α):EC c l 0=0:=by simp [EC]
theorem amB{α:Type} [Inhabited α] (c:α→Nat) (l:List α) {i:Nat} (h:i<l.length):EC c l (i+1)=EC c l i+c (l.getD i default):=by
 unfold EC;have e:l.take (i+1)=l.take i++[l.getD i default]:=by
  rw [dD,aB h,ak,aB h];rfl
 rw [e,bK,List.sum_append];simp
theorem Y2{α:Type}(c:α→Nat)(x:α)(l:List α)(i:Nat):EC c (x::l) (i+1)=c x+EC c l i:=by simp [EC]
theorem acs{α:Type}(c:α→Nat):∀(l:List α) {i:Nat},i≤l.length→EC c l i≤EC c l l.length
 | [],i,h=>by simp at h;subst h;exact aP _
 |x::l,0,h=>by simp [aeK]
 |
  x::l,i+1,h=>by
  rw [Y2,aj,Y2];have:=acs c l (i:=i) (by simpa using h);omega
theorem OO{α:Type}(f:Int→α→α)(c:α→Nat):∀(k:Int) (l:List α),(TR f c k l).length=l.length
 |_,[]=>rfl
 |k,x::l=>by simp [TR,OO f c _ l]
theorem agQ{α:Type} [Inhabited α] (f:Int→α→α) (c:α→Nat):∀(k:Int) (l:List α) (i:Nat),i<l.length→(TR f c k l).getD i default=f (k+EC c l i) (l.getD i default)
 |_,[],i,h=>by simp at h
 |k,x::l,0,h=>by simp [TR,aeK]
 |
  k,x::l,i+1,h=>by
  rw [Y2,TR,jO,jO,agQ f c _ l i (by simpa using h)]
  congr 1
  omega
def S9{α:Type}(f:Int→α→α)(c:α→Nat)(k:Int)(l:List α)(i:Nat):List α:=(TR f c k l).take i++l.drop i
theorem amC{α:Type}(f:Int→α→α)(c:α→Nat)(k:Int)(l:List α):S9 f c k l 0=l:=by simp [S9]
theorem aeL{α:Type}(f:Int→α→α)(c:α→Nat)(k:Int)(l:List α):S9 f c k l l.length=TR f c k l:=by
 unfold S9;rw [fO,aQ,aY (by rw [OO];exact aP _)]
theorem Uw{α:Type}(f:Int→α→α)(c:α→Nat)(k:Int)(l:List α){i:Nat}(h:i≤l.length):(S9 f c k l i).length=l.length:=by
 simp [S9,OO];omega
theorem aiq{α:Type} [Inhabited α] (f:Int→α→α) (c:α→Nat) (k:Int) (l:List α) {i:Nat} (h:i<l.length):(S9 f c k l i).getD i default=l.getD i default:=by
 have e:((TR f c k l).take i).length=i:=by simp [OO];omega
 unfold S9;rw [ak,bI (by omega),e,jd,dA,gy,←ak]
theorem aeM{α:Type} [Inhabited α] (f:Int→α→α) (c:α→Nat) (k:Int) (l:List α) {i:Nat} (h:i<l.length):(S9 f c k l i).set i (f (k+EC c l i) (l.getD i default))=S9 f c k l (i+1):=by
 have e:((TR f c k l).take i).length=i:=by simp [OO];omega
 have h2:=agQ f c k l i h;have h3:i<(TR f c k l).length:=by rw [OO];exact h
 rw [ak,aB h3]at h2;unfold S9;rw [gG _ _ (by omega),e,jd,bT h,gU,←h2];have e2:(TR f c k l).take (i+1)=(TR f c k l).take i++[(TR f c k l)[i]]:=by
  rw [dD,aB h3];rfl
 rw [e2,bJ];rfl
end Go.Ml
end
section
namespace Go.Ml
theorem Ux(g:Nat→Option Nat):∀l:List V,lD.MR g l=l.map (lD g)
 | []=>rfl
 |x::l=>by simp only [lD.MR,bC,Ux g l]
section
variable {σ σ2 : Store} {m : Nat}
theorem KR{n:Nat}(ih:∀v t:V,resolve σ n v=some t→resolve σ2 n (lD (mV m) v)=some t):∀(l l':List V),l.mapM (resolve σ n)=some l'→(l.map (lD (mV m))).mapM (resolve σ2 n)=some l'
 | [],l',h=>by simpa using h
 |
  x::l,l',h=>by
  simp only [bD,iF,fM,dQ,bC]at h ⊢;obtain⟨a,ha,b,hb,e⟩:=h;exact⟨a,ih x a ha,b,KR ih l b hb,e⟩
theorem WT{n:Nat}(ih:∀v t:V,resolve σ n v=some t→resolve σ2 n (lD (mV m) v)=some t):∀(l:List (List V)) (l':List (List V)),(l.mapM fun (r:List V)=>r.mapM (resolve σ n))=some l' →
  ((l.map fun r=>r.map (lD (mV m))).mapM fun (r:List V)=>r.mapM (resolve σ2 n))=some l'
 | [],l',h=>by simpa using h
 |
  x::l,l',h=>by
  simp only [bD,iF,fM,dQ,bC]at h ⊢;obtain⟨a,ha,b,hb,e⟩:=h;exact⟨a,KR ih x a ha,b,WT ih l b hb,e⟩
theorem abh(hs:∀o,jH σ2 (m+o)=(jH σ o).map (qK (mV m))):∀(n:Nat) (v t:V),resolve σ n v=some t→resolve σ2 n (lD (mV m) v)=some t
 |0,_,_,h=>by simp [resolve]at h
 |
  n+1,v,t,h=>by
  have ih:=abh hs n
  cases v with
  |
   kP o s l =>
   simp only [lD,mV,resolve,hs]at h ⊢
   cases ho:jH σ o with
   |none=>rw [ho]at h;cases h
   |
    some ob =>
    rw [ho]at h;simp only [bY,qK,aV]at h ⊢;split at h
    ·rename_i hl;rw [if_pos hl];obtain⟨rows,h1,rfl⟩:=aI.1 h;rw [aI];refine⟨rows,?_,rfl⟩;rw [←jr,←List.map_take];exact WT ih _ _ h1
    cases h
  |
   ptr o r off =>
   simp only [lD,mV,resolve,hs]at h ⊢
   cases ho:jH σ o with
   |none=>rw [ho]at h;cases h
   |
    some ob =>
    rw [ho]at h;simp only [bY,qK,bG]at h ⊢
    cases hr:ob.rows[r]? with
    |none=>rw [hr]at h;cases h
    |
     some row =>
     rw [hr]at h;simp only [bY]at h ⊢;obtain⟨row',h1,rfl⟩:=aI.1 h;rw [aI];exact⟨row',KR ih _ _ h1,rfl⟩
  |
   agg cs =>
   simp only [lD,resolve]at h ⊢;obtain⟨cs',h1,rfl⟩:=aI.1 h;rw [aI,Ux];exact⟨cs',KR ih _ _ h1,rfl⟩
  |
   nK cs =>
   simp only [lD,resolve]at h ⊢;obtain⟨cs',h1,rfl⟩:=aI.1 h;rw [aI,Ux];exact⟨cs',KR ih _ _ h1,rfl⟩
  |any=>simp [resolve]at h
  |one=>simpa only [lD,resolve]using h
  |int k n=>simpa only [lD,resolve]using h
  |bool b=>simpa only [lD,resolve]using h
  |str b=>simpa only [lD,resolve]using h
  |jL=>simpa only [lD,resolve]using h
  |sl a b=>simpa only [lD,resolve]using h
  |oZ a b=>simpa only [lD,resolve]using h
end
def XL(σ:Store):List V→List (Bool×V)→List Nat→Prop
 |vs,[],os=>vs=[]∧os=[]
 |vs,(b,t)::ts,os=>∃v vs' o1 o2,vs=v::vs'∧os=o1++o2∧(if b=true then lM σ v t o1 else resolve σ FD v=some t∧o1=[])∧XL σ vs' ts o2
theorem XL.shift{σ σ2:Store}{n:Nat}(hs:∀o,jH σ2 (n+o)=(jH σ o).map (qK (mV n))):∀{ts:List (Bool×V)} {vs:List V} {os:List Nat},XL σ vs ts os→XL σ2 (vs.map (lD (mV n))) ts (os.map (n + ·))
 | [],vs,os,h=>by simp only [XL]at h ⊢;obtain⟨rfl,rfl⟩:=h;exact⟨rfl,rfl⟩
 |
  (b,t)::ts,vs,os,h=>by
  simp only [XL]at h ⊢;obtain⟨v,vs',o1,o2,rfl,rfl,h1,h2⟩:=h;refine⟨_,_,o1.map (n + ·),o2.map (n + ·),rfl,by rw [bK],?_,XL.shift hs h2⟩
  cases b with
  |true=>simp only [if_true]at h1 ⊢;exact lM.shift hs h1
  |
   false =>
   simp only [aX,if_false]at h1 ⊢;exact⟨abh hs _ _ _ h1.1,by rw [h1.2];rfl⟩
def PX(T:Tb)(f:Nat)(args:List V)(ts:List (Bool×V)):Prop:=∃vs σ' os,Run T (.fn f args []) (.fn (.nK vs) σ')∧XL σ' vs ts os∧os.Nodup
structure aj1 (σ σ2:Store) (vs:List V) (ts:List (Bool×V)) (os:List Nat):Prop where
 ow:XL σ2 vs ts os
 nd:os.Nodup
 fresh:∀o∈os,σ.length≤o
 old:∀o,o<σ.length→jH σ2 o=jH σ o
 len:σ.length≤σ2.length
theorem VR{T:Tb}{f:Nat}{as:List Src}{dst:Option Nat}{env:Nat→V}{σ:Store}{kp bs:Nat}{rs ms:List Nat}{k:St→Prop}{as':List V}{ts:List (Bool×V)}(h:PX T f as' ts)
  (ha:NM env σ as (· = as')) (hr:nO env σ as=[]) (hk:∀vs σ2 os,aj1 σ σ2 vs ts os→k ⟨oL env dst (.nK vs),σ2,kp,bs,rs,ms⟩):Ro T f as dst ⟨env,σ,kp,bs,rs,ms⟩ k:=by
 obtain⟨vs,σ',os,h1,h2,h3⟩:=h;obtain⟨as2,e,rfl⟩:=zZ ha;refine⟨_,.own e h1 (R:=[]) (by split;rfl;exact hr.symm),?_⟩;have key:∀o,jH (zo (nH σ []) σ') (σ.length+o)=(jH σ' o).map (qK (mV σ.length)):=by
  intro o;show jH (zo σ σ') _=_;rw [pR,if_neg (by omega)]
  congr 2;omega
 have:=hk (vs.map (lD (mV σ.length))) (zo (nH σ []) σ') (os.map (σ.length + ·)) ⟨h2.shift key,?_,?_,?_,?_⟩
 ·simpa only [lD,Ux]using this
 ·exact iR.2 (h3.imp fun hne e=>hne (by omega))
 ·intro o ho;obtain⟨q,_,rfl⟩:=bM.1 ho;omega
 ·intro o ho;show jH (zo σ σ') _=_;rw [pR,if_pos ho]
 simp [zo,nH]
theorem aj1.of1{σ σ2:Store}{vs:List V}{t u:V}{os:List Nat}(g:aj1 σ σ2 vs [(true,t),(false,u)] os):∃v w,vs=[v,w]∧resolve σ2 FD w=some u∧Got σ σ2 v t os:=by
 obtain⟨v,vs',o1,o2,rfl,rfl,h1,h2⟩:=(by simpa only [XL]using g.ow:∃v vs' o1 o2,_);obtain⟨w,vs2,o3,o4,rfl,rfl,h3,h4⟩:=h2;obtain⟨rfl,rfl⟩:=h4;simp only [if_true,aX,if_false]at h1 h3;obtain⟨h3,rfl⟩:=h3;refine⟨v,w,rfl,h3,⟨by simpa using h1,g.nd,g.fresh,g.old,g.len⟩⟩
theorem aj1.fo{σ σ2:Store}{vs:List V}{t u b:V}{os:List Nat}(g:aj1 σ σ2 vs [(false,u),(true,t),(false,b)] os):∃w v z,vs=[w,v,z]∧resolve σ2 FD w=some u∧resolve σ2 FD z=some b∧Got σ σ2 v t os:=by
 obtain⟨w,vs',o1,o2,rfl,rfl,h1,h2⟩:=(by simpa only [XL]using g.ow:∃v vs' o1 o2,_);obtain⟨v,vs2,o3,o4,rfl,rfl,h3,h4⟩:=h2;obtain⟨z,vs3,o5,o6,rfl,rfl,h5,h6⟩:=h4;obtain⟨rfl,rfl⟩:=h6;simp only [if_true,aX,if_false]at h1 h3 h5;obtain⟨h1,rfl⟩:=h1;obtain⟨h5,rfl⟩:=h5;refine⟨w,v,z,rfl,h1,h5,⟨by simpa using h3,g.nd,g.fresh,g.old,g.len⟩⟩
theorem ED{σ:Store}{z:V}{b:Bool}(h:resolve σ FD z=some (.bool b)):z=.bool b:=by
 rw [show FD=11+1 from rfl]at h
 cases z with
 |bool c=>simpa [resolve]using h
 |
  kP o s l =>
  rw [resolve]at h
  cases ho:jH σ o with
  |none=>simp only [ho]at h;cases h
  |
   some ob =>
   simp only [ho]at h;by_cases hl:s+l≤ob.rows.length
   ·rw [if_pos hl]at h;obtain⟨_,_,e⟩:=aI.1 h
    cases e
   rw [if_neg hl]at h;cases h
 |
  ptr o r off =>
  rw [resolve]at h
  cases ho:jH σ o with
  |none=>simp only [ho]at h;cases h
  |
   some ob =>
   simp only [ho]at h
   cases hr:ob.rows[r]? with
   |none=>simp only [hr]at h;cases h
   |
    some row =>
    simp only [hr]at h;obtain⟨_,_,e⟩:=aI.1 h
    cases e
 |
  agg cs =>
  rw [resolve]at h;obtain⟨_,_,e⟩:=aI.1 h
  cases e
 |
  nK cs =>
  rw [resolve]at h;obtain⟨_,_,e⟩:=aI.1 h
  cases e
 |any=>rw [resolve]at h;cases h
 |one=>rw [resolve]at h<;>simp_all
 |int k n=>rw [resolve]at h<;>simp_all
 |str n=>rw [resolve]at h<;>simp_all
 |jL=>rw [resolve]at h<;>simp_all
 |sl k n=>rw [resolve]at h<;>simp_all
 |oZ k n=>rw [resolve]at h<;>simp_all
def agR(σ:Store)(r:V)(ts:List (Bool×V)):Prop:=∃vs os,lW (.nK vs) r∧XL σ vs ts os∧os.Nodup
theorem qx{T:Tb}{f:Nat}{as:List Src}{dst:Option Nat}{env:Nat→V}{σ:Store}{kp bs:Nat}{rs ms:List Nat}{k:List Nat→List Nat→Bool→St→Prop}{as':List V}{t:V}(h:PO T f as' t)
  (ha:NM env σ as (· = as')) (hr:nO env σ as=[]) (hk:∀r σ2 os,Got σ σ2 r t os→k [] [] true ⟨oL env dst r,σ2,kp,bs,rs,ms⟩):agc T f as dst ⟨env,σ,kp,bs,rs,ms⟩ k :=
 Y1 h ha fun r σ2 os g=>by rw [hr];exact hk r σ2 os g
theorem Got.PW{σ σ2:Store}{r t:V}{b:Bool}{os:List Nat}(g:Got σ σ2 r (.nK [t,.bool b]) os):∃v,r=.nK [v,.bool b]∧Got σ σ2 v t os:=by
 obtain⟨cs,rfl,h⟩:=g.ow.XK;obtain⟨v,vs,o1,o2,rfl,rfl,h1,h2⟩:=h.inv;obtain⟨vs,rfl,h3⟩:=h2.vP;obtain⟨rfl,rfl⟩:=h3.C9;exact⟨v,rfl,by simpa using h1,g.nd,g.fresh,g.old,g.len⟩
theorem Got.aDd{σ σ2:Store}{r t u:V}{b:Bool}{os:List Nat}(g:Got σ σ2 r (.nK [t,u,.bool b]) os):∃v w,r=.nK [v,w,.bool b]∧Got σ σ2 (.agg [v,w]) (.agg [t,u]) os:=by
 obtain⟨cs,rfl,h⟩:=g.ow.XK;obtain⟨v,vs,o1,o2,rfl,rfl,h1,h2⟩:=h.inv;obtain⟨w,vs,o3,o4,rfl,rfl,h3,h4⟩:=h2.inv;obtain⟨vs,rfl,h5⟩:=h4.vP;obtain⟨rfl,rfl⟩:=h5.C9;exact⟨v,w,rfl,nN (oC h1 (by simpa using oC h3 nM)),g.nd,g.fresh,g.old,g.len⟩
theorem aeN{σ:Store}{b:Bool}:Fin σ (.bool b) (.bool b):=rE (os:=[]) (by simp [lM]) .nil
theorem Fin.PW{σ:Store}{v t:V}{b:Bool}(h:Fin σ v t):Fin σ (.nK [v,.bool b]) (.nK [t,.bool b]):=by
 obtain⟨r',os,h1,h2,h3⟩:=h;refine⟨.nK [r',.bool b],os,?_,IE (by simpa using oC h2 (nS nM)),h3⟩;simp only [lW,uG];exact⟨_,rfl,_,_,rfl,h1,_,_,rfl,rfl,rfl⟩
end Go.Ml
end
section
namespace Go.Ml
theorem XM(n:Nat)(q:IntKind)(k:Int):nZ (n+1) (.int q k):=by simp [nZ]
theorem uQ(n:Nat)(b:Bool):nZ (n+1) (.bool b):=by simp [nZ]
theorem jS(n:Nat)(l:List Int):nZ (n+2) (ints l):=by
 simp only [nZ];intro r hr c hc;simp only [kF,bM]at hr;obtain⟨x,_,rfl⟩:=hr;simp only [aH,bV,or_false]at hc;subst hc;simp [nZ]
theorem acu{α:Type}{f:α→List V}{n k:Nat}{l:List α}(h:∀x,∀c∈f x,nZ n c):nZ (n+1) (.sl k (l.map f)):=by
 simp only [nZ];intro r hr c hc;obtain⟨x,_,rfl⟩:=bM.1 hr;exact h x c hc
theorem air{n:Nat}{cs:List V}(h:∀c∈cs,nZ n c):nZ (n+1) (.agg cs):=by simpa only [nZ]using h
theorem auf(n:Nat)(x:R):∀c∈x.cells,nZ (n+2) c:=by
 simp only [eH];exact⟨uQ _ _,jS _ _,jS _ _,by simp⟩
theorem ayb(n:Nat)(x:Pt):∀c∈x.cells,nZ (n+2) c:=by
 simp only [eH];exact⟨uQ _ _,jS _ _,jS _ _,uQ _ _,jS _ _,jS _ _,by simp⟩
theorem arL(n:Nat)(x:Lk):∀c∈x.cells,nZ (n+2) c:=by
 simp only [eH];exact⟨XM _ _ _,XM _ _ _,uQ _ _,jS _ _,jS _ _,uQ _ _,jS _ _,jS _ _,uQ _ _,jS _ _,jS _ _,by simp⟩
theorem ayc(n:Nat)(x:Pa):∀c∈x.cells,nZ (n+2) c:=by
 simp only [eH];exact⟨XM _ _ _,uQ _ _,jS _ _,jS _ _,uQ _ _,jS _ _,jS _ _,uQ _ _,jS _ _,jS _ _,by simp⟩
theorem wF(n:Nat)(l:List Pt):nZ (n+3) (D5 l):=acu fun x=>ayb n x
theorem Ak(n:Nat)(l:List Lk):nZ (n+3) (kY l):=acu fun x=>arL n x
theorem aql(n:Nat)(l:List Pa):nZ (n+3) (xJ l):=acu fun x=>ayc n x
theorem acv(n:Nat)(x:R):nZ (n+3) (kN x):=air (auf n x)
theorem aug(n:Nat)(x:Lk):nZ (n+3) (QV x):=air (arL n x)
theorem ayd(n:Nat)(x:Cd):∀c∈x.cells,nZ (n+3) c:=by
 simp only [eH];exact⟨XM _ _ _,uQ _ _,jS _ _,jS _ _,aql _ _,by simp⟩
theorem aqm(n:Nat)(l:List Cd):nZ (n+4) (Dx l):=acu fun x=>ayd n x
theorem amD{n:Nat}{a b:V}(h1:nZ n a)(h2:nZ n b):nZ (n+1) (.nK [a,b]):=by
 simp only [nZ,eH];exact⟨h1,h2,by simp⟩
theorem Y3{n:Nat}{a b c:V}(h1:nZ n a)(h2:nZ n b)(h3:nZ n c):nZ (n+1) (.nK [a,b,c]):=by
 simp only [nZ,eH];exact⟨h1,h2,h3,by simp⟩
structure Grow (s:Store) (v:V) (sz:Nat) (A ts:List (List V)):Prop where
 ex:∃os,uX s A ts os∧os.Nodup∧((A=[]∧v=.jL)∨∃o,v=.kP o 0 A.length∧jH s o=some ⟨sz,A⟩∧o∉os)
section
variable {s s1 σ2 S : Store} {v : V} {sz : Nat} {A ts : List (List V)}
theorem amE:Grow s .jL sz [] []:=⟨[],by simp [uX],.nil,.inl ⟨rfl,rfl⟩⟩
theorem Grow.len(h:Grow s v sz A ts):A.length=ts.length:=by obtain⟨os,a,_⟩:=h.ex;exact a.len
theorem Grow.cases(h:Grow s v sz A ts):(A=[]∧ts=[]∧v=.jL)∨∃o,v=.kP o 0 A.length∧jH s o=some ⟨sz,A⟩∧o<s.length:=by
 have hl:=h.len;obtain⟨os,a,b,c⟩:=h.ex;rcases c with ⟨rfl,rfl⟩|⟨o,rfl,h1,h2⟩
 ·exact .inl ⟨rfl,bf (by simpa using hl.symm),rfl⟩
 exact .inr ⟨o,rfl,h1,kK h1⟩
theorem Grow.frame(h:Grow s v sz A ts)(f:∀o,o<s.length→jH S o=jH s o):Grow S v sz A ts:=by
 obtain⟨os,a,b,c⟩:=h.ex;refine⟨os,a.frame fun q hq=>f q (a.lt q hq),b,?_⟩;rcases c with c|⟨o,rfl,h1,h2⟩
 ·exact .inl c
 exact .inr ⟨o,rfl,(f o (kK h1)).trans h1,h2⟩
theorem Grow.fin(h:Grow s v sz A ts):Fin s v (.sl sz ts):=by
 have hl:=h.len;obtain⟨os,a,b,c⟩:=h.ex;rcases c with ⟨rfl,rfl⟩|⟨o,rfl,h1,h2⟩
 ·have:ts=[]:=bf (by simpa using hl.symm);subst this;exact CZ
 rw [hl];refine rE (os:=o::os) ?_ (fC.2 ⟨h2,b⟩);simp only [lM];exact .inr ⟨o,A,os,rfl,h1,rfl,a⟩
theorem Grow.app{cs tcs:List V}{os2:List Nat}{id2:Nat}(h:Grow s v sz A ts)(hs:∀o,o<s.length→jH s1 o=jH s o)(hl:s.length≤s1.length)(g:Got s1 σ2 (.agg cs) (.agg tcs) os2)
  (h0:s.length≤id2) (hid:id2<s1.length) (h2:jH S id2=some ⟨sz,A++[cs]⟩)
  (hf:∀q,q≠id2→(q<s.length∨s1.length≤q)→(∀n,v≠.kP q 0 n)→jH S q=jH σ2 q):Grow S (.kP id2 0 (A.length+1)) sz (A++[cs]) (ts++[tcs]):=by
 obtain⟨os,a,b,c⟩:=h.ex;have a':=a.frame (σ':=σ2) fun q hq=>by
  have:=a.lt q hq;rw [g.old q (by omega),hs q this]
 obtain⟨cs',e,hc⟩:=g.ow.kV
 cases e
 have hlt:=a.lt;have hv:∀q∈os++os2,∀n,v≠.kP q 0 n:=by
  intro q hq n;rcases c with ⟨_,rfl⟩|⟨o,rfl,h1,h2⟩
  ·simp
  intro e;have e2:o=q:=by injection e
  rw [e2]at h1 h2;rcases aO.1 hq with hq|hq
  ·exact h2 hq
  have:=g.fresh q hq;have:=kK h1;omega
 have hne:∀q∈os++os2,q≠id2∧(q<s.length∨s1.length≤q):=by
  intro q hq;rcases aO.1 hq with hq|hq
  ·have:=hlt q hq;exact⟨by omega,by omega⟩
  have:=g.fresh q hq;exact⟨by omega,by omega⟩
 have fr:∀q∈os++os2,jH S q=jH σ2 q:=fun q hq=>hf q (hne q hq).1 (hne q hq).2 (hv q hq);refine⟨os++os2,KQ (a'.frame fun q hq=>fr q (gq _ hq)) (ain (hc.frame fun q hq=>fr q (dU _ hq))),?_,.inr ⟨id2,by simp,h2,fun hm=>(hne id2 hm).1 rfl⟩⟩;rw [bg];refine⟨b,g.nd,fun x hx y hy e=>?_⟩;have:=hlt x hx;have:=g.fresh y hy;omega
theorem lQ{s t:Store}{o:Nat}(h:o<s.length):jH (s++t) o=jH s o:=by
 unfold jH;rw [bH h]
theorem Grow.aDe{cs tcs:List V}{os2:List Nat}{id1 id2:Nat}{x:Option Obj}(h:Grow s .jL sz [] ts)(hs:∀o,o<s.length→jH s1 o=jH s o)(hl:s.length≤s1.length)(g:Got s1 σ2 (.agg cs) (.agg tcs) os2)
  (h0:s.length≤id1) (h1:id1<s1.length) (h2:s.length≤id2) (h3:id2<s1.length) (hne:id1≠id2):Grow ((σ2.set id1 x).set id2 (some ⟨sz,[cs]⟩)) (.kP id2 0 1) sz [cs] (ts++[tcs]):=by
 have hlen:=g.len;refine h.app hs hl g h2 h3 (kT (by simp;omega)) fun q hq hr _=>?_;rw [jV hq,jV (by omega)]
theorem Grow.aDf{cs tcs:List V}{os2:List Nat}{id1 id2 o:Nat}{x:Option Obj}(h:Grow s (.kP o 0 A.length) sz A ts)(hs:∀o,o<s.length→jH s1 o=jH s o)(hl:s.length≤s1.length)(g:Got s1 σ2 (.agg cs) (.agg tcs) os2)
  (h0:s.length≤id1) (h1:id1<s1.length) (h2:s.length≤id2) (h3:id2<s1.length) (hne:id1≠id2) :
  Grow (((σ2.set id1 x).set o none).set id2 (some ⟨sz,A++[cs]⟩)) (.kP id2 0 (A.length+1)) sz (A++[cs]) (ts++[tcs]):=by
 have hlen:=g.len;refine h.app hs hl g h2 h3 (kT (by simp;omega)) fun q hq hr hv=>?_;rw [jV hq,jV (fun e=>hv A.length (by rw [e])),jV (by omega)]
end
theorem Got.agS{s σ2:Store}{r t:V}{os:List Nat}(g:Got s σ2 r t os){o:Nat}{x:Option Obj}(h:o<s.length):Fin (σ2.set o x) r t :=
 rE (g.ow.frame fun q hq=>jV (by have:=g.fresh q hq;omega)) g.nd
theorem amF{c:Prop} [Decidable c] {a b:Prop} (h1:c=True→a) (h2:c=False→b):brK (decide c) a b:=kD (fun h=>h1 (eq_true h)) fun h=>h2 (eq_false h)
theorem XO:l7 []:=fun r hr=>by cases hr
theorem Uy{r:List V}{rs:List (List V)}:l7 (r::rs)↔(∀v∈r,v.still=true)∧l7 rs:=by simp [l7]
theorem XP{a b:List (List V)}:l7 (a++b)↔l7 a∧l7 b:=by
 unfold l7;constructor
 ·exact fun h=>⟨fun r hr=>h r (gq _ hr),fun r hr=>h r (dU _ hr)⟩
 intro h r hr;rcases aO.1 hr with k|k
 ·exact h.1 r k
 exact h.2 r k
theorem amG(x:Lk):∀v∈x.cells,v.still=true:=fun v hv=>DV [x] _ (by simp) v hv
theorem amH(x:Pa):∀v∈x.cells,v.still=true:=fun v hv=>Qo [x] _ (by simp) v hv
end Go.Ml
end
section
namespace Go.Ml
structure Ep (s:Store) (cs ts:List V) (os:List Nat) (L:List (Nat×Obj)):Prop where
 c:Cs s cs ts os
 l:∀q∈L,jH s q.1=some q.2∧q.1∉os
section
variable {s σ2 : Store} {cs ts : List V} {os os2 : List Nat} {L : List (Nat × Obj)}
theorem Ep.lt(E:Ep s cs ts os L):∀q∈L,q.1<s.length:=fun q hq=>kK (E.l q hq).1
theorem Ep.snoc(E:Ep s cs ts os L){x:Option Obj}:Ep (s++[x]) cs ts os L:=⟨E.c.snoc,fun q hq=>⟨(kJ (E.lt q hq)).trans (E.l q hq).1,(E.l q hq).2⟩⟩
theorem Ep.res(E:Ep s cs ts os L)(c:Nat){v t:V}(hv:cs[c]? = some v)(ht:ts[c]? = some t)(hd:nZ FD t):resolve s FD v=some t:=E.c.res c hv ht hd
theorem Ep.res1(E:Ep s cs ts os L)(c:Nat){v t:V}(hv:cs[c]? = some v)(ht:ts[c]? = some t)(hd:nZ 11 t):resolve s 11 v=some t:=by
 obtain⟨vc,oc,j1,j2,_⟩:=E.c.ow.focus c t E.c.nd ht;rw [hv]at j1
 cases j1
 exact OL 11 j2 hd
theorem Ep.leaf(E:Ep s cs ts os L)(c:Nat){v t:V}(hv:cs[c]? = some v)(ht:ts[c]? = some t)(hl:t.leaf=true:=by rfl):v.leaf=true:=by
 obtain⟨vc,oc,j1,j2,_⟩:=E.c.ow.focus c t E.c.nd ht;rw [hv]at j1
 cases j1
 exact j2.leaf hl
theorem Ep.got{s1:Store}{rs trs:List V}(E:Ep s cs ts os L)(h1:∀o,o<s.length→jH s1 o=jH s o)(hl:s.length≤s1.length)(ho:nI σ2 rs trs os2)(hn:os2.Nodup)(hf:∀o∈os2,s1.length≤o)
  (old:∀o,o<s1.length→jH σ2 o=jH s1 o):Ep σ2 (cs++rs) (ts++trs) (os++os2) L:=by
 have hlt:=E.c.lt;refine⟨⟨mD (E.c.ow.frame fun q hq=>?_) ho,?_⟩,fun q hq=>⟨?_,?_⟩⟩
 ·have:=hlt q hq;rw [old q (by omega),h1 q this]
 ·rw [bg];refine⟨E.c.nd,hn,fun x hx y hy e=>?_⟩;have:=hlt x hx;have:=hf y hy;omega
 ·have:=E.lt q hq;rw [old _ (by omega),h1 _ this];exact(E.l q hq).1
 intro hm;have:=E.lt q hq;rcases aO.1 hm with hm|hm
 ·exact(E.l q hq).2 hm
 have:=hf _ hm;omega
theorem Ep.free{s1:Store}(E:Ep s cs ts os L){p:Nat}(hf:∀o∈os2,s1.length≤o)(h0:s.length≤p)(h1:p<s1.length):p∉os++os2:=by
 intro hm;rcases aO.1 hm with hm|hm
 ·have:=E.c.lt p hm;omega
 have:=hf p hm;omega
theorem Ep.call{T:Tb}{f:Nat}{t t' v:V}{k k':Int}(E:Ep s cs ts os L)(c:Nat)(hm:Mk T f t k t' k')(hv:cs[c]? = some v)(ht:ts[c]? = some t) :
  ∃s',Run T (.fn f [v,.int .i64 k] s) (.fn (.int .i64 k') s')∧Ep s' cs (ts.set c t') os L∧s.length≤s'.length:=by
 obtain⟨s',h1,h2,h3⟩:=E.c.call c hm hv ht;exact⟨s',h1,⟨h2,fun q hq=>⟨(h3.old _ (E.lt q hq) (E.l q hq).2).trans (E.l q hq).1,(E.l q hq).2⟩⟩,h3.len⟩
theorem Ep.part{T:Tb}{f:Nat}{t2 t2' r2:List V}{k k':Int}(E:Ep s cs ts os L)(n m:Nat)(hm:Mk T f (.agg t2) k (.agg t2') k')(hr:(cs.drop n).take m=r2)(ht:(ts.drop n).take m=t2)(hn:n+m≤ts.length) :
  ∃s',Run T (.fn f [.agg r2,.int .i64 k] s) (.fn (.int .i64 k') s')∧Ep s' cs (ts.take n++t2'++ts.drop (n+m)) os L∧s.length≤s'.length:=by
 obtain⟨s',h1,h2,h3⟩:=E.c.part n m hm ht hn;rw [hr]at h1;exact⟨s',h1,⟨h2,fun q hq=>⟨(h3.old _ (E.lt q hq) (E.l q hq).2).trans (E.l q hq).1,(E.l q hq).2⟩⟩,h3.len⟩
theorem Ep.at0{p:Nat}{ob:Obj}(E:Ep s cs ts os L)(h:(p,ob)∈L):jH s p=some ob∧p<s.length:=⟨(E.l _ h).1,E.lt _ h⟩
end
section
variable {σ : Store} {os : List Nat}
theorem nI.rat{cs:List V}{x:R}(h:nI σ cs x.cells os):∃c1 c2,cs=[.bool x.neg,c1,c2]:=by
 obtain⟨cs,rfl,h1⟩:=h.vP
 match cs,h1.len with
 | [a,b],_=>exact⟨a,b,rfl⟩
theorem nI.pt{cs:List V}{x:Pt}(h:nI σ cs x.cells os):∃c1 c2 c4 c5,cs=[.bool x.x.neg,c1,c2,.bool x.y.neg,c4,c5]:=by
 obtain⟨cs,rfl,h1⟩:=h.vP;obtain⟨a,cs,_,_,rfl,rfl,_,h2⟩:=h1.inv;obtain⟨b,cs,_,_,rfl,rfl,_,h3⟩:=h2.inv;obtain⟨cs,rfl,h4⟩:=h3.vP
 match cs,h4.len with
 | [c,d],_=>exact⟨a,b,c,d,rfl⟩
theorem nI.lk{cs:List V}{x:Lk}(h:nI σ cs x.cells os):∃c3 c4 c6 c7 c9 c10,cs=[iv x.a,iv x.b,.bool x.w.neg,c3,c4,.bool x.dx.neg,c6,c7,.bool x.dy.neg,c9,c10]:=by
 obtain⟨cs,rfl,h1⟩:=h.acr;obtain⟨cs,rfl,h2⟩:=h1.acr;obtain⟨cs,rfl,h3⟩:=h2.vP;obtain⟨a,cs,_,_,rfl,rfl,_,h4⟩:=h3.inv;obtain⟨b,cs,_,_,rfl,rfl,_,h5⟩:=h4.inv;obtain⟨cs,rfl,h6⟩:=h5.vP;obtain⟨c,cs,_,_,rfl,rfl,_,h7⟩:=h6.inv;obtain⟨d,cs,_,_,rfl,rfl,_,h8⟩:=h7.inv;obtain⟨cs,rfl,h9⟩:=h8.vP
 match cs,h9.len with
 | [e,f],_=>exact⟨a,b,c,d,e,f,rfl⟩
theorem nI.cd{cs:List V}{x:Cd}(h:nI σ cs x.cells os):∃c2 c3 c4,cs=[iv x.node,.bool x.total.neg,c2,c3,c4]:=by
 obtain⟨cs,rfl,h1⟩:=h.acr;obtain⟨cs,rfl,h2⟩:=h1.vP
 match cs,h2.len with
 | [a,b,c],_=>exact⟨a,b,c,rfl⟩
theorem nI.tr{cs:List V}{x:List Tn}(h:nI σ cs [aC4 x] os):∃c0,cs=[c0]:=by
 match cs,h.len with
 | [a],_=>exact⟨a,rfl⟩
theorem abj{v t:V}(h:lM σ v t os):nI σ [v] [t] os:=by simpa using oC h nM
end
end Go.Ml
namespace Go.Ml
theorem jT(l:List Nat)(k:List Nat→Prop):Uc l k=k l:=nr rfl
theorem kM(p:Prop):(p∨True)=True:=by simp
theorem Ep.EF{s:Store}{cs ts:List V}{os:List Nat}{L L':List (Nat×Obj)}{p:Nat}{ob:Obj}(E:Ep s cs ts os L)(hp:p∉os)(hl:p<s.length)(h:∀q∈L',(q.1≠p∧q∈L)∨q=(p,ob)) :
  Ep (s.set p (some ob)) cs ts os L':=by
 refine⟨E.c.set hp,fun q hq=>?_⟩;rcases h q hq with ⟨h1,h2⟩|rfl
 ·exact⟨(jV h1).trans (E.l q h2).1,(E.l q h2).2⟩
 exact⟨kT hl,hp⟩
end Go.Ml
namespace Go.Ml
def sh(n0 n x:Nat):Nat:=if x<n0 then x else x+(n-n0)
theorem aye{n0 n x y:Nat}:sh n0 n x<sh n0 n y↔x<y:=by
 unfold sh;split<;>split<;>omega
theorem arM{n0 n x y:Nat}:sh n0 n x=sh n0 n y↔x=y:=by
 unfold sh;split<;>split<;>omega
def Z5(n0 n:Nat)(a:Acc):Acc:=⟨a.i,a.R.map (sh n0 n),a.W.map (sh n0 n),a.n⟩
theorem aeO{n0 n:Nat}(l:List Nat)(p:Nat):(l.map (sh n0 n)).contains (sh n0 n p)=l.contains p:=by
 rw [jk,jE,jE,bM];constructor
 ·rintro⟨q,h1,h2⟩;rw [arM.1 h2]at h1;exact h1
 exact fun h=>⟨p,h,rfl⟩
theorem aeP{n0 n L:Nat}(a b:Acc):AQ (sh n0 n L) (Z5 n0 n a) (Z5 n0 n b)=AQ L a b:=by
 unfold AQ Z5;simp only [jl,Function.comp_def];simp only [aye]
theorem amI{n0 n L:Nat}(d e:qh)(a b:Acc):vX (sh n0 n L) d e (Z5 n0 n a) (Z5 n0 n b)=vX L d e a b:=by
 unfold vX;rw [aeP,aeP];simp only [Z5,jl,Function.comp_def];simp only [aeO]
 congr 6
 congr 1
 funext p
 congr 2
 funext q
 rw [bne,bne]
 congr 1
 rw [jk,beq_iff_eq,beq_iff_eq];exact arM
theorem amJ{n0 n L:Nat}{B:Nat→List Nat}{ops:List qh}:∀l:List Acc,okA (sh n0 n L) B ops (l.map (Z5 n0 n))=okA L B ops l
 | []=>rfl
 |
  a::l=>by
  simp only [bC,okA,jl,Function.comp_def];rw [amJ l]
  congr 2
  funext b
  have h1:(Z5 n0 n a).i=a.i:=rfl;have h2:(Z5 n0 n b).i=b.i:=rfl;rw [amI,h1,h2]
theorem aj2{ops:List qh}{LF:Nat→Nat}{aF:Nat→List Acc}(n0 n:Nat)(hL:LF n=sh n0 n (LF n0))(ha:aF n=(aF n0).map (Z5 n0 n))(hk:pz (LF n0) ops (aF n0)):pz (LF n) ops (aF n):=by
 unfold pz at hk ⊢;rw [hL,ha,←List.map_reverse,amJ];exact hk
end Go.Ml
namespace Go.Ml
theorem zM{ops:List qh}(LF:Nat→Nat)(aF:Nat→List Acc)(n0:Nat)(hL:∀n,n0≤n→LF n=sh n0 n (LF n0))(ha:∀n,n0≤n→aF n=(aF n0).map (Z5 n0 n))(hk:pz (LF n0) ops (aF n0)) :
  ∀n,n0≤n→pz (LF n) ops (aF n):=fun n h=>aj2 n0 n (hL n h) (ha n h) hk
end Go.Ml
end
section
namespace Go.Ml
def ayf(σ:Store)(r:V)(ts:List (Bool×V)):Prop:=∃W σ2 vs os,ReS W σ σ2∧xG W σ r (.nK vs)∧XL σ2 vs ts os∧os.Nodup
theorem Uz{T:Tb}{f:Nat}{F:Fn}{args:List V}{ts:List (Bool×V)}(rf:Nat→Nat→Bool)(hT:T f=some F)
  (h:wp T rf F.body (fun e st=>endW F.res e (fun r σ=>agR σ r ts∨ayf σ r ts) st) (St.enter args [])) (hl:args.length=F.nargs:=by rfl) (hk:F.body.okC=true:=by rfl):PX T f args ts:=by
 obtain⟨r,σ',h1,h2⟩:=run_end rf hT h hl hk;rcases h2 with ⟨vs,os,h2,h3,h4⟩|⟨W,σ2,vs,os,h2,h3,h4,h5⟩
 ·exact⟨vs,σ',os,.afV (Aa _) h1 h2,h3,h4⟩
 exact⟨vs,σ2,os,.reF W (Aa _) h1 h2 h3,h4,h5⟩
theorem aqn{σ:Store}{v w t u:V}{os:List Nat}(h:lM σ v t os)(hn:os.Nodup)(hr:resolve σ FD w=some u):agR σ (.nK [v,w]) [(true,t),(false,u)]:=by
 refine⟨[v,w],os,kE _,?_,hn⟩;simp only [XL,if_true,aX,if_false];exact⟨v,[w],os,[],rfl,by simp,h,w,[],[],[],rfl,rfl,⟨hr,rfl⟩,rfl,rfl⟩
theorem abk(l:List Int):trim l=l.take (trim l).length∧(trim l).length≤l.length:=by
 have h:=aeg l l.length;have e2:(trim l).length=xC l l.length:=by unfold trim;rw [dS];omega
 exact⟨by rw [e2];rfl,by omega⟩
theorem aqo{Q:List Int}{n:Nat}(h:n≤Q.length):ReS [some (0,0,n)] [some ⟨1,kF Q⟩] [some ⟨1,kF (Q.take n)⟩]:=by
 refine⟨rfl,fun i j o s l s' l' h1 h2=>?_,fun k o s l hk=>?_,fun k hk=>?_⟩
 ·cases i with
  |
   zero=>cases j with
   |zero=>rfl
   |succ j=>simp at h2
  |succ i=>simp at h1
 ·cases k with
  |succ k=>simp at hk
  |
   zero =>
   simp only [iW,aC,Prod.mk.injEq]at hk;obtain⟨rfl,rfl,rfl⟩:=hk;refine⟨⟨1,kF Q⟩,⟨1,kF (Q.take n)⟩,rfl,by rw [zB];omega,rfl,rfl,by rw [zB,dS];omega,fun i r r2 h1 h2=>?_⟩;have hi:i<n:=by
    have:=(aK.1 h2).1;rw [zB,dS]at this;omega
   have e:r2=r:=by
    rw [aN]at h1;simp only [kF,bG]at h1 h2;rw [iy hi,h1]at h2;exact(Option.some.inj h2).symm
   subst e;refine KG fun v hv=>pF Q r2 ?_ v hv;exact aS h1
 cases k<;>simp at hk
theorem amK{Q:List Int}{n:Nat}{t u:V}(h:n≤Q.length)(ht:t=ints (Q.take n))(hu:u.still=true):ayf [some ⟨1,kF Q⟩] (.nK [.kP 0 0 n,u]) [(true,t),(false,u)]:=by
 subst ht;refine⟨[some (0,0,n)],[some ⟨1,kF (Q.take n)⟩],[.kP 0 0 n,u],[0],aqo h,?_,?_,by simp⟩
 ·simp only [xG,Gf];exact⟨_,rfl,_,_,rfl,.inl ⟨0,0,n,rfl,aP _,by omega,rfl⟩,_,_,rfl,xI hu,rfl⟩
 simp only [XL,if_true,aX,if_false];refine⟨_,[u],[0],[],rfl,rfl,?_,u,[],[],[],rfl,rfl,⟨NR (n:=11) hu,rfl⟩,rfl,rfl⟩;have:=Ez (σ:=[some ⟨1,kF (Q.take n)⟩]) (o:=0) (l:=Q.take n) rfl
 rwa [dS,Nat.min_eq_left h]at this
end Go.Ml
end
