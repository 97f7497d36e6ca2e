/- Contracts of functions. -/
import Derived.Test.YtbccjdlcbhknoaaGreatPart1
set_option linter.unusedSimpArgs false
set_option linter.unusedVariables false
set_option maxRecDepth 100000
set_option maxHeartbeats 16000000
section
namespace Go.Ml
def zo:Fn:=⟨2,39,[.tmp 4,.tmp 5],(sr [oN 4 mN,oN 5 (.oO (cI 0))] (.seq (rf 1 [oK 10 1 (oV 0),oK 11 1 (ln 10),oN 12 (.make I9 8 (.t 11)),oK 6 1 (oV 12)]) (sr [oN 7 (.oO (cI 0))] (.seq (sr [oW 13 0,oN 14 (ln 13),oN 15 (bc .sub 14 1),oW 8 15] (.block 0 (.loop (.seq (sr [oW 16 8,oN 17 (bc .geq 16 0)] (cd 17 .skip (.exit 0))) (.seq (.block 1 (sr [oW 20 7,oN 21 (bc .mul 20 1000000000),oW 22 0,oW 23 8,oN 24 (ix 1 22 23),oN 25 (lF 1 24),oN 26 (bt .add 21 25),oW 9 26] (sr [oW 27 6,oW 28 8,oW 29 9,oW 30 1,oN 31 (bt .quo 29 30),oN 32 (ix 1 27 28),oS (.store 1 (.t 32) (.t 31))] (rg [oW 33 9,oW 34 1,oN 35 (bt .rem 33 34),oW 7 35])))) (rg [oW 18 8,oN 19 (bc .sub 18 1),oW 8 19])))))) (sr [oW 36 6,oN 37 (cl 71 [36]),oW 38 7,oW 4 37,oW 5 38] .ret)))))⟩
structure EM (T:Tb):Prop where
 hT:T 147=some zo
 mD:qO T
def zq:Fn:=⟨2,27,[.tmp 4],(sr [oN 4 (.oO (cI 0))] (sr [oN 5 (.oO (cI 0))] (sr [oN 6 (.oO (cI 999999999))] (.seq (.block 0 (.loop (.seq (sr [oW 8 5,oW 9 6,oN 10 (bt .lss 8 9)] (cd 10 .skip (.exit 0))) (.block 1 (sr [oW 11 5,oW 12 6,oN 13 (bt .add 11 12),oN 14 (bc .add 13 1),oN 15 (bc .quo 14 2),oW 7 15] (sr [oW 16 1,oW 17 7,oN 18 (cl 67 [17]),oN 19 (cl 150 [16,18]),oW 20 0,oN 21 (cl 146 [19,20]),oN 22 (bc .leq 21 0)] (cd 22 (rg [oW 23 7,oW 5 23]) (rg [oW 24 7,oN 25 (bc .sub 24 1),oW 6 25])))))))) (sr [oW 26 5,oW 4 26] .ret)))))⟩
structure EN (T:Tb):Prop where
 hT:T 148=some zq
 rV:yu T
 yV:yR T
 H8:Dz T
def yX:Fn:=⟨2,65,[.tmp 4,.tmp 5],(sr [oN 4 mN,oN 5 mN] (.seq (sr [oW 12 1,oN 13 (ln 12),oN 14 (bc .eql 13 1)] (cd 14 (sr [oW 16 0,oW 17 1,oN 18 (.idx 1 (.t 17) (cI 0)),oN 19 (lF 1 18),oN 20 (cl 147 [16,19]),oW 15 20,oN 21 (ex 0 15),oN 22 (ex 1 15),oW 6 21,oW 7 22] (sr [oW 23 6,oW 24 7,oN 25 (cl 67 [24]),oW 4 23,oW 5 25] .ret)) .skip)) (.seq (rf 1 [oK 26 1 (oV 0),oK 27 1 (ln 26),oN 28 (.make I9 8 (.t 27)),oK 8 1 (oV 28)]) (.seq (rf 1 [oN 29 (.oI 1 I9 0 []),oK 9 1 (oV 29)]) (.seq (sr [oW 30 0,oN 31 (ln 30),oN 32 (bc .sub 31 1),oW 10 32] (.block 0 (.loop (.seq (sr [oW 33 10,oN 34 (bc .geq 33 0)] (cd 34 .skip (.exit 0))) (.seq (.block 1 (.seq (rf 2 [oK 37 2 (oV 0),oK 38 2 (oV 10),oK 39 2 (ix 1 37 38),oK 40 2 (lF 1 39),oN 41 (.oI 1 I9 1 [(0,(.t 40))]),oK 42 2 (oV 9),oK 43 1 (.app 1 8 (.t 41) (.t 42)),oK 44 2 (cl 71 [43]),oK 9 2 (oV 44)]) (.seq (sr [oW 45 9,oW 46 1,oN 47 (cl 146 [45,46]),oN 48 (bc .lss 47 0)] (cd 48 (.exit 1) .skip)) (sr [oW 49 9,oW 50 1,oN 51 (cl 148 [49,50]),oW 11 51] (sr [oW 52 8,oW 53 10,oW 54 11,oN 55 (ix 1 52 53),oS (.store 1 (.t 55) (.t 54))] (rg [oW 56 9,oW 57 1,oW 58 11,oN 59 (cl 67 [58]),oN 60 (cl 150 [57,59]),oN 61 (cl 149 [56,60]),oW 9 61])))))) (rg [oW 35 10,oN 36 (bc .sub 35 1),oW 10 36])))))) (sr [oW 62 8,oN 63 (cl 71 [62]),oW 64 9,oW 4 63,oW 5 64] .ret))))))⟩
structure DK (T:Tb):Prop where
 hT:T 136=some yX
 rV:yu T
 mD:qO T
 yV:yR T
 SE:EM T
 SG:EN T
 V7:H6 T
 H8:Dz T
def zu:Fn:=⟨2,15,[.tmp 4],(sr [oN 4 mN] (.seq (.block 0 (.loop (.seq (sr [oW 6 1,oN 7 (bc .gtr 6 0)] (cd 7 .skip (.exit 0))) (.block 1 (sr [oW 8 0,oW 9 1,oN 10 (bt .rem 8 9),oW 5 10] (sr [oW 11 1,oW 0 11] (rg [oW 12 5,oW 1 12]))))))) (sr [oW 13 0,oN 14 (cl 67 [13]),oW 4 14] .ret)))⟩
structure EO (T:Tb):Prop where
 hT:T 135=some zu
 rV:yu T
def zA:Fn:=⟨1,30,[.tmp 2,.tmp 3],(sr [oN 2 (.oO (cI 0)),oN 3 mF] (.seq (.seq (rf 1 [oK 6 1 (oV 0),oK 7 1 (cl 121 [6]),oK 8 1 (nt 7),oK 9 1 (oV 8),oH 9 false 10 1 (oV 0) [],oG 9 false 11 (.oI 1 I9 3 [(0,(cI 854775807)),(1,(cI 223372036)),(2,(cI 9))]),oH 9 false 12 1 (cl 146 [10,11]) [],oH 9 false 13 1 (bc .gtr 12 0) [],oK 14 1 (.pick (.t 9) (.c (.bool true)) (.t 13))]) (cd 14 (sr [oN 2 (.oO (cI 0)),oN 3 mF] .ret) .skip)) (sr [oN 4 (.oO (cI 0))] (.seq (sr [oW 15 0,oN 16 (ln 15),oN 17 (bc .sub 16 1),oW 5 17] (.block 0 (.loop (.seq (sr [oW 18 5,oN 19 (bc .geq 18 0)] (cd 19 .skip (.exit 0))) (.seq (.block 1 (rg [oW 22 4,oN 23 (bc .mul 22 1000000000),oW 24 0,oW 25 5,oN 26 (ix 1 24 25),oN 27 (lF 1 26),oN 28 (bt .add 23 27),oW 4 28])) (rg [oW 20 5,oN 21 (bc .sub 20 1),oW 5 21])))))) (sr [oW 29 4,oW 2 29,oN 3 mT] .ret)))))⟩
structure EP (T:Tb):Prop where
 hT:T 134=some zA
 Js:FM T
 yV:yR T
def DL:Fn:=⟨2,52,[.tmp 4],(sr [oN 4 mN] (.seq (rf 2 [oN 13 (.oI 1 I9 0 []),oK 14 2 (oV 0),oK 15 1 (.app 1 8 (.t 13) (.t 14)),oK 5 2 (oV 15)]) (.seq (rf 2 [oN 16 (.oI 1 I9 0 []),oK 17 2 (oV 1),oK 18 1 (.app 1 8 (.t 16) (.t 17)),oK 6 2 (oV 18)]) (.seq (.block 0 (.loop (.seq (sr [oW 19 6,oN 20 (ln 19),oN 21 (bc .gtr 20 0)] (cd 21 .skip (.exit 0))) (.block 1 (.seq (sr [oW 22 5,oN 23 (ln 22),oN 24 (bc .lss 23 3),oW 25 24,oG 25 true 26 (oV 6),oG 25 true 27 (ln 26),oG 25 true 28 (bc .lss 27 3),oN 29 (.pick (.t 25) (.t 28) (.c (.bool false)))] (cd 29 (sr [oW 31 5,oN 32 (cl 134 [31]),oW 30 32,oN 33 (ex 0 30),oN 34 (ex 1 30),oW 7 33,oW 8 34] (sr [oW 36 6,oN 37 (cl 134 [36]),oW 35 37,oN 38 (ex 0 35),oN 39 (ex 1 35),oW 9 38,oW 10 39] (sr [oW 40 7,oW 41 9,oN 42 (cl 135 [40,41]),oW 4 42] .ret))) .skip)) (sr [oW 44 5,oW 45 6,oN 46 (cl 136 [44,45]),oW 43 46,oN 47 (ex 0 43),oN 48 (ex 1 43),oW 11 47,oW 12 48] (sr [oW 49 6,oW 5 49] (rg [oW 50 12,oW 6 50])))))))) (sr [oW 51 5,oW 4 51] .ret)))))⟩
structure H9 (T:Tb):Prop where
 hT:T 123=some DL
 J9:EP T
 SH:EO T
 DN:DK T
theorem ail{T:Tb}(h:H6 T){m n:Nat}(hle:n≤m)(la:(mk m).length≤1000:=by exact qW)(lb:(mk n).length≤1000:=by exact qW):PF T 149 [ints (mk m),ints (mk n)] (ints (mk (m-n))):=by
 obtain⟨a,hA⟩:∃a,mk m=a:=⟨_,rfl⟩;obtain⟨b,hB⟩:∃b,mk n=b:=⟨_,rfl⟩;have hva:val a=m:=by rw [←hA,val_mk]
 have hvb:val b=n:=by rw [←hB,val_mk]
 have hba:Lb a:=hA▸uF m;have hbb:Lb b:=hB▸uF n;have hlen:b.length≤a.length:=by
  rcases dD a.length b.length with k|k
  ·have:=wM hba (hB▸sN n) k;omega
  exact k
 rw [hA]at la ⊢;rw [hB]at lb ⊢;refine jZ nR h.hT ?_;simp only [Dx,Lz];refine ev ?_;refine jX (fun _ _=>false) (α:=Nat×Int×List Int) (fun q=>⟨lS [ints a,ints b,.any,.any,.any,slV q.2.2.length,iv q.2.1,.any,.any,.any,ints a,iv (a.length:Nat),iv (q.1:Nat)],Zj 1 (jR q.2.2),0,0,[],[]⟩) (fun q=>q.1≤a.length∧q.2.2.length=q.1∧Lb q.2.2∧(q.2.1=0∨q.2.1=1)∧val q.2.2+val (b.take q.1)=val (a.take q.1)+q.2.1.toNat*1000000000 ^ q.1) (fun q=>a.length-q.1) rfl (0,0,[]) ?_ ?_ ?_
 ·exact⟨by omega,rfl,ahN,.inl rfl,by simp [val]⟩
 ·exact Oa
 rintro⟨i,bo,xs⟩ ⟨hi,hD,Ob,hbo,hv⟩;dsimp only at hi hD Ob hbo hv;have ga:=uG hba i;have gb:=uG hbb i;have zb:b.length≤i→b.getD i 0=0:=Ph;have hx:xs.length≤1000:=by omega
 by_cases c1:(i:Int)<(a.length:Nat)
 ·have key:∀d bo':Int,d+b.getD i 0+bo=a.getD i 0+bo'*1000000000→0≤d→d<1000000000→(bo'=0∨bo'=1)→∃a':Nat×Int×List Int,a'=(i+1,bo',xs++[d]) ∧
    a.length-a'.1<a.length-i∧(a'.1≤a.length∧a'.2.2.length=a'.1∧Lb a'.2.2∧(a'.2.1=0∨a'.2.1=1)∧val a'.2.2+val (b.take a'.1)=val (a.take a'.1)+a'.2.1.toNat*1000000000 ^ a'.1):=by
   intro d bo' hd d0 d1 hb';refine⟨_,rfl,by dsimp only;omega,by dsimp only;omega,by simp [hD],adQ d0 d1 Ob,hb',?_⟩;dsimp only;have e2:(a.take i).length=i:=by simp;omega
   rw [wF,hD,nH (l:=a) (by omega),wF,e2];have e3:val (b.take (i+1))=val (b.take i)+1000000000 ^ i*(b.getD i 0).toNat:=by
    by_cases hb2:i<b.length
    ·rw [nH hb2,wF];congr 3;simp;omega
    rw [bg (by omega),bg (by omega),zb (by omega)];simp
   rw [e3,iC];exact Z9 hv (by omega)
  by_cases c2:(i:Int)<(b.length:Nat)
  ·by_cases c3:a.getD i 0-bo-b.getD i 0<0
   ·obtain⟨_,rfl,k1,k2⟩:=key (a.getD i 0-bo-b.getD i 0+1000000000) 1 (by omega) (by omega) (by omega) (.inr rfl);clear key hv zb hba hbb Ob
    (rcases xs with _|⟨x,xs⟩<;>simp only [aC,ak,Ag,yP,nV,lY]at hx ⊢)
    ·refine Gp @c1 @c2 @c3 ?_;exact⟨by omega,_,k1,k2,by exact Pj⟩
    refine Gp @c1 @c2 @c3 ?_;exact⟨by omega,_,k1,k2,by exact Nk⟩
   obtain⟨_,rfl,k1,k2⟩:=key (a.getD i 0-bo-b.getD i 0) 0 (by omega) (by omega) (by omega) (.inl rfl);clear key hv zb hba hbb Ob
   (rcases xs with _|⟨x,xs⟩<;>simp only [aC,ak,Ag,yP,nV,lY]at hx ⊢)
   ·refine Gp @c1 @c2 @c3 ?_;exact⟨by omega,_,k1,k2,by exact Pj⟩
   refine Gp @c1 @c2 @c3 ?_;exact⟨by omega,_,k1,k2,by exact Nk⟩
  have z:=zb (by omega);by_cases c3:a.getD i 0-bo<0
  ·obtain⟨_,rfl,k1,k2⟩:=key (a.getD i 0-bo+1000000000) 1 (by omega) (by omega) (by omega) (.inr rfl);clear key hv zb hba hbb Ob
   (rcases xs with _|⟨x,xs⟩<;>simp only [aC,ak,Ag,yP,nV,lY]at hx ⊢)
   ·refine Gp @c1 @c2 @c3 ?_;exact⟨by omega,_,k1,k2,by exact Pj⟩
   refine Gp @c1 @c2 @c3 ?_;exact⟨by omega,_,k1,k2,by exact Nk⟩
  obtain⟨_,rfl,k1,k2⟩:=key (a.getD i 0-bo) 0 (by omega) (by omega) (by omega) (.inl rfl);clear key hv zb hba hbb Ob
  (rcases xs with _|⟨x,xs⟩<;>simp only [aC,ak,Ag,yP,nV,lY]at hx ⊢)
  ·refine Gp @c1 @c2 @c3 ?_;exact⟨by omega,_,k1,k2,by exact Pj⟩
  refine Gp @c1 @c2 @c3 ?_;exact⟨by omega,_,k1,k2,by exact Nk⟩
 have hi2:i=a.length:=by omega
 subst hi2;rw [bM,bg (by omega)]at hv;have hlt:=xu Ob;rw [hD]at hlt;have hz:bo=0:=by
  rcases hbo with h|h
  ·exact h
  rw [h]at hv;simp at hv;omega
 subst hz;have ct:=Ai h.mD (l:=xs) (by omega);have e:mk (val xs)=mk (m-n):=by
  congr 1
  simp at hv;omega
 rw [zk Ob,e]at ct
 (rcases xs with _|⟨x,xs⟩<;>simp only [aC,ak,Ag,yP,nV,lY]at hx ⊢)
 ·refine ev1 @c1 ?_;refine amH (as':=[.sl 1 []]) ct (by simp only [Uy,Ux,oC,and_true]) ?_;refine ev ?_;exact jP _
 refine ev1 @c1 ?_;refine jl ct ?_;refine ev ?_;exact jP _
theorem acr{T:Tb}(h:EM T){m d:Nat}(d0:0<d)(d1:d<1000000000)(la:(mk m).length≤1000:=by exact qW):PF T 147 [ints (mk m),iv (d:Nat)] (.nJ [ints (mk (m / d)),iv (m % d:Nat)]):=by
 obtain⟨A,hA⟩:∃A,mk m=A:=⟨_,rfl⟩;have hva:val A=m:=by rw [←hA,val_mk]
 have hbA:Lb A:=hA▸uF m;rw [hA]at la ⊢;refine jZ nR h.hT ?_;simp only [zo,Lz];refine ev ?_;refine⟨by omega,?_⟩;rw [NZ];refine jX (fun _ _=>false) (α:=Nat×List Int×Nat) (fun q=>⟨lS [ints A,iv (d:Nat),.any,.any,.any,.any,.kQ 0 0 A.length,iv (q.2.2:Nat),iv ((q.1:Nat)-1)],[some ⟨1,jR q.2.1⟩],0,0,[],[]⟩) (fun q=>q.1≤A.length∧q.2.1.length=A.length∧Lb q.2.1∧q.2.2<d∧val (A.drop q.1)=val (q.2.1.drop q.1)*d+q.2.2) (fun q=>q.1) rfl (A.length,List.replicate A.length 0,0) ?_ ?_ ?_
 ·exact⟨by omega,by simp,N7 _,d0,by dsimp only;rw [lZ (Nat.le_refl _),lZ (by simp)];simp⟩
 ·(refine jS ?_;exact EJ)
 rintro⟨k,Q,x⟩ ⟨hk,hQ,hQb,hx,hv⟩;dsimp only at hk hQ hQb hx hv;by_cases k0:k=0
 ·subst k0;rw [bY,bY,hva]at hv;obtain⟨q1,q2⟩:=Jp hv hx;have e0:¬(0:Int)≤((0:Nat):Int)-1:=by omega
  refine ev1 @e0 ?_;refine jl (Ai h.mD (l:=Q) (by omega)) ?_;refine ev ?_;rw [zk hQb,←q1,←q2];exact jP _
 obtain⟨i,rfl⟩:∃i,k=i+1:=⟨k-1,by omega⟩;have e0:(((i+1:Nat):Int)-1)=(i:Nat):=by omega
 have e1:((i:Nat):Int)<(A.length:Nat):=by omega
 have e2:(0:Int)≤(i:Nat):=by omega
 rw [e0];have ga:=uG hbA i;have hvi:=qp A i;obtain⟨t,ht⟩:∃t:Nat,t=x*1000000000+(A.getD i 0).toNat:=⟨_,rfl⟩;have ht':(x:Int)*1000000000+A.getD i 0=(t:Nat):=by omega
 have tq:t / d<1000000000:=by
  have t1:t<(x+1)*1000000000:=by omega
  exact iJ (aU t1 (dA 1000000000 hx))
 have tr:t % d<d:=jL _ d0;have f1:((t:Nat):Int).tdiv (d:Nat)=((t / d:Nat):Int):=by rw [eU (by omega),Int.natCast_ediv]
 have f2:((t:Nat):Int).tmod (d:Nat)=((t % d:Nat):Int):=by rw [gQ (by omega),jH]
 have hdm:=Nat.div_add_mod t d;have nz:¬((d:Nat):Int)=0:=by omega
 have tb:t<1000000000000000000:=by
  have t1:t<(x+1)*1000000000:=by omega
  have t2:(x+1)*1000000000≤1000000000*1000000000:=dA 1000000000 (by omega);exact aU t1 t2
 generalize t / d=q at *;generalize t % d=r at *;have k1:=Jl (l:=Q) (i:=i) (d:=((q:Nat):Int)) (by omega) (by omega) hQb;have k2:val (A.drop i)=val ((Q.set i (q:Nat)).drop i)*d+r:=by
  rw [hvi,hv,drop_set_self (by omega),val,eP,iL,fA,dw d q]at *;rw [show ((q:Nat):Int).toNat=q by omega];omega
 clear hvi hv hdm ht;simp (disch:=first|omega|assumption|(simp;done)|(simp;omega)) only [↓Z7,Z8,splice,Nat.reduceAdd,Nat.reduceEqDiff,Nat.reduceMul,Nat.reduceLT,Nat.reduceLeDiff,reduceIte,V.leaf,IL,Jf,KY,cO,dM,dV,dW,fC,reduceCtorEq,e2,e1,ht',f1,f2,nz,hQ];exact⟨(i,Q.set i (q:Nat),r),by dsimp only;omega,⟨by dsimp only;omega,by simp [hQ],k1,tr,k2⟩,by (refine jS ?_;exact EJ)⟩
theorem acs{T:Tb}(h:EN T){r b:Nat}(b0:0<b)(hr:r<b*1000000000)(la:(mk r).length≤900:=by exact qW)(lb:(mk b).length≤900:=by exact qW):PF T 148 [ints (mk r),ints (mk b)] (iv (r / b:Nat)):=by
 have hq:r / b<1000000000:=iJ (by omega);have key:∀q,b*q≤r↔q≤r / b:=fun q=>by rw [Nat.le_div_iff_mul_le b0,dw]
 refine kR nR h.hT ?_;simp only [zq,Lz];refine ev ?_;generalize r / b=z at *;refine jX (fun _ _=>false) (α:=Nat×Nat) (fun q=>⟨lS [ints (mk r),ints (mk b),.any,.any,.any,iv (q.1:Nat),iv (q.2:Nat)],[],0,0,[],[]⟩) (fun q=>q.1≤z∧z≤q.2∧q.2≤999999999) (fun q=>q.2-q.1) rfl (0,999999999) ?_ ?_ ?_
 ·exact⟨by omega,by dsimp only;omega,by dsimp only;omega⟩
 ·(refine jS ?_;exact EJ)
 rintro⟨lo,hi⟩ ⟨h1,h2,h3⟩;dsimp only at h1 h2 h3;refine ev ?_;refine jW (fun c1=>?_) fun c1=>?_<;>(refine ev1 @c1 ?_;try with_reducible exact True.intro)
 ·have e1:((lo:Int)+hi+1).tdiv 2=(((lo+hi+1) / 2:Nat):Int):=by rw [eU (by omega)];omega
  have q1:lo<(lo+hi+1) / 2:=by omega
  have q2:(lo+hi+1) / 2≤hi:=by omega
  generalize (lo+hi+1) / 2=q at *;have cn:=MK h.rV (n:=((q:Nat):Int)) (by omega);rw [iy]at cn;have lq:(mk q).length≤1:=kL.2 (by omega);have lm:=acp b q;have cc:=UC h.yV (sN (b*q)) (sN r) (by omega) (by omega);rw [val_mk,val_mk]at cc;refine ev1 @e1 ?_;refine jl cn ?_;refine ev ?_;refine jl (aae h.H8 (m:=b) (n:=q) (by omega) (by omega)) ?_;refine ev ?_;refine jl cc ?_;refine ev ?_;have ck:Gm (b*q) r≤0↔b*q≤r:=by unfold Gm;repeat' split<;>omega
  refine jW (fun c2=>?_) fun c2=>?_<;>(refine ev1 @c2 ?_;try with_reducible exact True.intro)
  ·have:=(key q).1 (ck.1 c2);exact⟨(q,hi),by dsimp only;omega,⟨by dsimp only;omega,by dsimp only;omega,h3⟩,by (refine jS ?_;exact EJ)⟩
  have:¬q≤z:=fun k=>c2 (ck.2 ((key q).2 k));have e2:((q:Nat):Int)-1=((q-1:Nat):Int):=by omega
  exact⟨(lo,q-1),by dsimp only;omega,⟨h1,by dsimp only;omega,by dsimp only;omega⟩,by (refine jS ?_)<;>(try (refine ev1 @e2 ?_;try with_reducible exact True.intro))<;>(repeat' (first|refine⟨?_,?_⟩|exact Jh (by omega)|exact Lc (by simp)|exact He _))⟩
 have:lo=z:=by omega
 rw [this]
theorem acu{T:Tb}(h:EO T){x y:Nat}(hx:x<1000000000000000000:=by exact qW)(hy:y<1000000000000000000:=by exact qW):PF T 135 [iv (x:Nat),iv (y:Nat)] (ints (mk (Nat.gcd x y))):=by
 refine jZ nR h.hT ?_;simp only [zu,Lz];refine ev ?_;refine jX (fun _ _=>false) (α:=Nat×Nat) (fun q=>⟨lS [iv (q.1:Nat),iv (q.2:Nat)],[],0,0,[],[]⟩) (fun q=>Nat.gcd q.1 q.2=Nat.gcd x y∧q.1<1000000000000000000∧q.2<1000000000000000000) (fun q=>q.2) rfl (x,y) ?_ ?_ ?_
 ·exact⟨rfl,hx,hy⟩
 ·exact Oa
 rintro⟨u,v⟩ ⟨hg,su,sv⟩;dsimp only at hg su sv;rw [←hg];clear hg;refine ev ?_;refine jW (fun c4=>?_) fun c4=>?_<;>(refine ev1 @c4 ?_;try with_reducible exact True.intro)
 ·have v0:0<v:=by omega
  have er:((u:Nat):Int).tmod (v:Nat)=((u % v:Nat):Int):=by rw [gQ (by omega),jH]
  have lr:=jL u v0;have eg:Nat.gcd v (u % v)=Nat.gcd u v:=by rw [jA u v,Nat.gcd_rec v u,jA]
  exact⟨(v,u % v),lr,⟨eg,sv,by dsimp only;omega⟩,by (refine jS ?_)<;>(try (refine ev1 @er ?_;try with_reducible exact True.intro))<;>(repeat' (first|refine⟨?_,?_⟩|exact Jh (by omega)|exact Lc (by simp)|exact He _))⟩
 have v0:v=0:=by omega
 have cu:=MK h.rV (n:=((u:Nat):Int)) (by omega);rw [iy]at cu;refine jl cu ?_;refine ev ?_;rw [v0,Nat.gcd_zero_right];exact jP _
theorem UG{T:Tb}(h:DK T){m n:Nat}(hn:0<n)(la:(mk m).length≤900:=by exact qW)(lb:(mk n).length≤890:=by exact qW) :
  PF T 136 [ints (mk m),ints (mk n)] (.nJ [ints (mk (m / n)),ints (mk (m % n))]):=by
 by_cases big:(mk n).length=1
 ·have n1:n<1000000000:=by have:=(kL (n:=n) (k:=1)).1 (by omega);omega
  have cs:=acr h.SE (m:=m) hn n1 (by omega);have lr:=jL m hn;have cn:=MK h.rV (n:=((m % n:Nat):Int)) (by omega);rw [iy]at cn;rw [mk_one hn n1];have c0:((1:Nat):Int)=1:=rfl;refine jZ nR h.hT ?_;simp only [yX,Lz];refine ev ?_;refine ev1 @c0 ?_;refine jl cs ?_;refine ev ?_;refine jl cn ?_;refine ev ?_;exact jP _
 obtain⟨A,hA⟩:∃A,mk m=A:=⟨_,rfl⟩;obtain⟨B,hB⟩:∃B,mk n=B:=⟨_,rfl⟩;have hva:val A=m:=by rw [←hA,val_mk]
 have hbA:Lb A:=hA▸uF m;have hbB:Lb B:=hB▸uF n;rw [hA]at la ⊢;rw [hB]at lb big ⊢;have c1:¬((B.length:Nat):Int)=1:=by omega
 refine jZ nR h.hT ?_;simp only [yX,Lz];refine ev ?_;refine ev1 @c1 ?_;refine⟨by omega,?_⟩;rw [NZ];refine jX (fun _ _=>false) (α:=Nat×List Int×Nat) (fun q=>⟨lS [ints A,ints B,.any,.any,.any,.any,.any,.any,.kQ 0 0 A.length,ints (mk q.2.2),iv ((q.1:Nat)-1)],[some ⟨1,jR q.2.1⟩],0,0,[],[]⟩) (fun q=>q.1≤A.length∧q.2.1.length=A.length∧Lb q.2.1∧(∀j,j<q.1→q.2.1.getD j 0=0)∧q.2.2<n∧val (A.drop q.1)=val (q.2.1.drop q.1)*n+q.2.2) (fun q=>q.1) rfl (A.length,List.replicate A.length 0,0) ?_ ?_ ?_
 ·exact⟨by omega,by simp,N7 _,by intro j _;simp [List.getD_eq_getElem?_getD,List.getElem?_replicate];split<;>rfl,hn,by dsimp only;rw [lZ (Nat.le_refl _),lZ (by simp)];simp⟩
 ·rw [mk_zero];exact V6
 rintro⟨k,Q,x⟩ ⟨hk,hQ,hQb,hz,hx,hv⟩;dsimp only at hk hQ hQb hz hx hv;by_cases k0:k=0
 ·subst k0;rw [bY,bY,hva]at hv;obtain⟨q1,q2⟩:=Jp hv hx;have e0:¬(0:Int)≤((0:Nat):Int)-1:=by omega
  refine ev1 @e0 ?_;refine jl (Ai h.mD (l:=Q) (by omega)) ?_;refine ev ?_;rw [zk hQb,←q1,←q2];exact jP _
 obtain⟨i,rfl⟩:∃i,k=i+1:=⟨k-1,by omega⟩;have e0:(((i+1:Nat):Int)-1)=(i:Nat):=by omega
 have e1:((i:Nat):Int)<(A.length:Nat):=by omega
 have e2:(0:Int)≤(i:Nat):=by omega
 rw [e0];have ga:=uG hbA i;have hvi:=qp A i;obtain⟨t,ht⟩:∃t,(A.getD i 0).toNat+1000000000*x=t:=⟨_,rfl⟩;have htn:t<n*1000000000:=by omega
 have lt':(A.getD i 0::mk x).length≤1048576:=by
  have:(mk x).length≤B.length:=by rw [kL];exact Nat.lt_trans hx (by have:=xu hbB;rw [←hB,val_mk,hB]at this;exact this)
  simp only [ak];omega
 have tr:trim (A.getD i 0::mk x)=mk t:=by
  rw [zk (by intro y hy;rcases aH.1 hy with rfl|hy;exact ga;exact uF x y hy),←ht,val,val_mk]
 have ct:=Ai h.mD (l:=A.getD i 0::mk x) lt';rw [tr]at ct;have ely:∀y,y≤t→(mk y).length≤891:=by
  intro y hy;have:(mk y).length≤B.length+1:=by
   rw [kL,iC];have:=xu hbB;rw [←hB,val_mk,hB]at this;exact aU (dZ hy htn) (dA _ (Nat.le_of_lt this))
  omega
 have lx:=ely;refine vM @e2 @e1 ?_;refine⟨fun e3=>?_,fun e3=>?_⟩
 case' refine_1 =>
  have x0:mk x=[]:=by cases hm:mk x with|nil=>rfl|cons a l=>rw [hm]at e3;cases e3
  rw [x0]at ct;rw [show [[V.int IntKind.i64 (A.getD i 0)]]=jR [A.getD i 0]from rfl]
  (refine ev ?_;try with_reducible exact True.intro)
 case' refine_2 =>
  refine ev1 @e3 ?_;rw [show [V.int IntKind.i64 (A.getD i 0)]::jR (mk x)=jR (A.getD i 0::mk x)from rfl];refine ev ?_;have lm:=lt';simp only [ak]at lm;refine⟨by omega,?_⟩
 all_goals
  clear lt';refine jl ct ?_;refine ev ?_;have ly:=ely t (aJ _);have cc:=UC h.yV (sN t) (sN n) (by omega) (by rw [hB];omega);rw [val_mk,val_mk,hB]at cc;refine jl cc ?_;refine ev ?_;have gk:Gm t n<0↔t<n:=by unfold Gm;repeat' split<;>omega
  have k0:=hz i (by omega);have k1:=qp Q i;refine jW (fun c3=>?_) fun c3=>?_<;>(refine ev1 @c3 ?_;try with_reducible exact True.intro)
  ·have hny:=gk.1 c3;have k2:val (A.drop i)=val (Q.drop i)*n+t:=by
    rw [hvi,hv,k1,k0,eP,iL,←fA];simp only [Int.toNat_zero,jK,aQ,←ht];omega
   exact⟨(i,Q,t),by dsimp only;omega,⟨by dsimp only;omega,hQ,hQb,fun j hj=>hz j (by dsimp only at hj;omega),hny,k2⟩,by exact V6⟩
  have hny:n≤t:=by omega
  have cd:=acs h.SG (r:=t) (b:=n) hn htn (by omega) (by rw [hB];omega);rw [hB]at cd;have hdm:=Nat.div_add_mod t n;have hml:=jL t hn;have hq:t / n<1000000000:=iJ (by omega);obtain⟨d,hd⟩:∃d,t / n=d:=⟨_,rfl⟩;rw [hd]at cd hdm hq;have cn:=MK h.rV (n:=((d:Nat):Int)) (by omega);rw [iy]at cn;have lq:(mk d).length≤1:=kL.2 (by omega);have pm:=aae h.H8 (m:=n) (n:=d) (by rw [hB];omega) (by omega);rw [hB]at pm;have lnd:=ely (n*d) (by omega);have ps:=ail h.V7 (m:=t) (n:=n*d) (by omega) (by omega) (by omega);have k3:=Jl (l:=Q) (i:=i) (d:=((d:Nat):Int)) (by omega) (by omega) hQb;have k4:∀j,j<i→(Q.set i (d:Nat)).getD j 0=0:=by
   intro j hj;rw [qE,if_neg (by omega)];exact hz j (by omega)
  have k5:val (A.drop i)=val ((Q.set i (d:Nat)).drop i)*n+(t-n*d):=by
   rw [hvi,hv,drop_set_self (by omega),val,eP,iL,←fA];rw [show ((d:Nat):Int).toNat=d by omega,dw d n];omega
  have k6:t-n*d<n:=by omega
  clear hdm hv hvi k1 k0 hz lx ely ht hd hml hx;refine jl cd ?_;refine vM @e1 @hQ ?_;refine jl cn ?_;refine ev ?_;refine jl pm ?_;refine ev ?_;refine jl ps ?_;refine ev ?_;exact⟨(i,Q.set i (d:Nat),t-n*d),by dsimp only;omega,⟨by dsimp only;omega,by simp [hQ],k3,k4,k6,k5⟩,by exact V6⟩
theorem UH{T:Tb}(h:EP T){n:Nat}(hn:n<1000000000000000000:=by exact qW):PF T 134 [ints (mk n)] (.nJ [iv (n:Nat),.bool true]):=by
 have hl:(mk n).length≤2:=kL.2 (by omega);have hv:=val_mk n;have c1:=aaf h.Js (l:=mk n) (by omega);rw [O6 (aU hn (by omega))]at c1;have cb:Can [854775807,223372036,9]:=⟨by intro x hx;simp at hx;omega,by simp⟩;have c2:=UC h.yV (sN n) cb (by omega) (by simp);have e2:Gm (val (mk n)) (val [854775807,223372036,9]) = -1:=by
  have:val [854775807,223372036,9]=9223372036854775807:=by simp [val]
  rw [this,val_mk];unfold Gm;rw [if_pos (by omega)]
 rw [e2]at c2;refine kR nR h.hT ?_;simp only [zA,Lz];refine ev ?_;refine jl c1 ?_;refine ev ?_;refine jl c2 ?_;have c3:¬(0:Int) < -1:=by omega
 refine ev1 @c3 ?_;refine jX (fun _ _=>false) (α:=Nat) (fun k=>⟨lS [ints (mk n),.any,.any,.any,iv (val ((mk n).drop k):Nat),iv ((k:Int)-1)],[],0,0,[],[]⟩) (fun k=>k≤(mk n).length) (fun k=>k) rfl (mk n).length ?_ ?_ ?_
 ·omega
 ·have e:val ((mk n).drop (mk n).length)=0:=lZ (aJ _);simp only [e];exact Oa
 intro k hk;refine ev ?_;refine jW (fun h3=>?_) fun h3=>?_<;>(refine ev1 @h3 ?_;try with_reducible exact True.intro)
 ·obtain⟨m,rfl⟩:∃m,k=m+1:=⟨k-1,by omega⟩;have e1:((m+1:Nat):Int)-1=(m:Nat):=by omega
  have e2:=qp (mk n) m;have e3:=RH (l:=mk n) m;have e4:=uG (uF n) m;refine ev1 @e1 ?_;exact⟨m,by omega,by omega,by (refine jS ?_;exact EJ)⟩
 have:k=0:=by omega
 subst this;rw [bY,hv]
theorem ain{T:Tb}(h:H9 T){m n:Nat}(la:(mk m).length≤800:=by exact qW)(lb:(mk n).length≤800:=by exact qW) :
  PF T 123 [ints (mk m),ints (mk n)] (ints (mk (Nat.gcd m n))):=by
 have em:∀k,jR (mk k)=[]→mk k=[]:=fun k e=>by cases hm:mk k with|nil=>rfl|cons a l=>rw [hm]at e;cases e
 refine jZ nR h.hT ?_;simp only [DL,Lz];refine ev ?_;refine⟨fun e1=>⟨fun e2=>?_,fun e2=>?_⟩,fun e1=>⟨by omega,fun e2=>?_,fun e2=>?_⟩⟩
 case' refine_1=>have x0:=em m e1;have y0:=em n e2
 case' refine_2=>have x0:=em m e1;refine⟨by omega,?_⟩
 case' refine_3=>have y0:=em n e2
 case' refine_4=>refine⟨by omega,?_⟩
 all_goals
  refine jX (fun _ _=>false) (α:=Nat×Nat) (fun q=>⟨lS [.any,.any,.any,.any,.any,ints (mk q.1),ints (mk q.2)],[],0,0,[],[]⟩) (fun q=>Nat.gcd q.1 q.2=Nat.gcd m n∧(mk q.1).length≤800∧(mk q.2).length≤800) (fun q=>q.2) rfl (m,n) ?_ ?_ ?_
  ·exact⟨rfl,la,lb⟩
  ·dsimp only
   try rw [x0]
   try rw [y0]
   exact aco
  rintro⟨x,y⟩ ⟨hg,lx,ly⟩;dsimp only at hg lx ly;rw [←hg];clear hg la lb em e1 e2;refine ev ?_;refine jW (fun c1=>?_) fun c1=>?_<;>(refine ev1 @c1 ?_;try with_reducible exact True.intro)
  ·have hy:0<y:=Gq.1 (by omega);by_cases c2:(((mk x).length:Nat):Int)<3∧(((mk y).length:Nat):Int)<3
   ·obtain⟨c2,c3⟩:=c2;have sx:x<1000000000000000000:=by have:=kL (n:=x) (k:=2);omega
    have sy:y<1000000000000000000:=by have:=kL (n:=y) (k:=2);omega
    refine vM @c2 @c3 ?_;refine jl (UH h.J9 sx) ?_;refine ev ?_;refine jl (UH h.J9 sy) ?_;refine ev ?_;refine jl (acu h.SH sx sy) ?_;refine ev ?_;exact jP _
   have lr:=jL x hy;have lr2:(mk (x % y)).length≤800:=bV (Jq (Nat.le_of_lt lr)) ly;have eg:Nat.gcd y (x % y)=Nat.gcd x y:=by rw [jA x y,Nat.gcd_rec y x,jA]
   have big:((((mk x).length:Nat):Int)<3∧¬(((mk y).length:Nat):Int)<3)∨¬(((mk x).length:Nat):Int)<3:=by omega
   clear c2;rcases big with ⟨c2,c3⟩|c2
   case' inl=>(refine vM @c2 @c3 ?_;try with_reducible exact True.intro)
   case' inr=>(refine ev1 @c2 ?_;try with_reducible exact True.intro)
   all_goals
    refine jl (UG h.DN hy (by omega) (by omega)) ?_;refine ev ?_;exact⟨(y,x % y),lr,⟨eg,ly,lr2⟩,by (refine jS ?_;exact EJ)⟩
  have y0:y=0:=by have:=@Gq y;omega
  rw [y0,Nat.gcd_zero_right];exact jP _
def sQ:Fn:=⟨2,17,[.cell 4 2 true],(.seq (rf 1 [oN 4 (.alloc zz4)]) (.seq (sr [oW 5 1,oN 6 (ln 5),oN 7 (bc .eql 6 0),oW 8 7,oG 8 false 9 (oV 1),oG 8 false 10 (ln 9),oG 8 false 11 (bc .gtr 10 60),oN 12 (.pick (.t 8) (.c (.bool true)) (.t 11))] (cd 12 (sr [oN 13 (.build zz4 []),oS (.store 2 (.t 4) (.t 13))] .ret) .skip)) (sr [oW 14 0,oW 15 1,oN 16 (.build zz4 [(0,1,(.t 14)),(1,1,(.t 15))]),oS (.store 2 (.t 4) (.t 16))] .ret)))⟩
structure nZ (T:Tb):Prop where
 hT:T 68=some sQ
def DR:Fn:=⟨2,16,[.cell 4 2 true],(.seq (rf 3 [oN 2 (.box (.t 0)),oK 3 1 (.box (.t 1)),oK 4 2 (.alloc zz4)]) (.seq (rt 0 [oN 5 (fd 0 2),oA 6 0 (lF 1 5) [0],oN 7 (fd 0 3),oA 8 0 (lF 1 7) [2],oA 9 0 (.beq true (.t 6) (.t 8)) [1,3],oN 10 (fd 1 2),oA 11 0 (lF 1 10) [5],oN 12 (fd 1 3),oA 13 0 (lF 1 12) [7],oA 14 0 (cl 155 [11,13]) [6,8],oA 15 0 (cl 68 [9,14]) [4,9,9],⟨none,none,0,.store 2 (.t 4) (.t 15),[10,10,0,1,2,3,4,5,6,7,8,9,10]⟩]) .ret))⟩
structure wQ (T:Tb):Prop where
 hT:T 142=some DR
 kW:nZ T
 DF:Dv T
def DT:Fn:=⟨2,40,[.cell 4 2 true],(.seq (rf 3 [oN 2 (.box (.t 0)),oK 3 1 (.box (.t 1)),oK 4 2 (.alloc zz4)]) (.seq (sr [oN 5 (fd 0 2),oN 6 (lF 1 5),oN 7 (fd 0 3),oN 8 (lF 1 7),oN 9 (.beq false (.t 6) (.t 8))] (cd 9 (.seq (rt 0 [oN 10 (fd 0 2),oA 11 0 (lF 1 10) [0],oN 12 (fd 1 2),oA 13 0 (lF 1 12) [2],oN 14 (fd 1 3),oA 15 0 (lF 1 14) [4],oA 16 0 (cl 160 [13,15]) [3,5],oA 17 0 (cl 68 [11,16]) [1,6,6],⟨none,none,0,.store 2 (.t 4) (.t 17),[7,7,0,1,2,3,4,5,6,7]⟩]) .ret) .skip)) (.seq (sr [oN 18 (fd 1 2),oN 19 (lF 1 18),oN 20 (fd 1 3),oN 21 (lF 1 20),oN 22 (cl 152 [19,21]),oN 23 (bc .geq 22 0)] (cd 23 (.seq (rt 0 [oN 24 (fd 0 2),oA 25 0 (lF 1 24) [0],oN 26 (fd 1 2),oA 27 0 (lF 1 26) [2],oN 28 (fd 1 3),oA 29 0 (lF 1 28) [4],oA 30 0 (cl 154 [27,29]) [3,5],oA 31 0 (cl 68 [25,30]) [1,6,6],⟨none,none,0,.store 2 (.t 4) (.t 31),[7,7,0,1,2,3,4,5,6,7]⟩]) .ret) .skip)) (.seq (rt 0 [oN 32 (fd 0 3),oA 33 0 (lF 1 32) [0],oN 34 (fd 1 3),oA 35 0 (lF 1 34) [2],oN 36 (fd 1 2),oA 37 0 (lF 1 36) [4],oA 38 0 (cl 154 [35,37]) [3,5],oA 39 0 (cl 68 [33,38]) [1,6,6],⟨none,none,0,.store 2 (.t 4) (.t 39),[7,7,0,1,2,3,4,5,6,7]⟩]) .ret))))⟩
structure Ia (T:Tb):Prop where
 hT:T 141=some DT
 kW:nZ T
 uj:yQ T
 yU:Dt T
 V8:HY T
def DU:Fn:=⟨2,31,[.tmp 4],(.seq (rf 2 [oN 2 (.box (.t 0)),oK 3 1 (.box (.t 1)),oK 4 2 (.oO (cI 0))]) (.seq (sr [oN 5 (fd 0 2),oN 6 (lF 1 5),oW 7 6,oG 7 true 8 (fd 0 3),oG 7 true 9 (lF 1 8),oG 7 true 10 (nt 9),oN 11 (.pick (.t 7) (.t 10) (.c (.bool false)))] (cd 11 (sr [oN 4 (.oO (cI (-1)))] .ret) .skip)) (.seq (sr [oN 12 (fd 0 2),oN 13 (lF 1 12),oN 14 (nt 13),oW 15 14,oG 15 true 16 (fd 0 3),oG 15 true 17 (lF 1 16),oN 18 (.pick (.t 15) (.t 17) (.c (.bool false)))] (cd 18 (sr [oN 4 (.oO (cI 1))] .ret) .skip)) (.seq (sr [oN 19 (fd 0 2),oN 20 (lF 1 19)] (cd 20 (sr [oN 21 (fd 1 3),oN 22 (lF 1 21),oN 23 (fd 1 2),oN 24 (lF 1 23),oN 25 (cl 152 [22,24]),oW 4 25] .ret) .skip)) (sr [oN 26 (fd 1 2),oN 27 (lF 1 26),oN 28 (fd 1 3),oN 29 (lF 1 28),oN 30 (cl 152 [27,29]),oW 4 30] .ret)))))⟩
structure Ib (T:Tb):Prop where
 hT:T 372=some DU
 uj:yQ T
def zB:Fn:=⟨1,17,[.tmp 2],(.seq (rf 1 [oN 1 (.box (.t 0)),oK 2 1 mF]) (sr [oN 3 (fd 1 1),oN 4 (lF 1 3),oN 5 (cl 126 [4]),oW 6 5,oG 6 true 7 (fd 0 1),oG 6 true 8 (lF 1 7),oG 6 true 9 (oV 8),oG 9 true 10 (fd 1 1),oG 9 true 11 (lF 1 10),oG 9 true 12 (ln 11),oG 9 true 13 (bc .eql 12 0),oG 6 true 14 (.pick (.t 9) (.t 13) (.c (.bool false))),oG 6 true 15 (nt 14),oN 16 (.pick (.t 6) (.t 15) (.c (.bool false))),oW 2 16] .ret))⟩
structure ER (T:Tb):Prop where
 hT:T 125=some zB
 Jt:FC T
def FN:Fn:=⟨1,6,[.cell 2 2 true],(.seq (rf 2 [oN 1 (.box (.t 0)),oK 2 1 (.alloc zz4)]) (sr [oN 3 (fd 2 1),oN 4 (lF 1 3),oN 5 (.build zz4 [(1,1,(.t 4))]),oS (.store 2 (.t 2) (.t 5))] .ret))⟩
structure vP (T:Tb):Prop where
 hT:T 143=some FN
def Hg:Fn:=⟨1,7,[.tmp 2],(.seq (rf 1 [oN 1 (.box (.t 0)),oK 2 1 mF]) (sr [oN 3 (fd 2 1),oN 4 (lF 1 3),oN 5 (ln 4),oN 6 (bc .gtr 5 0),oW 2 6] .ret))⟩
structure l7 (T:Tb):Prop where
 hT:T 132=some Hg
theorem Yj:lU (SC ⟨false,[]⟩) (.agg [.bool false,.jF]):=by
 show lU (.agg [.bool false,.sl 1 []]) (.agg [.bool false,.jF]);simp only [Pg,Uy,Ux,MI,oC,and_true]
theorem uX:lU (kC ⟨false,[],[]⟩) (.agg [.bool false,.jF,.jF]):=by
 show lU (.agg [.bool false,.sl 1 [],.sl 1 []]) (.agg [.bool false,.jF,.jF]);simp only [Pg,Uy,Ux,MI,oC,and_true]
theorem Aj{T:Tb}(h:nZ T){neg:Bool}{n:Nat}(hl:(mk n).length≤60:=by exact qW):PF T 68 [.bool neg,ints (mk n)] (SC (bi (sg neg n))):=by
 refine jZ nR h.hT ?_;simp only [sQ,Lz];refine ev ?_;refine jW (fun h1=>?_) fun h1=>?_<;>(refine ev1 @h1 ?_;try with_reducible exact True.intro)
 ·have n0:n=0:=aij.1 (by omega);subst n0;rw [Pq,ad9];exact Yj
 have h2:¬(60:Int)<((mk n).length:Nat):=by omega
 refine ev1 @h2 ?_;rw [aik neg n (Gq.1 (by omega))];exact jP _
theorem amL{T:Tb}(h:vP T){r:R}:PF T 143 [kC r] (SC ⟨false,r.den⟩):=by
 refine jZ nR h.hT ?_;simp only [FN,Lz];refine ev ?_;exact jP _
theorem Yk(a b:Bool):(!decide (a=b))=(a != b):=by cases a<;>cases b<;>rfl
theorem rO{T:Tb}(h:wQ T){x y:Int}(lx:(mk x.natAbs).length≤30:=by exact qW)(ly:(mk y.natAbs).length≤30:=by exact qW):PF T 142 [SC (bi x),SC (bi y)] (SC (bi (x*y))):=by
 have l1:=acp x.natAbs y.natAbs;refine jZ nR h.hT ?_;simp only [DR,Lz];refine ev ?_;refine jl (UA h.DF (by omega) (by omega)) ?_;refine ev ?_;refine jl (Aj h.kW (by omega)) ?_;refine ev ?_;refine⟨by unfold vH;decide +kernel,?_⟩;rw [Yk,aqx];exact jP _
theorem aai{T:Tb}(h:Ia T){x y:Int}(lx:(mk x.natAbs).length≤59:=by exact qW)(ly:(mk y.natAbs).length≤59:=by exact qW):PF T 141 [SC (bi x),SC (bi y)] (SC (bi (x+y))):=by
 have l1:=aif x.natAbs y.natAbs;have l2:=aii x.natAbs y.natAbs;have l3:=aii y.natAbs x.natAbs;refine jZ nR h.hT ?_;simp only [DT,Lz];refine ev ?_;refine jW (fun h1=>?_) fun h1=>?_<;>(refine ev1 @h1 ?_;try with_reducible exact True.intro)
 ·refine jl (aib h.V8 (by omega) (by omega)) ?_;refine ev ?_;refine jl (Aj h.kW (by omega)) ?_;refine ev ?_;refine⟨by unfold vH;decide +kernel,?_⟩;rw [←h1,aah h1];exact jP _
 have cc:=Ld h.uj (sN x.natAbs) (sN y.natAbs) (by omega) (by omega);rw [val_mk,val_mk]at cc;refine jl cc ?_;refine ev ?_;refine jW (fun h2=>?_) fun h2=>?_<;>(refine ev1 @h2 ?_;try with_reducible exact True.intro)
 ·have h3:=Ah.1 h2;refine jl (Pm h.yU h3 (by omega) (by omega)) ?_;refine ev ?_;refine jl (Aj h.kW (by omega)) ?_;refine ev ?_;refine⟨by unfold vH;decide +kernel,?_⟩;rw [RI h1 h3];exact jP _
 have h3:x.natAbs≤y.natAbs:=by have:=@Ah x.natAbs y.natAbs;omega
 refine jl (Pm h.yU h3 (by omega) (by omega)) ?_;refine ev ?_;refine jl (Aj h.kW (by omega)) ?_;refine ev ?_;refine⟨by unfold vH;decide +kernel,?_⟩;rw [RI (fun e=>h1 e.symm) h3,Int.add_comm];exact jP _
theorem aio{T:Tb}(h:Ib T){x y:Int}(lx:(mk x.natAbs).length≤1000:=by exact qW)(ly:(mk y.natAbs).length≤1000:=by exact qW):PF T 372 [SC (bi x),SC (bi y)] (iv (ab8 x y)):=by
 rw [amK];have c1:=Ld h.uj (sN x.natAbs) (sN y.natAbs) (by omega) (by omega);have c2:=Ld h.uj (sN y.natAbs) (sN x.natAbs) (by omega) (by omega);rw [val_mk,val_mk]at c1 c2;refine kR nR h.hT ?_;simp only [DU,Lz];refine ev ?_;by_cases hx:x<0
 ·by_cases hy:y<0
  ·refine vM @hx @hy ?_;refine jl c2 ?_;refine ev ?_;simp only [hx,hy,not_true_eq_false,and_false,if_true,if_false,false_and]
  (refine vM @hx @hy ?_;try with_reducible exact True.intro)
 by_cases hy:y<0
 ·(refine vM @hx @hy ?_;try with_reducible exact True.intro)
 refine vM @hx @hy ?_;refine jl c1 ?_;refine ev ?_;simp only [hx,hy,not_true_eq_false,and_false,if_true,if_false,false_and]
theorem acv{T:Tb}(h:ER T){z:Bi}(hl:z.mag.length≤9223372036854775807:=by exact qW):PF T 125 [SC z] (.bool (wG z.mag && !(z.neg&&z.mag.isEmpty))):=by
 obtain⟨neg,mag⟩:=z;have cn:=ad6 h.Jt hl;dsimp only at cn ⊢
 cases hn:wG mag<;>rw [hn]at cn<;>cases neg
 all_goals
  refine kR nR h.hT ?_;simp only [zB,Lz];refine ev ?_;refine jl cn ?_
  (refine ev ?_;try with_reducible exact True.intro)
 all_goals
  cases mag<;>simp<;>omega
theorem aqy{T:Tb}(h:l7 T){r:R}:PF T 132 [kC r] (.bool (!r.den.isEmpty)):=by
 refine kR nR h.hT ?_;simp only [Hg,Lz];refine ev ?_
 cases r.den<;>simp
def xP:Fn:=⟨2,18,[.cell 4 2 true],(.seq (rf 1 [oN 4 (.alloc zz4)]) (sr [oW 6 1,oN 7 (cl 70 [6]),oW 5 7] (.seq (rf 2 [oK 8 2 (oV 0),oK 9 2 (oV 8),oH 9 true 10 2 (oV 5) [],oH 9 true 11 2 (ln 10) [],oH 9 true 12 2 (bc .gtr 11 0) [],oK 13 2 (.pick (.t 9) (.t 12) (.c (.bool false))),oN 14 (.oI 1 I9 0 []),oK 15 2 (oV 5),oK 16 1 (.app 1 8 (.t 14) (.t 15)),oK 17 2 (.build zz4 [(0,1,(.t 13)),(1,1,(.t 16))]),⟨none,none,2,.store 2 (.t 4) (.t 17),[]⟩]) .ret)))⟩
structure AQ (T:Tb):Prop where
 hT:T 66=some xP
 V9:H7 T
def zC:Fn:=⟨1,17,[.tmp 2],(.seq (rf 1 [oN 1 (.box (.t 0)),oK 2 1 mF]) (sr [oN 3 (fd 1 1),oN 4 (lF 1 3),oN 5 (cl 121 [4]),oW 6 5,oG 6 true 7 (fd 0 1),oG 6 true 8 (lF 1 7),oG 6 true 9 (nt 8),oG 6 true 10 (oV 9),oG 10 false 11 (fd 1 1),oG 10 false 12 (lF 1 11),oG 10 false 13 (ln 12),oG 10 false 14 (bc .gtr 13 0),oG 6 true 15 (.pick (.t 10) (.c (.bool true)) (.t 14)),oN 16 (.pick (.t 6) (.t 15) (.c (.bool false))),oW 2 16] .ret))⟩
structure ES (T:Tb):Prop where
 hT:T 120=some zC
 Js:FM T
def yY:Fn:=⟨1,12,[.tmp 2],(sr [oN 2 mF] (sr [oW 3 0,oN 4 (ln 3),oN 5 (bc .eql 4 1),oW 6 5,oG 6 true 7 (oV 0),oG 6 true 8 (.idx 1 (.t 7) (cI 0)),oG 6 true 9 (lF 1 8),oG 6 true 10 (bc .eql 9 1),oN 11 (.pick (.t 6) (.t 10) (.c (.bool false))),oW 2 11] .ret))⟩
structure Ic (T:Tb):Prop where
 hT:T 122=some yY
theorem QL{T:Tb}(h:AQ T){neg:Bool}{n:Nat}(hl:(mk n).length≤60:=by exact qW):PF T 66 [.bool neg,ints (mk n)] (SC (bi (sg neg n))):=by
 have ct:=aie h.V9 (n:=n) (by omega);by_cases n0:n=0
 ·subst n0;rw [mk_zero]at *;rw [Pq,ad9];refine jZ nR h.hT ?_;simp only [xP,Lz];refine ev ?_;refine jl ct ?_
  cases neg
  ·refine ev ?_;exact⟨fun _=>Yj,fun e=>absurd rfl e⟩
  refine ev ?_;exact⟨fun _=>Yj,fun e=>absurd rfl e⟩
 have hp:=Gq.2 (jw n0);have ne:jR (mk n)≠[]:=by intro e;rw [←CQ,e]at hp;simp at hp
 rw [aik neg n (by omega)];refine jZ nR h.hT ?_;simp only [xP,Lz];refine ev ?_;refine jl ct ?_
 cases neg
 ·refine ev1 @ne ?_;exact⟨by omega,jP _⟩
 have c1:(0:Int)<((mk n).length:Nat):=by omega
 refine vM @ne @c1 ?_;exact⟨by omega,jP _⟩
theorem RJ{T:Tb}(h:ES T){z:Bi}(hl:z.mag.length≤9223372036854775807:=by exact qW):PF T 120 [SC z] (.bool (wG z.mag && !(z.neg&&z.mag.isEmpty))):=by
 obtain⟨neg,mag⟩:=z;have cn:=aaf h.Js hl;dsimp only at cn ⊢
 cases hn:wG mag<;>rw [hn]at cn<;>cases neg
 all_goals
  refine kR nR h.hT ?_;simp only [zC,Lz];refine ev ?_;refine jl cn ?_
  (refine ev ?_;try with_reducible exact True.intro)
 all_goals
  cases mag<;>simp<;>omega
theorem aaj{T:Tb}(h:Ic T){n:Nat}:PF T 122 [ints (mk n)] (.bool (decide (n=1))):=by
 by_cases n1:n=1
 ·subst n1;rw [mk_one (by omega) (by omega)];have c0:((1:Nat):Int)=1:=rfl;refine kR nR h.hT ?_;simp only [yY,Lz];refine ev ?_;refine ev1 @c0 ?_;rfl
 have key:¬((mk n).length=1∧(mk n).getD 0 0=1):=by
  rintro⟨k,e⟩;have:=val_mk n
  cases hm:mk n with
  |nil=>rw [hm]at k;simp at k
  |
   cons x l =>
   rw [hm]at k e this;have:l=[]:=by simpa using k
   subst this;simp [val]at *;omega
 refine kR nR h.hT ?_;simp only [yY,Lz];refine ev ?_;by_cases k:(((mk n).length:Nat):Int)=1
 ·have k':=iff_true_intro k;have e:¬(mk n).getD 0 0=1:=fun e=>key ⟨by omega,e⟩;refine vM @k' @e ?_;simp [n1]
 refine ev1 @k ?_;simp [n1]
theorem Pv{q:Rat}:fits q=true↔(mk q.num.natAbs).length≤24∧(mk q.den).length≤24:=by
 rw [kL,kL];simp [fits]
theorem IW(neg:Bool)(m:Nat):(sg neg m).natAbs=m:=by cases neg<;>simp [sg]
theorem Yl{n d:Int}(hd:d≠0):Q.raw (VL n d) =
  if (mk (n.natAbs / Nat.gcd n.natAbs d.natAbs)).length≤24∧(mk (d.natAbs / Nat.gcd n.natAbs d.natAbs)).length≤24 then
   ⟨(bi (sg (decide (n<0) != decide (d<0)) (n.natAbs / Nat.gcd n.natAbs d.natAbs))).neg,mk (n.natAbs / Nat.gcd n.natAbs d.natAbs),mk (d.natAbs / Nat.gcd n.natAbs d.natAbs)⟩
  else⟨false,[],[]⟩:=by
 obtain⟨h1,h2,h3⟩:=ab9 (n:=n) hd;unfold VL;rw [if_neg hd];have hg:0<Nat.gcd n.natAbs d.natAbs:=iU _ (by omega);have h4:n.natAbs / Nat.gcd n.natAbs d.natAbs=0↔n=0:=by
  constructor
  ·intro h;have:=Nat.div_mul_cancel (Nat.gcd_dvd_left n.natAbs d.natAbs);rw [h]at this;omega
  intro h;subst h;simp
 have h5:decide ((Rat.divInt n d).num<0)=decide (sg (decide (n<0) != decide (d<0)) (n.natAbs / Nat.gcd n.natAbs d.natAbs)<0):=by
  rw [h3];generalize n.natAbs / Nat.gcd n.natAbs d.natAbs=m at h4
  cases hb:(decide (n<0) != decide (d<0))
  ·simp [sg]
  by_cases hn:n=0
  ·have:=h4.2 hn;subst this;simp [sg,hn]
  have:m≠0:=fun e=>hn (h4.1 e);simp [sg,hn];omega
 by_cases hf:fits (Rat.divInt n d)=true
 ·have hf2:=Pv.1 hf;rw [h1,h2]at hf2;rw [tH hf,if_pos hf2];simp only [Q.raw,h1,h2,h5]
 have hf2:=fun h=>hf (Pv.2 h);rw [h1,h2]at hf2;rw [Xi (by simpa using hf),if_neg hf2];rfl
def sU:Fn:=⟨2,52,[.cell 4 3 true],(.seq (rf 3 [oN 2 (.box (.t 0)),oK 3 1 (.box (.t 1)),oK 4 2 (.alloc vN)]) (.seq (sr [oN 10 (fd 1 3),oN 11 (lF 1 10),oN 12 (ln 11),oN 13 (bc .eql 12 0)] (cd 13 (sr [oN 14 (.build vN []),oS (.store 3 (.t 4) (.t 14))] .ret) .skip)) (sr [oN 15 (fd 1 2),oN 16 (lF 1 15),oN 17 (fd 1 3),oN 18 (lF 1 17),oN 19 (cl 127 [16,18]),oW 5 19] (sr [oN 21 (fd 1 2),oN 22 (lF 1 21),oW 23 5,oN 24 (cl 138 [22,23]),oW 20 24,oN 25 (ex 0 20),oN 26 (ex 1 20),oW 6 25,oW 7 26] (sr [oN 28 (fd 1 3),oN 29 (lF 1 28),oW 30 5,oN 31 (cl 138 [29,30]),oW 27 31,oN 32 (ex 0 27),oN 33 (ex 1 27),oW 8 32,oW 9 33] (.seq (sr [oW 34 6,oN 35 (ln 34),oN 36 (bc .gtr 35 24),oW 37 36,oG 37 false 38 (oV 8),oG 37 false 39 (ln 38),oG 37 false 40 (bc .gtr 39 24),oN 41 (.pick (.t 37) (.c (.bool true)) (.t 40))] (cd 41 (sr [oN 42 (.build vN []),oS (.store 3 (.t 4) (.t 42))] .ret) .skip)) (sr [oN 43 (fd 0 2),oN 44 (lF 1 43),oN 45 (fd 0 3),oN 46 (lF 1 45),oN 47 (.beq true (.t 44) (.t 46)),oW 48 6,oN 49 (cl 68 [47,48]),oW 50 8,oN 51 (.build vN [(0,2,(.t 49)),(2,1,(.t 50))]),oS (.store 3 (.t 4) (.t 51))] .ret)))))))⟩
structure uY (T:Tb):Prop where
 hT:T 144=some sU
 kW:nZ T
 DV:DJ T
 wO:yT T
def qF:Fn:=⟨2,33,[.cell 4 3 true],(.seq (rf 3 [oN 2 (.box (.t 0)),oK 3 1 (.box (.t 1)),oK 4 2 (.alloc vN)]) (.seq (sr [oN 6 (lT 3 2),oN 7 (cl 132 [6]),oN 8 (nt 7),oW 9 8,oG 9 false 10 (lT 3 3),oG 9 false 11 (cl 132 [10]),oG 9 false 12 (nt 11),oN 13 (.pick (.t 9) (.c (.bool true)) (.t 12))] (cd 13 (sr [oN 14 (.build vN []),oS (.store 3 (.t 4) (.t 14))] .ret) .skip)) (.seq (rt 1 [oK 15 1 (fd 0 2),oA 16 1 (lT 2 15) [0],oK 17 1 (lT 3 3),oA 18 1 (cl 143 [17]) [2],oA 19 1 (cl 142 [16,18]) [1,3,3],oK 20 1 (fd 0 3),oA 21 1 (lT 2 20) [5],oK 22 1 (lT 3 2),oA 23 1 (cl 143 [22]) [7,4],oA 24 1 (cl 142 [21,23]) [6,8,8],oA 25 1 (cl 141 [19,24]) [4,9,9],oN 5 (.alloc zz4),⟨none,none,1,.store 2 (.t 5) (.t 25),[11,10,10,0,1,2,3,4,5,6,7,8,9,10,11]⟩]) (.seq (rt 0 [oN 26 (lT 2 5),oN 27 (lT 3 2),oA 28 0 (cl 143 [27]) [1],oN 29 (lT 3 3),oA 30 0 (cl 143 [29]) [3,2],oA 31 0 (cl 142 [28,30]) [2,4,4],oA 32 0 (cl 144 [26,31]) [0,5,5],⟨none,none,0,.store 3 (.t 4) (.t 32),[6,6,0,1,2,3,4,5,6]⟩]) .ret))))⟩
structure lN (T:Tb):Prop where
 hT:T 131=some qF
 jQ:l7 T
 Ny:Ia T
 kS:wQ T
 kT:vP T
 qP:uY T
def yZ:Fn:=⟨1,20,[.cell 2 3 true],(.seq (rf 2 [oN 1 (.box (.t 0)),oK 2 1 (.alloc vN)]) (.seq (sr [oN 3 (lT 3 1),oN 4 (cl 132 [3]),oN 5 (nt 4)] (cd 5 (sr [oN 6 (.build vN []),oS (.store 3 (.t 2) (.t 6))] .ret) .skip)) (.seq (rt 0 [oN 7 (fd 0 1),oA 8 0 (fd 0 7) [0],oA 9 0 (lF 1 8) [1],oA 10 0 (nt 9) [2],oN 11 (fd 0 1),oA 12 0 (fd 1 11) [4],oA 13 0 (lF 1 12) [5],oA 14 0 (cl 139 [13]) [6],oA 15 0 (cl 68 [10,14]) [3,7,7],oN 16 (fd 2 1),oA 17 0 (lF 1 16) [9],oA 18 0 (cl 139 [17]) [10,8],oA 19 0 (.build vN [(0,2,(.t 15)),(2,1,(.t 18))]) [8,11],⟨none,none,0,.store 3 (.t 2) (.t 19),[12,11,0,1,2,3,4,5,6,7,8,9,10,11,12]⟩]) .ret)))⟩
structure y7 (T:Tb):Prop where
 hT:T 161=some yZ
 kW:nZ T
 jQ:l7 T
 rD:tJ T
def DW:Fn:=⟨2,9,[.cell 4 3 true],(.seq (rf 3 [oN 2 (.box (.t 0)),oK 3 1 (.box (.t 1)),oK 4 2 (.alloc vN)]) (.seq (rt 0 [oN 5 (lT 3 2),oN 6 (lT 3 3),oA 7 0 (cl 161 [6]) [1],oA 8 0 (cl 131 [5,7]) [0,2,2],⟨none,none,0,.store 3 (.t 4) (.t 8),[3,3,0,1,2,3]⟩]) .ret))⟩
structure wR (T:Tb):Prop where
 hT:T 159=some DW
 kE:lN T
 DX:y7 T
def qG:Fn:=⟨2,25,[.cell 4 3 true],(.seq (rf 3 [oN 2 (.box (.t 0)),oK 3 1 (.box (.t 1)),oK 4 2 (.alloc vN)]) (.seq (sr [oN 5 (lT 3 2),oN 6 (cl 132 [5]),oN 7 (nt 6),oW 8 7,oG 8 false 9 (lT 3 3),oG 8 false 10 (cl 132 [9]),oG 8 false 11 (nt 10),oN 12 (.pick (.t 8) (.c (.bool true)) (.t 11))] (cd 12 (sr [oN 13 (.build vN []),oS (.store 3 (.t 4) (.t 13))] .ret) .skip)) (.seq (rt 0 [oN 14 (fd 0 2),oA 15 0 (lT 2 14) [0],oN 16 (fd 0 3),oA 17 0 (lT 2 16) [2],oA 18 0 (cl 142 [15,17]) [1,3],oN 19 (lT 3 2),oA 20 0 (cl 143 [19]) [5,4],oN 21 (lT 3 3),oA 22 0 (cl 143 [21]) [7,6],oA 23 0 (cl 142 [20,22]) [6,8,8],oA 24 0 (cl 144 [18,23]) [4,9,9],⟨none,none,0,.store 3 (.t 4) (.t 24),[10,10,0,1,2,3,4,5,6,7,8,9,10]⟩]) .ret)))⟩
structure pF (T:Tb):Prop where
 hT:T 157=some qG
 jQ:l7 T
 kS:wQ T
 kT:vP T
 qP:uY T
def qH:Fn:=⟨2,25,[.cell 4 3 true],(.seq (rf 3 [oN 2 (.box (.t 0)),oK 3 1 (.box (.t 1)),oK 4 2 (.alloc vN)]) (.seq (sr [oN 5 (lT 3 2),oN 6 (cl 132 [5]),oN 7 (nt 6),oW 8 7,oG 8 false 9 (lT 3 3),oG 8 false 10 (cl 132 [9]),oG 8 false 11 (nt 10),oN 12 (.pick (.t 8) (.c (.bool true)) (.t 11))] (cd 12 (sr [oN 13 (.build vN []),oS (.store 3 (.t 4) (.t 13))] .ret) .skip)) (.seq (rt 0 [oN 14 (fd 0 2),oA 15 0 (lT 2 14) [0],oN 16 (lT 3 3),oA 17 0 (cl 143 [16]) [2],oA 18 0 (cl 142 [15,17]) [1,3,3],oN 19 (fd 0 3),oA 20 0 (lT 2 19) [5],oN 21 (lT 3 2),oA 22 0 (cl 143 [21]) [7,4],oA 23 0 (cl 142 [20,22]) [6,8,8],oA 24 0 (cl 144 [18,23]) [4,9,9],⟨none,none,0,.store 3 (.t 4) (.t 24),[10,10,0,1,2,3,4,5,6,7,8,9,10]⟩]) .ret)))⟩
structure um (T:Tb):Prop where
 hT:T 156=some qH
 jQ:l7 T
 kS:wQ T
 kT:vP T
 qP:uY T
def wS:Fn:=⟨2,24,[.tmp 4],(.seq (rf 2 [oN 2 (.box (.t 0)),oK 3 1 (.box (.t 1)),oK 4 2 (.oO (cI 0))]) (.seq (sr [oN 5 (lT 3 2),oN 6 (cl 132 [5]),oN 7 (nt 6),oW 8 7,oG 8 false 9 (lT 3 3),oG 8 false 10 (cl 132 [9]),oG 8 false 11 (nt 10),oN 12 (.pick (.t 8) (.c (.bool true)) (.t 11))] (cd 12 (sr [oN 4 (.oO (cI 0))] .ret) .skip)) (.seq (rt 0 [oN 13 (fd 0 2),oA 14 0 (lT 2 13) [0],oN 15 (lT 3 3),oA 16 0 (cl 143 [15]) [2],oA 17 0 (cl 142 [14,16]) [1,3,3],oN 18 (fd 0 3),oA 19 0 (lT 2 18) [5],oN 20 (lT 3 2),oA 21 0 (cl 143 [20]) [7,4],oA 22 0 (cl 142 [19,21]) [6,8,8],oA 23 0 (cl 372 [17,22]) [4,9,9],oA 4 0 (oV 23) [10,10,0,1,2,3,4,5,6,7,8,9,10]]) .ret)))⟩
structure DY (T:Tb):Prop where
 hT:T 371=some wS
 jQ:l7 T
 kS:wQ T
 kT:vP T
 Wh:Ib T
def xQ:Fn:=⟨1,16,[.tmp 2],(.seq (rf 1 [oN 1 (.box (.t 0)),oK 2 1 (.oO (cI 0))]) (.seq (sr [oN 3 (lT 3 1),oN 4 (cl 132 [3]),oN 5 (nt 4),oW 6 5,oG 6 false 7 (fd 0 1),oG 6 false 8 (fd 1 7),oG 6 false 9 (lF 1 8),oG 6 false 10 (ln 9),oG 6 false 11 (bc .eql 10 0),oN 12 (.pick (.t 6) (.c (.bool true)) (.t 11))] (cd 12 (sr [oN 2 (.oO (cI 0))] .ret) .skip)) (.seq (sr [oN 13 (fd 0 1),oN 14 (fd 0 13),oN 15 (lF 1 14)] (cd 15 (sr [oN 2 (.oO (cI (-1)))] .ret) .skip)) (sr [oN 2 (.oO (cI 1))] .ret))))⟩
structure Gs (T:Tb):Prop where
 hT:T 124=some xQ
 jQ:l7 T
def rZ:Fn:=⟨1,46,[.tmp 2],(.seq (rf 1 [oN 1 (.box (.t 0)),oK 2 1 mF]) (.seq (sr [oN 4 (fd 0 1),oN 5 (lT 2 4),oN 6 (cl 125 [5]),oN 7 (nt 6),oW 8 7,oG 8 false 9 (fd 2 1),oG 8 false 10 (lF 1 9),oG 8 false 11 (cl 126 [10]),oG 8 false 12 (nt 11),oN 13 (.pick (.t 8) (.c (.bool true)) (.t 12)),oW 14 13,oG 14 false 15 (fd 2 1),oG 14 false 16 (lF 1 15),oG 14 false 17 (ln 16),oG 14 false 18 (bc .eql 17 0),oN 19 (.pick (.t 14) (.c (.bool true)) (.t 18))] (cd 19 (sr [oN 2 mF] .ret) .skip)) (.seq (sr [oN 20 (fd 0 1),oN 21 (fd 1 20),oN 22 (lF 1 21),oN 23 (ln 22),oN 24 (bc .gtr 23 24),oW 25 24,oG 25 false 26 (fd 2 1),oG 25 false 27 (lF 1 26),oG 25 false 28 (ln 27),oG 25 false 29 (bc .gtr 28 24),oN 30 (.pick (.t 25) (.c (.bool true)) (.t 29))] (cd 30 (sr [oN 2 mF] .ret) .skip)) (sr [oN 31 (fd 0 1),oN 32 (fd 1 31),oN 33 (lF 1 32),oN 34 (fd 2 1),oN 35 (lF 1 34),oN 36 (cl 127 [33,35]),oW 3 36] (sr [oW 37 3,oN 38 (ln 37),oN 39 (bc .eql 38 1),oW 40 39,oG 40 true 41 (oV 3),oG 40 true 42 (.idx 1 (.t 41) (cI 0)),oG 40 true 43 (lF 1 42),oG 40 true 44 (bc .eql 43 1),oN 45 (.pick (.t 40) (.t 44) (.c (.bool false))),oW 2 45] .ret)))))⟩
structure sD (T:Tb):Prop where
 hT:T 102=some rZ
 Ko:ER T
 Jt:FC T
 DV:DJ T
theorem xw{T:Tb}(h:vP T){q:Rat}:PF T 143 [kC (Q.raw (some q))] (SC (bi q.den)):=by
 have:=amL h (r:=Q.raw (some q));rw [aqw];exact this
theorem Ym{T:Tb}(h:l7 T){a:Q}:PF T 132 [kC (Q.raw a)] (.bool a.isSome):=by
 have:=aqy h (r:=Q.raw a)
 cases a with
 |none=>exact this
 |
  some q =>
  have hp:=Gq.2 q.den_pos;have e:(Q.raw (some q)).den.isEmpty=false:=by
   show (mk q.den).isEmpty=false
   cases hm:mk q.den with
   |nil=>rw [hm]at hp;simp at hp
   |cons x l=>rfl
  rw [e]at this;exact this
theorem pK{T:Tb}(h:l7 T){q:Rat}:PF T 132 [kC (Q.raw (some q))] (.bool true):=Ym h (a:=some q)
theorem uK{T:Tb}(h:l7 T):PF T 132 [kC (Q.raw none)] (.bool false):=Ym h (a:=none)
theorem QM{T:Tb}(h:uY T){n d:Int}(ln:(mk n.natAbs).length≤60:=by exact qW)(ld:(mk d.natAbs).length≤60:=by exact qW) :
  PF T 144 [SC (bi n),SC (bi d)] (kC (Q.raw (VL n d))):=by
 by_cases hd:d=0
 ·subst hd;have e:VL n 0=none:=rfl;rw [e];refine jZ nR h.hT ?_;simp only [sU,Lz];refine ev ?_;have c1:(((mk (0:Int).natAbs).length:Nat):Int)=0:=by
   show (((mk 0).length:Nat):Int)=0;rw [Yi];rfl
  refine ev1 @c1 ?_;exact uX
 rw [Yl hd];have hg:0<Nat.gcd n.natAbs d.natAbs:=iU _ (by omega);have cg:=UF h.DV (m:=n.natAbs) (n:=d.natAbs) (by omega) (by omega);have lg:(mk (Nat.gcd n.natAbs d.natAbs)).length≤60:=bV (Jq (Nat.le_of_dvd (by omega) (Nat.gcd_dvd_right _ _))) ld;have l1:=QK n.natAbs (Nat.gcd n.natAbs d.natAbs);have l2:=QK d.natAbs (Nat.gcd n.natAbs d.natAbs);have cn:=UE h.wO (m:=n.natAbs) hg (by omega) (by omega);have cd:=UE h.wO (m:=d.natAbs) hg (by omega) (by omega);have c1:¬(((mk d.natAbs).length:Nat):Int)=0:=by have:=@aij d.natAbs;omega
 clear hg lg;generalize n.natAbs / Nat.gcd n.natAbs d.natAbs=u at *;generalize d.natAbs / Nat.gcd n.natAbs d.natAbs=v at *;have cm:=Aj h.kW (neg:=!decide (decide (n<0)=decide (d<0))) (n:=u) (by omega);refine jZ nR h.hT ?_;simp only [sU,Lz];refine ev ?_;refine ev1 @c1 ?_;refine jl cg ?_;refine ev ?_;refine jl cn ?_;refine ev ?_;refine jl cd ?_;refine ev ?_;by_cases k1:(24:Int)<((mk u).length:Nat)
 ·refine ev1 @k1 ?_;rw [if_neg (by omega)];exact uX
 by_cases k2:(24:Int)<((mk v).length:Nat)
 ·refine vM @k1 @k2 ?_;rw [if_neg (by omega)];exact uX
 refine vM @k1 @k2 ?_;refine jl cm ?_;refine ev ?_;rw [if_pos (by omega),Yk];rw [IW];exact jP _
theorem Oe{q:Rat}(h:Q.ok (some q)):(mk q.num.natAbs).length≤24∧(mk q.den).length≤24:=Pv.1 h
theorem aak{T:Tb}(h:lN T){a b:Q}(ha:a.ok:=by assumption)(hb:b.ok:=by assumption):PF T 131 [kC (Q.raw a),kC (Q.raw b)] (kC (Q.raw (N8 a b))):=by
 cases a with
 |
  none =>
  refine jZ nR h.hT ?_;simp only [qF,Lz];refine ev ?_;refine jl (uK h.jQ) ?_;refine ev ?_;exact uX
 |
  some q=>cases b with
  |
   none =>
   refine jZ nR h.hT ?_;simp only [qF,Lz];refine ev ?_;refine jl (pK h.jQ) ?_;refine ev ?_;refine jl (uK h.jQ) ?_;refine ev ?_;exact uX
  |
   some s =>
   obtain⟨l1,l2⟩:=Oe ha;obtain⟨l3,l4⟩:=Oe hb;have e:N8 (some q) (some s)=VL (q.num*s.den+s.num*q.den) (q.den*s.den):=(ad1 q s).symm;rw [e];have t1:=nX q.num s.den;have t2:=nX s.num q.den;have t3:=nX q.den s.den;have t5:=nX q.num s.num;have t4:=Jr (q.num*s.den) (s.num*q.den);have n1:(mk (q.den:Int).natAbs).length≤24:=by rw [bW];exact l2
   have n2:(mk (s.den:Int).natAbs).length≤24:=by rw [bW];exact l4
   refine jZ nR h.hT ?_;simp only [qF,Lz];refine ev ?_;refine jl (pK h.jQ) ?_;refine ev ?_;refine jl (pK h.jQ) ?_;refine ev ?_;refine jl (xw h.kT (q:=s)) ?_;refine ev ?_;refine jl (rO h.kS (x:=q.num) (y:=s.den) (by omega) (by omega)) ?_;refine ev ?_;refine jl (xw h.kT (q:=q)) ?_;refine ev ?_;refine jl (rO h.kS (x:=s.num) (y:=q.den) (by omega) (by omega)) ?_;refine ev ?_;refine jl (aai h.Ny (x:=q.num*s.den) (y:=s.num*q.den) (by omega) (by omega)) ?_;refine ev ?_;refine⟨by unfold vH;decide +kernel,?_⟩;refine jl (xw h.kT (q:=q)) ?_;refine ev ?_;refine jl (xw h.kT (q:=s)) ?_;refine ev ?_;refine jl (rO h.kS (x:=q.den) (y:=s.den) (by omega) (by omega)) ?_;refine ev ?_;refine jl (QM h.qP (n:=q.num*s.den+s.num*q.den) (d:=q.den*s.den) (by omega) (by omega)) ?_;refine ev ?_;refine⟨by unfold vH;decide +kernel,?_⟩;exact jP _
theorem aip{T:Tb}(h:pF T){a b:Q}(ha:a.ok:=by assumption)(hb:b.ok:=by assumption):PF T 157 [kC (Q.raw a),kC (Q.raw b)] (kC (Q.raw (V3 a b))):=by
 cases a with
 |
  none =>
  refine jZ nR h.hT ?_;simp only [qG,Lz];refine ev ?_;refine jl (uK h.jQ) ?_;refine ev ?_;exact uX
 |
  some q=>cases b with
  |
   none =>
   refine jZ nR h.hT ?_;simp only [qG,Lz];refine ev ?_;refine jl (pK h.jQ) ?_;refine ev ?_;refine jl (uK h.jQ) ?_;refine ev ?_;exact uX
  |
   some s =>
   obtain⟨l1,l2⟩:=Oe ha;obtain⟨l3,l4⟩:=Oe hb;have e:V3 (some q) (some s)=VL (q.num*s.num) (q.den*s.den):=(ad2 q s).symm;rw [e];have t1:=nX q.num s.den;have t2:=nX s.num q.den;have t3:=nX q.den s.den;have t5:=nX q.num s.num;have t4:=Jr (q.num*s.den) (s.num*q.den);have n1:(mk (q.den:Int).natAbs).length≤24:=by rw [bW];exact l2
   have n2:(mk (s.den:Int).natAbs).length≤24:=by rw [bW];exact l4
   refine jZ nR h.hT ?_;simp only [qG,Lz];refine ev ?_;refine jl (pK h.jQ) ?_;refine ev ?_;refine jl (pK h.jQ) ?_;refine ev ?_;refine jl (rO h.kS (x:=q.num) (y:=s.num) (by omega) (by omega)) ?_;refine ev ?_;refine jl (xw h.kT (q:=q)) ?_;refine ev ?_;refine jl (xw h.kT (q:=s)) ?_;refine ev ?_;refine jl (rO h.kS (x:=q.den) (y:=s.den) (by omega) (by omega)) ?_;refine ev ?_;refine jl (QM h.qP (n:=q.num*s.num) (d:=q.den*s.den) (by omega) (by omega)) ?_;refine ev ?_;refine⟨by unfold vH;decide +kernel,?_⟩;exact jP _
theorem aiq{T:Tb}(h:um T){a b:Q}(ha:a.ok:=by assumption)(hb:b.ok:=by assumption):PF T 156 [kC (Q.raw a),kC (Q.raw b)] (kC (Q.raw (Yf a b))):=by
 cases a with
 |
  none =>
  refine jZ nR h.hT ?_;simp only [qH,Lz];refine ev ?_;refine jl (uK h.jQ) ?_;refine ev ?_;exact uX
 |
  some q=>cases b with
  |
   none =>
   refine jZ nR h.hT ?_;simp only [qH,Lz];refine ev ?_;refine jl (pK h.jQ) ?_;refine ev ?_;refine jl (uK h.jQ) ?_;refine ev ?_;exact uX
  |
   some s =>
   obtain⟨l1,l2⟩:=Oe ha;obtain⟨l3,l4⟩:=Oe hb;have e:Yf (some q) (some s)=VL (q.num*s.den) (s.num*q.den):=(ad3 q s).symm;rw [e];have t1:=nX q.num s.den;have t2:=nX s.num q.den;have t3:=nX q.den s.den;have t5:=nX q.num s.num;have t4:=Jr (q.num*s.den) (s.num*q.den);have n1:(mk (q.den:Int).natAbs).length≤24:=by rw [bW];exact l2
   have n2:(mk (s.den:Int).natAbs).length≤24:=by rw [bW];exact l4
   refine jZ nR h.hT ?_;simp only [qH,Lz];refine ev ?_;refine jl (pK h.jQ) ?_;refine ev ?_;refine jl (pK h.jQ) ?_;refine ev ?_;refine jl (xw h.kT (q:=s)) ?_;refine ev ?_;refine jl (rO h.kS (x:=q.num) (y:=s.den) (by omega) (by omega)) ?_;refine ev ?_;refine jl (xw h.kT (q:=q)) ?_;refine ev ?_;refine jl (rO h.kS (x:=s.num) (y:=q.den) (by omega) (by omega)) ?_;refine ev ?_;refine jl (QM h.qP (n:=q.num*s.den) (d:=s.num*q.den) (by omega) (by omega)) ?_;refine ev ?_;refine⟨by unfold vH;decide +kernel,?_⟩;exact jP _
theorem air{T:Tb}(h:DY T){a b:Q}(ha:a.ok:=by assumption)(hb:b.ok:=by assumption):PF T 371 [kC (Q.raw a),kC (Q.raw b)] (iv (aqa a b)):=by
 cases a with
 |
  none =>
  refine jZ nR h.hT ?_;simp only [wS,Lz];refine ev ?_;refine jl (uK h.jQ) ?_;refine ev ?_;exact jP _
 |
  some q=>cases b with
  |
   none =>
   refine jZ nR h.hT ?_;simp only [wS,Lz];refine ev ?_;refine jl (pK h.jQ) ?_;refine ev ?_;refine jl (uK h.jQ) ?_;refine ev ?_;exact jP _
  |
   some s =>
   obtain⟨l1,l2⟩:=Oe ha;obtain⟨l3,l4⟩:=Oe hb;have e:aqa (some q) (some s)=ab8 (q.num*s.den) (s.num*q.den):=rfl;rw [e];have t1:=nX q.num s.den;have t2:=nX s.num q.den;have t3:=nX q.den s.den;have t5:=nX q.num s.num;have t4:=Jr (q.num*s.den) (s.num*q.den);have n1:(mk (q.den:Int).natAbs).length≤24:=by rw [bW];exact l2
   have n2:(mk (s.den:Int).natAbs).length≤24:=by rw [bW];exact l4
   refine jZ nR h.hT ?_;simp only [wS,Lz];refine ev ?_;refine jl (pK h.jQ) ?_;refine ev ?_;refine jl (pK h.jQ) ?_;refine ev ?_;refine jl (xw h.kT (q:=s)) ?_;refine ev ?_;refine jl (rO h.kS (x:=q.num) (y:=s.den) (by omega) (by omega)) ?_;refine ev ?_;refine jl (xw h.kT (q:=q)) ?_;refine ev ?_;refine jl (rO h.kS (x:=s.num) (y:=q.den) (by omega) (by omega)) ?_;refine ev ?_;refine jl (aio h.Wh (x:=q.num*s.den) (y:=s.num*q.den) (by omega) (by omega)) ?_;refine ev ?_;rfl
theorem aal{T:Tb}(h:y7 T){a:Q}(ha:a.ok:=by assumption):PF T 161 [kC (Q.raw a)] (kC (Q.raw (negQ a))):=by
 cases a with
 |
  none =>
  refine jZ nR h.hT ?_;simp only [yZ,Lz];refine ev ?_;refine jl (uK h.jQ) ?_;refine ev ?_;exact uX
 |
  some q =>
  obtain⟨l1,l2⟩:=Oe ha;refine jZ nR h.hT ?_;simp only [yZ,Lz];refine ev ?_;refine jl (pK h.jQ) ?_;refine ev ?_;refine jl (Oc h.rD (l:=mk q.num.natAbs) (by omega)) ?_;refine ev ?_;refine jl (Aj h.kW (neg:=!decide (q.num<0)) (n:=q.num.natAbs) (by omega)) ?_;refine ev ?_;refine jl (Oc h.rD (l:=mk q.den) (by omega)) ?_;refine ev ?_;refine⟨by unfold vH;decide +kernel,?_⟩;have e:Q.raw (negQ (some q))=⟨(bi (sg (!decide (q.num<0)) q.num.natAbs)).neg,mk q.num.natAbs,mk q.den⟩:=by
   simp only [negQ,Q.raw,Rat.neg_num,Rat.neg_den,Int.natAbs_neg,R.mk.injEq,and_true];have e2:sg (!decide (q.num<0)) q.num.natAbs = -q.num:=by
    by_cases h1:q.num<0
    ·simp [sg,h1];omega
    simp [sg,h1];omega
   rw [e2]
  rw [e,IW];exact jP _
theorem ais{T:Tb}(h:wR T){a b:Q}(ha:a.ok:=by assumption)(hb:b.ok:=by assumption):PF T 159 [kC (Q.raw a),kC (Q.raw b)] (kC (Q.raw (afL a b))):=by
 have hn:=Yg hb;refine jZ nR h.hT ?_;simp only [DW,Lz];refine ev ?_;refine jl (aal h.DX hb) ?_;refine ev ?_;refine jl (aak h.kE ha hn) ?_;refine ev ?_;refine⟨by unfold vH;decide +kernel,?_⟩;exact jP _
theorem afT{T:Tb}(h:Gs T){a:Q}:PF T 124 [kC (Q.raw a)] (iv (AB a)):=by
 cases a with
 |
  none =>
  refine kR nR h.hT ?_;simp only [xQ,Lz];refine ev ?_;refine jl (uK h.jQ) ?_;refine ev ?_;rfl
 |
  some q =>
  refine kR nR h.hT ?_;simp only [xQ,Lz];refine ev ?_;refine jl (pK h.jQ) ?_;refine ev ?_;have e:((((mk q.num.natAbs).length:Nat):Int)=0)↔q.num=0:=by have:=@aij q.num.natAbs;omega
  refine jW (fun h1=>?_) fun h1=>?_<;>(refine ev1 @h1 ?_;try with_reducible exact True.intro)
  ·have:=e.1 h1;simp [AB,sgn,this]
  have h2:¬q.num=0:=fun k=>h1 (e.2 k);by_cases h3:q.num<0
  ·have e3:(Q.raw (some q)).neg=true:=by simp [Q.raw,h3]
   refine ev1 @e3 ?_;simp [AB,sgn,h3]
  have e3:(Q.raw (some q)).neg=false:=by simp [Q.raw,h3]
  refine ev1 @e3 ?_;simp [AB,sgn,h3,h2]
theorem zD{T:Tb}(h:sD T){r:R}(hw:r.wf:=by exact qW):PF T 102 [kC r] (.bool r.ok):=by
 obtain⟨neg,mag,den⟩:=r;have w1:mag.length≤9223372036854775807:=hw.1;have w2:den.length≤9223372036854775807:=hw.2;clear hw;have cb:=acv h.Ko (z:=⟨neg,mag⟩) w1;have cn:=ad6 h.Ko.Jt (l:=den) w2;dsimp only at cb;unfold R.ok;dsimp only
 cases h1:(wG mag && !(neg&&mag.isEmpty))
 ·rw [h1]at cb;refine kR nR h.hT ?_;simp only [rZ,Lz];refine ev ?_;refine jl cb ?_
  (refine ev ?_;try with_reducible exact True.intro)
 rw [h1]at cb
 cases h2:wG den
 ·rw [h2]at cn;refine kR nR h.hT ?_;simp only [rZ,Lz];refine ev ?_;refine jl cb ?_;refine ev ?_;refine jl cn ?_
  (refine ev ?_;try with_reducible exact True.intro)
 rw [h2]at cn;by_cases h3:((den.length:Nat):Int)=0
 ·have:den=[]:=aY (by omega);refine kR nR h.hT ?_;simp only [rZ,Lz];refine ev ?_;refine jl cb ?_;refine ev ?_;refine jl cn ?_;refine ev1 @h3 ?_;subst this;rfl
 have h3':den.isEmpty=false:=by cases den with|nil=>simp at h3|cons=>rfl
 by_cases h4:(24:Int)<((mag.length:Nat):Int)
 ·have h4':¬mag.length≤24:=by omega
  refine kR nR h.hT ?_;simp only [rZ,Lz];refine ev ?_;refine jl cb ?_;refine ev ?_;refine jl cn ?_;refine vM @h3 @h4 ?_;simp [h4']
 by_cases h5:(24:Int)<((den.length:Nat):Int)
 ·have h5':¬den.length≤24:=by omega
  refine kR nR h.hT ?_;simp only [rZ,Lz];refine ev ?_;refine jl cb ?_;refine ev ?_;refine jl cn ?_;refine Gp @h3 @h4 @h5 ?_;simp [h5']
 have h4':mag.length≤24:=by omega
 have h5':den.length≤24:=by omega
 have h6:wG mag=true:=by simp only [aG]at h1;exact h1.1
 have em:=O5 h6;have ed:=O5 h2;have cg:=UF h.DV (m:=val mag) (n:=val den) (by rw [←em];omega) (by rw [←ed];omega);rw [←em,←ed]at cg;obtain⟨g,hg⟩:∃g,Nat.gcd (val mag) (val den)=g:=⟨_,rfl⟩;have hdec:∀(inst:Decidable (Nat.gcd (val mag) (val den)=1)),@decide _ inst=decide (g=1):=by
  intro inst;subst hg
  congr
 rw [hg]at cg;have key:(decide (((mk g).length:Int)=1)&&(decide ((mk g).getD 0 0=1)))=decide (g=1):=by
  by_cases g1:g=1
  ·subst g1;rw [mk_one (by omega) (by omega)];rfl
  simp only [g1,decide_false,iQ,decide_eq_false_iff_not];by_cases k:(mk g).length=1
  ·right;intro e;have:=val_mk g
   cases hm:mk g with
   |nil=>rw [hm]at k;simp at k
   |
    cons x l =>
    rw [hm]at k e this;have:l=[]:=by simpa using k
    subst this;simp [val]at *;omega
  left;omega
 simp only [h3',h4',h5',decide_true,iI,Bool.not_false,cO];rw [hdec,←key];clear key;refine kR nR h.hT ?_;simp only [rZ,Lz];refine ev ?_;refine jl cb ?_;refine ev ?_;refine jl cn ?_;refine Gp @h3 @h4 @h5 ?_;refine jl cg ?_;refine ev ?_;by_cases k:(((mk g).length:Nat):Int)=1
 ·(refine ev1 @k ?_;try with_reducible exact True.intro)
 (refine ev1 @k ?_;try with_reducible exact True.intro)
def uo:Fn:=⟨3,55,[.cell 6 3 true],(.seq (rf 1 [oN 6 (.alloc vN)]) (sr [oW 10 1,oN 11 (cl 71 [10]),oW 7 11] (sr [oW 12 2,oN 13 (cl 71 [12]),oW 8 13] (.seq (sr [oW 14 8,oN 15 (ln 14),oN 16 (bc .eql 15 0)] (cd 16 (sr [oN 17 (.build vN []),oS (.store 3 (.t 6) (.t 17))] .ret) .skip)) (.seq (sr [oW 18 8,oN 19 (cl 122 [18]),oN 20 (nt 19)] (cd 20 (sr [oW 21 7,oW 22 8,oN 23 (cl 123 [21,22]),oW 9 23] (sr [oW 24 9,oN 25 (cl 122 [24]),oN 26 (nt 25)] (cd 26 (sr [oW 28 7,oW 29 9,oN 30 (cl 136 [28,29]),oW 27 30,oN 31 (ex 0 27),oN 32 (ex 1 27),oW 7 31] (rg [oW 34 8,oW 35 9,oN 36 (cl 136 [34,35]),oW 33 36,oN 37 (ex 0 33),oN 38 (ex 1 33),oW 8 37])) .skip))) .skip)) (.seq (sr [oW 39 7,oN 40 (ln 39),oN 41 (bc .gtr 40 24),oW 42 41,oG 42 false 43 (oV 8),oG 42 false 44 (ln 43),oG 42 false 45 (bc .gtr 44 24),oN 46 (.pick (.t 42) (.c (.bool true)) (.t 45))] (cd 46 (sr [oN 47 (.build vN []),oS (.store 3 (.t 6) (.t 47))] .ret) .skip)) (.seq (rf 2 [oK 48 2 (oV 0),oK 49 2 (oV 7),oK 50 2 (cl 66 [48,49]),oN 51 (.oI 1 I9 0 []),oK 52 2 (oV 8),oK 53 1 (.app 1 8 (.t 51) (.t 52)),oK 54 2 (.build vN [(0,2,(.t 50)),(2,1,(.t 53))]),⟨none,none,2,.store 3 (.t 6) (.t 54),[]⟩]) .ret)))))))⟩
structure Ie (T:Tb):Prop where
 hT:T 206=some uo
 AU:AQ T
 mD:qO T
 Nz:Ic T
 Wi:H9 T
 DN:DK T
def R.cn(r:R):Prop:=Q.raw r.q=r
abbrev R0:R:=⟨false,[],[]⟩
theorem Og{q:Q}(h:q.ok):(Q.raw q).cn:=by unfold R.cn;rw [J5 h]
theorem tV{r:R}(h:r.ok=true):r.cn:=au5 h
theorem SI:R0.cn:=Og (q:=none) trivial
theorem q_0:R0.q=none:=J5 (q:=none) trivial
def mG(r s:R):R:=Q.raw (N8 r.q s.q)
def vI(r s:R):R:=Q.raw (afL r.q s.q)
def mulR(r s:R):R:=Q.raw (V3 r.q s.q)
def xR(r s:R):R:=Q.raw (Yf r.q s.q)
def negR(r:R):R:=Q.raw (negQ r.q)
def ku(n:Int):R:=Q.raw (aqb n)
def yJ(r:R):Int:=AB r.q
def amM(r s:R):Int:=aqa r.q s.q
theorem Ig(r s:R):(mG r s).q=N8 r.q s.q:=J5 (Yh _ _)
theorem Oh(r s:R):(vI r s).q=afL r.q s.q:=J5 (adW _ _)
theorem Oi(r s:R):(mulR r s).q=V3 r.q s.q:=J5 (adX _ _)
theorem Yn(r s:R):(xR r s).q=Yf r.q s.q:=J5 (adY _ _)
theorem acw(r:R):(negR r).q=negQ r.q:=J5 (Yg (Hz r))
theorem ET{n:Int}(h:n.natAbs<1000000000 ^ 24):(ku n).q=aqb n:=J5 (adZ h)
theorem uM(r s:R):(mG r s).cn:=Og (Yh _ _)
theorem Tc(r s:R):(vI r s).cn:=Og (adW _ _)
theorem Px(r s:R):(mulR r s).cn:=Og (adX _ _)
theorem Ju(r s:R):(xR r s).cn:=Og (adY _ _)
theorem Yo(r:R):(negR r).cn:=Og (Yg (Hz r))
theorem vS{n:Int}(h:n.natAbs<1000000000 ^ 24):(ku n).cn:=Og (adZ h)
theorem uq{r:R}:r.ok=true↔r.q≠none:=by
 rw [←ace];cases r.q<;>simp
theorem DZ{r:R}:r.ok=false↔r.q=none:=by
 rw [←ace];cases r.q<;>simp
theorem Yp{r:R}(h:r.cn)(hq:r.q=none):r=R0:=by
 unfold R.cn at h;rw [hq]at h;exact h.symm
theorem aqz{r s:R}(hr:r.cn)(hs:s.cn)(h:r.q=s.q):r=s:=by
 rw [←hr,←hs,h]
theorem Oj{r:R}(h:r.cn):r.mag.length≤24∧r.den.length≤24:=by
 cases hq:r.q with
 |none=>rw [Yp h hq];simp
 |
  some q =>
  have hk:Q.ok (some q):=by rw [←hq];exact Hz r
  have:=Pv.1 hk;rw [←h,hq];exact this
theorem rP{r:R}(h:r.cn):r.wf:=by have:=Oj h;exact⟨by omega,by omega⟩
theorem RN(a:Q):N8 none a=none:=rfl
theorem RP(a:Q):N8 a none=none:=by cases a<;>rfl
theorem aam(a:Q):V3 none a=none:=rfl
theorem RQ(a:Q):V3 a none=none:=by cases a<;>rfl
theorem aan(a:Q):Yf a none=none:=by cases a<;>rfl
theorem aao(a:Q):afL none a=none:=rfl
theorem RS(a:Q):afL a none=none:=by cases a<;>rfl
theorem afU(a b:Q):N8 a b=N8 b a:=by
 cases a<;>cases b<;>first|rfl|(simp only [N8];rw [Rat.add_comm])
theorem afV(a b:R):mG a b=mG b a:=by unfold mG;rw [afU]
theorem aon(x:Int):[[V.int .i64 x]]=jR [x]:=rfl
theorem aqA(neg:Bool)(m k:Nat)(h:m=0→k=0):bi (sg (decide (sg neg m<0)) k)=bi (sg neg k):=by
 by_cases hm:m=0
 ·rw [h hm,Pq,Pq]
 have e:decide (sg neg m<0)=neg:=by
  cases neg
  ·simp [sg]
  simp [sg];omega
 rw [e]
theorem ait{T:Tb}(h:Ie T){neg:Bool}{m n:Nat}(la:(mk m).length≤60:=by exact qW)(lb:(mk n).length≤60:=by exact qW) :
  PF T 206 [.bool neg,ints (mk m),ints (mk n)] (kC (Q.raw (VL (sg neg m) n))):=by
 have ct1:=Ai h.mD (l:=mk m) (by omega);have Xm:=Ai h.mD (l:=mk n) (by omega);rw [Us (sN m)]at ct1;rw [Us (sN n)]at Xm;by_cases hn:n=0
 ·subst hn;have e:VL (sg neg m) ((0:Nat):Int)=none:=rfl;rw [e];have c1:(((mk 0).length:Nat):Int)=0:=by rw [Yi];rfl
  refine jZ nR h.hT ?_;simp only [uo,Lz];refine ev ?_;refine jl ct1 ?_;refine ev ?_;refine jl Xm ?_;refine ev1 @c1 ?_;exact uX
 have hd:(n:Int)≠0:=by omega
 rw [Yl hd];have hpos:¬((n:Int)<0):=by omega
 have e0:(decide (sg neg m<0) != decide ((n:Int)<0))=decide (sg neg m<0):=by simp [hpos]
 rw [e0,IW,bW];have hg:0<Nat.gcd m n:=iU _ (by omega);have c1:¬(((mk n).length:Nat):Int)=0:=by have:=@aij n;omega
 have hz:m=0→m / Nat.gcd m n=0:=fun e=>by rw [e];simp
 rw [aqA neg m _ hz];have fin:∀(u v:Nat),u=m / Nat.gcd m n→v=n / Nat.gcd m n→(mk u).length≤60∧(mk v).length≤60:=by
  intro u v hu hv;have l1:=QK m (Nat.gcd m n);have l2:=QK n (Nat.gcd m n);rw [hu,hv];omega
 have co:=aaj h.Nz (n:=n);have cg:=ain h.Wi (m:=m) (n:=n) (by omega) (by omega);have lg:(mk (Nat.gcd m n)).length≤60:=bV (Jq (Nat.le_of_dvd (by omega) (Nat.gcd_dvd_right _ _))) lb;have co2:=aaj h.Nz (n:=Nat.gcd m n);have cd1:=UG h.DN (m:=m) hg (by omega) (by omega);have cd2:=UG h.DN (m:=n) hg (by omega) (by omega);obtain⟨g,hgd⟩:∃g,Nat.gcd m n=g:=⟨_,rfl⟩;obtain⟨u,hu⟩:∃u,m / Nat.gcd m n=u:=⟨_,rfl⟩;obtain⟨v,hv⟩:∃v,n / Nat.gcd m n=v:=⟨_,rfl⟩;obtain⟨lu,lv⟩:=fin u v hu.symm hv.symm;have cm:=QL h.AU (neg:=neg) (n:=u) (by omega);have ecm:SC (bi (sg neg u))=.agg [.bool (bi (sg neg u)).neg,ints (mk u)]:=by
  show V.agg [.bool (bi (sg neg u)).neg,ints (mk (sg neg u).natAbs)]=_;rw [IW]
 rw [ecm]at cm;have un:n=1→u=m∧v=n:=by
  intro e;subst e;rw [Nat.gcd_one_right]at hu hv;simp at hu hv;omega
 have ug:g=1→u=m∧v=n:=by
  intro e;rw [hgd,e]at hu hv;simp at hu hv;omega
 rw [hu,hv];rw [hgd]at cg co2;rw [hu]at cd1;rw [hv]at cd2;rw [hgd]at cd1 cd2;have fin2:lU (kC (if (mk u).length≤24∧(mk v).length≤24 then⟨(bi (sg neg u)).neg,mk u,mk v⟩else⟨false,[],[]⟩))
   (if (mk u).length≤24∧(mk v).length≤24 then kC ⟨(bi (sg neg u)).neg,mk u,mk v⟩else .agg [.bool false,.jF,.jF]):=by
  split
  ·exact jP _
  exact uX
 have v0:v≠0:=by
  rw [←hv];exact Nat.ne_of_gt (Nat.div_pos (Nat.le_of_dvd (by omega) (Nat.gcd_dvd_right _ _)) hg)
 have ne:jR (mk v)≠[]:=by
  have hp:=Gq.2 (jw v0);intro e;rw [←CQ,e]at hp;simp at hp
 clear fin hz hg e0 hpos hd hgd hu hv;by_cases n1:n=1
 ·rw [show decide (n=1)=true from decide_eq_true n1]at co;obtain⟨rfl,rfl⟩:=un n1;refine jZ nR h.hT ?_;simp only [uo,Lz];refine ev ?_;refine jl ct1 ?_;refine ev ?_;refine jl Xm ?_;refine ev1 @c1 ?_;refine jl co ?_;refine ev ?_;by_cases k1:(24:Int)<((mk u).length:Nat)
  ·refine ev1 @k1 ?_;rw [if_neg (by omega)];exact uX
  by_cases k2:(24:Int)<((mk v).length:Nat)
  ·refine vM @k1 @k2 ?_;rw [if_neg (by omega)];exact uX
  refine vM @k1 @k2 ?_;refine jl cm ?_;refine ev1 @ne ?_;rw [if_pos (by omega)];exact⟨by omega,jP _⟩
 rw [show decide (n=1)=false from decide_eq_false n1]at co;by_cases g1:g=1
 ·rw [show decide (g=1)=true from decide_eq_true g1]at co2;obtain⟨rfl,rfl⟩:=ug g1;refine jZ nR h.hT ?_;simp only [uo,Lz];refine ev ?_;refine jl ct1 ?_;refine ev ?_;refine jl Xm ?_;refine ev1 @c1 ?_;refine jl co ?_;refine ev ?_;refine jl cg ?_;refine ev ?_;refine jl co2 ?_;refine ev ?_;by_cases k1:(24:Int)<((mk u).length:Nat)
  ·refine ev1 @k1 ?_;rw [if_neg (by omega)];exact uX
  by_cases k2:(24:Int)<((mk v).length:Nat)
  ·refine vM @k1 @k2 ?_;rw [if_neg (by omega)];exact uX
  refine vM @k1 @k2 ?_;refine jl cm ?_;refine ev1 @ne ?_;rw [if_pos (by omega)];exact⟨by omega,jP _⟩
 rw [show decide (g=1)=false from decide_eq_false g1]at co2;refine jZ nR h.hT ?_;simp only [uo,Lz];refine ev ?_;refine jl ct1 ?_;refine ev ?_;refine jl Xm ?_;refine ev1 @c1 ?_;refine jl co ?_;refine ev ?_;refine jl cg ?_;refine ev ?_;refine jl co2 ?_;refine ev ?_;refine jl cd1 ?_;refine ev ?_;refine jl cd2 ?_;refine ev ?_;by_cases k1:(24:Int)<((mk u).length:Nat)
 ·refine ev1 @k1 ?_;rw [if_neg (by omega)];exact uX
 by_cases k2:(24:Int)<((mk v).length:Nat)
 ·refine vM @k1 @k2 ?_;rw [if_neg (by omega)];exact uX
 refine vM @k1 @k2 ?_;refine jl cm ?_;refine ev1 @ne ?_;rw [if_pos (by omega)];exact⟨by omega,jP _⟩
def xU:Fn:=⟨1,8,[.tmp 2],(.seq (rf 1 [oN 1 (.box (.t 0)),oK 2 1 (.oO (cI 0))]) (.seq (sr [oN 3 (lT 3 1),oN 4 (cl 102 [3]),oN 5 (nt 4)] (cd 5 (sr [oN 2 (.oO (cI 0))] .ret) .skip)) (sr [oN 6 (lT 3 1),oN 7 (cl 124 [6]),oW 2 7] .ret)))⟩
structure AV (T:Tb):Prop where
 hT:T 101=some xU
 lM:sD T
 UJ:Gs T
def D5:Fn:=⟨1,9,[.tmp 2],(sr [oN 2 mF] (sr [oW 3 0,oN 4 (bc .geq 3 0),oW 5 4,oG 5 true 6 (oV 0),oG 5 true 7 (bc .lss 6 10),oN 8 (.pick (.t 5) (.t 7) (.c (.bool false))),oW 2 8] .ret))⟩
structure D6 (T:Tb):Prop where
 hT:T 37=some D5
def AX:Fn:=⟨1,5,[.tmp 2],(sr [oN 2 mF] (sr [oW 3 0,oN 4 (.call 35 [(.t 3),(cI 0),(cI 9)]),oW 2 4] .ret))⟩
structure Gt (T:Tb):Prop where
 hT:T 34=some AX
 vO:AP T
def vT:Fn:=⟨1,34,[.tmp 2],(.seq (rf 1 [oN 1 (.box (.t 0)),oK 2 1 mF]) (sr [oN 3 (fd 0 1),oN 4 (lF 1 3),oN 5 (cl 37 [4]),oW 6 5,oG 6 true 7 (fd 1 1),oG 6 true 8 (lF 1 7),oG 6 true 9 (cl 37 [8]),oN 10 (.pick (.t 6) (.t 9) (.c (.bool false))),oW 11 10,oG 11 true 12 (fd 0 1),oG 11 true 13 (lF 1 12),oG 11 true 14 (fd 1 1),oG 11 true 15 (lF 1 14),oG 11 true 16 (bt .lss 13 15),oN 17 (.pick (.t 11) (.t 16) (.c (.bool false))),oW 18 17,oG 18 true 19 (fd 2 1),oG 18 true 20 (lT 3 19),oG 18 true 21 (cl 101 [20]),oG 18 true 22 (bc .gtr 21 0),oN 23 (.pick (.t 18) (.t 22) (.c (.bool false))),oW 24 23,oG 24 true 25 (fd 5 1),oG 24 true 26 (lT 3 25),oG 24 true 27 (cl 102 [26]),oN 28 (.pick (.t 24) (.t 27) (.c (.bool false))),oW 29 28,oG 29 true 30 (fd 8 1),oG 29 true 31 (lT 3 30),oG 29 true 32 (cl 102 [31]),oN 33 (.pick (.t 29) (.t 32) (.c (.bool false))),oW 2 33] .ret))⟩
structure qw (T:Tb):Prop where
 hT:T 84=some vT
 D7:D6 T
 AY:AV T
 lM:sD T
theorem Ol{T:Tb}(h:AV T){r:R}(hw:r.wf:=by exact qW):PF T 101 [kC r] (iv (AB r.q)):=by
 have co:=zD h.lM hw
 cases ho:r.ok
 ·rw [ho]at co;have e:r.q=none:=by unfold R.q;rw [if_neg (by simp [ho])]
  rw [e];refine kR nR h.hT ?_;simp only [xU,Lz];refine ev ?_;refine jl co ?_;refine ev ?_;rfl
 rw [ho]at co;obtain⟨q,hq,rfl⟩:=acd ho;rw [J5 (q:=some q) hq];have cs:=afT h.UJ (a:=some q);refine kR nR h.hT ?_;simp only [xU,Lz];refine ev ?_;refine jl co ?_;refine ev ?_;refine jl cs ?_
 (refine ev ?_;try with_reducible exact True.intro)
def nd(a:Int):Bool:=decide (0≤a)&&decide (a≤9)
theorem Xn{T:Tb}(h:Gt T){a:Int}:PF T 34 [iv a] (.bool (nd a)):=by
 refine kR nR h.hT ?_;simp only [AX,Lz];refine ev ?_;refine jl (Pn h.vO) ?_;refine ev ?_;rfl
theorem UK{T:Tb}(h:D6 T){a:Int}:PF T 37 [iv a] (.bool (nd a)):=by
 unfold nd;have e:decide (a≤9)=decide (a<10):=by simp;omega
 rw [e];refine kR nR h.hT ?_;simp only [D5,Lz];refine ev ?_;by_cases h1:0≤a
 ·(refine ev1 @h1 ?_;try with_reducible exact True.intro)
 (refine ev1 @h1 ?_;try with_reducible exact True.intro)
def nD(l:Lk):Bool:=nd l.a&&nd l.b&&decide (l.a<l.b)&&decide (0<AB l.w.q)&&l.dx.ok&&l.dy.ok
theorem AZ{T:Tb}(h:qw T){l:Lk}(hw:l.wf:=by exact qW):PF T 84 [V4 l] (.bool (nD l)):=by
 have c1:=UK h.D7 (a:=l.a);have c2:=UK h.D7 (a:=l.b);have c3:=Ol h.AY hw.1;have c4:=zD h.lM hw.2.1;have c5:=zD h.lM hw.2.2;unfold nD;refine kR nR h.hT ?_;simp only [vT,Lz];refine ev ?_;refine jl c1 ?_
 cases nd l.a
 ·(refine ev ?_;try with_reducible exact True.intro)
 refine ev ?_;refine jl c2 ?_
 cases nd l.b
 ·(refine ev ?_;try with_reducible exact True.intro)
 refine ev ?_;by_cases h3:l.a<l.b
 rotate_left
 ·(refine ev1 @h3 ?_;try with_reducible exact True.intro)
 refine ev1 @h3 ?_;refine jl c3 ?_;by_cases h6:0<AB l.w.q
 rotate_left
 ·(refine vM @h3 @h6 ?_;try with_reducible exact True.intro)
 refine vM @h3 @h6 ?_;refine jl c4 ?_
 cases l.dx.ok
 ·(refine vM @h3 @h6 ?_;try with_reducible exact True.intro)
 refine vM @h3 @h6 ?_;refine jl c5 ?_
 cases l.dy.ok
 ·(refine vM @h3 @h6 ?_;try with_reducible exact True.intro)
 (refine vM @h3 @h6 ?_;try with_reducible exact True.intro)
def wJ:Fn:=⟨1,16,[.cell 2 2 true],(.seq (rf 1 [oN 2 (.alloc zz4)]) (.seq (sr [oW 3 0,oN 4 (.bin .eql (.t 3) (cI (-9223372036854775808)))] (cd 4 (.seq (rf 1 [oN 5 (.oI 1 I9 3 [(0,(cI 854775808)),(1,(cI 223372036)),(2,(cI 9))]),oK 6 1 (.call 66 [(.c (.bool true)),(.t 5)]),⟨none,none,1,.store 2 (.t 2) (.t 6),[]⟩]) .ret) .skip)) (.seq (sr [oW 7 0,oN 8 (bc .lss 7 0)] (cd 8 (sr [oW 9 0,oN 10 (.un .neg (.t 9)),oN 11 (cl 67 [10]),oN 12 (.call 66 [(.c (.bool true)),(.t 11)]),oS (.store 2 (.t 2) (.t 12))] .ret) .skip)) (sr [oW 13 0,oN 14 (cl 67 [13]),oN 15 (.call 66 [(.c (.bool false)),(.t 14)]),oS (.store 2 (.t 2) (.t 15))] .ret))))⟩
structure zF (T:Tb):Prop where
 hT:T 53=some wJ
 AU:AQ T
 rV:yu T
def xB:Fn:=⟨1,7,[.cell 2 3 true],(.seq (rf 1 [oN 2 (.alloc vN)]) (.seq (rf 1 [oK 3 1 (oV 0),oK 4 1 (cl 53 [3]),oN 5 (.oI 1 I9 1 [(0,(cI 1))]),oK 6 1 (.build vN [(0,2,(.t 4)),(2,1,(.t 5))]),⟨none,none,1,.store 3 (.t 2) (.t 6),[]⟩]) .ret))⟩
structure Ba (T:Tb):Prop where
 hT:T 36=some xB
 zG:zF T
def rF:Fn:=⟨1,16,[.cell 2 2 true],(.seq (rf 1 [oN 2 (.alloc zz4)]) (.seq (sr [oW 3 0,oN 4 (bc .lss 3 0)] (cd 4 (sr [oW 5 0,oN 6 (bc .add 5 1),oN 7 (.un .neg (.t 6)),oN 8 (.conv .u64 (.t 7)),oN 9 (.bin .add (.t 8) (.c (.int .u64 1))),oN 10 (cl 69 [9]),oN 11 (.call 68 [(.c (.bool true)),(.t 10)]),oS (.store 2 (.t 2) (.t 11))] .ret) .skip)) (sr [oW 12 0,oN 13 (.conv .u64 (.t 12)),oN 14 (cl 69 [13]),oN 15 (.call 68 [(.c (.bool false)),(.t 14)]),oS (.store 2 (.t 2) (.t 15))] .ret)))⟩
structure zH (T:Tb):Prop where
 hT:T 54=some rF
 kW:nZ T
 lV:sH T
def tX:Fn:=⟨1,7,[.cell 2 3 true],(.seq (rf 1 [oN 2 (.alloc vN)]) (.seq (rf 1 [oK 3 1 (oV 0),oK 4 1 (cl 54 [3]),oN 5 (.oI 1 I9 1 [(0,(cI 1))]),oK 6 1 (.build vN [(0,2,(.t 4)),(2,1,(.t 5))]),⟨none,none,1,.store 3 (.t 2) (.t 6),[]⟩]) .ret))⟩
structure mO (T:Tb):Prop where
 hT:T 39=some tX
 Kq:zH T
theorem Le{n:Nat}(h:n<1000000000000000000):(mk n).length≤2:=kL.2 (by simpa using h)
theorem UL(n:Int):ku n=⟨decide (n<0),mk n.natAbs,[1]⟩:=by
 show (⟨decide ((n:Rat).num<0),mk (n:Rat).num.natAbs,mk (n:Rat).den⟩:R)=_;have m1:mk 1=[1]:=mk_one (by omega) (by omega);rw [Rat.num_intCast,Rat.den_intCast,m1]
theorem Lh{T:Tb}(h:zF T){n:Int}(hn : -1000000000000000000<n∧n<1000000000000000000:=by exact qW):PF T 53 [iv n] (SC (bi n)):=by
 have hl:(mk n.natAbs).length≤2:=Le (by omega);by_cases hneg:n<0
 ·have c1:=MK h.rV (n:=-n) (by omega);have c2:=QL h.AU (neg:=true) (n:=n.natAbs) (by omega);rw [show (-n).toNat=n.natAbs by omega]at c1;rw [show sg true n.natAbs=n by simp only [sg,if_true];omega]at c2;have c0:¬n = -9223372036854775808:=by omega
  refine jZ nR h.hT ?_;simp only [wJ,Lz];refine ev ?_;refine vM @c0 @hneg ?_;rw [show (0:Int)-n = -n by omega];refine jl c1 ?_;refine ev ?_;refine jl c2 ?_;refine ev ?_;exact jP _
 have c1:=MK h.rV (n:=n) (by omega);have c2:=QL h.AU (neg:=false) (n:=n.natAbs) (by omega);rw [show n.toNat=n.natAbs by omega]at c1;rw [show sg false n.natAbs=n by simp only [sg,bn,if_false];omega]at c2;have c0:¬n = -9223372036854775808:=by omega
 refine jZ nR h.hT ?_;simp only [wJ,Lz];refine ev ?_;refine vM @c0 @hneg ?_;refine jl c1 ?_;refine ev ?_;refine jl c2 ?_;refine ev ?_;exact jP _
theorem aap{T:Tb}(h:zH T){n:Int}(hn : -1000000000000000000<n∧n<1000000000000000000:=by exact qW):PF T 54 [iv n] (SC (bi n)):=by
 have hl:(mk n.natAbs).length≤2:=Le (by omega);by_cases hneg:n<0
 ·have c1:=xO h.lV (n:=-(n+1)+1) (by omega);have c2:=Aj h.kW (neg:=true) (n:=n.natAbs) (by omega);rw [show (-(n+1)+1).toNat=n.natAbs by omega]at c1;rw [show sg true n.natAbs=n by simp only [sg,if_true];omega]at c2;refine jZ nR h.hT ?_;simp only [rF,Lz];refine ev ?_;refine ev1 @hneg ?_;rw [show (0:Int)-(n+1)+1 = -(n+1)+1 by omega];refine jl c1 ?_;refine ev ?_;refine jl c2 ?_;refine ev ?_;exact jP _
 have c1:=xO h.lV (n:=n) (by omega);have c2:=Aj h.kW (neg:=false) (n:=n.natAbs) (by omega);rw [show n.toNat=n.natAbs by omega]at c1;rw [show sg false n.natAbs=n by simp only [sg,bn,if_false];omega]at c2;refine jZ nR h.hT ?_;simp only [rF,Lz];refine ev ?_;refine ev1 @hneg ?_;refine jl c1 ?_;refine ev ?_;refine jl c2 ?_;refine ev ?_;exact jP _
theorem wU{T:Tb}(h:Ba T){n:Int}(hn : -1000000000000000000<n∧n<1000000000000000000:=by exact qW):PF T 36 [iv n] (kC (ku n)):=by
 have c:=Lh h.zG hn;rw [UL];refine jZ nR h.hT ?_;simp only [xB,Lz];refine ev ?_;refine jl c ?_;refine ev ?_;simp only [aon];refine ev ?_;exact jP _
theorem Ih{T:Tb}(h:mO T){n:Int}(hn : -1000000000000000000<n∧n<1000000000000000000:=by exact qW):PF T 39 [iv n] (kC (ku n)):=by
 have c:=aap h.Kq hn;rw [UL];refine jZ nR h.hT ?_;simp only [tX,Lz];refine ev ?_;refine jl c ?_;refine ev ?_;simp only [aon];refine ev ?_;exact jP _
def wV:Fn:=⟨2,17,[.cell 4 3 true],(.seq (rf 3 [oN 2 (.box (.t 0)),oK 3 1 (.box (.t 1)),oK 4 2 (.alloc vN)]) (.seq (sr [oN 5 (lT 3 2),oN 6 (cl 102 [5]),oN 7 (nt 6),oW 8 7,oG 8 false 9 (lT 3 3),oG 8 false 10 (cl 102 [9]),oG 8 false 11 (nt 10),oN 12 (.pick (.t 8) (.c (.bool true)) (.t 11))] (cd 12 (sr [oN 13 (.build vN []),oS (.store 3 (.t 4) (.t 13))] .ret) .skip)) (sr [oN 14 (lT 3 2),oN 15 (lT 3 3),oN 16 (cl 131 [14,15]),oS (.store 3 (.t 4) (.t 16))] .ret)))⟩
structure D8 (T:Tb):Prop where
 hT:T 178=some wV
 lM:sD T
 kE:lN T
theorem Lj{r:R}(h:r.cn:=by
 first|with_reducible assumption|with_reducible exact uM _ _|with_reducible exact Tc _ _|with_reducible exact Px _ _|with_reducible exact Ju _ _|with_reducible exact Yo _|with_reducible exact SI|with_reducible exact vS (by decide)):r.cn:=h
theorem Ak{T:Tb}(h:lN T){r s:R}(hr:r.cn:=by exact Lj)(hs:s.cn:=by exact Lj):PF T 131 [kC r,kC s] (kC (mG r s)):=by
 have:=aak h (a:=r.q) (b:=s.q) (Hz r) (Hz s);rw [hr,hs]at this;exact this
theorem Ap{T:Tb}(h:wR T){r s:R}(hr:r.cn:=by exact Lj)(hs:s.cn:=by exact Lj):PF T 159 [kC r,kC s] (kC (vI r s)):=by
 have:=ais h (a:=r.q) (b:=s.q) (Hz r) (Hz s);rw [hr,hs]at this;exact this
theorem wW{T:Tb}(h:pF T){r s:R}(hr:r.cn:=by exact Lj)(hs:s.cn:=by exact Lj):PF T 157 [kC r,kC s] (kC (mulR r s)):=by
 have:=aip h (a:=r.q) (b:=s.q) (Hz r) (Hz s);rw [hr,hs]at this;exact this
theorem Xo{T:Tb}(h:um T){r s:R}(hr:r.cn:=by exact Lj)(hs:s.cn:=by exact Lj):PF T 156 [kC r,kC s] (kC (xR r s)):=by
 have:=aiq h (a:=r.q) (b:=s.q) (Hz r) (Hz s);rw [hr,hs]at this;exact this
theorem Xp{T:Tb}(h:y7 T){r:R}(hr:r.cn:=by exact Lj):PF T 161 [kC r] (kC (negR r)):=by
 have:=aal h (a:=r.q) (Hz r);rw [hr]at this;exact this
theorem afW{T:Tb}(h:DY T){r s:R}(hr:r.cn:=by exact Lj)(hs:s.cn:=by exact Lj):PF T 371 [kC r,kC s] (iv (amM r s)):=by
 have:=air h (a:=r.q) (b:=s.q) (Hz r) (Hz s);rw [hr,hs]at this;exact this
theorem D9{T:Tb}(h:l7 T){r:R}(hr:r.cn:=by exact Lj):PF T 132 [kC r] (.bool r.ok):=by
 have:=Ym h (a:=r.q);rw [hr,ace]at this;exact this
theorem QN{T:Tb}(h:D8 T){r s:R}(hr:r.wf:=by exact qW)(hs:s.wf:=by exact qW):PF T 178 [kC r,kC s] (kC (mG r s)):=by
 have o1:=zD h.lM hr;have o2:=zD h.lM hs
 cases hro:r.ok
 ·have e:mG r s=R0:=by unfold mG;rw [DZ.1 hro];rfl
  rw [e];rw [hro]at o1;refine jZ nR h.hT ?_;simp only [wV,Lz];refine ev ?_;refine jl o1 ?_;refine ev ?_;exact uX
 cases hso:s.ok
 ·have e:mG r s=R0:=by unfold mG;rw [DZ.1 hso,RP];rfl
  rw [e];rw [hro]at o1;rw [hso]at o2;refine jZ nR h.hT ?_;simp only [wV,Lz];refine ev ?_;refine jl o1 ?_;refine ev ?_;refine jl o2 ?_;refine ev ?_;exact uX
 rw [hro]at o1;rw [hso]at o2;have c:=Ak h.kE (tV hro) (tV hso);refine jZ nR h.hT ?_;simp only [wV,Lz];refine ev ?_;refine jl o1 ?_;refine ev ?_;refine jl o2 ?_;refine ev ?_;refine jl c ?_;refine ev ?_;exact jP _
mutual
def lC(σ:Store):V→V→List Nat→Prop
 |v,.sl sz rows,os=>(rows=[]∧v=.sl sz []∧os=[])∨∃o rows' os',v=.kQ o 0 rows.length∧iZ σ o=some ⟨sz,rows'⟩∧os=o::os'∧tC σ rows' rows os'
 |v,.agg cs,os=>∃cs',v=.agg cs'∧mJ σ cs' cs os
 |v,.nJ cs,os=>∃cs',v=.nJ cs'∧mJ σ cs' cs os
 |v,.any,os=>False
 |v,.one,os=>False
 |v,.int k n,os=>v=.int k n∧os=[]
 |v,.bool b,os=>v=.bool b∧os=[]
 |v,.str s,os=>v=.str s∧os=[]
 |v,.jF,os=>False
 |v,.kQ _ _ _,os=>False
 |v,.ptr _ _ _,os=>False
 |v,.ou _ _,os=>False
def mJ(σ:Store):List V→List V→List Nat→Prop
 |vs,[],os=>vs=[]∧os=[]
 |vs,t::ts,os=>∃v vs' o1 o2,vs=v::vs'∧os=o1++o2∧lC σ v t o1∧mJ σ vs' ts o2
def tC(σ:Store):List (List V)→List (List V)→List Nat→Prop
 |vs,[],os=>vs=[]∧os=[]
 |vs,t::ts,os=>∃v vs' o1 o2,vs=v::vs'∧os=o1++o2∧mJ σ v t o1∧tC σ vs' ts o2
end
section
variable {σ σ' : Store}
theorem kD{o:Nat}{ob:Obj}(h:iZ σ o=some ob):o<σ.length:=by
 rcases dD o σ.length with k|k
 ·exact k
 rw [iZ,aW k]at h;cases h
mutual
theorem lC.lt:∀{t v:V} {os:List Nat},lC σ v t os→∀o∈os,o<σ.length
 |
  .sl sz rows,v,os,h=>by
  simp only [lC]at h;rcases h with ⟨_,_,rfl⟩|⟨o,rows',os',_,h2,rfl,h3⟩
  ·intro o ho;cases ho
  intro q hq;rcases aH.1 hq with rfl|hq
  ·exact kD h2
  exact tC.lt h3 q hq
 |.agg cs,v,os,h=>by simp only [lC]at h;obtain⟨cs',_,h⟩:=h;exact mJ.lt h
 |.nJ cs,v,os,h=>by simp only [lC]at h;obtain⟨cs',_,h⟩:=h;exact mJ.lt h
 |.any,v,os,h=>by simp [lC]at h
 |.one,v,os,h=>by simp [lC]at h
 |.int ..,v,os,h=>by simp only [lC]at h;rw [h.2];intro o ho;cases ho
 |.bool _,v,os,h=>by simp only [lC]at h;rw [h.2];intro o ho;cases ho
 |.str _,v,os,h=>by simp only [lC]at h;rw [h.2];intro o ho;cases ho
 |.jF,v,os,h=>by simp [lC]at h
 |.kQ ..,v,os,h=>by simp [lC]at h
 |.ptr ..,v,os,h=>by simp [lC]at h
 |.ou ..,v,os,h=>by simp [lC]at h
theorem mJ.lt:∀{ts vs:List V} {os:List Nat},mJ σ vs ts os→∀o∈os,o<σ.length
 | [],vs,os,h=>by simp only [mJ]at h;rw [h.2];intro o ho;cases ho
 |
  t::ts,vs,os,h=>by
  simp only [mJ]at h;obtain⟨v,vs',o1,o2,_,rfl,h1,h2⟩:=h;intro o ho;rcases aK.1 ho with ho|ho
  ·exact lC.lt h1 o ho
  exact mJ.lt h2 o ho
theorem tC.lt:∀{ts vs:List (List V)} {os:List Nat},tC σ vs ts os→∀o∈os,o<σ.length
 | [],vs,os,h=>by simp only [tC]at h;rw [h.2];intro o ho;cases ho
 |
  t::ts,vs,os,h=>by
  simp only [tC]at h;obtain⟨v,vs',o1,o2,_,rfl,h1,h2⟩:=h;intro o ho;rcases aK.1 ho with ho|ho
  ·exact mJ.lt h1 o ho
  exact tC.lt h2 o ho
end
mutual
theorem lC.frame:∀{t v:V} {os:List Nat},lC σ v t os→(∀o∈os,iZ σ' o=iZ σ o)→lC σ' v t os
 |
  .sl sz rows,v,os,h,hf=>by
  simp only [lC]at h ⊢;rcases h with h|⟨o,rows',os',h1,h2,rfl,h3⟩
  ·exact .inl h
  exact .inr ⟨o,rows',os',h1,by rw [hf o (by simp)];exact h2,rfl,tC.frame h3 fun q hq=>hf q (by simp [hq])⟩
 |.agg cs,v,os,h,hf=>by simp only [lC]at h ⊢;obtain⟨cs',e,h⟩:=h;exact⟨cs',e,mJ.frame h hf⟩
 |.nJ cs,v,os,h,hf=>by simp only [lC]at h ⊢;obtain⟨cs',e,h⟩:=h;exact⟨cs',e,mJ.frame h hf⟩
 |.any,v,os,h,_=>by simp [lC]at h
 |.one,v,os,h,_=>by simp [lC]at h
 |.int ..,v,os,h,_=>by simpa only [lC]using h
 |.bool _,v,os,h,_=>by simpa only [lC]using h
 |.str _,v,os,h,_=>by simpa only [lC]using h
 |.jF,v,os,h,_=>by simp [lC]at h
 |.kQ ..,v,os,h,_=>by simp [lC]at h
 |.ptr ..,v,os,h,_=>by simp [lC]at h
 |.ou ..,v,os,h,_=>by simp [lC]at h
theorem mJ.frame:∀{ts vs:List V} {os:List Nat},mJ σ vs ts os→(∀o∈os,iZ σ' o=iZ σ o)→mJ σ' vs ts os
 | [],vs,os,h,_=>by simpa only [mJ]using h
 |
  t::ts,vs,os,h,hf=>by
  simp only [mJ]at h ⊢;obtain⟨v,vs',o1,o2,e,rfl,h1,h2⟩:=h;exact⟨v,vs',o1,o2,e,rfl,lC.frame h1 fun q hq=>hf q (by simp [hq]),mJ.frame h2 fun q hq=>hf q (by simp [hq])⟩
theorem tC.frame:∀{ts vs:List (List V)} {os:List Nat},tC σ vs ts os→(∀o∈os,iZ σ' o=iZ σ o)→tC σ' vs ts os
 | [],vs,os,h,_=>by simpa only [tC]using h
 |
  t::ts,vs,os,h,hf=>by
  simp only [tC]at h ⊢;obtain⟨v,vs',o1,o2,e,rfl,h1,h2⟩:=h;exact⟨v,vs',o1,o2,e,rfl,mJ.frame h1 fun q hq=>hf q (by simp [hq]),tC.frame h2 fun q hq=>hf q (by simp [hq])⟩
end
theorem lC.leaf{t v:V}{os:List Nat}(h:lC σ v t os)(hl:t.leaf=true):v.leaf=true:=by
 cases t<;>simp only [V.leaf]at hl<;>first|(cases hl;done)|skip
 all_goals simp only [lC]at h
 all_goals first|(cases h;done)|skip
 case int=>rw [h.1];rfl
 case bool=>rw [h.1];rfl
 case str=>rw [h.1];rfl
 case sl=>rcases h with ⟨_,rfl,_⟩|⟨_,_,_,rfl,_⟩<;>rfl
theorem tC.len:∀{ts vs:List (List V)} {os:List Nat},tC σ vs ts os→vs.length=ts.length
 | [],vs,os,h=>by simp only [tC]at h;simp [h.1]
 |
  t::ts,vs,os,h=>by
  simp only [tC]at h;obtain⟨v,vs',o1,o2,rfl,_,_,h2⟩:=h;simp [tC.len h2]
mutual
theorem lC.shift{n:Nat}(hn:∀o,iZ σ' (n+o)=(iZ σ o).map (oQ (lG n))):∀{t v:V} {os:List Nat},lC σ v t os→lC σ' (kH (lG n) v) t (os.map (n + ·))
 |
  .sl sz rows,v,os,h=>by
  simp only [lC]at h ⊢;rcases h with ⟨h1,rfl,rfl⟩|⟨o,rows',os',rfl,h2,rfl,h3⟩
  ·exact .inl ⟨h1,rfl,rfl⟩
  exact .inr ⟨n+o,_,os'.map (n + ·),rfl,by rw [hn,h2];rfl,rfl,tC.shift hn h3⟩
 |.agg cs,v,os,h=>by simp only [lC]at h ⊢;obtain⟨cs',rfl,h⟩:=h;exact⟨_,rfl,mJ.shift hn h⟩
 |.nJ cs,v,os,h=>by simp only [lC]at h ⊢;obtain⟨cs',rfl,h⟩:=h;exact⟨_,rfl,mJ.shift hn h⟩
 |.any,v,os,h=>by simp [lC]at h
 |.one,v,os,h=>by simp [lC]at h
 |.int ..,v,os,h=>by simp only [lC]at h ⊢;obtain⟨rfl,rfl⟩:=h;exact⟨rfl,rfl⟩
 |.bool _,v,os,h=>by simp only [lC]at h ⊢;obtain⟨rfl,rfl⟩:=h;exact⟨rfl,rfl⟩
 |.str _,v,os,h=>by simp only [lC]at h ⊢;obtain⟨rfl,rfl⟩:=h;exact⟨rfl,rfl⟩
 |.jF,v,os,h=>by simp [lC]at h
 |.kQ ..,v,os,h=>by simp [lC]at h
 |.ptr ..,v,os,h=>by simp [lC]at h
 |.ou ..,v,os,h=>by simp [lC]at h
theorem mJ.shift{n:Nat}(hn:∀o,iZ σ' (n+o)=(iZ σ o).map (oQ (lG n))):∀{ts vs:List V} {os:List Nat},mJ σ vs ts os→mJ σ' (kH.F7 (lG n) vs) ts (os.map (n + ·))
 | [],vs,os,h=>by simp only [mJ]at h ⊢;obtain⟨rfl,rfl⟩:=h;exact⟨rfl,rfl⟩
 |
  t::ts,vs,os,h=>by
  simp only [mJ]at h ⊢;obtain⟨v,vs',o1,o2,rfl,rfl,h1,h2⟩:=h;exact⟨_,_,_,_,rfl,by rw [cZ],lC.shift hn h1,mJ.shift hn h2⟩
theorem tC.shift{n:Nat}(hn:∀o,iZ σ' (n+o)=(iZ σ o).map (oQ (lG n))):∀{ts vs:List (List V)} {os:List Nat},tC σ vs ts os→tC σ' (vs.map fun r=>r.map (kH (lG n))) ts (os.map (n + ·))
 | [],vs,os,h=>by simp only [tC]at h ⊢;obtain⟨rfl,rfl⟩:=h;exact⟨rfl,rfl⟩
 |
  t::ts,vs,os,h=>by
  simp only [tC]at h ⊢;obtain⟨v,vs',o1,o2,rfl,rfl,h1,h2⟩:=h;have hm:∀l:List V,kH.F7 (lG n) l=l.map (kH (lG n)):=by
   intro l
   induction l with
   |nil=>rfl
   |cons x l ih=>simp only [kH.F7,bU,ih]
  exact⟨_,_,_,_,rfl,by rw [cZ],by rw [show (fun r=>List.map (kH (lG n)) r) v=kH.F7 (lG n) v from(hm v).symm];exact mJ.shift hn h1,tC.shift hn h2⟩
end
def mP:Nat→V→Prop
 |0,_=>False
 |n+1,.sl _ rows=>∀r∈rows,∀c∈r,mP n c
 |n+1,.agg cs=>∀c∈cs,mP n c
 |n+1,.nJ cs=>∀c∈cs,mP n c
 |_+1,_=>True
theorem Ii:∀(n:Nat) {t v:V} {os:List Nat},lC σ v t os→mP n t→resolve σ n v=some t
 |0,t,v,os,_,hd=>by simp [mP]at hd
 |
  n+1,t,v,os,h,hd=>by
  have hl:∀(ts vs:List V) (os:List Nat),mJ σ vs ts os→(∀c∈ts,mP n c)→vs.mapM (resolve σ n)=some ts:=by
   intro ts
   induction ts with
   |nil=>intro vs os h _;simp only [mJ]at h;rw [h.1];rfl
   |
    cons t ts ih =>
    intro vs os h hd;simp only [mJ]at h;obtain⟨v,vs',o1,o2,rfl,rfl,h1,h2⟩:=h;rw [bF,Ii n h1 (hd t (by simp)),ih vs' o2 h2 fun c hc=>hd c (by simp [hc])];rfl
  have hr:∀(ts vs:List (List V)) (os:List Nat),tC σ vs ts os→(∀r∈ts,∀c∈r,mP n c)→(vs.mapM fun (r:List V)=>r.mapM (resolve σ n))=some ts:=by
   intro ts
   induction ts with
   |nil=>intro vs os h _;simp only [tC]at h;rw [h.1];rfl
   |
    cons t ts ih =>
    intro vs os h hd;simp only [tC]at h;obtain⟨v,vs',o1,o2,rfl,rfl,h1,h2⟩:=h;rw [bF,hl t v o1 h1 (hd t (by simp)),ih vs' o2 h2 fun c hc=>hd c (by simp [hc])];rfl
  cases t with
  |
   sl sz rows =>
   simp only [lC]at h;simp only [mP]at hd;rcases h with ⟨rfl,rfl,_⟩|⟨o,rows',os',rfl,h2,_,h3⟩
   ·rfl
   rw [resolve];simp only [h2];have:=h3.len;rw [if_pos (by omega),bY,bg (by omega),hr rows rows' os' h3 hd];rfl
  |
   agg cs =>
   simp only [lC]at h;obtain⟨cs',rfl,h⟩:=h;rw [resolve];rw [hl cs cs' os h hd];rfl
  |
   nJ cs =>
   simp only [lC]at h;obtain⟨cs',rfl,h⟩:=h;rw [resolve];rw [hl cs cs' os h hd];rfl
  |any=>simp [lC]at h
  |one=>simp [lC]at h
  |int k i=>simp only [lC]at h;rw [h.1];rfl
  |bool b=>simp only [lC]at h;rw [h.1];rfl
  |str s=>simp only [lC]at h;rw [h.1];rfl
  |jF=>simp [lC]at h
  |kQ=>simp [lC]at h
  |ptr=>simp [lC]at h
  |ou=>simp [lC]at h
mutual
theorem lC.mM:∀{t v:V} {os:List Nat},lC σ v t os→mM v=true
 |
  .sl sz rows,v,os,h=>by
  simp only [lC]at h;rcases h with ⟨rfl,rfl,_⟩|⟨o,rows',os',rfl,_⟩<;>rfl
 |.agg cs,v,os,h=>by simp only [lC]at h;obtain⟨cs',rfl,h⟩:=h;simp only [Ml.mM];exact mJ.mM h
 |.nJ cs,v,os,h=>by simp only [lC]at h;obtain⟨cs',rfl,h⟩:=h;simp only [Ml.mM];exact mJ.mM h
 |.any,v,os,h=>by simp [lC]at h
 |.one,v,os,h=>by simp [lC]at h
 |.int ..,v,os,h=>by simp only [lC]at h;rw [h.1];rfl
 |.bool _,v,os,h=>by simp only [lC]at h;rw [h.1];rfl
 |.str _,v,os,h=>by simp only [lC]at h;rw [h.1];rfl
 |.jF,v,os,h=>by simp [lC]at h
 |.kQ ..,v,os,h=>by simp [lC]at h
 |.ptr ..,v,os,h=>by simp [lC]at h
 |.ou ..,v,os,h=>by simp [lC]at h
theorem mJ.mM:∀{ts vs:List V} {os:List Nat},mJ σ vs ts os→mM.uS vs=true
 | [],vs,os,h=>by simp only [mJ]at h;rw [h.1];rfl
 |
  t::ts,vs,os,h=>by
  simp only [mJ]at h;obtain⟨v,vs',o1,o2,rfl,rfl,h1,h2⟩:=h;simp only [mM.uS,lC.mM h1,mJ.mM h2,Bool.and_self]
end
end
end Go.Ml
end
section
namespace Go.Ml
mutual
theorem aaq{w:World}{D:DM}{X X':Nat→Prop}:∀(x:V) (v:Value),mM x=true→rd w D X x v→rd w D X' x v
 |
  .sl sz rows,v,h,hr=>by
  simp only [mM,List.isEmpty_iff]at h;subst h;simp only [rd]at hr ⊢;obtain⟨a,cap,h1,h2,_⟩:=hr;exact⟨a,cap,h1,h2,.inl (by trivial)⟩
 |
  .agg cs,v,h,hr=>by
  simp only [mM]at h;simp only [rd]at hr ⊢;obtain⟨a,rfl,hr⟩:=hr;exact⟨a,rfl,QO cs _ h hr⟩
 |
  .nJ cs,v,h,hr=>by
  simp only [mM]at h;simp only [rd]at hr ⊢;obtain⟨a,rfl,hr⟩:=hr;exact⟨a,rfl,QO cs _ h hr⟩
 |.ou ..,v,h,hr=>by simp [mM]at h
 |.any,_,_,_=>by simp [rd]
 |.one,v,h,hr=>by simpa only [rd]using hr
 |.int ..,v,h,hr=>by simpa only [rd]using hr
 |.bool _,v,h,hr=>by simpa only [rd]using hr
 |.str _,v,h,hr=>by simpa only [rd]using hr
 |.jF,v,h,hr=>by simpa only [rd]using hr
 |.kQ ..,v,h,hr=>by simpa only [rd]using hr
 |.ptr ..,v,h,hr=>by simpa only [rd]using hr
theorem QO{w:World}{D:DM}{X X':Nat→Prop}:∀(xs:List V) (vs:List Value),mM.uS xs=true→oL w D X xs vs→oL w D X' xs vs
 | [],vs,_,hr=>by simpa only [oL]using hr
 |
  x::xs,vs,h,hr=>by
  simp only [mM.uS,aG]at h;simp only [oL]at hr ⊢;obtain⟨v,vs',rfl,k1,k2⟩:=hr;exact⟨v,vs',rfl,aaq x v h.1 k1,QO xs vs' h.2 k2⟩
end
mutual
theorem QS{g:Nat→Option Nat}:∀(x:V),mM x=true→mM (kH g x)=true
 |.sl sz rows,h=>by simpa only [kH]using h
 |.agg cs,h=>by simp only [mM,kH]at h ⊢;exact Jv cs h
 |.nJ cs,h=>by simp only [mM,kH]at h ⊢;exact Jv cs h
 |.ou ..,h=>by simp [mM]at h
 |.kQ o s l,_=>by simp only [kH];split<;>rfl
 |.ptr o s l,_=>by simp only [kH];split<;>rfl
 |.any,_=>rfl
 |.one,_=>rfl
 |.int ..,_=>rfl
 |.bool _,_=>rfl
 |.str _,_=>rfl
 |.jF,_=>rfl
theorem Jv{g:Nat→Option Nat}:∀(xs:List V),mM.uS xs=true→mM.uS (kH.F7 g xs)=true
 | [],_=>rfl
 |
  x::xs,h=>by
  simp only [mM.uS,aG,kH.F7]at h ⊢;exact⟨QS x h.1,Jv xs h.2⟩
end
theorem oU{σ σ':Store}{o:Nat}:iZ (yH σ σ') o=if o<σ.length then iZ σ o else(iZ σ' (o-σ.length)).map (oQ (lG σ.length)):=by
 unfold yH iZ;by_cases h:o<σ.length
 ·rw [if_pos h,bf h]
 rw [if_neg h,bJ (by omega),bI]
 cases σ'[o-σ.length]? <;> rfl
section
variable {P : Program} {ν : Nat → Option Nat} {nt : Nat} {M : Nat → Prop} {w0 : World} {D0 : DM} {st : St} {D : DM} {a : Act} {w : World}
theorem acy{x:oM}{f:Nat}{as:List Src}{as':List V}{r:V}{σ':Store}{R:List Nat}(hg:∀g want,x.g=some (g,want)→st.env g=.bool want)(hi:x.i=.call f as)
  (ha:as.mapM (fun s=>resolve st.objs FD (s.ev st.env))=some as') (ih:NR P ν f as' [] r σ')
  (hR:R=if mM r&&Ci σ' then []else as.flatMap fun s=>reach st.objs FD (s.ev st.env)) :
  ZA P ν x st { st with env:=nG st.env x.dst (kH (lG st.objs.length) r),objs:=yH (lW st.objs R) σ' }:=by
 have hlk:(lW st.objs R).length=st.objs.length:=Gi R _;refine⟨rfl,rfl,by simp [yH,hlk],?_⟩;intro ops dr nt m k o htr M w0 D0 D a w hs _ K Q hK;obtain⟨t1,t2,t3,t4⟩:=FZ htr;rw [if_pos ((CJ hs t4).1 hg)];rw [hi]at t1;obtain⟨fid,xs,c1,c2,c3⟩:=G9 t1;have hrd:=Qz hs.store hs.env xs c2 ha (R:=as.flatMap fun s=>reach st.objs FD (s.ev st.env)) (fun o h=>h)
 let X':Nat→Prop:=fun b=>M b∨∃o d,D o=.live d∧d.blk=b∧o∉as.flatMap fun s=>reach st.objs FD (s.ev st.env)
 have hX:∀b,XS X' DM.none b→X' b:=by
  rintro b (h|⟨o,d,h,_⟩)
  ·exact h
  simp [DM.none]at h
 have hlt:∀b,X' b→b<w.heap.size:=by
  rintro b (h|⟨o,d,h,rfl,_⟩)
  ·exact hs.store.mlt b h
  obtain⟨_,_,_,_,_,_,_,_,h6,_⟩:=hs.store.live o d h;exact h6
 have hcall:=ih fid c1 w X' DM.none (xs.map a.eval).toArray (by simpa using QA hrd hX)
  ⟨fun o d h=>by simp [DM.none]at h,fun o ob h=>by simp [iZ]at h,fun o o' d d' h=>by simp [DM.none]at h,fun _ _=>rfl,hlt⟩
 refine OX (c3 a w) (R:=fun v w'=>∃Dc,rd w' Dc (XS X' Dc) r v∧rU w' Dc X' σ'∧Gr (Own DM.none) w w'∧∀o d,Dc o=.live d→w.heap.size≤d.blk) (hcall.mono ?_) ?_
 ·rintro e w' ⟨v,D',rfl,h1,h2,h3,h4,_⟩;refine⟨v,rfl,D',h1,h2,h3,fun o d ho=>?_⟩;rcases h4 o d ho with ⟨_,_,h,_⟩|h
  ·simp [DM.none]at h
  exact h
 rintro v w' ⟨Dc,h1,h2,h3,h4⟩;have hsame:∀b,b<w.heap.size→w'.heap[b]? = w.heap[b]?:=fun b hb=>h3.block b hb (by rintro⟨o,d,h,_⟩;simp [DM.none]at h)
 let n:=st.objs.length
 let D':DM:=fun o=>if o<n then D.kill R o else Dc (o-n)
 have VX:∀o,o<n→D' o=D.kill R o:=fun o h=>by simp only [D',if_pos h]
 have dNew:∀j,D' (n+j)=Dc j:=fun j=>by simp only [D'];rw [if_neg (by omega)];congr 1;omega
 have J3:∀o d,D' o=.live d→(o<n∧o∉R∧D o=.live d)∨(n≤o∧Dc (o-n)=.live d):=by
  intro o d ho;by_cases hon:o<n
  ·rw [VX o hon]at ho;obtain⟨k1,k2⟩:=CP ho;exact .inl ⟨hon,k2,k1⟩
  simp only [D',if_neg hon]at ho;exact .inr ⟨by omega,ho⟩
 have E:Ext w D (XS M D) w' D' (XS M D'):=by
  refine⟨h3.size,fun b hb _=>hsame b hb,?_,?_⟩
  ·rintro b hb (h|⟨o,d,ho,rfl⟩)
   ·exact .inl h
   rcases J3 o d ho with ⟨_,_,k⟩|⟨_,k⟩
   ·exact .inr ⟨o,d,k,rfl⟩
   have:=h4 _ d k;omega
  intro o;by_cases hon:o<n
  ·rw [VX o hon];exact X5 D R o
  rw [hs.store.far o (by omega)];trivial
 have ZB:∀{x:V} {v:Value},((mM r&&Ci σ')=true→mM x=true)→rd w' Dc (XS X' Dc) x v→rd w' D' (XS M D') (kH (lG n) x) v:=by
  intro x v hx hr;have h:=Qx (D':=D') (g:=lG n) (fun j j' hj=>by simp only [lG,aB]at hj;subst hj;rw [dNew];exact sK.refl _) x v hr;by_cases hf:(mM r&&Ci σ')=true
  ·exact aaq _ _ (QS _ (hx hf)) h
  rw [if_neg hf]at hR;refine ni _ _ ⟨aJ _,fun _ _ _=>rfl,fun b _ hb=>?_,fun _=>sK.refl _⟩ h;rcases hb with hb|⟨o,d,ho,rfl⟩
  ·exact .inl (.inl hb)
  rcases J3 o d ho with ⟨_,k2,k⟩|⟨_,k⟩
  ·exact .inl (.inr ⟨o,d,k,rfl,by rw [←hR];exact k2⟩)
  exact .inr ⟨_,d,k,rfl⟩
 have hcell:∀{j:Nat} {ob:Obj},iZ σ' j=some ob→∀x∈ob.rows.flatten,((mM r&&Ci σ')=true→mM x=true):=by
  intro j ob hj x hx hf;simp only [aG,Ci,aT]at hf;have hmem:some ob∈σ':=by
   unfold iZ at hj
   cases hc:σ'[j]? with
   |none=>rw [hc]at hj;cases hj
   |some z=>rw [hc]at hj;simp at hj;subst hj;exact aS hc
  obtain⟨rw',hr1,hr2⟩:=List.mem_flatten.1 hx;have:=hf.2 _ hmem;simp only [aT]at this;exact this rw' hr1 x hr2
 have hst:rU w' D' M (yH (lW st.objs R) σ'):=by
  refine⟨?_,?_,?_,?_,fun b hb=>aU (hs.store.mlt b hb) h3.size⟩
  ·intro o d ho;rcases J3 o d ho with ⟨k1,k2,k⟩|⟨k1,k⟩
   ·obtain⟨ob,c,e,g1,g2,g3,g4,g5,g6,g7,g8,g9,g10,g11⟩:=hs.store.live o d k;refine⟨ob,c,e,by rw [oU,hlk,if_pos k1,CO,if_neg k2];exact g1,g2,g3,g4,g5,aU g6 h3.size,by rw [hsame _ g6];exact g7,g8,g9,g10,fun i x hi=>?_⟩;obtain⟨k0,y,j1,j2⟩:=g11 i x hi;exact⟨k0,y,j1,ni _ _ E j2⟩
   obtain⟨ob,c,e,g1,g2,g3,g4,g5,g6,g7,g8,g9,g10,g11⟩:=h2.live _ d k;refine⟨oQ (lG n) ob,c,e,by rw [oU,hlk,if_neg (by omega),g1];rfl,g2,by simp [oQ,g3],g4,fun hm=>g5 (.inl hm),g6,g7,g8,g9,?_,fun i x hi=>?_⟩
   ·intro rr hrr;simp only [oQ,bG]at hrr;obtain⟨r0,hr0,rfl⟩:=hrr;simpa [oQ]using g10 r0 hr0
   rw [Je,bI,aI]at hi;obtain⟨x0,hx0,rfl⟩:=hi;obtain⟨k0,y,j1,j2⟩:=g11 i x0 hx0;exact⟨Ud k0,y,j1,ZB (hcell g1 x0 (aS hx0)) j2⟩
  ·intro o ob ho;rw [oU,hlk]at ho;split at ho
   ·rename_i hon;rw [CO]at ho;split at ho
    ·cases ho
    rename_i hR';obtain⟨d,hd⟩:=hs.store.alive o ob ho;exact⟨d,by rw [VX o hon];simp only [DM.kill,if_neg hR'];exact hd⟩
   rename_i hon;simp only [aI]at ho;obtain⟨ob0,ho,_⟩:=ho;obtain⟨d,hd⟩:=h2.alive _ ob0 ho;refine⟨d,?_⟩;show (if o<n then _ else _)=_;rw [if_neg hon];exact hd
  ·intro o o' d d' ho ho' hb;rcases J3 o d ho with ⟨a1,a2,a3⟩|⟨a1,a3⟩<;>rcases J3 o' d' ho' with ⟨b1,b2,b3⟩|⟨b1,b3⟩
   ·exact hs.store.inj o o' d d' a3 b3 hb
   ·obtain⟨_,_,_,_,_,_,_,_,g6,_⟩:=hs.store.live o d a3;have:=h4 _ d' b3;omega
   ·obtain⟨_,_,_,_,_,_,_,_,g6,_⟩:=hs.store.live o' d' b3;have:=h4 _ d a3;omega
   have:=h2.inj _ _ d d' a3 b3 hb;omega
  intro o ho;have hlo:n+σ'.length≤o:=by simpa [yH,hlk]using ho
  simp only [D'];rw [if_neg (by omega)];exact h2.far _ (by omega)
 rw [t2];refine hK D' _ w' ⟨Qw (fun t=>ni _ _ E (hs.env t)) (fun d hd=>by rw [hs.tm];exact t3 d (t2.trans hd)) (ZB (fun hf=>by simp only [aG]at hf;exact hf.1) h1),?_,?_,hst,?_,?_,fun o ho=>(hs.kp o ho).trans (E.ds o)⟩ ?_
 ·rw [←hs.tm];cases x.dst<;>simp [Act.put]
 ·rw [←hs.df];cases x.dst<;>rfl
 ·exact hs.gr.trans (h3.mono fun b _ ⟨o,d,h,_⟩=>by simp [DM.none]at h)
 ·intro o d ho;rcases J3 o d ho with ⟨_,_,k⟩|⟨_,k⟩
  ·exact hs.fr o d k
  exact .inr (bV hs.gr.size (h4 _ d k))
 intro o _ ho hu _;rw [VX o ho];simp only [DM.kill,hu];split<;>rfl
theorem Xq{X:Nat→Prop}{env:Nat→V}(he:∀t,rd w D X (env t) (a.tmps.getD t undef)) :
  ∀(xs:List Operand) {as:List Src},EI xs=some as→oL w D X (as.map fun s=>s.ev env) (xs.map a.eval)
 | [],as,h=>by simp only [EI,aB]at h;subst h;simp [oL]
 |
  x::xs,as,h=>by
  simp only [EI]at h;split at h<;>first|(cases h;done)|skip
  rename_i s r h1 h2;simp only [aB]at h;subst h;simp only [bU,oL];exact⟨_,_,rfl,ny he h1,Xq he xs h2⟩
theorem acz{x:oM}{f:Nat}{as:List Src}{r:V}{σ':Store}(hg:∀g want,x.g=some (g,want)→st.env g=.bool want)(hi:x.i=.call f as)
  (ih:NR P ν f (as.map fun s=>s.ev st.env) st.objs r σ') (hl:st.objs.length≤σ'.length) (hb:st.objs.length≤st.base) :
  ZA P ν x st { st with env:=nG st.env x.dst r,objs:=σ' }:=by
 refine⟨rfl,rfl,hl,?_⟩;intro ops dr nt m k o htr M w0 D0 D a w hs _ K Q hK;obtain⟨t1,t2,t3,t4⟩:=FZ htr;rw [if_pos ((CJ hs t4).1 hg)];rw [hi]at t1;obtain⟨fid,xs,c1,c2,c3⟩:=G9 t1;have hcall:=ih fid c1 w M D (xs.map a.eval).toArray (by simpa using Xq hs.env xs c2) hs.store;refine OX (c3 a w) (R:=fun v w'=>∃D',rd w' D' (XS M D') r v∧rU w' D' M σ'∧Gr (Own D) w w'∧(∀o d,D' o=.live d→Own D d.blk∨w.heap.size≤d.blk)∧∀j,j<st.objs.length→sK (D j) (D' j)) (hcall.mono ?_) ?_
 ·rintro e w' ⟨v,D',rfl,h1,h2,h3,h4,h5⟩;exact⟨v,rfl,D',h1,h2,h3,h4,h5⟩
 rintro v w' ⟨D',h1,h2,h3,h4,h5⟩;have E:Ext w D (XS M D) w' D' (XS M D'):=by
  refine⟨h3.size,fun b hb hx=>h3.block b hb (fun ho=>hx (.inr ho)),?_,?_⟩
  ·rintro b hb (h|⟨o,d,ho,rfl⟩)
   ·exact .inl h
   rcases h4 o d ho with h|h
   ·exact .inr h
   omega
  intro o;rcases dD o st.objs.length with h|h
  ·exact h5 o h
  rw [hs.store.far o h];trivial
 rw [t2];refine hK D' _ w' ⟨Qw (fun t=>ni _ _ E (hs.env t)) (fun d hd=>by rw [hs.tm];exact t3 d (t2.trans hd)) h1,?_,?_,h2,?_,?_,fun o ho=>(hs.kp o ho).trans (E.ds o)⟩ ?_
 ·rw [←hs.tm];cases x.dst<;>simp [Act.put]
 ·rw [←hs.df];cases x.dst<;>rfl
 ·exact hs.gr.trans (h3.mono fun b _ ho=>by obtain⟨o,d,h,hb⟩:=ho;rw [←hb];exact hs.fr o d h)
 ·intro o d ho;rcases h4 o d ho with ⟨q,d',hq,hb⟩|h
  ·rw [←hb];exact hs.fr q d' hq
  exact .inr (bV hs.gr.size h)
 intro o h1 h2 _ _;omega
theorem aiu{W:L8}{f:Nat}{args args2:List V}{σ' σ2:Store}{r r2:V}(ha:uJ args args2)(hs:ReS W σ' σ2)(hr:wZ W σ' r r2)(ih:NR P ν f args [] r σ'):NR P ν f args2 [] r2 σ2:=by
 intro fid hf w M D vals h1 h2;refine(ih fid hf w M D vals (O1 _ _ _ _ _ ha h1) h2).mono ?_;rintro e w' ⟨v,D',rfl,k1,k2,k3,k4,k5⟩;refine⟨v,D'.win W 0,rfl,Yb k2 hs.some _ _ _ hr k1,k2.re hs (fH _),k3,?_,fun o ho=>by simp at ho⟩;intro k d hk;obtain⟨o,s,l,d0,_,e2,rfl⟩:=Gj hk;exact k4 o d0 e2
theorem afX{f:Nat}{args args2:List V}{σ σ':Store}{r r2:V}(ha:uJ args args2)(hr:lU r2 r)(ih:NR P ν f args σ r σ'):NR P ν f args2 σ r2 σ':=by
 intro fid hf w M D vals h1 h2;refine(ih fid hf w M D vals (O1 _ _ _ _ _ ha h1) h2).mono ?_;rintro e w' ⟨v,D',rfl,k1,k2⟩;exact⟨v,D',rfl,QG _ _ _ _ _ hr k1,k2⟩
end
end Go.Ml
end
section
namespace Go.Ml
section
variable {σ : Store} {ρ : List Nat}
mutual
theorem lC.gc{g:Nat→Nat}:∀{t v:V} {os:List Nat},lC σ v t os→(∀o∈os,place ρ o=some (g o)∧o∈ρ)→lC (Fv ρ σ) (kH (place ρ) v) t (os.map g)
 |
  .sl sz rows,v,os,h,hg=>by
  simp only [lC]at h ⊢;rcases h with ⟨h1,rfl,rfl⟩|⟨o,rows',os',rfl,h2,rfl,h3⟩
  ·exact .inl ⟨h1,rfl,rfl⟩
  obtain⟨g1,g2⟩:=hg o (by simp);refine .inr ⟨g o,rows'.map fun r=>r.map (kH (place ρ)),os'.map g,by simp only [kH,g1],?_,rfl,tC.gc h3 fun q hq=>hg q (by simp [hq])⟩;rw [II,qo g1];simp only [h2,bQ];rfl
 |.agg cs,v,os,h,hg=>by simp only [lC]at h ⊢;obtain⟨cs',rfl,h⟩:=h;exact⟨_,rfl,mJ.gc h hg⟩
 |.nJ cs,v,os,h,hg=>by simp only [lC]at h ⊢;obtain⟨cs',rfl,h⟩:=h;exact⟨_,rfl,mJ.gc h hg⟩
 |.any,v,os,h,_=>by simp [lC]at h
 |.one,v,os,h,_=>by simp [lC]at h
 |.int ..,v,os,h,_=>by simp only [lC]at h ⊢;obtain⟨rfl,rfl⟩:=h;exact⟨rfl,rfl⟩
 |.bool _,v,os,h,_=>by simp only [lC]at h ⊢;obtain⟨rfl,rfl⟩:=h;exact⟨rfl,rfl⟩
 |.str _,v,os,h,_=>by simp only [lC]at h ⊢;obtain⟨rfl,rfl⟩:=h;exact⟨rfl,rfl⟩
 |.jF,v,os,h,_=>by simp [lC]at h
 |.kQ ..,v,os,h,_=>by simp [lC]at h
 |.ptr ..,v,os,h,_=>by simp [lC]at h
 |.ou ..,v,os,h,_=>by simp [lC]at h
theorem mJ.gc{g:Nat→Nat}:∀{ts vs:List V} {os:List Nat},mJ σ vs ts os→(∀o∈os,place ρ o=some (g o)∧o∈ρ)→mJ (Fv ρ σ) (kH.F7 (place ρ) vs) ts (os.map g)
 | [],vs,os,h,_=>by simp only [mJ]at h ⊢;obtain⟨rfl,rfl⟩:=h;exact⟨rfl,rfl⟩
 |
  t::ts,vs,os,h,hg=>by
  simp only [mJ]at h ⊢;obtain⟨v,vs',o1,o2,rfl,rfl,h1,h2⟩:=h;exact⟨_,_,_,_,rfl,by rw [cZ],lC.gc h1 fun q hq=>hg q (by simp [hq]),mJ.gc h2 fun q hq=>hg q (by simp [hq])⟩
theorem tC.gc{g:Nat→Nat}:∀{ts vs:List (List V)} {os:List Nat},tC σ vs ts os→(∀o∈os,place ρ o=some (g o)∧o∈ρ)→tC (Fv ρ σ) (vs.map fun r=>r.map (kH (place ρ))) ts (os.map g)
 | [],vs,os,h,_=>by simp only [tC]at h ⊢;obtain⟨rfl,rfl⟩:=h;exact⟨rfl,rfl⟩
 |
  t::ts,vs,os,h,hg=>by
  simp only [tC]at h ⊢;obtain⟨v,vs',o1,o2,rfl,rfl,h1,h2⟩:=h;have hm:∀l:List V,kH.F7 (place ρ) l=l.map (kH (place ρ)):=by
   intro l
   induction l with
   |nil=>rfl
   |cons x l ih=>simp only [kH.F7,bU,ih]
  exact⟨_,_,_,_,rfl,by rw [cZ],by rw [show (fun r=>List.map (kH (place ρ)) r) v=kH.F7 (place ρ) v from(hm v).symm];exact mJ.gc h1 fun q hq=>hg q (by simp [hq]),tC.gc h2 fun q hq=>hg q (by simp [hq])⟩
end
theorem Yq{cs:List V}:mM.uS cs=true↔∀c∈cs,mM c=true:=by
 induction cs with
 |nil=>simp [mM.uS]
 |cons c cs ih=>simp [mM.uS,ih]
mutual
theorem lC.objs:∀{t v:V} {os:List Nat},lC σ v t os→∀o∈os,∃ob,iZ σ o=some ob∧∀r∈ob.rows,∀c∈r,mM c=true
 |
  .sl sz rows,v,os,h=>by
  simp only [lC]at h;rcases h with ⟨_,_,rfl⟩|⟨o,rows',os',_,h2,rfl,h3⟩
  ·intro o ho;cases ho
  intro q hq;rcases aH.1 hq with rfl|hq
  ·exact⟨_,h2,tC.mM h3⟩
  exact tC.objs h3 q hq
 |.agg cs,v,os,h=>by simp only [lC]at h;obtain⟨cs',_,h⟩:=h;exact mJ.objs h
 |.nJ cs,v,os,h=>by simp only [lC]at h;obtain⟨cs',_,h⟩:=h;exact mJ.objs h
 |.any,v,os,h=>by simp [lC]at h
 |.one,v,os,h=>by simp [lC]at h
 |.int ..,v,os,h=>by simp only [lC]at h;rw [h.2];intro o ho;cases ho
 |.bool _,v,os,h=>by simp only [lC]at h;rw [h.2];intro o ho;cases ho
 |.str _,v,os,h=>by simp only [lC]at h;rw [h.2];intro o ho;cases ho
 |.jF,v,os,h=>by simp [lC]at h
 |.kQ ..,v,os,h=>by simp [lC]at h
 |.ptr ..,v,os,h=>by simp [lC]at h
 |.ou ..,v,os,h=>by simp [lC]at h
theorem mJ.objs:∀{ts vs:List V} {os:List Nat},mJ σ vs ts os→∀o∈os,∃ob,iZ σ o=some ob∧∀r∈ob.rows,∀c∈r,mM c=true
 | [],vs,os,h=>by simp only [mJ]at h;rw [h.2];intro o ho;cases ho
 |
  t::ts,vs,os,h=>by
  simp only [mJ]at h;obtain⟨v,vs',o1,o2,_,rfl,h1,h2⟩:=h;intro o ho;rcases aK.1 ho with ho|ho
  ·exact lC.objs h1 o ho
  exact mJ.objs h2 o ho
theorem tC.objs:∀{ts vs:List (List V)} {os:List Nat},tC σ vs ts os→∀o∈os,∃ob,iZ σ o=some ob∧∀r∈ob.rows,∀c∈r,mM c=true
 | [],vs,os,h=>by simp only [tC]at h;rw [h.2];intro o ho;cases ho
 |
  t::ts,vs,os,h=>by
  simp only [tC]at h;obtain⟨v,vs',o1,o2,_,rfl,h1,h2⟩:=h;intro o ho;rcases aK.1 ho with ho|ho
  ·exact mJ.objs h1 o ho
  exact tC.objs h2 o ho
theorem tC.mM:∀{ts vs:List (List V)} {os:List Nat},tC σ vs ts os→∀r∈vs,∀c∈r,Ml.mM c=true
 | [],vs,os,h=>by simp only [tC]at h;rw [h.1];intro r hr;cases hr
 |
  t::ts,vs,os,h=>by
  simp only [tC]at h;obtain⟨v,vs',o1,o2,rfl,_,h1,h2⟩:=h;intro r hr;rcases aH.1 hr with rfl|hr
  ·exact Yq.1 (mJ.mM h1)
  exact tC.mM h2 r hr
end
def PO(T:Tb)(f:Nat)(args:List V)(t:V):Prop :=
 ∃r σ' os,Run T (.fn f args []) (.fn r σ')∧lC σ' r t os∧os.Nodup∧Ci σ'=true
theorem PO.of{T:Tb}{f:Nat}{args:List V}{t r:V}{σ':Store}{os:List Nat}(h:Run T (.fn f args []) (.fn r σ'))(ho:lC σ' r t os)(hn:os.Nodup):PO T f args t:=by
 have hg:∀o∈os,place os o=some ((place os o).getD 0)∧o∈os:=by
  intro o hm;refine⟨?_,hm⟩
  cases hp:place os o with
  |none=>exact absurd hm (zS hp)
  |some j=>rfl
 refine⟨_,_,_,.gcF os hn (fun i hi=>by simp at hi) h,ho.gc hg,?_,?_⟩
 ·refine(fQ.2 ?_);refine List.Pairwise.imp_of_mem (fun {a b} ha hb hne e=>hne ?_) hn;have e1:=qo (hg a ha).1;have e2:=qo (hg b hb).1;rw [e,e2]at e1;exact(Option.some.inj e1).symm
 simp only [Ci,aT];intro x hx;obtain⟨o,hm,rfl⟩:=bG.1 hx;obtain⟨ob,h1,h2⟩:=ho.objs o hm;rw [h1];simp only [bQ,oQ,aT];intro r hr c hc;obtain⟨r0,hr0,rfl⟩:=bG.1 hr;obtain⟨c0,hc0,rfl⟩:=bG.1 hc;exact QS _ (h2 r0 hr0 c0 hc0)
theorem PO.WL{T:Tb}{f:Nat}{args:List V}{t:V}(h:PO T f args t)(hd:mP FD t):PF T f args t:=by
 obtain⟨r,σ',os,h1,h2,_,_⟩:=h;exact .WL h1 (Ii FD h2 hd)
theorem aiv{T:Tb}{f:Nat}{as:List Src}{dst:Option Nat}{env:Nat→V}{σ:Store}{kp bs:Nat}{rs ms:List Nat}{k:St→Prop}{as':List V}{t:V}(h:PO T f as' t)
  (ha:IJ env σ as (· = as'))
  (hk:∀r σ2 os,lC σ2 r t os→os.Nodup→(∀o∈os,σ.length≤o)→(∀o,o<σ.length→iZ σ2 o=iZ σ o)→σ.length≤σ2.length→k ⟨nG env dst r,σ2,kp,bs,rs,ms⟩) :
  KX T f as dst ⟨env,σ,kp,bs,rs,ms⟩ k:=by
 obtain⟨r,σ',os,h1,h2,h3,h4⟩:=h;obtain⟨vs,e,rfl⟩:=yh ha;refine⟨_,.own e h1 (R:=[]) (by rw [if_pos];simp [h2.mM,h4]),?_⟩;have key:∀o,iZ (yH (lW σ []) σ') (σ.length+o)=(iZ σ' o).map (oQ (lG σ.length)):=by
  intro o;show iZ (yH σ σ') _=_;rw [oU,if_neg (by omega)]
  congr 2;omega
 refine hk _ _ (os.map (σ.length + ·)) (h2.shift key) ?_ ?_ ?_ ?_
 ·exact fQ.2 (h3.imp fun hne e=>hne (by omega))
 ·intro o ho;obtain⟨q,_,rfl⟩:=bG.1 ho;omega
 ·intro o ho;show iZ (yH σ σ') _=_;rw [oU,if_pos ho]
 simp [yH,lW]
theorem aiw{T:Tb}{f:Nat}{as:List Src}{dst:Option Nat}{env:Nat→V}{σ σ':Store}{kp bs:Nat}{rs ms:List Nat}{k:St→Prop}{r:V}
  (h:Run T (.fn f (as.map fun s=>s.ev env) σ) (.fn r σ')) (hl:σ.length≤σ'.length) (hb:σ.length≤bs) (hk:k ⟨nG env dst r,σ',kp,bs,rs,ms⟩):KX T f as dst ⟨env,σ,kp,bs,rs,ms⟩ k :=
 ⟨_,.idn h hl hb,hk⟩
def outW:List Kz→List V→St→(V→Store→Prop)→Prop
 | [],acc,st,k=>Ce (sZ acc.reverse) fun v=>k v st.objs
 |r::rs,acc,st,k=>nK (r.get st) fun v=>Ce v fun v=>outW rs (v::acc) st k
theorem Xr{st:St}{k:V→Store→Prop}:∀(rs:List Kz) (acc:List V),outW rs acc st k→nK (rs.mapM (Kz.get st)) fun vs=>k (sZ (acc.reverse++vs)) st.objs
 | [],acc,h=>by simpa [nK,outW,Ce]using h
 |
  r::rs,acc,h=>by
  obtain⟨v,e,h⟩:=kV h;have:=Xr rs (v::acc) h;obtain⟨vs,e2,h⟩:=kV this;simp only [bF,e,e2];simpa [nK,wr]using h
def endW(rs:List Kz)(e:Ex)(k:V→Store→Prop)(st:St):Prop:=match e with
 |.normal=>outW rs [] st k
 |.ret=>outW rs [] st k
 |.exit _=>False
theorem aqB(rs:List Kz)(k:V→Store→Prop)(st:St):endW rs .normal k st=outW rs [] st k:=nr rfl
theorem aqC(rs:List Kz)(k:V→Store→Prop)(st:St):endW rs .ret k st=outW rs [] st k:=nr rfl
theorem aqD(acc:List V)(st:St)(k:V→Store→Prop):outW [] acc st k=Ce (sZ acc.reverse) fun v=>k v st.objs:=nr rfl
theorem aqE(t:Nat)(rs:List Kz)(acc:List V)(st:St)(k:V→Store→Prop):outW (.tmp t::rs) acc st k=Ce (st.env t) fun v=>outW rs (v::acc) st k:=nr rfl
theorem amN(t n:Nat)(rs:List Kz)(acc:List V)(st:St)(k:V→Store→Prop):outW (.cell t n false::rs) acc st k=nK (rowAt st.objs (st.env t)) fun p=>nK p.1[p.2]? fun v=>Ce v fun v=>outW rs (v::acc) st k:=by
 simp only [outW,Kz.get]
 cases rowAt st.objs (st.env t)<;>rfl
theorem amO(t n:Nat)(rs:List Kz)(acc:List V)(st:St)(k:V→Store→Prop):outW (.cell t n true::rs) acc st k=nK (rowAt st.objs (st.env t)) fun p=>if p.2+n≤p.1.length then Ce (.agg ((p.1.drop p.2).take n)) fun v=>outW rs (v::acc) st k else False:=by
 simp only [outW,Kz.get]
 cases e:rowAt st.objs (st.env t)with
 |none=>rfl
 |
  some p =>
  by_cases h:p.2+n≤p.1.length
  ·simp only [nK,if_true,Ce,pJ,if_pos h]
  simp only [nK,if_true,Ce,pJ,if_neg h]
theorem run_end{T:Tb}{f:Nat}{F:Fn}{args:List V}{σ:Store}{k:V→Store→Prop}(rf:Nat→Nat→Bool)(hT:T f=some F)
  (h:wp T rf F.body (fun e st=>endW F.res e k st) (St.enter args σ)) (hl:args.length=F.nargs:=by rfl) (hk:F.body.ZI=true:=by rfl):∃r σ',Run T (.fn f args σ) (.fn r σ')∧k r σ':=by
 obtain⟨e,st',h1,h2⟩:=AA hk h;have h3:(e=.normal∨e=.ret)∧outW F.res [] st' k:=by
  cases e with
  |normal=>exact⟨.inl rfl,h2⟩
  |ret=>exact⟨.inr rfl,h2⟩
  |exit id=>exact h2.elim
 obtain⟨he,h3⟩:=h3;obtain⟨rs,e1,h4⟩:=kV (Xr _ _ h3);exact⟨_,_,.fn hT hl h1 he e1,h4⟩
end
end Go.Ml
end
section
namespace Go.Ml
section
variable {σ : Store}
theorem mJ.len:∀{ts vs:List V} {os:List Nat},mJ σ vs ts os→vs.length=ts.length
 | [],vs,os,h=>by simp only [mJ]at h;simp [h.1]
 |
  t::ts,vs,os,h=>by
  simp only [mJ]at h;obtain⟨v,vs',o1,o2,rfl,_,_,h2⟩:=h;simp [mJ.len h2]
theorem mJ.focus:∀{ts vs:List V} {os:List Nat} (c:Nat) (t:V),mJ σ vs ts os→os.Nodup→ts[c]? = some t →
  ∃
   vc oc,vs[c]? = some vc∧lC σ vc t oc∧oc.Nodup∧(∀q∈oc,q∈os) ∧
   ∀σ' vc' tc',lC σ' vc' tc' oc→(∀q∈os,q∉oc→iZ σ' q=iZ σ q)→mJ σ' (vs.set c vc') (ts.set c tc') os
 | [],vs,os,c,t,_,_,hc=>by simp at hc
 |
  x::ts,vs,os,0,t,h,hn,hc=>by
  simp only [mJ]at h;obtain⟨v,vs',o1,o2,rfl,rfl,h1,h2⟩:=h;simp at hc;subst hc;rw [aZ]at hn;refine⟨v,o1,rfl,h1,hn.1,fun q hq=>by simp [hq],fun σ' vc' tc' hv hf=>?_⟩;simp only [jr,mJ];exact⟨vc',vs',o1,o2,rfl,rfl,hv,h2.frame fun q hq=>hf q (by simp [hq]) fun h=>hn.2.2 q h q hq rfl⟩
 |
  x::ts,vs,os,c+1,t,h,hn,hc=>by
  simp only [mJ]at h;obtain⟨v,vs',o1,o2,rfl,rfl,h1,h2⟩:=h;rw [aZ]at hn;obtain⟨vc,oc,k1,k2,k3,k4,k5⟩:=mJ.focus c t h2 hn.2.1 (by simpa using hc);refine⟨vc,oc,by simpa using k1,k2,k3,fun q hq=>by simp [k4 q hq],fun σ' vc' tc' hv hf=>?_⟩;simp only [List.set_cons_succ,mJ];exact⟨v,_,o1,o2,rfl,rfl,h1.frame fun q hq=>hf q (by simp [hq]) fun h=>hn.2.2 q hq q (k4 q h) rfl,k5 σ' vc' tc' hv fun q hq hnq=>hf q (by simp [hq]) hnq⟩
theorem tC.focus:∀{ts vs:List (List V)} {os:List Nat} (c:Nat) (t:List V),tC σ vs ts os→os.Nodup→ts[c]? = some t →
  ∃
   vc oc,vs[c]? = some vc∧mJ σ vc t oc∧oc.Nodup∧(∀q∈oc,q∈os) ∧
   ∀σ' vc' tc',mJ σ' vc' tc' oc→(∀q∈os,q∉oc→iZ σ' q=iZ σ q)→tC σ' (vs.set c vc') (ts.set c tc') os
 | [],vs,os,c,t,_,_,hc=>by simp at hc
 |
  x::ts,vs,os,0,t,h,hn,hc=>by
  simp only [tC]at h;obtain⟨v,vs',o1,o2,rfl,rfl,h1,h2⟩:=h;simp at hc;subst hc;rw [aZ]at hn;refine⟨v,o1,rfl,h1,hn.1,fun q hq=>by simp [hq],fun σ' vc' tc' hv hf=>?_⟩;simp only [jr,tC];exact⟨vc',vs',o1,o2,rfl,rfl,hv,h2.frame fun q hq=>hf q (by simp [hq]) fun h=>hn.2.2 q h q hq rfl⟩
 |
  x::ts,vs,os,c+1,t,h,hn,hc=>by
  simp only [tC]at h;obtain⟨v,vs',o1,o2,rfl,rfl,h1,h2⟩:=h;rw [aZ]at hn;obtain⟨vc,oc,k1,k2,k3,k4,k5⟩:=tC.focus c t h2 hn.2.1 (by simpa using hc);refine⟨vc,oc,by simpa using k1,k2,k3,fun q hq=>by simp [k4 q hq],fun σ' vc' tc' hv hf=>?_⟩;simp only [List.set_cons_succ,tC];exact⟨v,_,o1,o2,rfl,rfl,h1.frame fun q hq=>hf q (by simp [hq]) fun h=>hn.2.2 q hq q (k4 q h) rfl,k5 σ' vc' tc' hv fun q hq hnq=>hf q (by simp [hq]) hnq⟩
theorem lC.focus{v:V}{sz:Nat}{rows:List (List V)}{os:List Nat}{i c:Nat}{row:List V}{t:V}(h:lC σ v (.sl sz rows) os)(hn:os.Nodup)(hi:rows[i]? = some row)(hc:row[c]? = some t) :
  ∃
   o rows' row' vc oc,v=.kQ o 0 rows.length∧iZ σ o=some ⟨sz,rows'⟩∧rows'.length=rows.length∧rows'[i]? = some row'∧row'.length=row.length∧row'[c]? = some vc∧lC σ vc t oc∧oc.Nodup∧(∀q∈oc,q∈os)∧o∈os∧o∉oc ∧
   (∀σ' tc',lC σ' vc tc' oc→(∀q∈os,q∉oc→iZ σ' q=iZ σ q)→lC σ' v (.sl sz (rows.set i (row.set c tc'))) os) ∧
   (∀x,oc=[]→(x.leaf=true)→(∃k n,x=.int k n)∨(∃b,x=.bool b)→lC (σ.set o (some ⟨sz,rows'.set i (row'.set c x)⟩)) v (.sl sz (rows.set i (row.set c x))) os):=by
 simp only [lC]at h;rcases h with ⟨rfl,_,_⟩|⟨o,rows',os',rfl,h2,rfl,h3⟩
 ·simp at hi
 rw [gI]at hn;obtain⟨row',oi,k1,k2,k3,k4,k5⟩:=h3.focus i row hn.2 hi;obtain⟨vc,oc,j1,j2,j3,j4,j5⟩:=k2.focus c t k3 hc;have hno:o∉oc:=fun h=>hn.1 (k4 o (j4 o h));have hset:rows'.set i (row'.set c vc)=rows':=by
  have:row'.set c vc=row':=by
   apply dX
   intro n;rw [dP];split
   ·subst_vars
    split
    ·exact j1.symm
    rename_i hlt;rw [aW (by omega)]
   rfl
  rw [this]
  apply dX
  intro n;rw [dP];split
  ·subst_vars
   split
   ·exact k1.symm
   rename_i hlt;rw [aW (by omega)]
  rfl
 refine⟨o,rows',row',vc,oc,rfl,h2,h3.len,k1,k2.len,j1,j2,j3,fun q hq=>by simp [k4 q (j4 q hq)],by simp,hno,?_,?_⟩
 ·intro σ' tc' hv hf;simp only [lC];refine .inr ⟨o,rows',os',by simp,by rw [hf o (by simp) hno];exact h2,rfl,?_⟩;have h6:=j5 σ' vc tc' hv fun q hq hnq=>hf q (by simp [k4 q hq]) hnq;have h7:=k5 σ' _ _ h6 fun q hq hnq=>hf q (by simp [hq]) fun h=>hnq (j4 q h)
  rwa [hset]at h7
 intro x hoc hl hx;have hlt:=kD h2;have hf:∀q,q≠o→iZ (σ.set o (some ⟨sz,rows'.set i (row'.set c x)⟩)) q=iZ σ q:=fun q hq=>by
  rw [sG hlt,if_neg (fun e=>hq e.symm)]
 simp only [lC];refine .inr ⟨o,rows'.set i (row'.set c x),os',by simp,by rw [sG hlt,if_pos rfl],rfl,?_⟩;have hno':∀q∈os',q≠o:=fun q hq e=>hn.1 (e▸hq);have hx':lC (σ.set o (some ⟨sz,rows'.set i (row'.set c x)⟩)) x x oc:=by
  rw [hoc];rcases hx with ⟨k,n,rfl⟩|⟨b,rfl⟩<;>simp [lC]
 have h6:=j5 (σ.set o (some ⟨sz,rows'.set i (row'.set c x)⟩)) x x hx' fun q hq _=>hf q (hno' q (k4 q hq));exact k5 _ _ _ h6 fun q hq _=>hf q (hno' q hq)
def UM(σ:Store)(vs ts:List V):Prop:=∃os,mJ σ vs ts os∧os.Nodup
theorem lH:∀{ts vs ts' vs':List V} {os os':List Nat},mJ σ vs ts os→mJ σ vs' ts' os'→mJ σ (vs++vs') (ts++ts') (os++os')
 | [],vs,ts',vs',os,os',h,h'=>by simp only [mJ]at h;obtain⟨rfl,rfl⟩:=h;simpa using h'
 |
  t::ts,vs,ts',vs',os,os',h,h'=>by
  simp only [mJ]at h;obtain⟨v,vs1,o1,o2,rfl,rfl,h1,h2⟩:=h;simp only [bK,mJ];exact⟨v,vs1++vs',o1,o2++os',rfl,by simp,h1,lH h2 h'⟩
theorem UM.push{σ2:Store}{vs ts:List V}{r t:V}{os:List Nat}(h:UM σ vs ts)(h1:lC σ2 r t os)(h2:os.Nodup)(h3:∀o∈os,σ.length≤o)(h4:∀o,o<σ.length→iZ σ2 o=iZ σ o) :
  UM σ2 (vs++[r]) (ts++[t]):=by
 obtain⟨os0,k1,k2⟩:=h;refine⟨os0++os,lH (k1.frame fun o ho=>h4 o (mJ.lt k1 o ho)) ?_,?_⟩
 ·simp only [mJ];exact⟨r,[],os,[],rfl,by simp,h1,rfl,rfl⟩
 rw [aZ];refine⟨k2,h2,fun a ha b hb e=>?_⟩;have:=mJ.lt k1 a ha;have:=h3 b hb;omega
theorem UM.frame{σ2:Store}{vs ts:List V}(h:UM σ vs ts)(h4:∀o,o<σ.length→iZ σ2 o=iZ σ o):UM σ2 vs ts:=by
 obtain⟨os0,k1,k2⟩:=h;exact⟨os0,k1.frame fun o ho=>h4 o (mJ.lt k1 o ho),k2⟩
theorem UM.res{vs ts:List V}(h:UM σ vs ts){i:Nat}{v t:V}(hv:vs[i]? = some v)(ht:ts[i]? = some t)(hd:mP FD t):resolve σ FD v=some t:=by
 obtain⟨os,k1,k2⟩:=h;obtain⟨vc,oc,j1,j2,_⟩:=k1.focus i t k2 ht;rw [hv]at j1
 cases j1
 exact Ii FD j2 hd
def Mk(T:Tb)(f:Nat)(t:V)(k:Int)(t':V)(k':Int):Prop :=
 ∀σ v os,lC σ v t os→os.Nodup→∃σ',Run T (.fn f [v,.int .i64 k] σ) (.fn (.int .i64 k') σ')∧lC σ' v t' os∧(∀o,o<σ.length→o∉os→iZ σ' o=iZ σ o)∧σ.length≤σ'.length
end
end Go.Ml
end
section
namespace Go.Ml
theorem EVw:(∀(rs:List Kz) (k:V→Store→Prop) (st:St),endW rs .normal k st=outW rs [] st k)∧(∀(rs:List Kz) (k:V→Store→Prop) (st:St),endW rs .ret k st=outW rs [] st k) ∧
  (∀(acc:List V) (st:St) (k:V→Store→Prop),outW [] acc st k=Ce (sZ acc.reverse) fun v=>k v st.objs) ∧
  (∀(t:Nat) (rs:List Kz) (acc:List V) (st:St) (k:V→Store→Prop),outW (.tmp t::rs) acc st k=Ce (st.env t) fun v=>outW rs (v::acc) st k) ∧
  (∀(t n:Nat) (rs:List Kz) (acc:List V) (st:St) (k:V→Store→Prop),outW (.cell t n false::rs) acc st k=nK (rowAt st.objs (st.env t)) fun p=>nK p.1[p.2]? fun v=>Ce v fun v=>outW rs (v::acc) st k) ∧
  (∀(t n:Nat) (rs:List Kz) (acc:List V) (st:St) (k:V→Store→Prop),outW (.cell t n true::rs) acc st k=nK (rowAt st.objs (st.env t)) fun p=>if p.2+n≤p.1.length then Ce (.agg ((p.1.drop p.2).take n)) fun v=>outW rs (v::acc) st k else False) :=
 ⟨aqB,aqC,aqD,aqE,amN,amO⟩
theorem zU(σ:Store)(a:Option Obj):iZ (σ++[a]) σ.length=a:=by simp [iZ]
theorem Yr(σ:Store)(o:Nat):iZ (σ++[none]) o=iZ σ o:=by
 unfold iZ;rcases Nat.lt_trichotomy o σ.length with h|h|h
 ·rw [bf h]
 ·subst h;simp
 rw [aW (by simp;omega),aW (by omega)]
theorem jU{σ:Store}{a:Option Obj}{o:Nat}(h:o<σ.length):iZ (σ++[a]) o=iZ σ o:=by
 unfold iZ;rw [bf h]
theorem aar(σ:Store)(a b:Option Obj):(σ++[a]).set σ.length b=σ++[b]:=by
 rw [List.set_append_right _ _ (aJ _)];simp
theorem aas{σ:Store}{a b:Option Obj}{o:Nat}(h:o<σ.length):(σ++[a]).set o b=σ.set o b++[a]:=List.set_append_left _ _ h
theorem kF{σ:Store}{o:Nat}{x:Option Obj}(h:o<σ.length):iZ (σ.set o x) o=x:=by
 rw [sG h,if_pos rfl]
theorem jM{σ:Store}{o p:Nat}{x:Option Obj}(h:o≠p):iZ (σ.set p x) o=iZ σ o:=by
 unfold iZ;rw [dP,if_neg (fun e=>h e.symm)]
theorem aix(σ:Store)(k:Store→Prop):QE σ k=k σ:=nr rfl
theorem Py:(∀(σ:Store) (k:Store→Prop),QE σ k=k σ)∧(∀(σ:Store) (a:Option Obj),iZ (σ++[a]) σ.length=a)∧(∀(σ:Store) (o:Nat),iZ (σ++[none]) o=iZ σ o) ∧
  (∀{σ:Store} {a:Option Obj} {o:Nat},o<σ.length→iZ (σ++[a]) o=iZ σ o)∧(∀(σ:Store) (a b:Option Obj),(σ++[a]).set σ.length b=σ++[b]) ∧
  (∀{σ:Store} {a b:Option Obj} {o:Nat},o<σ.length→(σ++[a]).set o b=σ.set o b++[a])∧(∀{σ:Store} {o:Nat} {x:Option Obj},o<σ.length→iZ (σ.set o x) o=x) ∧
  (∀{σ:Store} {o p:Nat} {x:Option Obj},o≠p→iZ (σ.set p x) o=iZ σ o)∧(∀(σ:Store) (a:Option Obj),(σ++[a]).length=σ.length+1)∧(∀(σ:Store) (o:Nat) (x:Option Obj),(σ.set o x).length=σ.length) :=
 ⟨aix,zU,Yr,fun h=>jU h,aar,fun h=>aas h,fun h=>kF h,fun h=>jM h,fun σ a=>by simp,fun σ o x=>by simp⟩
structure Got (σ σ2:Store) (r t:V) (os:List Nat):Prop where
 ow:lC σ2 r t os
 nd:os.Nodup
 fresh:∀o∈os,σ.length≤o
 old:∀o,o<σ.length→iZ σ2 o=iZ σ o
 len:σ.length≤σ2.length
theorem og{T:Tb}{f:Nat}{as:List Src}{dst:Option Nat}{env:Nat→V}{σ:Store}{kp bs:Nat}{rs ms:List Nat}{k:St→Prop}{as':List V}{t:V}(h:PO T f as' t)
  (ha:IJ env σ as (· = as')) (hk:∀r σ2 os,Got σ σ2 r t os→k ⟨nG env dst r,σ2,kp,bs,rs,ms⟩):KX T f as dst ⟨env,σ,kp,bs,rs,ms⟩ k :=
 aiv h ha fun r σ2 os h1 h2 h3 h4 h5=>hk r σ2 os ⟨h1,h2,h3,h4,h5⟩
theorem UN{T:Tb}{f:Nat}{as:List Src}{dst:Option Nat}{env:Nat→V}{σ:Store}{kp bs:Nat}{rs ms:List Nat}{k:List Nat→List Nat→Bool→St→Prop}{as':List V}{t:V}(h:PO T f as' t)
  (ha:IJ env σ as (· = as')) (hk:∀r σ2 os,Got σ σ2 r t os→k (lX env σ as) [] true ⟨nG env dst r,σ2,kp,bs,rs,ms⟩):abU T f as dst ⟨env,σ,kp,bs,rs,ms⟩ k:=by
 obtain⟨r,σ',os,h1,h2,h3,h4⟩:=h;obtain⟨vs,e,rfl⟩:=yh ha;refine .inl ⟨_,r,σ',e,h1,by simp [h2.mM,h4],?_⟩;have key:∀o,iZ (yH σ σ') (σ.length+o)=(iZ σ' o).map (oQ (lG σ.length)):=by
  intro o;rw [oU,if_neg (by omega)]
  congr 2;omega
 refine hk _ _ (os.map (σ.length + ·)) ⟨h2.shift key,?_,?_,?_,?_⟩
 ·exact fQ.2 (h3.imp fun hne e=>hne (by omega))
 ·intro o ho;obtain⟨q,_,rfl⟩:=bG.1 ho;omega
 ·intro o ho;rw [oU,if_pos ho]
 simp [yH]
theorem UM.got{σ σ2:Store}{vs ts:List V}{r t:V}{os:List Nat}(h:UM σ vs ts)(g:Got σ σ2 r t os):UM σ2 (vs++[r]) (ts++[t]):=h.push g.ow g.nd g.fresh g.old
theorem Hl{σ:Store}{q:IntKind}{n:Int}{vs ts:List V}{os:List Nat}(h:mJ σ vs ts os):mJ σ (.int q n::vs) (.int q n::ts) os:=by
 simp only [mJ];exact⟨_,vs,[],os,rfl,rfl,by simp [lC],h⟩
theorem nI{σ:Store}{b:Bool}{vs ts:List V}{os:List Nat}(h:mJ σ vs ts os):mJ σ (.bool b::vs) (.bool b::ts) os:=by
 simp only [mJ];exact⟨_,vs,[],os,rfl,rfl,by simp [lC],h⟩
theorem nP{σ:Store}{v t:V}{vs ts:List V}{o1 o2:List Nat}(h1:lC σ v t o1)(h:mJ σ vs ts o2):mJ σ (v::vs) (t::ts) (o1++o2):=by
 simp only [mJ];exact⟨v,vs,o1,o2,rfl,rfl,h1,h⟩
theorem nC{σ:Store}:mJ σ [] [] []:=by simp [mJ]
theorem nY{σ:Store}{cs ts:List V}{os:List Nat}(h:mJ σ cs ts os):lC σ (.agg cs) (.agg ts) os:=by simp only [lC];exact⟨cs,rfl,h⟩
theorem Ea{σ:Store}{cs ts:List V}{os:List Nat}(h:mJ σ cs ts os):lC σ (.nJ cs) (.nJ ts) os:=by simp only [lC];exact⟨cs,rfl,h⟩
theorem Ll{σ:Store}{o:Nat}{l:List Int}(h:iZ σ o=some ⟨1,jR l⟩):lC σ (.kQ o 0 l.length) (ints l) [o]:=by
 simp only [lC];refine .inr ⟨o,jR l,[],by rw [CQ],h,rfl,?_⟩;have:∀(l:List Int),tC σ (jR l) (jR l) []:=by
  intro l
  induction l with
  |nil=>simp [jR,tC]
  |cons x l ih=>simp only [Uz,tC];exact⟨_,_,[],[],rfl,rfl,Hl nC,ih⟩
 exact this _
theorem kX{σ:Store}:lC σ (.sl 1 []) (ints []) []:=by simp [lC,jR]
theorem lC.y8{σ:Store}{v:V}{l:List Int}{os:List Nat}(h:lC σ v (ints l) os):(l=[]∧v=.sl 1 []∧os=[])∨∃o,v=.kQ o 0 l.length∧iZ σ o=some ⟨1,jR l⟩∧os=[o]:=by
 simp only [lC]at h;rcases h with ⟨h1,h2,h3⟩|⟨o,rows',os',h1,h2,h3,h4⟩
 ·left;exact⟨by simpa [jR]using h1,h2,h3⟩
 right;have key:∀(l:List Int) (rows':List (List V)) (os':List Nat),tC σ rows' (jR l) os'→rows'=jR l∧os'=[]:=by
  intro l
  induction l with
  |nil=>intro rows' os' h;simp only [afR,tC]at h;exact h
  |
   cons x l ih =>
   intro rows' os' h;simp only [Uz,tC]at h;obtain⟨v,vs',o1,o2,rfl,rfl,h1,h2⟩:=h;obtain⟨rfl,rfl⟩:=ih _ _ h2;simp only [mJ,lC]at h1;obtain⟨v1,vs1,a1,a2,rfl,rfl,⟨rfl,rfl⟩,rfl,rfl⟩:=h1;exact⟨rfl,rfl⟩
 obtain⟨rfl,rfl⟩:=key l rows' os' h4;exact⟨o,by rw [h1,CQ],h2,h3⟩
structure Fr (os:List Nat) (σ σ':Store):Prop where
 old:∀o,o<σ.length→o∉os→iZ σ' o=iZ σ o
 len:σ.length≤σ'.length
theorem Fr.refl(os:List Nat)(σ:Store):Fr os σ σ:=⟨fun _ _ _=>rfl,aJ _⟩
theorem Fr.trans{os:List Nat}{a b c:Store}(h:Fr os a b)(k:Fr os b c):Fr os a c:=⟨fun o hl ho=>(k.old o (aU hl h.len) ho).trans (h.old o hl ho),bV h.len k.len⟩
theorem Fr.mono{os os':List Nat}{a b:Store}(h:Fr os a b)(hs:∀o∈os,o∈os'):Fr os' a b:=⟨fun o hl ho=>h.old o hl fun k=>ho (hs o k),h.len⟩
def Fin(σ:Store)(r t:V):Prop:=∃r' os,lU r' r∧lC σ r' t os∧os.Nodup
theorem vU{σ:Store}{r t:V}{os:List Nat}(h:lC σ r t os)(hn:os.Nodup):Fin σ r t:=⟨r,os,jP _,h,hn⟩
theorem Jw{σ:Store}{sz:Nat}:Fin σ .jF (.sl sz []):=⟨.sl sz [],[],by simp [lU],by simp [lC],.nil⟩
theorem UO{σ:Store}{o:Nat}{l:List Int}(h:iZ σ o=some ⟨1,jR l⟩):Fin σ (.kQ o 0 l.length) (ints l):=vU (Ll h) (by simp)
theorem afZ{σ:Store}{l:List Int}(h:jR l=[]):Fin σ .jF (ints l):=by
 have:l=[]:=acn.1 h;subst this;exact Jw
theorem lI{T:Tb}{f:Nat}{F:Fn}{args:List V}{t:V}(rf:Nat→Nat→Bool)(hT:T f=some F)
  (h:wp T rf F.body (fun e st=>endW F.res e (fun r σ=>Fin σ r t) st) (St.enter args [])) (hl:args.length=F.nargs:=by rfl) (hk:F.body.ZI=true:=by rfl):PO T f args t:=by
 obtain⟨r,σ',h1,r',os,h2,h3,h4⟩:=run_end rf hT h hl hk;exact .of (.abG (yj _) h1 h2) h3 h4
theorem aat{v:V}(h:v.leaf=true)(k:List V→Prop):qL v k=k [v]:=by
 cases v<;>first|rfl|(simp [V.leaf]at h)
theorem Got.lf{σ σ2:Store}{r t:V}{os:List Nat}(g:Got σ σ2 r t os)(h:t.leaf=true)(k:List V→Prop):qL r k=k [r]:=aat (g.ow.leaf h) k
theorem Got.at{σ σ2:Store}{r t:V}{os:List Nat}(g:Got σ σ2 r t os)(o:Nat){x:Option Obj}(h:o<σ.length)(hx:iZ σ o=x):iZ σ2 o=x:=(g.old o h).trans hx
theorem EVl:V.leaf .one=true∧(∀k n,V.leaf (.int k n)=true)∧(∀b,V.leaf (.bool b)=true)∧(∀b,V.leaf (.str b)=true)∧V.leaf .jF=true∧(∀a b,V.leaf (.sl a b)=true)∧(∀a b c,V.leaf (.kQ a b c)=true) ∧
  (∀a b c,V.leaf (.ptr a b c)=true)∧(∀a b,V.leaf (.ou a b)=true)∧(∀a,V.leaf (.agg a)=false)∧(∀a,V.leaf (.nJ a)=false)∧V.leaf .any=false :=
 ⟨rfl,fun _ _=>rfl,fun _=>rfl,fun _=>rfl,rfl,fun _ _=>rfl,fun _ _ _=>rfl,fun _ _ _=>rfl,fun _ _=>rfl,fun _=>rfl,fun _=>rfl,rfl⟩
theorem Got.lfb{σ σ2:Store}{r t:V}{os:List Nat}(g:Got σ σ2 r t os)(h:t.leaf=true):r.leaf=true:=g.ow.leaf h
theorem lC.kP{σ:Store}{r:V}{ts:List V}{os:List Nat}(h:lC σ r (.agg ts) os):∃cs,r=.agg cs∧mJ σ cs ts os:=by simpa only [lC]using h
theorem lC.Yt{σ:Store}{r:V}{ts:List V}{os:List Nat}(h:lC σ r (.nJ ts) os):∃cs,r=.nJ cs∧mJ σ cs ts os:=by simpa only [lC]using h
theorem mJ.Yu{σ:Store}{vs ts:List V}{q:IntKind}{n:Int}{os:List Nat}(h:mJ σ vs (.int q n::ts) os):∃vs',vs=.int q n::vs'∧mJ σ vs' ts os:=by
 simp only [mJ,lC]at h;obtain⟨v,vs',o1,o2,rfl,rfl,⟨rfl,rfl⟩,h⟩:=h;exact⟨vs',rfl,h⟩
theorem mJ.uZ{σ:Store}{vs ts:List V}{b:Bool}{os:List Nat}(h:mJ σ vs (.bool b::ts) os):∃vs',vs=.bool b::vs'∧mJ σ vs' ts os:=by
 simp only [mJ,lC]at h;obtain⟨v,vs',o1,o2,rfl,rfl,⟨rfl,rfl⟩,h⟩:=h;exact⟨vs',rfl,h⟩
theorem mJ.inv{σ:Store}{vs ts:List V}{t:V}{os:List Nat}(h:mJ σ vs (t::ts) os):∃v vs' o1 o2,vs=v::vs'∧os=o1++o2∧lC σ v t o1∧mJ σ vs' ts o2:=by
 simpa only [mJ]using h
theorem mJ.Ec{σ:Store}{vs:List V}{os:List Nat}(h:mJ σ vs [] os):vs=[]∧os=[]:=by simpa only [mJ]using h
theorem mJ.leaf:∀{σ:Store} {ts vs:List V} {os:List Nat},mJ σ vs ts os→ts.all V.leaf=true→vs.all V.leaf=true
 |_,[],vs,os,h,_=>by obtain⟨rfl,_⟩:=h.Ec;rfl
 |
  σ,t::ts,vs,os,h,hl=>by
  obtain⟨v,vs',o1,o2,rfl,rfl,h1,h2⟩:=h.inv;simp only [dU,aG]at hl ⊢;exact⟨h1.leaf hl.1,h2.leaf hl.2⟩
theorem wX{cs:List V}(h:cs.all V.leaf=true)(k:List V→Prop):qL (.agg cs) k=k cs:=by
 unfold qL;simp only [V.cells?];rw [if_pos h];rfl
theorem lC.aqF{σ:Store}{v:V}{n:Bool}{l:List Int}{os:List Nat}(h:lC σ v (.agg [.bool n,ints l]) os):∃v1,v=.agg [.bool n,v1]∧lC σ v1 (ints l) os:=by
 obtain⟨cs,rfl,a⟩:=h.kP;obtain⟨cs,rfl,b⟩:=a.uZ;obtain⟨v1,cs,o1,o2,rfl,rfl,c,d⟩:=b.inv;obtain⟨rfl,rfl⟩:=d.Ec;exact⟨v1,rfl,by simpa using c⟩
theorem lC.Jy{σ:Store}{v:V}{n:Bool}{l m:List Int}{os:List Nat}(h:lC σ v (.agg [.bool n,ints l,ints m]) os) :
  ∃v1 v2 o1 o2,v=.agg [.bool n,v1,v2]∧os=o1++o2∧lC σ v1 (ints l) o1∧lC σ v2 (ints m) o2:=by
 obtain⟨cs,rfl,a⟩:=h.kP;obtain⟨cs,rfl,b⟩:=a.uZ;obtain⟨v1,cs,o1,o2,rfl,rfl,c,d⟩:=b.inv;obtain⟨v2,cs,o3,o4,rfl,rfl,e,f⟩:=d.inv;obtain⟨rfl,rfl⟩:=f.Ec;exact⟨v1,v2,o1,o3,rfl,by simp,c,e⟩
structure Ow (n:Nat) (σ:Store) (vs ts:List V):Prop where
 ex:∃os,mJ σ vs ts os∧os.Nodup∧∀o∈os,n≤o
theorem aiy{n:Nat}{σ:Store}:Ow n σ [] []:=⟨[],nC,.nil,by simp⟩
theorem Ow.set{n:Nat}{σ:Store}{vs ts:List V}(h:Ow n σ vs ts){o:Nat}{x:Option Obj}(ho:o<n):Ow n (σ.set o x) vs ts:=by
 obtain⟨os,a,b,c⟩:=h.ex;exact⟨os,a.frame fun q hq=>jM (by have:=c q hq;omega),b,c⟩
theorem Ow.snoc{n:Nat}{σ:Store}{vs ts:List V}(h:Ow n σ vs ts){x:Option Obj}:Ow n (σ++[x]) vs ts:=by
 obtain⟨os,a,b,c⟩:=h.ex;exact⟨os,a.frame fun q hq=>jU (a.lt q hq),b,c⟩
theorem Ow.got{n:Nat}{σ σ2:Store}{vs ts:List V}{r t:V}{os:List Nat}(h:Ow n σ vs ts)(g:Got σ σ2 r t os)(hn:n≤σ.length):Ow n σ2 (vs++[r]) (ts++[t]):=by
 obtain⟨os0,a,b,c⟩:=h.ex;refine⟨os0++os,lH (a.frame fun o ho=>g.old o (a.lt o ho)) ?_,?_,fun o ho=>?_⟩
 ·simpa using nP g.ow nC
 ·rw [aZ];refine⟨b,g.nd,fun x hx y hy e=>?_⟩;have:=a.lt x hx;have:=g.fresh y hy;omega
 rcases aK.1 ho with ho|ho
 ·exact c o ho
 have:=g.fresh o ho;omega
theorem Ow.int{n:Nat}{σ:Store}{vs ts:List V}(h:Ow n σ vs ts)(q:IntKind)(k:Int):Ow n σ (vs++[.int q k]) (ts++[.int q k]):=by
 obtain⟨os0,a,b,c⟩:=h.ex;exact⟨os0,by simpa using lH a (Hl (q:=q) (n:=k) nC),b,c⟩
theorem Ow.bool{n:Nat}{σ:Store}{vs ts:List V}(h:Ow n σ vs ts)(k:Bool):Ow n σ (vs++[.bool k]) (ts++[.bool k]):=by
 obtain⟨os0,a,b,c⟩:=h.ex;exact⟨os0,by simpa using lH a (nI (b:=k) nC),b,c⟩
theorem oq:∀{σ:Store} {ts ts' vs:List V} {os:List Nat},mJ σ vs (ts++ts') os→∃v1 v2 o1 o2,vs=v1++v2∧os=o1++o2∧mJ σ v1 ts o1∧mJ σ v2 ts' o2
 |σ,[],ts',vs,os,h=>⟨[],vs,[],os,rfl,rfl,nC,h⟩
 |
  σ,t::ts,ts',vs,os,h=>by
  obtain⟨v,vs',o1,o2,rfl,rfl,h1,h2⟩:=mJ.inv h;obtain⟨a,b,c,d,rfl,rfl,h3,h4⟩:=oq h2;exact⟨v::a,b,o1++c,d,rfl,by simp,nP h1 h3,h4⟩
theorem Ow.flat{n:Nat}{σ:Store}{vs ts cs tcs:List V}(h:Ow n σ (vs++[.agg cs]) (ts++[.agg tcs]))(hl:vs.length=ts.length):Ow n σ (vs++cs) (ts++tcs):=by
 obtain⟨os0,a,b,c⟩:=h.ex;obtain⟨v1,v2,o1,o2,e,rfl,h1,h2⟩:=oq a;have hl1:=h1.len;obtain⟨rfl,rfl⟩:=eu e (by omega);obtain⟨v,vs',o3,o4,e2,rfl,h3,h4⟩:=h2.inv;simp only [List.cons.injEq]at e2;obtain⟨rfl,rfl⟩:=e2;obtain⟨_,rfl⟩:=h4.Ec;obtain⟨cs',e3,h5⟩:=h3.kP
 cases e3
 exact⟨o1++o3,lH h1 h5,by simpa using b,fun o ho=>c o (by simpa using ho)⟩
theorem Ow.fin{n:Nat}{σ:Store}{vs ts:List V}(h:Ow n σ vs ts):Fin σ (.agg vs) (.agg ts):=by
 obtain⟨os0,a,b,c⟩:=h.ex;exact vU (nY a) b
theorem Gu:∀{σ:Store} {ts vs ts' vs':List (List V)} {os os':List Nat},tC σ vs ts os→tC σ vs' ts' os'→tC σ (vs++vs') (ts++ts') (os++os')
 |σ,[],vs,ts',vs',os,os',h,h'=>by simp only [tC]at h;obtain⟨rfl,rfl⟩:=h;simpa using h'
 |
  σ,t::ts,vs,ts',vs',os,os',h,h'=>by
  simp only [tC]at h;obtain⟨v,vs1,o1,o2,rfl,rfl,h1,h2⟩:=h;simp only [bK,tC];exact⟨v,vs1++vs',o1,o2++os',rfl,by simp,h1,Gu h2 h'⟩
theorem aeb{σ:Store}{v t:List V}{os:List Nat}(h:mJ σ v t os):tC σ [v] [t] os:=by
 simp only [tC];exact⟨v,[],os,[],rfl,by simp,h,rfl,rfl⟩
structure aau (n:Nat) (σ:Store) (vs ts:List (List V)):Prop where
 ex:∃os,tC σ vs ts os∧os.Nodup∧∀o∈os,n≤o
theorem aau.set{n:Nat}{σ:Store}{vs ts:List (List V)}(h:aau n σ vs ts){o:Nat}{x:Option Obj}(ho:o<n):aau n (σ.set o x) vs ts:=by
 obtain⟨os,a,b,c⟩:=h.ex;exact⟨os,a.frame fun q hq=>jM (by have:=c q hq;omega),b,c⟩
theorem aau.got{n:Nat}{σ σ2:Store}{vs ts:List (List V)}{cs tcs:List V}{os:List Nat}(h:aau n σ vs ts)(g:Got σ σ2 (.agg cs) (.agg tcs) os)(hn:n≤σ.length):aau n σ2 (vs++[cs]) (ts++[tcs]):=by
 obtain⟨os0,a,b,c⟩:=h.ex;obtain⟨cs',e,h5⟩:=g.ow.kP
 cases e
 refine⟨os0++os,Gu (a.frame fun o ho=>g.old o (a.lt o ho)) (aeb h5),?_,fun o ho=>?_⟩
 ·rw [aZ];refine⟨b,g.nd,fun x hx y hy e=>?_⟩;have:=a.lt x hx;have:=g.fresh y hy;omega
 rcases aK.1 ho with ho|ho
 ·exact c o ho
 have:=g.fresh o ho;omega
theorem aau.fin{n o sz:Nat}{σ:Store}{vs ts:List (List V)}(h:aau n σ vs ts)(ho:iZ σ o=some ⟨sz,vs⟩)(hn:o<n):Fin σ (.kQ o 0 ts.length) (.sl sz ts):=by
 obtain⟨os0,a,b,c⟩:=h.ex;refine vU (os:=o::os0) ?_ (gI.2 ⟨fun k=>by have:=c o k;omega,b⟩);simp only [lC];exact .inr ⟨o,vs,os0,rfl,ho,rfl,a⟩
theorem ew{P Q:Prop}(h:Q)(e:P=Q:=by conv=>lhs;simp (maxSteps:=1000000) (disch:=first|omega|assumption|(simp;done)|(simp;omega)) only [↓Z7,↓EVw,Py,EVl,Z8,splice,Nat.reduceAdd,Nat.reduceEqDiff,Nat.reduceMul,Nat.reduceLT,Nat.reduceLeDiff,Nat.reduceBEq,reduceIte,IL,Jf,KY,cO,dM,dV,dW,fC,reduceCtorEq]):P:=Eq.mpr (e) h
theorem y9{P Q A1:Prop}(x1:A1)(h:Q)(e:A1→P=Q:=by intro x1;conv=>lhs;simp (maxSteps:=1000000) (disch:=first|omega|assumption|(simp;done)|(simp;omega)) only [↓Z7,↓EVw,Py,EVl,Z8,splice,Nat.reduceAdd,Nat.reduceEqDiff,Nat.reduceMul,Nat.reduceLT,Nat.reduceLeDiff,Nat.reduceBEq,reduceIte,IL,Jf,KY,cO,dM,dV,dW,fC,reduceCtorEq,x1]):P:=Eq.mpr (e x1) h
theorem Aq{P Q A1 A2:Prop}(x1:A1)(x2:A2)(h:Q)(e:A1→A2→P=Q:=by intro x1 x2;conv=>lhs;simp (maxSteps:=1000000) (disch:=first|omega|assumption|(simp;done)|(simp;omega)) only [↓Z7,↓EVw,Py,EVl,Z8,splice,Nat.reduceAdd,Nat.reduceEqDiff,Nat.reduceMul,Nat.reduceLT,Nat.reduceLeDiff,Nat.reduceBEq,reduceIte,IL,Jf,KY,cO,dM,dV,dW,fC,reduceCtorEq,x1,x2]):P:=Eq.mpr (e x1 x2) h
theorem Fj{P Q A1 A2 A3:Prop}(x1:A1)(x2:A2)(x3:A3)(h:Q)(e:A1→A2→A3→P=Q:=by intro x1 x2 x3;conv=>lhs;simp (maxSteps:=1000000) (disch:=first|omega|assumption|(simp;done)|(simp;omega)) only [↓Z7,↓EVw,Py,EVl,Z8,splice,Nat.reduceAdd,Nat.reduceEqDiff,Nat.reduceMul,Nat.reduceLT,Nat.reduceLeDiff,Nat.reduceBEq,reduceIte,IL,Jf,KY,cO,dM,dV,dW,fC,reduceCtorEq,x1,x2,x3]):P:=Eq.mpr (e x1 x2 x3) h
theorem IX{P Q A1 A2 A3 A4:Prop}(x1:A1)(x2:A2)(x3:A3)(x4:A4)(h:Q)(e:A1→A2→A3→A4→P=Q:=by intro x1 x2 x3 x4;conv=>lhs;simp (maxSteps:=1000000) (disch:=first|omega|assumption|(simp;done)|(simp;omega)) only [↓Z7,↓EVw,Py,EVl,Z8,splice,Nat.reduceAdd,Nat.reduceEqDiff,Nat.reduceMul,Nat.reduceLT,Nat.reduceLeDiff,Nat.reduceBEq,reduceIte,IL,Jf,KY,cO,dM,dV,dW,fC,reduceCtorEq,x1,x2,x3,x4]):P:=Eq.mpr (e x1 x2 x3 x4) h
theorem NC{P Q A1 A2 A3 A4 A5:Prop}(x1:A1)(x2:A2)(x3:A3)(x4:A4)(x5:A5)(h:Q)(e:A1→A2→A3→A4→A5→P=Q:=by intro x1 x2 x3 x4 x5;conv=>lhs;simp (maxSteps:=1000000) (disch:=first|omega|assumption|(simp;done)|(simp;omega)) only [↓Z7,↓EVw,Py,EVl,Z8,splice,Nat.reduceAdd,Nat.reduceEqDiff,Nat.reduceMul,Nat.reduceLT,Nat.reduceLeDiff,Nat.reduceBEq,reduceIte,IL,Jf,KY,cO,dM,dV,dW,fC,reduceCtorEq,x1,x2,x3,x4,x5]):P:=Eq.mpr (e x1 x2 x3 x4 x5) h
theorem CV{P Q A1 A2 A3 A4 A5 A6:Prop}(x1:A1)(x2:A2)(x3:A3)(x4:A4)(x5:A5)(x6:A6)(h:Q)(e:A1→A2→A3→A4→A5→A6→P=Q:=by intro x1 x2 x3 x4 x5 x6;conv=>lhs;simp (maxSteps:=1000000) (disch:=first|omega|assumption|(simp;done)|(simp;omega)) only [↓Z7,↓EVw,Py,EVl,Z8,splice,Nat.reduceAdd,Nat.reduceEqDiff,Nat.reduceMul,Nat.reduceLT,Nat.reduceLeDiff,Nat.reduceBEq,reduceIte,IL,Jf,KY,cO,dM,dV,dW,fC,reduceCtorEq,x1,x2,x3,x4,x5,x6]):P:=Eq.mpr (e x1 x2 x3 x4 x5 x6) h
theorem ew7{P Q A1 A2 A3 A4 A5 A6 A7:Prop}(x1:A1)(x2:A2)(x3:A3)(x4:A4)(x5:A5)(x6:A6)(x7:A7)(h:Q)(e:A1→A2→A3→A4→A5→A6→A7→P=Q:=by intro x1 x2 x3 x4 x5 x6 x7;conv=>lhs;simp (maxSteps:=1000000) (disch:=first|omega|assumption|(simp;done)|(simp;omega)) only [↓Z7,↓EVw,Py,EVl,Z8,splice,Nat.reduceAdd,Nat.reduceEqDiff,Nat.reduceMul,Nat.reduceLT,Nat.reduceLeDiff,Nat.reduceBEq,reduceIte,IL,Jf,KY,cO,dM,dV,dW,fC,reduceCtorEq,x1,x2,x3,x4,x5,x6,x7]):P:=Eq.mpr (e x1 x2 x3 x4 x5 x6 x7) h
theorem ew8{P Q A1 A2 A3 A4 A5 A6 A7 A8:Prop}(x1:A1)(x2:A2)(x3:A3)(x4:A4)(x5:A5)(x6:A6)(x7:A7)(x8:A8)(h:Q)(e:A1→A2→A3→A4→A5→A6→A7→A8→P=Q:=by intro x1 x2 x3 x4 x5 x6 x7 x8;conv=>lhs;simp (maxSteps:=1000000) (disch:=first|omega|assumption|(simp;done)|(simp;omega)) only [↓Z7,↓EVw,Py,EVl,Z8,splice,Nat.reduceAdd,Nat.reduceEqDiff,Nat.reduceMul,Nat.reduceLT,Nat.reduceLeDiff,Nat.reduceBEq,reduceIte,IL,Jf,KY,cO,dM,dV,dW,fC,reduceCtorEq,x1,x2,x3,x4,x5,x6,x7,x8]):P:=Eq.mpr (e x1 x2 x3 x4 x5 x6 x7 x8) h
end Go.Ml
end
namespace Go.Ml
theorem zV{l:List V}{env:Nat→V}(h:J4 l 0 env:=by (try (refine ew ?_;try with_reducible exact True.intro))<;>(repeat' (first|refine⟨?_,?_⟩|exact Jh (by omega)|exact Lc (by simp)|exact He _))):J4 l 0 env:=h
end Go.Ml
namespace Go.Ml
theorem Ja{a b:Option Obj}(h:a=b:=by simp (disch:=first|omega|(simp only [aO,bC,ak,aC];omega)) only [Py]):a=b:=h
end Go.Ml
section
namespace Go.Ml
theorem Mk.go{T:Tb}{f:Nat}{t t':V}{k k':Int}(h:Mk T f t k t' k'){σ:Store}{v:V}{os:List Nat}(ho:lC σ v t os)(hn:os.Nodup) :
  ∃σ',Run T (.fn f [v,.int .i64 k] σ) (.fn (.int .i64 k') σ')∧lC σ' v t' os∧Fr os σ σ':=by
 obtain⟨σ',a,b,c,d⟩:=h σ v os ho hn;exact⟨σ',a,b,⟨c,d⟩⟩
structure Cs (σ:Store) (cs ts:List V) (os:List Nat):Prop where
 ow:mJ σ cs ts os
 nd:os.Nodup
theorem aqG{α:Type}{l:List α}{i:Nat}{x:α}(h:l[i]? = some x):l.set i x=l:=by
 apply dX
 intro n;rw [dP];split
 ·subst_vars
  split
  ·exact h.symm
  rename_i hlt;rw [aW (by omega)]
 rfl
section
variable {σ σ' : Store} {cs ts : List V} {os : List Nat}
theorem Cs.lt(h:Cs σ cs ts os):∀q∈os,q<σ.length:=h.ow.lt
theorem Cs.frame(h:Cs σ cs ts os)(f:∀q∈os,iZ σ' q=iZ σ q):Cs σ' cs ts os:=⟨h.ow.frame f,h.nd⟩
theorem Cs.fr{os':List Nat}(h:Cs σ cs ts os)(f:Fr os' σ σ')(hd:∀q∈os,q∉os'):Cs σ' cs ts os:=h.frame fun q hq=>f.old q (h.lt q hq) (hd q hq)
theorem Cs.snoc(h:Cs σ cs ts os){x:Option Obj}:Cs (σ++[x]) cs ts os:=h.frame fun q hq=>jU (h.lt q hq)
theorem Cs.set(h:Cs σ cs ts os){o:Nat}{x:Option Obj}(ho:o∉os):Cs (σ.set o x) cs ts os:=h.frame fun q hq=>jM fun e=>ho (e▸hq)
theorem Cs.call{T:Tb}{f:Nat}{t t' v:V}{k k':Int}(h:Cs σ cs ts os)(c:Nat)(hm:Mk T f t k t' k')(hv:cs[c]? = some v)(ht:ts[c]? = some t) :
  ∃σ',Run T (.fn f [v,.int .i64 k] σ) (.fn (.int .i64 k') σ')∧Cs σ' cs (ts.set c t') os∧Fr os σ σ':=by
 obtain⟨vc,oc,j1,j2,j3,j4,j5⟩:=h.ow.focus c t h.nd ht;rw [hv]at j1
 cases j1
 obtain⟨σ',m1,m2,m3⟩:=hm.go j2 j3;refine⟨σ',m1,⟨?_,h.nd⟩,m3.mono j4⟩;have:=j5 σ' v t' m2 fun q hq' hq=>m3.old q (h.lt q hq') hq
 rwa [aqG hv]at this
theorem Cs.part{T:Tb}{f:Nat}{t2 t2':List V}{k k':Int}(h:Cs σ cs ts os)(n m:Nat)(hm:Mk T f (.agg t2) k (.agg t2') k')(ht:(ts.drop n).take m=t2)(hn:n+m≤ts.length) :
  ∃σ',Run T (.fn f [.agg ((cs.drop n).take m),.int .i64 k] σ) (.fn (.int .i64 k') σ')∧Cs σ' cs (ts.take n++t2'++ts.drop (n+m)) os∧Fr os σ σ':=by
 have e:ts=ts.take n++(t2++ts.drop (n+m)):=by
  rw [←ht]
  conv=>lhs;rw [←fE n ts,←fE m (ts.drop n),List.drop_drop]
 have lt2:t2.length=m:=by rw [←ht];simp;omega
 have h1:=h.ow;rw [e]at h1;obtain⟨c1,c2,o1,o2,rfl,rfl,a1,a2⟩:=oq h1;have l1:=a1.len;obtain⟨c3,c4,o3,o4,rfl,rfl,a3,a4⟩:=oq a2;have l2:=a3.len;have nd:=h.nd;have l1':c1.length=n:=by rw [l1];simp;omega
 have e2:((c1++(c3++c4)).drop n).take m=c3:=by
  rw [←l1',List.drop_left,←lt2,←l2,List.take_left]
 rw [e2];simp only [aZ,aK]at nd;obtain⟨nd1,⟨nd3,nd4,d34⟩,d1⟩:=nd;obtain⟨σ',m1,m2,m3⟩:=hm.go (nY a3) nd3;obtain⟨cs',e3,m4⟩:=m2.kP
 cases e3
 have lt:=h.lt;refine⟨σ',m1,⟨?_,h.nd⟩,m3.mono (by simp +contextual)⟩;rw [bT];refine lH (a1.frame fun q hq=>m3.old q (lt q (by simp [hq])) fun hk=>d1 q hq q (.inl hk) rfl) (lH m4 (a4.frame fun q hq=>m3.old q (lt q (by simp [hq])) fun hk=>d34 q hk q hq rfl))
theorem Cs.got{σ2:Store}{r t:V}{os2:List Nat}(h:Cs σ cs ts os)(g:Got σ σ2 r t os2):Cs σ2 (cs++[r]) (ts++[t]) (os++os2):=by
 refine⟨lH (h.ow.frame fun q hq=>g.old q (h.lt q hq)) (by simpa using nP g.ow nC),?_⟩;rw [aZ];refine⟨h.nd,g.nd,fun x hx y hy e=>?_⟩;have:=h.lt x hx;have:=g.fresh y hy;omega
theorem Lm:Cs σ [] [] []:=⟨nC,.nil⟩
theorem Cs.res(h:Cs σ cs ts os)(c:Nat){v t:V}(hv:cs[c]? = some v)(ht:ts[c]? = some t)(hd:mP FD t):resolve σ FD v=some t:=by
 obtain⟨vc,oc,j1,j2,_⟩:=h.ow.focus c t h.nd ht;rw [hv]at j1
 cases j1
 exact Ii FD j2 hd
end
theorem Td{T:Tb}{f:Nat}{as:List Src}{dst:Option Nat}{env:Nat→V}{σ σ':Store}{kp bs:Nat}{rs ms:List Nat}{k:St→Prop}{as':List V}{r:V}
  (h:Run T (.fn f as' σ) (.fn r σ')) (ha:(as.map fun s=>s.ev env)=as') (hl:σ.length≤σ'.length) (hb:σ.length≤bs) (hk:k ⟨nG env dst r,σ',kp,bs,rs,ms⟩):KX T f as dst ⟨env,σ,kp,bs,rs,ms⟩ k:=by
 subst ha;exact aiw h hl hb hk
def cnL{α:Type}(c:α→Nat)(l:List α)(i:Nat):Nat:=((l.take i).map c).sum
end Go.Ml
end
section
namespace Go.Ml
theorem Pz(g:Nat→Option Nat):∀l:List V,kH.F7 g l=l.map (kH g)
 | []=>rfl
 |x::l=>by simp only [kH.F7,bU,Pz g l]
section
variable {σ σ2 : Store} {m : Nat}
theorem Gv{n:Nat}(ih:∀v t:V,resolve σ n v=some t→resolve σ2 n (kH (lG m) v)=some t):∀(l l':List V),l.mapM (resolve σ n)=some l'→(l.map (kH (lG m))).mapM (resolve σ2 n)=some l'
 | [],l',h=>by simpa using h
 |
  x::l,l',h=>by
  simp only [bF,iF,fG,dL,bU]at h ⊢;obtain⟨a,ha,b,hb,e⟩:=h;exact⟨a,ih x a ha,b,Gv ih l b hb,e⟩
theorem RU{n:Nat}(ih:∀v t:V,resolve σ n v=some t→resolve σ2 n (kH (lG m) v)=some t):∀(l:List (List V)) (l':List (List V)),(l.mapM fun (r:List V)=>r.mapM (resolve σ n))=some l' →
  ((l.map fun r=>r.map (kH (lG m))).mapM fun (r:List V)=>r.mapM (resolve σ2 n))=some l'
 | [],l',h=>by simpa using h
 |
  x::l,l',h=>by
  simp only [bF,iF,fG,dL,bU]at h ⊢;obtain⟨a,ha,b,hb,e⟩:=h;exact⟨a,Gv ih x a ha,b,RU ih l b hb,e⟩
theorem Xt(hs:∀o,iZ σ2 (m+o)=(iZ σ o).map (oQ (lG m))):∀(n:Nat) (v t:V),resolve σ n v=some t→resolve σ2 n (kH (lG m) v)=some t
 |0,_,_,h=>by simp [resolve]at h
 |
  n+1,v,t,h=>by
  have ih:=Xt hs n
  cases v with
  |
   kQ o s l =>
   simp only [kH,lG,resolve,hs]at h ⊢
   cases ho:iZ σ o with
   |none=>rw [ho]at h;cases h
   |
    some ob =>
    rw [ho]at h;simp only [bQ,oQ,aX]at h ⊢;split at h
    ·rename_i hl;rw [if_pos hl];obtain⟨rows,h1,rfl⟩:=aI.1 h;rw [aI];refine⟨rows,?_,rfl⟩;rw [←List.map_drop,←List.map_take];exact RU ih _ _ h1
    cases h
  |
   ptr o r off =>
   simp only [kH,lG,resolve,hs]at h ⊢
   cases ho:iZ σ o with
   |none=>rw [ho]at h;cases h
   |
    some ob =>
    rw [ho]at h;simp only [bQ,oQ,bI]at h ⊢
    cases hr:ob.rows[r]? with
    |none=>rw [hr]at h;cases h
    |
     some row =>
     rw [hr]at h;simp only [bQ]at h ⊢;obtain⟨row',h1,rfl⟩:=aI.1 h;rw [aI];exact⟨row',Gv ih _ _ h1,rfl⟩
  |
   agg cs =>
   simp only [kH,resolve]at h ⊢;obtain⟨cs',h1,rfl⟩:=aI.1 h;rw [aI,Pz];exact⟨cs',Gv ih _ _ h1,rfl⟩
  |
   nJ cs =>
   simp only [kH,resolve]at h ⊢;obtain⟨cs',h1,rfl⟩:=aI.1 h;rw [aI,Pz];exact⟨cs',Gv ih _ _ h1,rfl⟩
  |any=>simp [resolve]at h
  |one=>simpa only [kH,resolve]using h
  |int k n=>simpa only [kH,resolve]using h
  |bool b=>simpa only [kH,resolve]using h
  |str b=>simpa only [kH,resolve]using h
  |jF=>simpa only [kH,resolve]using h
  |sl a b=>simpa only [kH,resolve]using h
  |ou a b=>simpa only [kH,resolve]using h
end
def Tf(σ:Store):List V→List (Bool×V)→List Nat→Prop
 |vs,[],os=>vs=[]∧os=[]
 |vs,(b,t)::ts,os=>∃v vs' o1 o2,vs=v::vs'∧os=o1++o2∧(if b=true then lC σ v t o1 else resolve σ FD v=some t∧o1=[])∧Tf σ vs' ts o2
theorem Tf.shift{σ σ2:Store}{n:Nat}(hs:∀o,iZ σ2 (n+o)=(iZ σ o).map (oQ (lG n))):∀{ts:List (Bool×V)} {vs:List V} {os:List Nat},Tf σ vs ts os→Tf σ2 (vs.map (kH (lG n))) ts (os.map (n + ·))
 | [],vs,os,h=>by simp only [Tf]at h ⊢;obtain⟨rfl,rfl⟩:=h;exact⟨rfl,rfl⟩
 |
  (b,t)::ts,vs,os,h=>by
  simp only [Tf]at h ⊢;obtain⟨v,vs',o1,o2,rfl,rfl,h1,h2⟩:=h;refine⟨_,_,o1.map (n + ·),o2.map (n + ·),rfl,by rw [cZ],?_,Tf.shift hs h2⟩
  cases b with
  |true=>simp only [if_true]at h1 ⊢;exact lC.shift hs h1
  |
   false =>
   simp only [bn,if_false]at h1 ⊢;exact⟨Xt hs _ _ _ h1.1,by rw [h1.2];rfl⟩
def PX(T:Tb)(f:Nat)(args:List V)(ts:List (Bool×V)):Prop:=∃vs σ' os,Run T (.fn f args []) (.fn (.nJ vs) σ')∧Tf σ' vs ts os∧os.Nodup
structure af0 (σ σ2:Store) (vs:List V) (ts:List (Bool×V)) (os:List Nat):Prop where
 ow:Tf σ2 vs ts os
 nd:os.Nodup
 fresh:∀o∈os,σ.length≤o
 old:∀o,o<σ.length→iZ σ2 o=iZ σ o
 len:σ.length≤σ2.length
theorem QT{T:Tb}{f:Nat}{as:List Src}{dst:Option Nat}{env:Nat→V}{σ:Store}{kp bs:Nat}{rs ms:List Nat}{k:St→Prop}{as':List V}{ts:List (Bool×V)}(h:PX T f as' ts)
  (ha:IJ env σ as (· = as')) (hr:lX env σ as=[]) (hk:∀vs σ2 os,af0 σ σ2 vs ts os→k ⟨nG env dst (.nJ vs),σ2,kp,bs,rs,ms⟩):KX T f as dst ⟨env,σ,kp,bs,rs,ms⟩ k:=by
 obtain⟨vs,σ',os,h1,h2,h3⟩:=h;obtain⟨as2,e,rfl⟩:=yh ha;refine⟨_,.own e h1 (R:=[]) (by split;rfl;exact hr.symm),?_⟩;have key:∀o,iZ (yH (lW σ []) σ') (σ.length+o)=(iZ σ' o).map (oQ (lG σ.length)):=by
  intro o;show iZ (yH σ σ') _=_;rw [oU,if_neg (by omega)]
  congr 2;omega
 have:=hk (vs.map (kH (lG σ.length))) (yH (lW σ []) σ') (os.map (σ.length + ·)) ⟨h2.shift key,?_,?_,?_,?_⟩
 ·simpa only [kH,Pz]using this
 ·exact fQ.2 (h3.imp fun hne e=>hne (by omega))
 ·intro o ho;obtain⟨q,_,rfl⟩:=bG.1 ho;omega
 ·intro o ho;show iZ (yH σ σ') _=_;rw [oU,if_pos ho]
 simp [yH,lW]
theorem af0.of1{σ σ2:Store}{vs:List V}{t u:V}{os:List Nat}(g:af0 σ σ2 vs [(true,t),(false,u)] os):∃v w,vs=[v,w]∧resolve σ2 FD w=some u∧Got σ σ2 v t os:=by
 obtain⟨v,vs',o1,o2,rfl,rfl,h1,h2⟩:=(by simpa only [Tf]using g.ow:∃v vs' o1 o2,_);obtain⟨w,vs2,o3,o4,rfl,rfl,h3,h4⟩:=h2;obtain⟨rfl,rfl⟩:=h4;simp only [if_true,bn,if_false]at h1 h3;obtain⟨h3,rfl⟩:=h3;refine⟨v,w,rfl,h3,⟨by simpa using h1,g.nd,g.fresh,g.old,g.len⟩⟩
theorem af0.fo{σ σ2:Store}{vs:List V}{t u b:V}{os:List Nat}(g:af0 σ σ2 vs [(false,u),(true,t),(false,b)] os):∃w v z,vs=[w,v,z]∧resolve σ2 FD w=some u∧resolve σ2 FD z=some b∧Got σ σ2 v t os:=by
 obtain⟨w,vs',o1,o2,rfl,rfl,h1,h2⟩:=(by simpa only [Tf]using g.ow:∃v vs' o1 o2,_);obtain⟨v,vs2,o3,o4,rfl,rfl,h3,h4⟩:=h2;obtain⟨z,vs3,o5,o6,rfl,rfl,h5,h6⟩:=h4;obtain⟨rfl,rfl⟩:=h6;simp only [if_true,bn,if_false]at h1 h3 h5;obtain⟨h1,rfl⟩:=h1;obtain⟨h5,rfl⟩:=h5;refine⟨w,v,z,rfl,h1,h5,⟨by simpa using h3,g.nd,g.fresh,g.old,g.len⟩⟩
theorem Bc{σ:Store}{z:V}{b:Bool}(h:resolve σ FD z=some (.bool b)):z=.bool b:=by
 rw [show FD=11+1 from rfl]at h
 cases z with
 |bool c=>simpa [resolve]using h
 |
  kQ o s l =>
  rw [resolve]at h
  cases ho:iZ σ o with
  |none=>simp only [ho]at h;cases h
  |
   some ob =>
   simp only [ho]at h;by_cases hl:s+l≤ob.rows.length
   ·rw [if_pos hl]at h;obtain⟨_,_,e⟩:=aI.1 h
    cases e
   rw [if_neg hl]at h;cases h
 |
  ptr o r off =>
  rw [resolve]at h
  cases ho:iZ σ o with
  |none=>simp only [ho]at h;cases h
  |
   some ob =>
   simp only [ho]at h
   cases hr:ob.rows[r]? with
   |none=>simp only [hr]at h;cases h
   |
    some row =>
    simp only [hr]at h;obtain⟨_,_,e⟩:=aI.1 h
    cases e
 |
  agg cs =>
  rw [resolve]at h;obtain⟨_,_,e⟩:=aI.1 h
  cases e
 |
  nJ cs =>
  rw [resolve]at h;obtain⟨_,_,e⟩:=aI.1 h
  cases e
 |any=>rw [resolve]at h;cases h
 |one=>rw [resolve]at h<;>simp_all
 |int k n=>rw [resolve]at h<;>simp_all
 |str n=>rw [resolve]at h<;>simp_all
 |jF=>rw [resolve]at h<;>simp_all
 |sl k n=>rw [resolve]at h<;>simp_all
 |ou k n=>rw [resolve]at h<;>simp_all
def acB(σ:Store)(r:V)(ts:List (Bool×V)):Prop:=∃vs os,lU (.nJ vs) r∧Tf σ vs ts os∧os.Nodup
theorem pV{T:Tb}{f:Nat}{as:List Src}{dst:Option Nat}{env:Nat→V}{σ:Store}{kp bs:Nat}{rs ms:List Nat}{k:List Nat→List Nat→Bool→St→Prop}{as':List V}{t:V}(h:PO T f as' t)
  (ha:IJ env σ as (· = as')) (hr:lX env σ as=[]) (hk:∀r σ2 os,Got σ σ2 r t os→k [] [] true ⟨nG env dst r,σ2,kp,bs,rs,ms⟩):abU T f as dst ⟨env,σ,kp,bs,rs,ms⟩ k :=
 UN h ha fun r σ2 os g=>by rw [hr];exact hk r σ2 os g
theorem Got.QU{σ σ2:Store}{r t:V}{b:Bool}{os:List Nat}(g:Got σ σ2 r (.nJ [t,.bool b]) os):∃v,r=.nJ [v,.bool b]∧Got σ σ2 v t os:=by
 obtain⟨cs,rfl,h⟩:=g.ow.Yt;obtain⟨v,vs,o1,o2,rfl,rfl,h1,h2⟩:=h.inv;obtain⟨vs,rfl,h3⟩:=h2.uZ;obtain⟨rfl,rfl⟩:=h3.Ec;exact⟨v,rfl,by simpa using h1,g.nd,g.fresh,g.old,g.len⟩
theorem Got.azA{σ σ2:Store}{r t u:V}{b:Bool}{os:List Nat}(g:Got σ σ2 r (.nJ [t,u,.bool b]) os):∃v w,r=.nJ [v,w,.bool b]∧Got σ σ2 (.agg [v,w]) (.agg [t,u]) os:=by
 obtain⟨cs,rfl,h⟩:=g.ow.Yt;obtain⟨v,vs,o1,o2,rfl,rfl,h1,h2⟩:=h.inv;obtain⟨w,vs,o3,o4,rfl,rfl,h3,h4⟩:=h2.inv;obtain⟨vs,rfl,h5⟩:=h4.uZ;obtain⟨rfl,rfl⟩:=h5.Ec;exact⟨v,w,rfl,nY (nP h1 (by simpa using nP h3 nC)),g.nd,g.fresh,g.old,g.len⟩
theorem Fin.QU{σ:Store}{v t:V}{b:Bool}(h:Fin σ v t):Fin σ (.nJ [v,.bool b]) (.nJ [t,.bool b]):=by
 obtain⟨r',os,h1,h2,h3⟩:=h;refine⟨.nJ [r',.bool b],os,?_,Ea (by simpa using nP h2 (nI nC)),h3⟩;simp only [lU,uJ];exact⟨_,rfl,_,_,rfl,h1,_,_,rfl,rfl,rfl⟩
end Go.Ml
end
section
namespace Go.Ml
theorem Ti(n:Nat)(q:IntKind)(k:Int):mP (n+1) (.int q k):=by simp [mP]
theorem sV(n:Nat)(b:Bool):mP (n+1) (.bool b):=by simp [mP]
theorem jG(n:Nat)(l:List Int):mP (n+2) (ints l):=by
 simp only [mP];intro r hr c hc;simp only [jR,bG]at hr;obtain⟨x,_,rfl⟩:=hr;simp only [aH,bP,or_false]at hc;subst hc;simp [mP]
theorem Yv{α:Type}{f:α→List V}{n k:Nat}{l:List α}(h:∀x,∀c∈f x,mP n c):mP (n+1) (.sl k (l.map f)):=by
 simp only [mP];intro r hr c hc;obtain⟨x,_,rfl⟩:=bG.1 hr;exact h x c hc
theorem aec{n:Nat}{cs:List V}(h:∀c∈cs,mP n c):mP (n+1) (.agg cs):=by simpa only [mP]using h
theorem aqH(n:Nat)(x:R):∀c∈x.cells,mP (n+2) c:=by
 simp only [eH];exact⟨sV _ _,jG _ _,jG _ _,by simp⟩
theorem avg(n:Nat)(x:Pt):∀c∈x.cells,mP (n+2) c:=by
 simp only [eH];exact⟨sV _ _,jG _ _,jG _ _,sV _ _,jG _ _,jG _ _,by simp⟩
theorem aop(n:Nat)(x:Lk):∀c∈x.cells,mP (n+2) c:=by
 simp only [eH];exact⟨Ti _ _ _,Ti _ _ _,sV _ _,jG _ _,jG _ _,sV _ _,jG _ _,jG _ _,sV _ _,jG _ _,jG _ _,by simp⟩
theorem avh(n:Nat)(x:Pa):∀c∈x.cells,mP (n+2) c:=by
 simp only [eH];exact⟨Ti _ _ _,sV _ _,jG _ _,jG _ _,sV _ _,jG _ _,jG _ _,sV _ _,jG _ _,jG _ _,by simp⟩
theorem Yw(n:Nat)(l:List Pt):mP (n+3) (O7 l):=Yv fun x=>avg n x
theorem amR(n:Nat)(l:List Lk):mP (n+3) (oP l):=Yv fun x=>aop n x
theorem amS(n:Nat)(l:List Pa):mP (n+3) (Nj l):=Yv fun x=>avh n x
theorem ML(n:Nat)(x:R):mP (n+3) (kC x):=aec (aqH n x)
theorem aqI(n:Nat)(x:Lk):mP (n+3) (V4 x):=aec (aop n x)
theorem avi(n:Nat)(x:Cd):∀c∈x.cells,mP (n+3) c:=by
 simp only [eH];exact⟨Ti _ _ _,sV _ _,jG _ _,jG _ _,amS _ _,by simp⟩
theorem amT(n:Nat)(l:List Cd):mP (n+4) (O8 l):=Yv fun x=>avi n x
theorem aav{n:Nat}{a b:V}(h1:mP n a)(h2:mP n b):mP (n+1) (.nJ [a,b]):=by
 simp only [mP,eH];exact⟨h1,h2,by simp⟩
theorem UQ{n:Nat}{a b c:V}(h1:mP n a)(h2:mP n b)(h3:mP n c):mP (n+1) (.nJ [a,b,c]):=by
 simp only [mP,eH];exact⟨h1,h2,h3,by simp⟩
structure Grow (s:Store) (v:V) (sz:Nat) (A ts:List (List V)):Prop where
 ex:∃os,tC s A ts os∧os.Nodup∧((A=[]∧v=.jF)∨∃o,v=.kQ o 0 A.length∧iZ s o=some ⟨sz,A⟩∧o∉os)
section
variable {s s1 σ2 S : Store} {v : V} {sz : Nat} {A ts : List (List V)}
theorem aiz:Grow s .jF sz [] []:=⟨[],by simp [tC],.nil,.inl ⟨rfl,rfl⟩⟩
theorem Grow.len(h:Grow s v sz A ts):A.length=ts.length:=by obtain⟨os,a,_⟩:=h.ex;exact a.len
theorem Grow.cases(h:Grow s v sz A ts):(A=[]∧ts=[]∧v=.jF)∨∃o,v=.kQ o 0 A.length∧iZ s o=some ⟨sz,A⟩∧o<s.length:=by
 have hl:=h.len;obtain⟨os,a,b,c⟩:=h.ex;rcases c with ⟨rfl,rfl⟩|⟨o,rfl,h1,h2⟩
 ·exact .inl ⟨rfl,aY (by simpa using hl.symm),rfl⟩
 exact .inr ⟨o,rfl,h1,kD h1⟩
theorem Grow.frame(h:Grow s v sz A ts)(f:∀o,o<s.length→iZ S o=iZ s o):Grow S v sz A ts:=by
 obtain⟨os,a,b,c⟩:=h.ex;refine⟨os,a.frame fun q hq=>f q (a.lt q hq),b,?_⟩;rcases c with c|⟨o,rfl,h1,h2⟩
 ·exact .inl c
 exact .inr ⟨o,rfl,(f o (kD h1)).trans h1,h2⟩
theorem Grow.fin(h:Grow s v sz A ts):Fin s v (.sl sz ts):=by
 have hl:=h.len;obtain⟨os,a,b,c⟩:=h.ex;rcases c with ⟨rfl,rfl⟩|⟨o,rfl,h1,h2⟩
 ·have:ts=[]:=aY (by simpa using hl.symm);subst this;exact Jw
 rw [hl];refine vU (os:=o::os) ?_ (gI.2 ⟨h2,b⟩);simp only [lC];exact .inr ⟨o,A,os,rfl,h1,rfl,a⟩
theorem Grow.app{cs tcs:List V}{os2:List Nat}{id2:Nat}(h:Grow s v sz A ts)(hs:∀o,o<s.length→iZ s1 o=iZ s o)(hl:s.length≤s1.length)(g:Got s1 σ2 (.agg cs) (.agg tcs) os2)
  (h0:s.length≤id2) (hid:id2<s1.length) (h2:iZ S id2=some ⟨sz,A++[cs]⟩)
  (hf:∀q,q≠id2→(q<s.length∨s1.length≤q)→(∀n,v≠.kQ q 0 n)→iZ S q=iZ σ2 q):Grow S (.kQ id2 0 (A.length+1)) sz (A++[cs]) (ts++[tcs]):=by
 obtain⟨os,a,b,c⟩:=h.ex;have a':=a.frame (σ':=σ2) fun q hq=>by
  have:=a.lt q hq;rw [g.old q (by omega),hs q this]
 obtain⟨cs',e,hc⟩:=g.ow.kP
 cases e
 have hlt:=a.lt;have hv:∀q∈os++os2,∀n,v≠.kQ q 0 n:=by
  intro q hq n;rcases c with ⟨_,rfl⟩|⟨o,rfl,h1,h2⟩
  ·simp
  intro e;have e2:o=q:=by injection e
  rw [e2]at h1 h2;rcases aK.1 hq with hq|hq
  ·exact h2 hq
  have:=g.fresh q hq;have:=kD h1;omega
 have hne:∀q∈os++os2,q≠id2∧(q<s.length∨s1.length≤q):=by
  intro q hq;rcases aK.1 hq with hq|hq
  ·have:=hlt q hq;exact⟨by omega,by omega⟩
  have:=g.fresh q hq;exact⟨by omega,by omega⟩
 have fr:∀q∈os++os2,iZ S q=iZ σ2 q:=fun q hq=>hf q (hne q hq).1 (hne q hq).2 (hv q hq);refine⟨os++os2,Gu (a'.frame fun q hq=>fr q (gV _ hq)) (aeb (hc.frame fun q hq=>fr q (fB _ hq))),?_,.inr ⟨id2,by simp,h2,fun hm=>(hne id2 hm).1 rfl⟩⟩;rw [aZ];refine⟨b,g.nd,fun x hx y hy e=>?_⟩;have:=hlt x hx;have:=g.fresh y hy;omega
theorem kY{s t:Store}{o:Nat}(h:o<s.length):iZ (s++t) o=iZ s o:=by
 unfold iZ;rw [bf h]
theorem Grow.azB{cs tcs:List V}{os2:List Nat}{id1 id2:Nat}{x:Option Obj}(h:Grow s .jF sz [] ts)(hs:∀o,o<s.length→iZ s1 o=iZ s o)(hl:s.length≤s1.length)(g:Got s1 σ2 (.agg cs) (.agg tcs) os2)
  (h0:s.length≤id1) (h1:id1<s1.length) (h2:s.length≤id2) (h3:id2<s1.length) (hne:id1≠id2):Grow ((σ2.set id1 x).set id2 (some ⟨sz,[cs]⟩)) (.kQ id2 0 1) sz [cs] (ts++[tcs]):=by
 have hlen:=g.len;refine h.app hs hl g h2 h3 (kF (by simp;omega)) fun q hq hr _=>?_;rw [jM hq,jM (by omega)]
theorem Grow.azC{cs tcs:List V}{os2:List Nat}{id1 id2 o:Nat}{x:Option Obj}(h:Grow s (.kQ o 0 A.length) sz A ts)(hs:∀o,o<s.length→iZ s1 o=iZ s o)(hl:s.length≤s1.length)(g:Got s1 σ2 (.agg cs) (.agg tcs) os2)
  (h0:s.length≤id1) (h1:id1<s1.length) (h2:s.length≤id2) (h3:id2<s1.length) (hne:id1≠id2) :
  Grow (((σ2.set id1 x).set o none).set id2 (some ⟨sz,A++[cs]⟩)) (.kQ id2 0 (A.length+1)) sz (A++[cs]) (ts++[tcs]):=by
 have hlen:=g.len;refine h.app hs hl g h2 h3 (kF (by simp;omega)) fun q hq hr hv=>?_;rw [jM hq,jM (fun e=>hv A.length (by rw [e])),jM (by omega)]
end
theorem Got.Yx{s σ2:Store}{r t:V}{os:List Nat}(g:Got s σ2 r t os){o:Nat}{x:Option Obj}(h:o<s.length):Fin (σ2.set o x) r t :=
 vU (g.ow.frame fun q hq=>jM (by have:=g.fresh q hq;omega)) g.nd
end Go.Ml
end
section
namespace Go.Ml
structure Ep (s:Store) (cs ts:List V) (os:List Nat) (L:List (Nat×Obj)):Prop where
 c:Cs s cs ts os
 l:∀q∈L,iZ s q.1=some q.2∧q.1∉os
section
variable {s σ2 : Store} {cs ts : List V} {os os2 : List Nat} {L : List (Nat × Obj)}
theorem Ep.lt(E:Ep s cs ts os L):∀q∈L,q.1<s.length:=fun q hq=>kD (E.l q hq).1
theorem Ep.snoc(E:Ep s cs ts os L){x:Option Obj}:Ep (s++[x]) cs ts os L:=⟨E.c.snoc,fun q hq=>⟨(jU (E.lt q hq)).trans (E.l q hq).1,(E.l q hq).2⟩⟩
theorem Ep.res(E:Ep s cs ts os L)(c:Nat){v t:V}(hv:cs[c]? = some v)(ht:ts[c]? = some t)(hd:mP FD t):resolve s FD v=some t:=E.c.res c hv ht hd
theorem Ep.res1(E:Ep s cs ts os L)(c:Nat){v t:V}(hv:cs[c]? = some v)(ht:ts[c]? = some t)(hd:mP 11 t):resolve s 11 v=some t:=by
 obtain⟨vc,oc,j1,j2,_⟩:=E.c.ow.focus c t E.c.nd ht;rw [hv]at j1
 cases j1
 exact Ii 11 j2 hd
theorem Ep.leaf(E:Ep s cs ts os L)(c:Nat){v t:V}(hv:cs[c]? = some v)(ht:ts[c]? = some t)(hl:t.leaf=true:=by rfl):v.leaf=true:=by
 obtain⟨vc,oc,j1,j2,_⟩:=E.c.ow.focus c t E.c.nd ht;rw [hv]at j1
 cases j1
 exact j2.leaf hl
theorem Ep.got{s1:Store}{rs trs:List V}(E:Ep s cs ts os L)(h1:∀o,o<s.length→iZ s1 o=iZ s o)(hl:s.length≤s1.length)(ho:mJ σ2 rs trs os2)(hn:os2.Nodup)(hf:∀o∈os2,s1.length≤o)
  (old:∀o,o<s1.length→iZ σ2 o=iZ s1 o):Ep σ2 (cs++rs) (ts++trs) (os++os2) L:=by
 have hlt:=E.c.lt;refine⟨⟨lH (E.c.ow.frame fun q hq=>?_) ho,?_⟩,fun q hq=>⟨?_,?_⟩⟩
 ·have:=hlt q hq;rw [old q (by omega),h1 q this]
 ·rw [aZ];refine⟨E.c.nd,hn,fun x hx y hy e=>?_⟩;have:=hlt x hx;have:=hf y hy;omega
 ·have:=E.lt q hq;rw [old _ (by omega),h1 _ this];exact(E.l q hq).1
 intro hm;have:=E.lt q hq;rcases aK.1 hm with hm|hm
 ·exact(E.l q hq).2 hm
 have:=hf _ hm;omega
theorem Ep.free{s1:Store}(E:Ep s cs ts os L){p:Nat}(hf:∀o∈os2,s1.length≤o)(h0:s.length≤p)(h1:p<s1.length):p∉os++os2:=by
 intro hm;rcases aK.1 hm with hm|hm
 ·have:=E.c.lt p hm;omega
 have:=hf p hm;omega
theorem Ep.call{T:Tb}{f:Nat}{t t' v:V}{k k':Int}(E:Ep s cs ts os L)(c:Nat)(hm:Mk T f t k t' k')(hv:cs[c]? = some v)(ht:ts[c]? = some t) :
  ∃s',Run T (.fn f [v,.int .i64 k] s) (.fn (.int .i64 k') s')∧Ep s' cs (ts.set c t') os L∧s.length≤s'.length:=by
 obtain⟨s',h1,h2,h3⟩:=E.c.call c hm hv ht;exact⟨s',h1,⟨h2,fun q hq=>⟨(h3.old _ (E.lt q hq) (E.l q hq).2).trans (E.l q hq).1,(E.l q hq).2⟩⟩,h3.len⟩
theorem Ep.part{T:Tb}{f:Nat}{t2 t2' r2:List V}{k k':Int}(E:Ep s cs ts os L)(n m:Nat)(hm:Mk T f (.agg t2) k (.agg t2') k')(hr:(cs.drop n).take m=r2)(ht:(ts.drop n).take m=t2)(hn:n+m≤ts.length) :
  ∃s',Run T (.fn f [.agg r2,.int .i64 k] s) (.fn (.int .i64 k') s')∧Ep s' cs (ts.take n++t2'++ts.drop (n+m)) os L∧s.length≤s'.length:=by
 obtain⟨s',h1,h2,h3⟩:=E.c.part n m hm ht hn;rw [hr]at h1;exact⟨s',h1,⟨h2,fun q hq=>⟨(h3.old _ (E.lt q hq) (E.l q hq).2).trans (E.l q hq).1,(E.l q hq).2⟩⟩,h3.len⟩
theorem Ep.at0{p:Nat}{ob:Obj}(E:Ep s cs ts os L)(h:(p,ob)∈L):iZ s p=some ob∧p<s.length:=⟨(E.l _ h).1,E.lt _ h⟩
end
section
variable {σ : Store} {os : List Nat}
theorem mJ.rat{cs:List V}{x:R}(h:mJ σ cs x.cells os):∃c1 c2,cs=[.bool x.neg,c1,c2]:=by
 obtain⟨cs,rfl,h1⟩:=h.uZ
 match cs,h1.len with
 | [a,b],_=>exact⟨a,b,rfl⟩
theorem mJ.pt{cs:List V}{x:Pt}(h:mJ σ cs x.cells os):∃c1 c2 c4 c5,cs=[.bool x.x.neg,c1,c2,.bool x.y.neg,c4,c5]:=by
 obtain⟨cs,rfl,h1⟩:=h.uZ;obtain⟨a,cs,_,_,rfl,rfl,_,h2⟩:=h1.inv;obtain⟨b,cs,_,_,rfl,rfl,_,h3⟩:=h2.inv;obtain⟨cs,rfl,h4⟩:=h3.uZ
 match cs,h4.len with
 | [c,d],_=>exact⟨a,b,c,d,rfl⟩
theorem mJ.lk{cs:List V}{x:Lk}(h:mJ σ cs x.cells os):∃c3 c4 c6 c7 c9 c10,cs=[iv x.a,iv x.b,.bool x.w.neg,c3,c4,.bool x.dx.neg,c6,c7,.bool x.dy.neg,c9,c10]:=by
 obtain⟨cs,rfl,h1⟩:=h.Yu;obtain⟨cs,rfl,h2⟩:=h1.Yu;obtain⟨cs,rfl,h3⟩:=h2.uZ;obtain⟨a,cs,_,_,rfl,rfl,_,h4⟩:=h3.inv;obtain⟨b,cs,_,_,rfl,rfl,_,h5⟩:=h4.inv;obtain⟨cs,rfl,h6⟩:=h5.uZ;obtain⟨c,cs,_,_,rfl,rfl,_,h7⟩:=h6.inv;obtain⟨d,cs,_,_,rfl,rfl,_,h8⟩:=h7.inv;obtain⟨cs,rfl,h9⟩:=h8.uZ
 match cs,h9.len with
 | [e,f],_=>exact⟨a,b,c,d,e,f,rfl⟩
theorem mJ.cd{cs:List V}{x:Cd}(h:mJ σ cs x.cells os):∃c2 c3 c4,cs=[iv x.node,.bool x.total.neg,c2,c3,c4]:=by
 obtain⟨cs,rfl,h1⟩:=h.Yu;obtain⟨cs,rfl,h2⟩:=h1.uZ
 match cs,h2.len with
 | [a,b,c],_=>exact⟨a,b,c,rfl⟩
theorem mJ.tr{cs:List V}{x:List Tn}(h:mJ σ cs [azr x] os):∃c0,cs=[c0]:=by
 match cs,h.len with
 | [a],_=>exact⟨a,rfl⟩
theorem aed{v t:V}(h:lC σ v t os):mJ σ [v] [t] os:=by simpa using nP h nC
end
end Go.Ml
namespace Go.Ml
theorem jO(l:List Nat)(k:List Nat→Prop):OZ l k=k l:=nr rfl
theorem kG(p:Prop):(p∨True)=True:=by simp
theorem Ep.Ey{s:Store}{cs ts:List V}{os:List Nat}{L L':List (Nat×Obj)}{p:Nat}{ob:Obj}(E:Ep s cs ts os L)(hp:p∉os)(hl:p<s.length)(h:∀q∈L',(q.1≠p∧q∈L)∨q=(p,ob)) :
  Ep (s.set p (some ob)) cs ts os L':=by
 refine⟨E.c.set hp,fun q hq=>?_⟩;rcases h q hq with ⟨h1,h2⟩|rfl
 ·exact⟨(jM h1).trans (E.l q h2).1,(E.l q h2).2⟩
 exact⟨kF hl,hp⟩
end Go.Ml
namespace Go.Ml
def sh(n0 n x:Nat):Nat:=if x<n0 then x else x+(n-n0)
theorem avj{n0 n x y:Nat}:sh n0 n x<sh n0 n y↔x<y:=by
 unfold sh;split<;>split<;>omega
theorem aoq{n0 n x y:Nat}:sh n0 n x=sh n0 n y↔x=y:=by
 unfold sh;split<;>split<;>omega
def VN(n0 n:Nat)(a:Acc):Acc:=⟨a.i,a.R.map (sh n0 n),a.W.map (sh n0 n),a.n⟩
theorem aaw{n0 n:Nat}(l:List Nat)(p:Nat):(l.map (sh n0 n)).contains (sh n0 n p)=l.contains p:=by
 rw [jB,jC,jC,bG];constructor
 ·rintro⟨q,h1,h2⟩;rw [aoq.1 h2]at h1;exact h1
 exact fun h=>⟨p,h,rfl⟩
theorem aax{n0 n L:Nat}(a b:Acc):yI (sh n0 n L) (VN n0 n a) (VN n0 n b)=yI L a b:=by
 unfold yI VN;simp only [jg,Function.comp_def];simp only [avj]
theorem aiA{n0 n L:Nat}(d e:oM)(a b:Acc):uf (sh n0 n L) d e (VN n0 n a) (VN n0 n b)=uf L d e a b:=by
 unfold uf;rw [aax,aax];simp only [VN,jg,Function.comp_def];simp only [aaw]
 congr 6
 congr 1
 funext p
 congr 2
 funext q
 rw [bne,bne]
 congr 1
 rw [jB,beq_iff_eq,beq_iff_eq];exact aoq
theorem aiB{n0 n L:Nat}{B:Nat→List Nat}{ops:List oM}:∀l:List Acc,okA (sh n0 n L) B ops (l.map (VN n0 n))=okA L B ops l
 | []=>rfl
 |
  a::l=>by
  simp only [bU,okA,jg,Function.comp_def];rw [aiB l]
  congr 2
  funext b
  have h1:(VN n0 n a).i=a.i:=rfl;have h2:(VN n0 n b).i=b.i:=rfl;rw [aiA,h1,h2]
theorem af2{ops:List oM}{LF:Nat→Nat}{aF:Nat→List Acc}(n0 n:Nat)(hL:LF n=sh n0 n (LF n0))(ha:aF n=(aF n0).map (VN n0 n))(hk:vH (LF n0) ops (aF n0)):vH (LF n) ops (aF n):=by
 unfold vH at hk ⊢;rw [hL,ha,←List.map_reverse,aiB];exact hk
end Go.Ml
namespace Go.Ml
theorem xW{ops:List oM}(LF:Nat→Nat)(aF:Nat→List Acc)(n0:Nat)(hL:∀n,n0≤n→LF n=sh n0 n (LF n0))(ha:∀n,n0≤n→aF n=(aF n0).map (VN n0 n))(hk:vH (LF n0) ops (aF n0)) :
  ∀n,n0≤n→vH (LF n) ops (aF n):=fun n h=>af2 n0 n (hL n h) (ha n h) hk
end Go.Ml
end
section
namespace Go.Ml
def avk(σ:Store)(r:V)(ts:List (Bool×V)):Prop:=∃W σ2 vs os,ReS W σ σ2∧wZ W σ r (.nJ vs)∧Tf σ2 vs ts os∧os.Nodup
theorem PD{T:Tb}{f:Nat}{F:Fn}{args:List V}{ts:List (Bool×V)}(rf:Nat→Nat→Bool)(hT:T f=some F)
  (h:wp T rf F.body (fun e st=>endW F.res e (fun r σ=>acB σ r ts∨avk σ r ts) st) (St.enter args [])) (hl:args.length=F.nargs:=by rfl) (hk:F.body.ZI=true:=by rfl):PX T f args ts:=by
 obtain⟨r,σ',h1,h2⟩:=run_end rf hT h hl hk;rcases h2 with ⟨vs,os,h2,h3,h4⟩|⟨W,σ2,vs,os,h2,h3,h4,h5⟩
 ·exact⟨vs,σ',os,.abG (yj _) h1 h2,h3,h4⟩
 exact⟨vs,σ2,os,.reF W (yj _) h1 h2 h3,h4,h5⟩
theorem amU{σ:Store}{v w t u:V}{os:List Nat}(h:lC σ v t os)(hn:os.Nodup)(hr:resolve σ FD w=some u):acB σ (.nJ [v,w]) [(true,t),(false,u)]:=by
 refine⟨[v,w],os,jP _,?_,hn⟩;simp only [Tf,if_true,bn,if_false];exact⟨v,[w],os,[],rfl,by simp,h,w,[],[],[],rfl,rfl,⟨hr,rfl⟩,rfl,rfl⟩
theorem Xu(l:List Int):trim l=l.take (trim l).length∧(trim l).length≤l.length:=by
 have h:=ZX l l.length;have e2:(trim l).length=vK l l.length:=by unfold trim;rw [fK];omega
 exact⟨by rw [e2];rfl,by omega⟩
theorem amV{Q:List Int}{n:Nat}(h:n≤Q.length):ReS [some (0,0,n)] [some ⟨1,jR Q⟩] [some ⟨1,jR (Q.take n)⟩]:=by
 refine⟨rfl,fun i j o s l s' l' h1 h2=>?_,fun k o s l hk=>?_,fun k hk=>?_⟩
 ·cases i with
  |
   zero=>cases j with
   |zero=>rfl
   |succ j=>simp at h2
  |succ i=>simp at h1
 ·cases k with
  |succ k=>simp at hk
  |
   zero =>
   simp only [jh,aB,Prod.mk.injEq]at hk;obtain⟨rfl,rfl,rfl⟩:=hk;refine⟨⟨1,jR Q⟩,⟨1,jR (Q.take n)⟩,rfl,by rw [CQ];omega,rfl,rfl,by rw [CQ,fK];omega,fun i r r2 h1 h2=>?_⟩;have hi:i<n:=by
    have:=(aN.1 h2).1;rw [CQ,fK]at this;omega
   have e:r2=r:=by
    rw [aQ]at h1;simp only [jR,bI]at h1 h2;rw [iR hi,h1]at h2;exact(Option.some.inj h2).symm
   subst e;refine Ji fun v hv=>oz Q r2 ?_ v hv;exact aS h1
 cases k<;>simp at hk
theorem aiC{Q:List Int}{n:Nat}{t u:V}(h:n≤Q.length)(ht:t=ints (Q.take n))(hu:u.still=true):avk [some ⟨1,jR Q⟩] (.nJ [.kQ 0 0 n,u]) [(true,t),(false,u)]:=by
 subst ht;refine⟨[some (0,0,n)],[some ⟨1,jR (Q.take n)⟩],[.kQ 0 0 n,u],[0],amV h,?_,?_,by simp⟩
 ·simp only [wZ,Eu];exact⟨_,rfl,_,_,rfl,.inl ⟨0,0,n,rfl,aJ _,by omega,rfl⟩,_,_,rfl,Gl hu,rfl⟩
 simp only [Tf,if_true,bn,if_false];refine⟨_,[u],[0],[],rfl,rfl,?_,u,[],[],[],rfl,rfl,⟨MC (n:=11) hu,rfl⟩,rfl,rfl⟩;have:=Ll (σ:=[some ⟨1,jR (Q.take n)⟩]) (o:=0) (l:=Q.take n) rfl
 rwa [fK,Nat.min_eq_left h]at this
theorem QV(g:Nat→Option Nat)(l:List Int):oQ g ⟨1,jR l⟩=⟨1,jR l⟩:=by
 unfold oQ
 congr 1
 simp only [jR,gu];rfl
theorem QW{T:Tb}{f:Nat}{as:List Src}{dst:Option Nat}{env:Nat→V}{σ:Store}{kp bs:Nat}{rs ms:List Nat}{k:St→Prop}{ρ:List Nat}{as':List V}{r:V}{σ':Store}(hn:ρ.Nodup)
  (hρ:∀o,o∈ρ→∃l,iZ σ o=some ⟨1,jR l⟩) (ha:(as.map fun s=>kH (place ρ) (s.ev env))=as') (hr:Run T (.fn f as' (Fv ρ σ)) (.fn r σ'))
  (hold:∀q,q<ρ.length→iZ σ' q=iZ (Fv ρ σ) q) (hk:∀σ2:Store,(∀q,q<σ.length→iZ σ2 q=iZ σ q)→σ.length≤σ2.length→k ⟨nG env dst (kH (back ρ σ.length) r),σ2,kp,bs,rs,ms⟩) :
  KX T f as dst ⟨env,σ,kp,bs,rs,ms⟩ k:=by
 subst ha;refine⟨_,.ref ρ hn (fun o ho=>by obtain⟨l,h⟩:=hρ o ho;rw [h];rfl) hr,?_⟩;refine hk _ (fun q hq=>?_) (by simp [qC]);have e1:iZ (qC ρ σ σ') q=((σ.mapIdx fun o ob=>match place ρ o with
   |some j=>(iZ σ' j).map (oQ (back ρ σ.length))
   |none=>ob)[q]?).getD none:=by
  show ((qC ρ σ σ')[q]?).getD none=_;unfold qC;rw [bf (by simpa using hq)];rfl
 show iZ (qC ρ σ σ') q=_;rw [e1,jc,au hq];simp only [bQ,iV]
 cases hp:place ρ q with
 |none=>simp [iZ,au hq]
 |
  some j =>
  have hj:=qo hp;have hlt:=(aN.1 hj).1;simp only [];rw [hold j hlt,II,hj];obtain⟨l,hl⟩:=hρ q (aS hj);simp only [hl,bQ,QV]
end Go.Ml
namespace Go.Ml
theorem Yy{L:Nat}{d e:oM}{i:Nat}{R:List Nat}{b:Acc}(hw:∀w∈b.W,w∉R)(h:uf L d e ⟨i,[],[],true⟩ b=true):uf L d e ⟨i,R,[],true⟩ b=true:=by
 simp only [uf,aG]at h ⊢;obtain⟨⟨⟨⟨h1,h2⟩,h3⟩,h4⟩,h5⟩:=h;refine⟨⟨⟨⟨h1,h2⟩,?_⟩,h4⟩,?_⟩
 ·rw [aT];intro w hw';simpa using hw w hw'
 unfold yI at h5 ⊢;simpa using h5
theorem Yz{L:Nat}{d e:oM}{i:Nat}{R:List Nat}{b:Acc}(hw:∀w∈b.W,w∉R)(h:uf L d e b ⟨i,[],[],true⟩=true):uf L d e b ⟨i,R,[],true⟩=true:=by
 simp only [uf,aG]at h ⊢;obtain⟨⟨⟨⟨h1,h2⟩,h3⟩,h4⟩,h5⟩:=h;refine⟨⟨⟨⟨h1,?_⟩,h3⟩,?_⟩,h5⟩
 ·rw [aT];intro w hw';simpa using hw w hw'
 unfold yI at h4 ⊢;simpa using h4
theorem aay{L:Nat}{B:Nat→List Nat}{ops:List oM}{i:Nat}{R:List Nat}:∀(pre post:List Acc),(∀b∈pre++post,∀w∈b.W,w∉R)→okA L B ops (pre++⟨i,[],[],true⟩::post)=true→okA L B ops (pre++⟨i,R,[],true⟩::post)=true
 |
  [],post,hw,h=>by
  simp only [dI,okA,aG,aT,dB]at h ⊢;refine⟨fun b hb=>?_,h.2⟩;rcases h.1 b hb with k|k
  ·exact .inl k
  exact .inr (Yy (hw b (by simpa using hb)) k)
 |
  a::pre,post,hw,h=>by
  simp only [bK,okA,aG,aT,dB]at h ⊢;refine⟨fun b hb=>?_,aay pre post (fun b hb=>hw b (by simp only [bK,aH];exact .inr hb)) h.2⟩;rcases aK.1 hb with hb|hb
  ·exact h.1 b (gV _ hb)
  rcases aH.1 hb with rfl|hb
  ·rcases h.1 ⟨i,[],[],true⟩ (by simp)with k|k
   ·exact .inl k
   exact .inr (Yz (hw a (by simp)) k)
  exact h.1 b (fB _ (dK _ hb))
theorem aiD{L:Nat}{ops:List oM}{i:Nat}{R:List Nat}(pre post:List Acc)(hw:∀b∈pre++post,∀w∈b.W,w∉R)(h:vH L ops (pre++⟨i,[],[],true⟩::post)):vH L ops (pre++⟨i,R,[],true⟩::post):=by
 unfold vH at h ⊢;simp only [List.reverse_append,List.reverse_cons,bT,List.singleton_append]at h ⊢;exact aay _ _ (fun b hb=>hw b (by rcases aK.1 hb with h|h<;>simp at h<;>simp [h])) h
theorem UR{σ:Store}{v:V}{l:List Int}{os:List Nat}(h:lC σ v (ints l) os):∀n,∀o∈reach σ n v,o∈os:=by
 intro n o ho;rcases h.y8 with ⟨_,rfl,_⟩|⟨q,rfl,h1,rfl⟩
 ·cases n<;>simp [reach]at ho
 cases n with
 |zero=>simp [reach]at ho
 |
  succ n =>
  simp only [reach,h1,aH,dY]at ho;rcases ho with rfl|⟨r,hr,c,hc,ho⟩
  ·simp
  have hs:=oz l r hr c hc
  cases n with
  |zero=>simp [reach]at ho
  |succ n=>rw [Af hs]at ho;cases ho
theorem Au{σ:Store}{n:Nat}{cs:List V}{o:Nat}:o∈reach σ (n+1) (.agg cs)↔∃c∈cs,o∈reach σ n c:=by
 simp [reach,dY]
theorem CW{T:Tb}{f:Nat}{as:List Src}{dst:Option Nat}{env:Nat→V}{σ:Store}{kp bs:Nat}{rs ms:List Nat}{k:List Nat→List Nat→Bool→St→Prop}{as':List V}{t:V}(P:Nat→Prop)(h:PO T f as' t)
  (ha:IJ env σ as (· = as')) (hr:∀o∈lX env σ as,P o) (hk:∀R r σ2 os,(∀o∈R,P o)→Got σ σ2 r t os→k R [] true ⟨nG env dst r,σ2,kp,bs,rs,ms⟩):abU T f as dst ⟨env,σ,kp,bs,rs,ms⟩ k :=
 UN h ha fun r σ2 os g=>hk _ r σ2 os hr g
end Go.Ml
namespace Go.Ml
theorem aaz{L L':Nat}(hL:L'≤L){d e:oM}{a b:Acc}(h:uf L' d e a b=true):uf L d e a b=true:=by
 have hb:∀a b:Acc,yI L' a b=true→yI L a b=true:=by
  intro a b h;unfold yI at h ⊢;simp only [dB,aG,fO,aT,decide_eq_true_eq]at h ⊢;rcases h with h|⟨⟨h1,h2⟩,h3⟩
  ·exact .inl h
  exact .inr ⟨⟨h1,fun o ho=>aU (h2 o ho) hL⟩,fun o ho=>aU (h3 o ho) hL⟩
 simp only [uf,aG]at h ⊢;exact⟨⟨h.1.1,hb _ _ h.1.2⟩,hb _ _ h.2⟩
theorem aaA{L L':Nat}(hL:L'≤L){B:Nat→List Nat}{ops:List oM}:∀l:List Acc,okA L' B ops l=true→okA L B ops l=true
 | [],_=>rfl
 |
  a::l,h=>by
  simp only [okA,aG,aT,dB]at h ⊢;refine⟨fun b hb=>?_,aaA hL l h.2⟩;rcases h.1 b hb with k|k
  ·exact .inl k
  exact .inr (aaz hL k)
theorem Bd{L L':Nat}{ops:List oM}{l:List Acc}(hL:L'≤L)(h:vH L' ops l):vH L ops l:=aaA hL _ h
theorem MN{L:Nat}{ops:List oM}(aF:List Nat→List Acc)(Q:List Nat→Prop)(m i:Nat)(h1:(aF [])[m]? = some ⟨i,[],[],true⟩)(h2:∀R,aF R=(aF []).set m ⟨i,R,[],true⟩)
  (hw:∀R,Q R→∀b∈aF [],∀w∈b.W,w∉R) (h:vH L ops (aF [])):∀R,Q R→vH L ops (aF R):=by
 intro R hR;have hlt:=(aN.1 h1).1;have e:aF []=(aF []).take m++⟨i,[],[],true⟩::(aF []).drop (m+1):=by
  conv=>lhs;rw [←fE m (aF []),bH hlt]
  rw [(aN.1 h1).2]
 have e2:aF R=(aF []).take m++⟨i,R,[],true⟩::(aF []).drop (m+1):=by
  rw [h2,List.set_eq_take_append_cons_drop,if_pos hlt]
 rw [e2];refine aiD _ _ (fun b hb=>hw R hR b ?_) (e▸h);rcases aK.1 hb with h|h
 ·exact bZ h
 exact eF h
theorem Ep.push{s:Store}{cs ts:List V}{os:List Nat}{L:List (Nat×Obj)}{ob:Obj}(E:Ep s cs ts os L):Ep (s++[some ob]) cs ts os (L++[(s.length,ob)]):=by
 refine⟨E.c.snoc,fun q hq=>?_⟩;rcases aK.1 hq with hq|hq
 ·exact E.snoc.l q hq
 simp only [aH,bP,or_false]at hq;subst hq;exact⟨zU _ _,fun hm=>absurd (E.c.lt _ hm) (jV _)⟩
theorem Ep.reach{s:Store}{cs ts:List V}{os:List Nat}{L:List (Nat×Obj)}(E:Ep s cs ts os L)(c:Nat){v:V}{l:List Int}(hv:cs[c]? = some v)(ht:ts[c]? = some (ints l))(n:Nat):∀o∈reach s n v,o∈os:=by
 intro o ho;obtain⟨vc,oc,j1,j2,_,j4,_⟩:=E.c.ow.focus c _ E.c.nd ht;rw [hv]at j1
 cases j1
 exact j4 o (UR j2 n o ho)
theorem RV{T:Tb}(h:tJ T){l:List Int}(hl:l.length≤1048576:=by exact qW):PO T 139 [ints l] (ints l):=by
 refine lI nR h.hT ?_;simp only [wH,Lz,St.enter,ak,aC,aQ];refine ew ?_;exact⟨fun e=>afZ e,fun _=>⟨by omega,UO rfl⟩⟩
def cnt(n:Nat)(k:Int):List Int:=(List.range n).map fun i=>k+((i:Nat):Int)
theorem Jz{T:Tb}(h:sH T){n:Int}(hn:0≤n∧n<18446744073709551616:=by exact qW):PO T 69 [.int .u64 n] (ints (mk n.toNat)):=by
 have hlen:(mk n.toNat).length≤3:=kL.2 (by omega);refine lI nR h.hT ?_;simp only [uU,Lz,St.enter,ak,aC,aQ];refine ew ?_;refine jX (fun _ _=>false) (α:=Nat×List Int) (fun q=>⟨lS [.int .u64 (q.1:Nat),.any,.any,slV q.2.length],Zj 1 (jR q.2),0,0,[],[]⟩) (fun q=>q.2++mk q.1=mk n.toNat∧q.1≤n.toNat) (fun q=>q.1) rfl (n.toNat,[]) ?_ ?_ ?_
 ·exact⟨rfl,aJ _⟩
 ·first|((refine jS ?_;exact zV);done)|((refine Fh [] (by simp) (by intro p hp;cases hp) rfl ?_)<;>(try (refine ew ?_;try with_reducible exact True.intro))<;>(repeat' (first|exact True.intro|omega|exact qM rfl (by simp)|refine⟨?_,?_⟩|exact of_eq_true (rJ _ _ _)|exact lK rfl (by simp;done)|exact lK rfl rfl|(refine lD rfl ?_ rfl;simp [jR];done)|(refine lD rfl ?_ rfl;simp [jR];omega)|(refine rM ?_ ?_;(focus ((refine ew ?_;try with_reducible exact True.intro);done));(intro q hq k s0 l0;simp;done))));done)
 rintro⟨m,xs⟩ ⟨hm,hle⟩;dsimp only at hm hle;have hx:xs.length≤3:=by
  have:=congrArg List.length hm;simp at this;omega
 have e1:((m:Int).tmod 1000000000)=((m % 1000000000:Nat):Int):=by rw [QI (by omega)];omega
 have e2:((m:Int).tdiv 1000000000)=((m / 1000000000:Nat):Int):=by rw [QJ (by omega)];omega
 have key:0<m→(xs++[((m % 1000000000:Nat):Int)])++mk (m / 1000000000)=mk n.toNat:=fun h=>by
  rw [←hm,mk_pos (n:=m) (by omega)];simp
 (rcases xs with _|⟨x,xs⟩<;>simp only [aC,ak,Ag,yP,nV,lY]at hx ⊢)
 ·refine ew ?_;refine jW (fun hb=>?_) fun hb=>?_<;>(refine Fj @hb @e1 @e2 ?_;try with_reducible exact True.intro)
  ·exact⟨by omega,(m / 1000000000,[]++[((m % 1000000000:Nat):Int)]),by dsimp only;omega,⟨key (by omega),by dsimp only;omega⟩,by (simp only [←sO];refine O9 (k:=1) (Ew _ _) rfl ?_;(try (refine ew ?_;try with_reducible exact True.intro));(repeat' (first|exact True.intro|omega|exact IU (by simp) (by simp) (by simp)|refine⟨?_,?_⟩|exact lK rfl (by simp))))⟩
  have e:mk n.toNat=[]:=by rw [←hm,show m=0 by omega,mk_zero];rfl
  rw [e];exact Jw
 refine ew ?_;refine jW (fun hb=>?_) fun hb=>?_<;>(refine Fj @hb @e1 @e2 ?_;try with_reducible exact True.intro)
 ·refine⟨by omega,(m / 1000000000,(x::xs)++[((m % 1000000000:Nat):Int)]),by dsimp only;omega,⟨key (by omega),by dsimp only;omega⟩,by (simp only [←sO];refine O9 (k:=2) (Ew _ _) rfl ?_;(try (refine ew ?_;try with_reducible exact True.intro));(repeat' (first|exact True.intro|omega|exact IU (by simp) (by simp) (by simp)|refine⟨?_,?_⟩|exact lK rfl (by simp))))⟩
 have e:x::xs=mk n.toNat:=by rw [←hm,show m=0 by omega,mk_zero];simp
 rw [←e];exact UO (o:=0) (l:=x::xs) rfl
theorem acD{T:Tb}(h:uV T){l:List Int}{σ:Store}{o:Nat}(h0:iZ σ o=some ⟨1,jR l⟩)(hl:l.length≤1048576:=by exact qW) :
  Run T (.fn 151 [.kQ o 0 l.length] σ) (.fn (.kQ o 0 (trim l).length) σ):=by
 have:∃r σ',Run T (.fn 151 [.kQ o 0 l.length] σ) (.fn r σ')∧(r=.kQ o 0 (trim l).length∧σ'=σ):=by
  have htl:∀n,n≤l.length→vK l l.length=vK l n→(n=0∨l.getD (n-1) 0≠0)→(trim l).length=n:=by
   intro n hn h1 h2;unfold trim;rw [h1,fK]
   cases n with
   |zero=>simp [vK]
   |
    succ m =>
    simp only [Nat.add_sub_cancel]at h2;simp only [vK];rw [if_neg (by omega)];omega
  refine run_end nR h.hT ?_;simp only [xM,Lz,St.enter,ak,aC,aQ];refine ew ?_;refine y9 @h0 ?_;refine jX (fun _ _=>false) (α:=Nat) (fun n=>⟨lS [.kQ o 0 l.length,.any,.any,iv (n:Nat)],σ,σ.length,0,[],[]⟩) (fun n=>n≤l.length∧vK l l.length=vK l n) (fun n=>n) rfl l.length ?_ ?_ ?_
  ·exact⟨by omega,rfl⟩
  ·(refine jS ?_;exact zV)
  rintro n ⟨hn,ht⟩;refine y9 @h0 ?_;refine jW (fun hb=>?_) fun hb=>?_
  ·obtain⟨m,rfl⟩:∃m,n=m+1:=⟨n-1,by omega⟩;have e1:((m+1:Nat):Int)-1=(m:Nat):=by omega
   refine Fj @h0 @e1 @hb ?_;refine jW (fun hc=>?_) fun hc=>?_<;>(refine Aq @hc @h0 ?_;try with_reducible exact True.intro)
   ·refine⟨m,by omega,⟨by omega,?_⟩,by (refine jS ?_;exact zV)⟩;rw [ht];simp only [vK,hc,if_true]
   rw [htl (m+1) hn ht (by simp only [Nat.add_sub_cancel];omega)]
  have:n=0:=by omega
  subst this;rw [htl 0 hn ht (by omega)]
  (refine Aq @h0 @hb ?_;try with_reducible exact True.intro)
 obtain⟨r,σ',h1,rfl,rfl⟩:=this;exact h1
theorem UU{T:Tb}(h:nZ T){neg:Bool}{n:Nat}{σ:Store}{o:Nat}(h0:iZ σ o=some ⟨1,jR (mk n)⟩)(hn:0<n)(hl:(mk n).length≤60:=by exact qW) :
  ∃σ',Run T (.fn 68 [.bool neg,.kQ o 0 (mk n).length] σ) (.fn (.agg [.bool neg,.kQ o 0 (mk n).length]) σ')∧(∀q,q<σ.length→iZ σ' q=iZ σ q)∧σ.length≤σ'.length:=by
 have:∃r σ',Run T (.fn 68 [.bool neg,.kQ o 0 (mk n).length] σ) (.fn r σ')∧(r=.agg [.bool neg,.kQ o 0 (mk n).length]∧(∀q,q<σ.length→iZ σ' q=iZ σ q)∧σ.length≤σ'.length):=by
  have hp:=Gq.2 hn;refine run_end nR h.hT ?_;simp only [sQ,Lz,St.enter,ak,aC,aQ];refine ew ?_;have hlt:=kD h0;have c1:¬(((mk n).length:Nat):Int)=0:=by omega
  have c2:¬(60:Int)<((mk n).length:Nat):=by omega
  refine IX @h0 @hlt @c1 @c2 ?_;exact⟨fun q hq=>jU hq,by omega⟩
 obtain⟨r,σ',h1,rfl,h2,h3⟩:=this;exact⟨σ',h1,h2,h3⟩
theorem aiE{a b:St}(h:Fg a b:=by
 (refine Fh [(0,_)] (by simp) (by intro p hp;simp only [aH,bP,or_false]at hp;rcases hp with rfl<;>refine⟨rfl,?_⟩<;>first|exact oz _|simp [l9,V.still]) rfl ?_)<;>(try (refine ew ?_;try with_reducible exact True.intro))<;>(repeat' (first|exact True.intro|omega|exact qM rfl (by simp)|refine⟨?_,?_⟩|exact of_eq_true (rJ _ _ _)|exact lK rfl (by simp;done)|exact lK rfl rfl|(refine lD rfl ?_ rfl;simp [jR];done)|(refine lD rfl ?_ rfl;simp [jR];omega)|(refine rM ?_ ?_;(focus ((refine ew ?_;try with_reducible exact True.intro);done));(intro q hq k s0 l0;simp;done))))):Fg a b:=h
theorem Xv{T:Tb}(h:yT T){m n:Nat}(hn:0<n)(la:(mk m).length≤900:=by exact qW)(lb:(mk n).length≤900:=by exact qW) :
  PX T 138 [ints (mk m),ints (mk n)] [(true,ints (mk (m / n))),(false,ints (mk (m % n)))]:=by
 obtain⟨A,hA⟩:∃A,mk m=A:=⟨_,rfl⟩;obtain⟨B,hB⟩:∃B,mk n=B:=⟨_,rfl⟩;have hva:val A=m:=by rw [←hA,val_mk]
 have hbA:Lb A:=hA▸uF m;have hbB:Lb B:=hB▸uF n;rw [hA]at la ⊢;rw [hB]at lb ⊢;refine PD (fun x d=>(x == 69&&d == 28)||(x == 151&&d == 74)) h.hT ?_;simp only [yS,Lz,St.enter,ak,aC,aQ];refine ew ?_;have cas:(((A.length:Nat):Int)≤2∧((B.length:Nat):Int)≤2)∨((((A.length:Nat):Int)≤2∧¬((B.length:Nat):Int)≤2)∨¬((A.length:Nat):Int)≤2):=by omega
 rcases cas with ⟨c1,c2⟩|big
 ·have sm:m<1000000000000000000:=by
   have:=xu hbA;rw [hva]at this;exact aU this (bV (eG (by omega) (show A.length≤2 by omega)) (by omega))
  have sn:n<1000000000000000000:=by
   have:=xu hbB;rw [←hB,val_mk]at this;exact aU this (bV (eG (by omega) (show (mk n).length≤2 by rw [hB];omega)) (by omega))
  have cs:=CU h.rC sm;have ct:=CU h.rC sn;rw [hA]at cs;rw [hB]at ct;have e1:((m:Nat):Int).tdiv (n:Nat)=((m / n:Nat):Int):=by rw [eU (by omega),Int.natCast_ediv]
  have e2:((m:Nat):Int).tmod (n:Nat)=((m % n:Nat):Int):=by rw [gQ (by omega),jH]
  have d1:m / n≤m:=Nat.div_le_self ..;have d2:m % n≤m:=Nat.mod_le ..;have nz:¬((n:Nat):Int)=0:=by omega
  generalize m / n=q at *;generalize m % n=r at *;have c3:=xO h.lV (n:=((q:Nat):Int)) (by omega);have c4:=xO h.lV (n:=((r:Nat):Int)) (by omega);rw [iy]at c3 c4;refine Aq @c1 @c2 ?_;refine jl cs ?_;refine ew ?_;refine jl ct ?_;refine Fj @nz @e1 @e2 ?_;have p3:=Jz h.lV (n:=((q:Nat):Int)) (by omega);rw [iy]at p3;refine pV p3 (by (refine ew ?_;try with_reducible exact True.intro)) (by (refine ew ?_;try with_reducible exact True.intro)) ?_;intro v1 s1 o1 g;refine Fj @nz @e1 @e2 ?_;refine jl c4 ?_;refine ew ?_;refine⟨by unfold vH;decide +kernel,?_⟩;exact .inl (amU g.ow g.nd rfl)
 rcases big with ⟨c1,c2⟩|c1
 case' inl=>(refine Aq @c1 @c2 ?_;try with_reducible exact True.intro)
 case' inr=>(refine y9 @c1 ?_;try with_reducible exact True.intro)
 all_goals
  refine⟨by omega,?_⟩;rw [NZ];refine jX (fun x d=>(x == 69&&d == 28)||(x == 151&&d == 74)) (α:=Nat×List Int×Nat) (fun q=>⟨lS [ints A,ints B,.any,.any,.any,.any,.any,.any,.kQ 0 0 A.length,ints (mk q.2.2),iv ((q.1:Nat)-1)],[some ⟨1,jR q.2.1⟩],0,0,[],[]⟩) (fun q=>q.1≤A.length∧q.2.1.length=A.length∧Lb q.2.1∧(∀j,j<q.1→q.2.1.getD j 0=0)∧q.2.2<n∧val (A.drop q.1)=val (q.2.1.drop q.1)*n+q.2.2) (fun q=>q.1) rfl (A.length,List.replicate A.length 0,0) ?_ ?_ ?_
  ·exact⟨by omega,by simp,N7 _,by intro j _;simp [List.getD_eq_getElem?_getD,List.getElem?_replicate];split<;>rfl,hn,by dsimp only;rw [lZ (Nat.le_refl _),lZ (by simp)];simp⟩
  ·rw [mk_zero];exact aiE
  rintro⟨k,Q,x⟩ ⟨hk,hQ,hQb,hz,hx,hv⟩;dsimp only at hk hQ hQb hz hx hv;by_cases k0:k=0
  ·subst k0;rw [bY,bY,hva]at hv;obtain⟨q1,q2⟩:=Jp hv hx;have e0:¬(0:Int)≤((0:Nat):Int)-1:=by omega
   refine y9 @e0 ?_;have hr:=acD h.qN (l:=Q) (σ:=[some ⟨1,jR Q⟩]) (o:=0) rfl (by omega);rw [hQ]at hr;refine Td hr rfl (aJ _) (by simp) ?_;refine ew ?_;rw [←q1,←q2];exact .inr (aiC (by have:=(Xu Q).2;omega) (by rw [←(Xu Q).1,zk hQb]) rfl)
  obtain⟨i,rfl⟩:∃i,k=i+1:=⟨k-1,by omega⟩;have e0:(((i+1:Nat):Int)-1)=(i:Nat):=by omega
  have e1:((i:Nat):Int)<(A.length:Nat):=by omega
  have e2:(0:Int)≤(i:Nat):=by omega
  rw [e0];have ga:=uG hbA i;have hvi:=qp A i;obtain⟨t,ht⟩:∃t,(A.getD i 0).toNat+1000000000*x=t:=⟨_,rfl⟩;have htn:t<n*1000000000:=by omega
  have lt':(A.getD i 0::mk x).length≤1048576:=by
   have:(mk x).length≤B.length:=by rw [kL];exact Nat.lt_trans hx (by have:=xu hbB;rw [←hB,val_mk,hB]at this;exact this)
   simp only [ak];omega
  have tr:trim (A.getD i 0::mk x)=mk t:=by
   rw [zk (by intro y hy;rcases aH.1 hy with rfl|hy;exact ga;exact uF x y hy),←ht,val,val_mk]
  have ct:=IV h.qN (l:=A.getD i 0::mk x) lt';rw [tr]at ct;have ely:∀y,y≤t→(mk y).length≤901:=by
   intro y hy;have:(mk y).length≤B.length+1:=by
    rw [kL,iC];have:=xu hbB;rw [←hB,val_mk,hB]at this;exact aU (dZ hy htn) (dA _ (Nat.le_of_lt this))
   omega
  have lx:=ely;refine Aq @e2 @e1 ?_;refine⟨fun e3=>?_,fun e3=>?_⟩
  case' refine_1 =>
   have x0:mk x=[]:=by cases hm:mk x with|nil=>rfl|cons a l=>rw [hm]at e3;cases e3
   rw [x0]at ct;rw [show [[V.int IntKind.i64 (A.getD i 0)]]=jR [A.getD i 0]from rfl]
   (refine ew ?_;try with_reducible exact True.intro)
  case' refine_2 =>
   refine y9 @e3 ?_;rw [show [V.int IntKind.i64 (A.getD i 0)]::jR (mk x)=jR (A.getD i 0::mk x)from rfl];refine ew ?_;have lm:=lt';simp only [ak]at lm;refine⟨by omega,?_⟩
  all_goals
   clear lt';refine jl ct ?_;refine ew ?_;refine jX (fun x d=>(x == 69&&d == 28)||(x == 151&&d == 74)) (α:=List Int×Nat) (fun q=>⟨lS [ints A,ints B,.any,.any,.any,.any,.any,.any,.kQ 0 0 A.length,ints (mk q.2),iv (i:Nat)],[some ⟨1,jR q.1⟩],0,0,[],[]⟩) (fun q=>q.1.length=A.length∧Lb q.1∧(∀j,j<i→q.1.getD j 0=0)∧q.1.drop (i+1)=Q.drop (i+1)∧q.2+(q.1.getD i 0).toNat*n=t) (fun q=>q.2) rfl (Q,t) ?_ ?_ ?_
   ·exact⟨hQ,hQb,fun j hj=>hz j (by omega),rfl,by dsimp only;rw [hz i (by omega)];simp⟩
   ·exact aiE
   rintro⟨P,y⟩ ⟨hP,hPb,hzP,hd,hy⟩;dsimp only at hP hPb hzP hd hy;have yt:y≤t:=by omega
   have ly:=ely y yt;have cc:=Ld h.uj (sN y) (sN n) (by omega) (by rw [hB];omega);rw [val_mk,val_mk,hB]at cc;refine ew ?_;refine jl cc ?_;refine ew ?_;refine jW (fun c3=>?_) fun c3=>?_<;>(refine y9 @c3 ?_;try with_reducible exact True.intro)
   ·have hny:n≤y:=Ah.1 c3;obtain⟨d,pg,d0,d1,d2⟩:=UD h.J8 hn hny (by omega) (by omega) (by rw [hB];omega);rw [hB]at pg;have pm:=UA h.DF (m:=n) (n:=d) (by rw [hB];omega) (by rw [mk_one d0 d1];simp);have dn:n*d≤y:=by rw [dw];exact d2
    have lnd:=ely (n*d) (by omega);have ps:=Pm h.yU dn (by omega) (by omega);rw [hB,mk_one d0 d1]at pm;have gp:=uG hPb i;have y2:y-n*d+((P.getD i 0).toNat+d)*n=t:=by rw [eP,dw d n];omega
    have gp2:P.getD i 0+d<1000000000:=by
     have:((P.getD i 0).toNat+d)*n<1000000000*n:=by rw [dw 1000000000];omega
     have:=Nat.lt_of_mul_lt_mul_right this;omega
    have d0':0<n*d:=Nat.mul_pos hn d0;have k1:=Jl (l:=P) (i:=i) (d:=P.getD i 0+d) (by omega) gp2 hPb;have k2:∀j,j<i→(P.set i (P.getD i 0+d)).getD j 0=0:=by
     intro j hj;rw [qE,if_neg (by omega)];exact hzP j hj
    have k3:(P.set i (P.getD i 0+d)).drop (i+1)=Q.drop (i+1):=by rw [List.drop_set_of_lt (by omega),hd]
    have k4:((P.set i (P.getD i 0+d)).getD i 0)=P.getD i 0+d:=by rw [qE,if_pos ⟨rfl,by omega⟩]
    have k5:y-n*d+((P.set i (P.getD i 0+d)).getD i 0).toNat*n=t:=by
     rw [k4,show (P.getD i 0+(d:Int)).toNat=(P.getD i 0).toNat+d by omega];exact y2
    have k6:y-n*d<y:=by omega
    clear y2 hy htn ht hvi k4 hzP hd d2 lx ely hv hz hx;refine jl pg ?_;refine ew ?_;rw [show [[V.int IntKind.i64 (d:Int)]]=jR [(d:Int)]from rfl];refine ew ?_;refine jl pm ?_;refine ew ?_;refine jl ps ?_;refine Aq @e1 @hP ?_;exact⟨(P.set i (P.getD i 0+d),y-n*d),k6,⟨by simp [hP],k1,k2,k3,k5⟩,by exact aiE⟩
   have hny:y<n:=by
    have:=@Ah y n;omega
   have k1:=qp P i;rw [hd]at k1;have k2:val (A.drop i)=val (P.drop i)*n+y:=by
    rw [hvi,hv,k1,eP,iL,←fA];omega
   exact⟨(i,P,y),by dsimp only;omega,⟨by dsimp only;omega,hP,hPb,hzP,hny,k2⟩,by (refine jS ?_;exact zV)⟩
theorem UW{σ:Store}{b:Bool}{v:V}{l:List Int}{os:List Nat}(h:lC σ v (ints l) os):lC σ (.agg [.bool b,v]) (.agg [.bool b,ints l]) os:=nY (nI (by simpa using nP h nC))
theorem Tj{σ:Store}{b:Bool}{v w:V}{l m:List Int}{o1 o2:List Nat}(h:lC σ v (ints l) o1)(k:lC σ w (ints m) o2):lC σ (.agg [.bool b,v,w]) (.agg [.bool b,ints l,ints m]) (o1++o2) :=
 nY (nI (nP h (by simpa using nP k nC)))
theorem acE{σ:Store}:lC σ (kC R0) (kC R0) []:=Tj (o1:=[]) (o2:=[]) kX kX
theorem EW{σ:Store}:Fin σ (.agg [.bool false,.jF,.jF]) (kC R0):=⟨_,[],uX,acE,.nil⟩
theorem lC.avl{σ:Store}{v:V}{l:List Int}{os:List Nat}(h:lC σ v (ints l) os):lenOf σ v=some l.length:=by
 rcases h.y8 with ⟨rfl,rfl,_⟩|⟨o,rfl,h1,_⟩
 ·rfl
 simp [lenOf,h1]
theorem Lr{T:Tb}(h:nZ T){neg:Bool}{σ:Store}{v:V}{os:List Nat}(h0:lC σ v (ints []) os) :
  ∃σ',Run T (.fn 68 [.bool neg,v] σ) (.fn (.agg [.bool false,.jF]) σ')∧(∀q,q<σ.length→iZ σ' q=iZ σ q)∧σ.length≤σ'.length:=by
 have:∃r σ',Run T (.fn 68 [.bool neg,v] σ) (.fn r σ')∧(r=.agg [.bool false,.jF]∧(∀q,q<σ.length→iZ σ' q=iZ σ q)∧σ.length≤σ'.length):=by
  rcases h0.y8 with ⟨_,rfl,_⟩|⟨o,rfl,h1,_⟩
  ·have hz:((0:Nat):Int)=0:=rfl;refine run_end nR h.hT ?_;simp only [sQ,Lz,St.enter,ak,aC,aQ];refine ew ?_;refine y9 @hz ?_;exact⟨fun q hq=>jU hq,by omega⟩
  have hlt:=kD h1;have hz:((0:Nat):Int)=0:=rfl;simp only [aC];refine run_end nR h.hT ?_;simp only [sQ,Lz,St.enter,ak,aC,aQ];refine ew ?_;refine Fj @h1 @hlt @hz ?_;exact⟨fun q hq=>jU hq,by omega⟩
 obtain⟨r,σ',h1,rfl,h2,h3⟩:=this;exact⟨σ',h1,h2,h3⟩
theorem aaB{T:Tb}(h:nZ T){as:List Src}{dst:Option Nat}{env:Nat→V}{σ:Store}{kp bs:Nat}{rs ms:List Nat}{k:St→Prop}{neg:Bool}{n o:Nat}
  (h0:iZ σ o=some ⟨1,jR (mk n)⟩) (hn:0<n) (ha:(as.map fun s=>s.ev env)=[.bool neg,.kQ o 0 (mk n).length]) (hl:(mk n).length≤60)
  (hk:∀σ2:Store,(∀q,q<σ.length→iZ σ2 q=iZ σ q)→σ.length≤σ2.length→k ⟨nG env dst (.agg [.bool neg,.kQ o 0 (mk n).length]),σ2,kp,bs,rs,ms⟩):KX T 68 as dst ⟨env,σ,kp,bs,rs,ms⟩ k:=by
 have e1:Fv [o] σ=[some ⟨1,jR (mk n)⟩]:=by simp [Fv,h0,QV]
 obtain⟨σ',hr,hold,hlen⟩:=UU h (neg:=neg) (n:=n) (σ:=Fv [o] σ) (o:=0) (by rw [e1];rfl) hn hl;refine QW (ρ:=[o]) (by simp) (fun q hq=>⟨_,by simp at hq;subst hq;exact h0⟩) ?_ hr (fun q hq=>hold q (by rw [e1];exact hq)) ?_
 ·have:=congrArg (List.map (kH (place [o]))) ha;rw [gu]at this;refine Eq.trans this ?_;simp [kH,place]
 intro σ2 h1 h2;have:=hk σ2 h1 h2;simpa [kH,kH.F7,back]using this
theorem af4{T:Tb}(h:nZ T){as:List Src}{dst:Option Nat}{env:Nat→V}{σ:Store}{kp bs:Nat}{rs ms:List Nat}{k:St→Prop}{neg:Bool}{v:V}{os:List Nat}
  (h0:lC σ v (ints []) os) (ha:(as.map fun s=>s.ev env)=[.bool neg,v])
  (hk:∀σ2:Store,(∀q,q<σ.length→iZ σ2 q=iZ σ q)→σ.length≤σ2.length→k ⟨nG env dst (.agg [.bool false,.jF]),σ2,kp,bs,rs,ms⟩):KX T 68 as dst ⟨env,σ,kp,bs,rs,ms⟩ k:=by
 rcases h0.y8 with ⟨_,rfl,_⟩|⟨o,rfl,h1,_⟩
 ·obtain⟨σ',hr,hold,hlen⟩:=Lr h (neg:=neg) (σ:=Fv [] σ) (v:=.sl 1 []) (os:=[]) kX;refine QW (ρ:=[]) (by simp) (by simp) ?_ hr (fun q hq=>by simp at hq) ?_
  ·have:=congrArg (List.map (kH (place []))) ha;rw [gu]at this;refine Eq.trans this ?_;simp [kH,place]
  intro σ2 h1 h2;have:=hk σ2 h1 h2;simpa [kH,kH.F7,back]using this
 have e1:Fv [o] σ=[some ⟨1,jR []⟩]:=by simp [Fv,h1,QV]
 obtain⟨σ',hr,hold,hlen⟩:=Lr h (neg:=neg) (σ:=Fv [o] σ) (v:=.kQ 0 0 ([]:List Int).length) (os:=[0]) (Ll (by rw [e1];rfl));refine QW (ρ:=[o]) (by simp) (fun q hq=>⟨_,by simp at hq;subst hq;exact h1⟩) ?_ hr (fun q hq=>hold q (by rw [e1];exact hq)) ?_
 ·have:=congrArg (List.map (kH (place [o]))) ha;rw [gu]at this;refine Eq.trans this ?_;simp [kH,place]
 intro σ2 h1 h2;have:=hk σ2 h1 h2;simpa [kH,kH.F7,back]using this
theorem Om{T:Tb}(h:uY T){n d:Int}(ln:(mk n.natAbs).length≤60:=by exact qW)(ld:(mk d.natAbs).length≤60:=by exact qW) :
  PO T 144 [SC (bi n),SC (bi d)] (kC (Q.raw (VL n d))):=by
 by_cases hd:d=0
 ·subst hd;have e:VL n 0=none:=rfl;rw [e];refine lI nR h.hT ?_;simp only [sU,Lz,St.enter,ak,aC,aQ];refine ew ?_;have c1:(((mk (0:Int).natAbs).length:Nat):Int)=0:=by
   show (((mk 0).length:Nat):Int)=0;rw [Yi];rfl
  refine y9 @c1 ?_;exact EW
 rw [Yl hd];have hg:0<Nat.gcd n.natAbs d.natAbs:=iU _ (by omega);have cg:=UF h.DV (m:=n.natAbs) (n:=d.natAbs) (by omega) (by omega);have lg:(mk (Nat.gcd n.natAbs d.natAbs)).length≤60:=bV (Jq (Nat.le_of_dvd (by omega) (Nat.gcd_dvd_right _ _))) ld;have l1:=QK n.natAbs (Nat.gcd n.natAbs d.natAbs);have l2:=QK d.natAbs (Nat.gcd n.natAbs d.natAbs);have cn:=Xv h.wO (m:=n.natAbs) hg (by omega) (by omega);have cd:=Xv h.wO (m:=d.natAbs) hg (by omega) (by omega);have c1:¬(((mk d.natAbs).length:Nat):Int)=0:=by have:=@aij d.natAbs;omega
 clear hg lg;generalize n.natAbs / Nat.gcd n.natAbs d.natAbs=u at *;generalize d.natAbs / Nat.gcd n.natAbs d.natAbs=v at *;generalize n.natAbs % Nat.gcd n.natAbs d.natAbs=u2 at *;generalize d.natAbs % Nat.gcd n.natAbs d.natAbs=v2 at *;refine lI (fun x d=>x == 138||x == 68) h.hT ?_;simp only [sU,Lz,St.enter,ak,aC,aQ];refine ew ?_;refine y9 @c1 ?_;refine jl cg ?_;refine ew ?_;refine QT cn (by (refine ew ?_;try with_reducible exact True.intro)) (by (refine ew ?_;try with_reducible exact True.intro)) ?_;intro vs q1 o1 g;obtain⟨x,x2,rfl,hx2,g⟩:=g.of1;have B0:=g.at 0 (by simp) rfl;have B1:=g.at 1 (by simp) rfl;have B2:=g.at 2 (by simp) rfl;have lq:3≤q1.length:=g.len;have f1:∀o∈o1,3≤o:=g.fresh;have k1:=g.ow;have n1:=g.nd;clear g;refine IX @B0 @B1 @B2 @lq ?_;refine QT cd (by (refine ew ?_;try with_reducible exact True.intro)) (by (refine ew ?_;try with_reducible exact True.intro)) ?_;intro vs q2 o2 g;obtain⟨y,y2,rfl,hy2,g⟩:=g.of1
 replace B0:=(g.old 0 (by omega)).trans B0
 replace B1:=(g.old 1 (by omega)).trans B1
 replace B2:=(g.old 2 (by omega)).trans B2
 have lq2:=g.len;have azD:=k1.lt
 replace k1:=k1.frame (σ':=q2) fun o ho=>g.old o (k1.lt o ho)
 have k2:=g.ow;have n2:=g.nd;have dj:∀o∈o1,∀p∈o2,o≠p:=fun o ho p hp e=>by
  have:=azD o ho;have:=g.fresh p hp;omega
 have f2:∀o∈o2,3≤o:=fun o ho=>by have:=g.fresh o ho;omega
 replace lq:3≤q2.length:=by omega
 clear g lq2;have e1:=k1.avl;have e2:=k2.avl;have lfy:=k2.leaf rfl;have fcy:=aat lfy;have azF:(o1++o2).Nodup:=by
  rw [aZ];exact⟨n1,n2,dj⟩
 by_cases c2:(24:Int)<((mk u).length:Nat)
 ·refine ew7 @B0 @B1 @B2 @lq @e1 @e2 @c2 ?_;rw [if_neg (by omega)];exact EW
 by_cases c3:(24:Int)<((mk v).length:Nat)
 ·refine ew8 @B0 @B1 @B2 @lq @e1 @e2 @c2 @c3 ?_;rw [if_neg (by omega)];exact EW
 refine ew8 @B0 @B1 @B2 @lq @e1 @e2 @c2 @c3 ?_;rw [if_pos (by omega),←Yk];have key:=IW (!decide (decide (n<0)=decide (d<0))) u;by_cases hu:u=0
 ·subst hu;rw [mk_zero]at k1;obtain⟨q3,hr,hold,hlen⟩:=Lr h.kW (neg:=!decide (decide (n<0)=decide (d<0))) k1;refine Td hr rfl hlen (by simp) ?_
  replace B2:=(hold 2 (by omega)).trans B2
  have lq3:3≤q3.length:=by omega
  refine IX @B2 @lq3 @lfy @fcy ?_;rw [Pq,mk_zero];have k2':=k2.frame (σ':=q3.set 2 (some ⟨3,[[.bool false,.jF,y]]⟩)) fun o ho=>by
   have:=f2 o ho;rw [jM (by omega),hold o (k2.lt o ho)]
  refine⟨.agg [.bool false,.sl 1 [],y],o2,?_,Tj (o1:=[]) kX k2',n2⟩;simp only [Pg,Uy,Ux,MI,oC,true_and,and_true];exact jP _
 rcases k1.y8 with ⟨h1,_,_⟩|⟨o,rfl,h1,_⟩
 ·have:=Gq.2 (jw hu);rw [h1]at this;simp at this
 obtain⟨q3,hr,hold,hlen⟩:=UU h.kW (neg:=!decide (decide (n<0)=decide (d<0))) h1 (jw hu) (by omega);refine Td hr rfl hlen (by simp) ?_
 replace B2:=(hold 2 (by omega)).trans B2
 have lq3:3≤q3.length:=by omega
 refine IX @B2 @lq3 @lfy @fcy ?_;have hb:=congrArg Bi.neg (aik (!decide (decide (n<0)=decide (d<0))) u (jw hu));have hb:decide (sg (!decide (decide (n<0)=decide (d<0))) u<0) = !decide (decide (n<0)=decide (d<0)):=hb;rw [hb];generalize (!decide (decide (n<0)=decide (d<0)))=ng;have fr:∀p,p∈o1++o2→iZ (q3.set 2 (some ⟨3,[[.bool ng,.kQ o 0 (mk u).length,y]]⟩)) p=iZ q2 p:=fun p hp=>by
  have h3:3≤p∧p<q2.length:=by
   rcases aK.1 hp with hp|hp
   ·exact⟨f1 p hp,k1.lt p hp⟩
   exact⟨f2 p hp,k2.lt p hp⟩
  rw [jM (by omega),hold p h3.2]
 exact vU (Tj (k1.frame fun p hp=>fr p (gV _ hp)) (k2.frame fun p hp=>fr p (fB _ hp))) azF
theorem af5{T:Tb}(h:lN T){a b:Q}(ha:a.ok:=by assumption)(hb:b.ok:=by assumption):PO T 131 [kC (Q.raw a),kC (Q.raw b)] (kC (Q.raw (N8 a b))):=by
 cases a with
 |
  none =>
  refine lI (fun x d=>x == 144) h.hT ?_;simp only [qF,Lz,St.enter,ak,aC,aQ];refine ew ?_;refine jl (uK h.jQ) ?_;refine ew ?_;exact EW
 |
  some q=>cases b with
  |
   none =>
   refine lI (fun x d=>x == 144) h.hT ?_;simp only [qF,Lz,St.enter,ak,aC,aQ];refine ew ?_;refine jl (pK h.jQ) ?_;refine ew ?_;refine jl (uK h.jQ) ?_;refine ew ?_;exact EW
  |
   some s =>
   obtain⟨l1,l2⟩:=Oe ha;obtain⟨l3,l4⟩:=Oe hb;have e:N8 (some q) (some s)=VL (q.num*s.den+s.num*q.den) (q.den*s.den):=(ad1 q s).symm;rw [e];have t1:=nX q.num s.den;have t2:=nX s.num q.den;have t3:=nX q.den s.den;have t5:=nX q.num s.num;have t4:=Jr (q.num*s.den) (s.num*q.den);have n1:(mk (q.den:Int).natAbs).length≤24:=by rw [bW];exact l2
   have n2:(mk (s.den:Int).natAbs).length≤24:=by rw [bW];exact l4
   refine lI (fun x d=>x == 144) h.hT ?_;simp only [qF,Lz,St.enter,ak,aC,aQ];refine ew ?_;refine jl (pK h.jQ) ?_;refine ew ?_;refine jl (pK h.jQ) ?_;refine ew ?_;refine jl (xw h.kT (q:=s)) ?_;refine ew ?_;refine jl (rO h.kS (x:=q.num) (y:=s.den) (by omega) (by omega)) ?_;refine ew ?_;refine jl (xw h.kT (q:=q)) ?_;refine ew ?_;refine jl (rO h.kS (x:=s.num) (y:=q.den) (by omega) (by omega)) ?_;refine ew ?_;refine jl (aai h.Ny (x:=q.num*s.den) (y:=s.num*q.den) (by omega) (by omega)) ?_;refine ew ?_;refine⟨by unfold vH;decide +kernel,?_⟩;refine jl (xw h.kT (q:=q)) ?_;refine ew ?_;refine jl (xw h.kT (q:=s)) ?_;refine ew ?_;refine jl (rO h.kS (x:=q.den) (y:=s.den) (by omega) (by omega)) ?_;refine ew ?_;refine pV (Om h.qP (n:=q.num*s.den+s.num*q.den) (d:=q.den*s.den) (by omega) (by omega)) (by (refine ew ?_;try with_reducible exact True.intro)) (by (refine ew ?_;try with_reducible exact True.intro)) ?_;intro v q os g;have g0:=g;obtain⟨a0,d0,_,_,rfl,_,k1,k2⟩:=g.ow.Jy;have B2:=g0.at 2 (by simp) rfl;have lq:3≤q.length:=by have:=g0.len;simp at this;omega
   have la:=k1.leaf rfl;have ld:=k2.leaf rfl;have UY:=ah la ld;have fc:=fun b k=>wX (cs:=[.bool b,a0,d0]) (by simp [la,ld,show ∀b,V.leaf (.bool b)=true from fun _=>rfl]) k;refine IX @B2 @lq @UY @fc ?_;refine⟨by unfold vH;decide +kernel,?_⟩;refine IX @B2 @lq @UY @fc ?_;exact g0.Yx (by simp)
theorem af6{T:Tb}(h:pF T){a b:Q}(ha:a.ok:=by assumption)(hb:b.ok:=by assumption):PO T 157 [kC (Q.raw a),kC (Q.raw b)] (kC (Q.raw (V3 a b))):=by
 cases a with
 |
  none =>
  refine lI (fun x d=>x == 144) h.hT ?_;simp only [qG,Lz,St.enter,ak,aC,aQ];refine ew ?_;refine jl (uK h.jQ) ?_;refine ew ?_;exact EW
 |
  some q=>cases b with
  |
   none =>
   refine lI (fun x d=>x == 144) h.hT ?_;simp only [qG,Lz,St.enter,ak,aC,aQ];refine ew ?_;refine jl (pK h.jQ) ?_;refine ew ?_;refine jl (uK h.jQ) ?_;refine ew ?_;exact EW
  |
   some s =>
   obtain⟨l1,l2⟩:=Oe ha;obtain⟨l3,l4⟩:=Oe hb;have e:V3 (some q) (some s)=VL (q.num*s.num) (q.den*s.den):=(ad2 q s).symm;rw [e];have t1:=nX q.num s.den;have t2:=nX s.num q.den;have t3:=nX q.den s.den;have t5:=nX q.num s.num;have t4:=Jr (q.num*s.den) (s.num*q.den);have n1:(mk (q.den:Int).natAbs).length≤24:=by rw [bW];exact l2
   have n2:(mk (s.den:Int).natAbs).length≤24:=by rw [bW];exact l4
   refine lI (fun x d=>x == 144) h.hT ?_;simp only [qG,Lz,St.enter,ak,aC,aQ];refine ew ?_;refine jl (pK h.jQ) ?_;refine ew ?_;refine jl (pK h.jQ) ?_;refine ew ?_;refine jl (rO h.kS (x:=q.num) (y:=s.num) (by omega) (by omega)) ?_;refine ew ?_;refine jl (xw h.kT (q:=q)) ?_;refine ew ?_;refine jl (xw h.kT (q:=s)) ?_;refine ew ?_;refine jl (rO h.kS (x:=q.den) (y:=s.den) (by omega) (by omega)) ?_;refine ew ?_;refine pV (Om h.qP (n:=q.num*s.num) (d:=q.den*s.den) (by omega) (by omega)) (by (refine ew ?_;try with_reducible exact True.intro)) (by (refine ew ?_;try with_reducible exact True.intro)) ?_;intro v q os g;have g0:=g;obtain⟨a0,d0,_,_,rfl,_,k1,k2⟩:=g.ow.Jy;have B2:=g0.at 2 (by simp) rfl;have lq:3≤q.length:=by have:=g0.len;simp at this;omega
   have la:=k1.leaf rfl;have ld:=k2.leaf rfl;have UY:=ah la ld;have fc:=fun b k=>wX (cs:=[.bool b,a0,d0]) (by simp [la,ld,show ∀b,V.leaf (.bool b)=true from fun _=>rfl]) k;refine IX @B2 @lq @UY @fc ?_;refine⟨by unfold vH;decide +kernel,?_⟩;refine IX @B2 @lq @UY @fc ?_;exact g0.Yx (by simp)
theorem af7{T:Tb}(h:um T){a b:Q}(ha:a.ok:=by assumption)(hb:b.ok:=by assumption):PO T 156 [kC (Q.raw a),kC (Q.raw b)] (kC (Q.raw (Yf a b))):=by
 cases a with
 |
  none =>
  refine lI (fun x d=>x == 144) h.hT ?_;simp only [qH,Lz,St.enter,ak,aC,aQ];refine ew ?_;refine jl (uK h.jQ) ?_;refine ew ?_;exact EW
 |
  some q=>cases b with
  |
   none =>
   refine lI (fun x d=>x == 144) h.hT ?_;simp only [qH,Lz,St.enter,ak,aC,aQ];refine ew ?_;refine jl (pK h.jQ) ?_;refine ew ?_;refine jl (uK h.jQ) ?_;refine ew ?_;exact EW
  |
   some s =>
   obtain⟨l1,l2⟩:=Oe ha;obtain⟨l3,l4⟩:=Oe hb;have e:Yf (some q) (some s)=VL (q.num*s.den) (s.num*q.den):=(ad3 q s).symm;rw [e];have t1:=nX q.num s.den;have t2:=nX s.num q.den;have t3:=nX q.den s.den;have t5:=nX q.num s.num;have t4:=Jr (q.num*s.den) (s.num*q.den);have n1:(mk (q.den:Int).natAbs).length≤24:=by rw [bW];exact l2
   have n2:(mk (s.den:Int).natAbs).length≤24:=by rw [bW];exact l4
   refine lI (fun x d=>x == 144) h.hT ?_;simp only [qH,Lz,St.enter,ak,aC,aQ];refine ew ?_;refine jl (pK h.jQ) ?_;refine ew ?_;refine jl (pK h.jQ) ?_;refine ew ?_;refine jl (xw h.kT (q:=s)) ?_;refine ew ?_;refine jl (rO h.kS (x:=q.num) (y:=s.den) (by omega) (by omega)) ?_;refine ew ?_;refine jl (xw h.kT (q:=q)) ?_;refine ew ?_;refine jl (rO h.kS (x:=s.num) (y:=q.den) (by omega) (by omega)) ?_;refine ew ?_;refine pV (Om h.qP (n:=q.num*s.den) (d:=s.num*q.den) (by omega) (by omega)) (by (refine ew ?_;try with_reducible exact True.intro)) (by (refine ew ?_;try with_reducible exact True.intro)) ?_;intro v q os g;have g0:=g;obtain⟨a0,d0,_,_,rfl,_,k1,k2⟩:=g.ow.Jy;have B2:=g0.at 2 (by simp) rfl;have lq:3≤q.length:=by have:=g0.len;simp at this;omega
   have la:=k1.leaf rfl;have ld:=k2.leaf rfl;have UY:=ah la ld;have fc:=fun b k=>wX (cs:=[.bool b,a0,d0]) (by simp [la,ld,show ∀b,V.leaf (.bool b)=true from fun _=>rfl]) k;refine IX @B2 @lq @UY @fc ?_;refine⟨by unfold vH;decide +kernel,?_⟩;refine IX @B2 @lq @UY @fc ?_;exact g0.Yx (by simp)
theorem zW{T:Tb}(h:lN T){r s:R}(hr:r.cn:=by exact Lj)(hs:s.cn:=by exact Lj):PO T 131 [kC r,kC s] (kC (mG r s)):=by
 have:=af5 h (a:=r.q) (b:=s.q) (Hz r) (Hz s);rw [hr,hs]at this;exact this
theorem UZ{T:Tb}(h:pF T){r s:R}(hr:r.cn:=by exact Lj)(hs:s.cn:=by exact Lj):PO T 157 [kC r,kC s] (kC (mulR r s)):=by
 have:=af6 h (a:=r.q) (b:=s.q) (Hz r) (Hz s);rw [hr,hs]at this;exact this
theorem Oo{T:Tb}(h:um T){r s:R}(hr:r.cn:=by exact Lj)(hs:s.cn:=by exact Lj):PO T 156 [kC r,kC s] (kC (xR r s)):=by
 have:=af7 h (a:=r.q) (b:=s.q) (Hz r) (Hz s);rw [hr,hs]at this;exact this
theorem aaC{T:Tb}(h:zH T){n:Int}(hn : -1000000000000000000<n∧n<1000000000000000000:=by exact qW):PO T 54 [iv n] (SC (bi n)):=by
 have hl:(mk n.natAbs).length≤2:=Le (by omega);by_cases hneg:n<0
 ·have c1:=Jz h.lV (n:=-(n+1)+1) (by omega);rw [show (-(n+1)+1).toNat=n.natAbs by omega]at c1;have e:bi n=⟨true,mk n.natAbs⟩:=by unfold bi;rw [decide_eq_true hneg]
  rw [e];refine lI (fun x d=>x == 69||x == 68) h.hT ?_;simp only [rF,Lz,St.enter,ak,aC,aQ];refine ew ?_;refine y9 @hneg ?_;rw [show (0:Int)-(n+1)+1 = -(n+1)+1 by omega];refine og c1 (by (refine ew ?_;try with_reducible exact True.intro)) ?_;intro v q1 o1 g;have B0:=g.at 0 (by simp) rfl;have lq:1≤q1.length:=g.len;have f1:∀o∈o1,1≤o:=g.fresh;have k1:=g.ow;have n1:=g.nd;clear g;refine Aq @B0 @lq ?_;rcases k1.y8 with ⟨h1,_,_⟩|⟨o,rfl,h1,_⟩
  ·have:=Gq.2 (show 0<n.natAbs by omega);rw [h1]at this;simp at this
  refine aaB h.kW (neg:=true) h1 (by omega) rfl (by omega) ?_;intro q3 hold hlen
  replace B0:=(hold 0 (by omega)).trans B0
  have lq3:1≤q3.length:=by omega
  refine Aq @B0 @lq3 ?_;refine vU (UW (k1.frame fun p hp=>?_)) n1;have:=f1 p hp;rw [jM (by omega),hold p (k1.lt p hp)]
 have c1:=Jz h.lV (n:=n) (by omega);rw [show n.toNat=n.natAbs by omega]at c1;have e:bi n=⟨false,mk n.natAbs⟩:=by unfold bi;rw [decide_eq_false hneg]
 rw [e];refine lI (fun x d=>x == 69||x == 68) h.hT ?_;simp only [rF,Lz,St.enter,ak,aC,aQ];refine ew ?_;refine y9 @hneg ?_;refine og c1 (by (refine ew ?_;try with_reducible exact True.intro)) ?_;intro v q1 o1 g;have B0:=g.at 0 (by simp) rfl;have lq:1≤q1.length:=g.len;have f1:∀o∈o1,1≤o:=g.fresh;have k1:=g.ow;have n1:=g.nd;clear g;refine Aq @B0 @lq ?_;by_cases h0:n.natAbs=0
 ·rw [h0,mk_zero]at k1 ⊢;refine af4 h.kW (neg:=false) k1 rfl ?_;intro q3 hold hlen
  replace B0:=(hold 0 (by omega)).trans B0
  have lq3:1≤q3.length:=by omega
  refine Aq @B0 @lq3 ?_;exact⟨.agg [.bool false,.sl 1 []],[],Yj,UW (kX),.nil⟩
 rcases k1.y8 with ⟨h1,_,_⟩|⟨o,rfl,h1,_⟩
 ·have:=Gq.2 (show 0<n.natAbs by omega);rw [h1]at this;simp at this
 refine aaB h.kW (neg:=false) h1 (by omega) rfl (by omega) ?_;intro q3 hold hlen
 replace B0:=(hold 0 (by omega)).trans B0
 have lq3:1≤q3.length:=by omega
 refine Aq @B0 @lq3 ?_;refine vU (UW (k1.frame fun p hp=>?_)) n1;have:=f1 p hp;rw [jM (by omega),hold p (k1.lt p hp)]
theorem qI{T:Tb}(h:mO T){n:Int}(hn : -1000000000000000000<n∧n<1000000000000000000:=by exact qW):PO T 39 [iv n] (kC (ku n)):=by
 rw [UL];refine lI (fun x d=>x == 54) h.hT ?_;simp only [tX,Lz,St.enter,ak,aC,aQ];refine ew ?_;refine og (aaC h.Kq hn) (by (refine ew ?_;try with_reducible exact True.intro)) ?_;intro v q1 o1 g;obtain⟨v1,rfl,k1⟩:=g.ow.aqF;have B0:=g.at 0 (by simp) rfl;have B1:=g.at 1 (by simp) rfl;have lq:2≤q1.length:=g.len;have f1:∀o∈o1,2≤o:=g.fresh;have n1:=g.nd;have la:=k1.leaf rfl;have fc:=fun b k=>wX (cs:=[.bool b,v1]) (by simp [la,show ∀b,V.leaf (.bool b)=true from fun _=>rfl]) k;clear g;refine NC @B0 @B1 @lq @la @fc ?_;refine vU (Tj (o1:=o1) (o2:=[1]) (k1.frame fun p hp=>?_) (Ll (l:=[1]) ?_)) ?_
 ·have:=f1 p hp;rw [jM (by omega),jM (by omega)]
 ·rw [jM (by omega),kF (by omega)];rfl
 rw [aZ];refine⟨n1,by simp,fun a ha b hb e=>?_⟩;have:=f1 a ha;simp at hb;omega
theorem Wj{α:Type} [Inhabited α] (cl:α→List V) (l:List α) {i:Nat} (h:i<l.length):(l.take (i+1)).map cl=(l.take i).map cl++[cl (l.getD i default)]:=by
 rw [iM,au h,aj,au h,cZ];rfl
theorem zf{σ:Store}{cs:List V}(h:∀v∈cs,v.still=true):resolve σ FD (.agg cs)=some (.agg cs):=by
 show (cs.mapM (resolve σ 11)).map V.agg=_;rw [Jg (n:=10) h];rfl
def zI:Fn:=⟨2,26,[.tmp 4],(sr [oN 4 mF] (.seq (sr [oW 7 0,oN 8 (ln 7),oW 9 1,oN 10 (ln 9),oN 11 (bt .neq 8 10)] (cd 11 (sr [oN 4 mF] .ret) .skip)) (.seq (sr [oW 12 0,oN 13 (ln 12),oN 14 (.oO (cI 0))] (.block 0 (.loop (sr [oN 15 (bt .lss 14 13)] (.seq (cd 15 .skip (.exit 0)) (.seq (.block 1 (sr [oW 16 14,oN 17 (ix 1 12 14),oN 18 (lF 1 17),oW 5 16,oW 6 18] (sr [oW 19 6,oW 20 1,oW 21 5,oN 22 (ix 1 20 21),oN 23 (lF 1 22),oN 24 (bt .neq 19 23)] (cd 24 (sr [oN 4 mF] .ret) .skip)))) (rg [oN 25 (bc .add 14 1),oW 14 25]))))))) (sr [oN 4 mT] .ret))))⟩
structure EX (T:Tb):Prop where
 hT:T 52=some zI
def zJ:Fn:=⟨2,28,[.tmp 4],(.seq (rf 2 [oN 2 (.box (.t 0)),oK 3 1 (.box (.t 1)),oK 4 2 mF]) (sr [oN 5 (fd 0 2),oN 6 (fd 0 5),oN 7 (lF 1 6),oN 8 (fd 0 3),oN 9 (fd 0 8),oN 10 (lF 1 9),oN 11 (.beq false (.t 7) (.t 10)),oW 12 11,oG 12 true 13 (fd 0 2),oG 12 true 14 (fd 1 13),oG 12 true 15 (lF 1 14),oG 12 true 16 (fd 0 3),oG 12 true 17 (fd 1 16),oG 12 true 18 (lF 1 17),oG 12 true 19 (cl 52 [15,18]),oN 20 (.pick (.t 12) (.t 19) (.c (.bool false))),oW 21 20,oG 21 true 22 (fd 2 2),oG 21 true 23 (lF 1 22),oG 21 true 24 (fd 2 3),oG 21 true 25 (lF 1 24),oG 21 true 26 (cl 52 [23,25]),oN 27 (.pick (.t 21) (.t 26) (.c (.bool false))),oW 4 27] .ret))⟩
structure zK (T:Tb):Prop where
 hT:T 32=some zJ
 SK:EX T
theorem acH{T:Tb}(h:EX T){a b:List Int}(hl:a.length≤9223372036854775807:=by exact qW)(hb:b.length≤9223372036854775807:=by exact qW):PF T 52 [ints a,ints b] (.bool (decide (a=b))):=by
 refine kR nR h.hT ?_;simp only [zI,Lz];refine ev ?_;refine jW (fun h1=>?_) fun h1=>?_<;>(refine ev1 @h1 ?_;try with_reducible exact True.intro)
 ·have h1:a.length=b.length:=by omega
  refine jX (fun _ _=>false) (α:=Nat) (fun i=>⟨lS [ints a,ints b,.any,.any,.any,.any,.any,.any,.any,.any,.any,.any,ints a,iv (a.length:Nat),iv (i:Nat)],[],0,0,[],[]⟩) (fun i=>i≤a.length∧∀j,j<i→a.getD j 0=b.getD j 0) (fun i=>a.length-i) rfl 0 ?_ ?_ ?_
  ·exact⟨by omega,by intro j hj;omega⟩
  ·(refine jS ?_;exact EJ)
  rintro i ⟨hi,hj⟩;refine ev ?_;refine jW (fun h2=>?_) fun h2=>?_<;>(refine ev1 @h2 ?_;try with_reducible exact True.intro)
  ·refine jW (fun h3=>?_) fun h3=>?_<;>(refine ev1 @h3 ?_;try with_reducible exact True.intro)
   ·refine⟨i+1,by omega,⟨by omega,fun j hj'=>?_⟩,by (refine jS ?_;exact EJ)⟩;by_cases e:j=i
    ·subst e;exact h3
    exact hj j (by omega)
   have:¬a=b:=fun e=>h3 (by rw [e]);simp [this]
  have:a=b:=afM h1 fun j h=>hj j (by omega);simp [this]
 have:¬a=b:=fun e=>h1 (by rw [e]);simp [this]
theorem Ls{T:Tb}(h:zK T){y z:R}(hy:y.wf:=by exact qW)(hz:z.wf:=by exact qW):PF T 32 [kC y,kC z] (.bool (decide (y=z))):=by
 obtain⟨w1,w2⟩:=hy;obtain⟨w3,w4⟩:=hz;refine kR nR h.hT ?_;simp only [zJ,Lz];refine ev ?_
 repeat' (first|((refine jW (fun hb=>?_) fun hb=>?_)<;>(try (refine ev1 @hb ?_;try with_reducible exact True.intro)))|((refine jl (acH h.SK) ?_)<;>(try (refine ev ?_;try with_reducible exact True.intro))))
 all_goals (cases y;cases z;simp_all)
def R.ct(x:R):Nat:=1+x.mag.length+x.den.length
def Pt.ct(x:Pt):Nat:=1+x.x.mag.length+x.x.den.length+1+x.y.mag.length+x.y.den.length
def Lk.ct(x:Lk):Nat:=1+1+1+x.w.mag.length+x.w.den.length+1+x.dx.mag.length+x.dx.den.length+1+x.dy.mag.length+x.dy.den.length
def Pa.ct(x:Pa):Nat:=1+1+x.share.mag.length+x.share.den.length+1+x.dx.mag.length+x.dx.den.length+1+x.dy.mag.length+x.dy.den.length
def Cd.ct(x:Cd):Nat:=1+1+x.total.mag.length+x.total.den.length+cnL Pa.ct x.ps x.ps.length
def Tn.ct(x:Tn):Nat:=1+1+cnL Lk.ct x.own x.own.length+1+1+x.cond.total.mag.length+x.cond.total.den.length+cnL Pa.ct x.cond.ps x.cond.ps.length+cnL Lk.ct x.msgs x.msgs.length+1+x.Jo.mag.length+x.Jo.den.length
def Bi.Xm(x:Bi):Nat:=x.mag.length
def R.Xm(x:R):Nat:=Bi.Xm x.num+x.den.length
def Pt.Xm(x:Pt):Nat:=x.x.Xm+x.y.Xm
def Lk.Xm(x:Lk):Nat:=x.w.Xm+x.dx.Xm+x.dy.Xm
def Cd.Xm(x:Cd):Nat:=x.total.Xm+cnL Pa.ct x.ps x.ps.length
theorem aaD{α:Type}{f:α→Nat}{l:List α}{x:α}{n:Nat}(h:Qn f l≤n)(hx:x∈l):f x≤n:=by
 have:∀l:List α,x∈l→f x≤(l.map f).sum:=by
  intro l
  induction l with
  |nil=>intro h;simp at h
  |
   cons y l ih =>
   intro h;rw [bU,List.sum_cons];rcases aH.1 h with rfl|h
   ·omega
   have:=ih h;omega
 have:=this l hx;unfold Qn at h;omega
def Bf:Fn:=⟨1,15,[.cell 2 3 true],(.seq (rf 2 [oN 1 (.box (.t 0)),oK 2 1 (.alloc vN)]) (.seq (rt 0 [oN 3 (fd 0 1),oA 4 0 (fd 0 3) [0],oA 5 0 (lF 1 4) [1],oN 6 (fd 0 1),oA 7 0 (fd 1 6) [3],oA 8 0 (lF 1 7) [4],oA 9 0 (cl 139 [8]) [5],oA 10 0 (.build zz4 [(0,1,(.t 5)),(1,1,(.t 9))]) [2,6],oN 11 (fd 2 1),oA 12 0 (lF 1 11) [8],oA 13 0 (cl 139 [12]) [9,6],oA 14 0 (.build vN [(0,2,(.t 10)),(2,1,(.t 13))]) [7,10],⟨none,none,0,.store 3 (.t 2) (.t 14),[11,10,0,1,2,3,4,5,6,7,8,9,10,11]⟩]) .ret))⟩
structure Bg (T:Tb):Prop where
 hT:T 145=some Bf
 rD:tJ T
def zL:Fn:=⟨1,17,[.cell 2 11 true],(.seq (rf 2 [oN 1 (.box (.t 0)),oK 2 1 (.alloc J7)]) (.seq (rt 0 [oN 3 (fd 0 1),oA 4 0 (lF 1 3) [0],oN 5 (fd 1 1),oA 6 0 (lF 1 5) [2],oN 7 (fd 2 1),oA 8 0 (lT 3 7) [4],oA 9 0 (cl 145 [8]) [5],oN 10 (fd 5 1),oA 11 0 (lT 3 10) [7],oA 12 0 (cl 145 [11]) [8,6],oN 13 (fd 8 1),oA 14 0 (lT 3 13) [10],oA 15 0 (cl 145 [14]) [11,9],oA 16 0 (.build J7 [(0,1,(.t 4)),(1,1,(.t 6)),(2,3,(.t 9)),(5,3,(.t 12)),(8,3,(.t 15))]) [1,3,6,9,12],⟨none,none,0,.store 11 (.t 2) (.t 16),[13,12,0,1,2,3,4,5,6,7,8,9,10,11,12,13]⟩]) .ret))⟩
structure EY (T:Tb):Prop where
 hT:T 133=some zL
 qQ:Bg T
def yw:Fn:=⟨1,20,[.tmp 2],(sr [oN 2 mN] (.seq (rf 1 [oN 6 (.oI 11 J7 0 []),oK 3 1 (oV 6)]) (.seq (sr [oW 7 0,oN 8 (ln 7),oN 9 (.oO (cI 0))] (.block 0 (.loop (sr [oN 10 (bt .lss 9 8)] (.seq (cd 10 .skip (.exit 0)) (.seq (.block 1 (.seq (rf 1 [oK 11 1 (ix 11 7 9),oK 12 1 (lT 11 11),oN 5 (.alloc J7),⟨none,none,1,.store 11 (.t 5) (.t 12),[]⟩]) (rf 2 [oK 13 2 (oV 3),oK 14 2 (lT 11 5),oK 15 2 (cl 133 [14]),oN 16 (.oI 11 J7 1 [(0,(.t 15))]),oK 17 1 (.app 11 184 (.t 13) (.t 16)),oK 3 2 (oV 17)]))) (rg [oN 18 (bc .add 9 1),oW 9 18]))))))) (sr [oW 19 3,oW 2 19] .ret))))⟩
structure CX (T:Tb):Prop where
 hT:T 110=some yw
 Kr:EY T
def sF:Fn:=⟨1,40,[.cell 2 5 true],(.seq (rf 2 [oN 1 (.box (.t 0)),oK 2 1 (.alloc Zi)]) (.seq (rt 1 [oK 7 1 (fd 0 1),oA 8 1 (lF 1 7) [0],oK 9 1 (fd 1 1),oA 10 1 (lT 3 9) [2],oA 11 1 (cl 145 [10]) [3],oA 12 1 (.build Zi [(0,1,(.t 8)),(1,3,(.t 11))]) [1,4],oN 3 (.alloc Zi),⟨none,none,1,.store 5 (.t 3) (.t 12),[6,5,4,0,1,2,3,4,5,6]⟩]) (.seq (sr [oN 13 (fd 4 1),oN 14 (lF 1 13),oN 15 (ln 14),oN 16 (.oO (cI 0))] (.block 0 (.loop (sr [oN 17 (bt .lss 16 15)] (.seq (cd 17 .skip (.exit 0)) (.seq (.block 1 (.seq (rf 1 [oK 18 1 (ix 10 14 16),oK 19 1 (lT 10 18),oN 5 (.alloc zz5),⟨none,none,1,.store 10 (.t 5) (.t 19),[]⟩]) (.seq (rt 1 [oK 20 1 (fd 0 5),oA 21 1 (lF 1 20) [0],oK 22 1 (fd 1 5),oA 23 1 (lT 3 22) [2],oA 24 1 (cl 145 [23]) [3],oK 25 1 (fd 4 5),oA 26 1 (lT 3 25) [5],oA 27 1 (cl 145 [26]) [6,4],oK 28 1 (fd 7 5),oA 29 1 (lT 3 28) [8],oA 30 1 (cl 145 [29]) [9,7],oA 31 1 (.build zz5 [(0,1,(.t 21)),(1,3,(.t 24)),(4,3,(.t 27)),(7,3,(.t 30))]) [1,4,7,10],oN 6 (.alloc zz5),⟨none,none,1,.store 10 (.t 6) (.t 31),[12,11,10,0,1,2,3,4,5,6,7,8,9,10,11,12]⟩]) (rf 2 [oK 32 2 (fd 4 3),oK 33 2 (lF 1 32),oK 34 2 (lT 10 6),oN 35 (.oI 10 zz5 1 [(0,(.t 34))]),oK 36 1 (.app 10 176 (.t 33) (.t 35)),oK 37 2 (fd 4 3),⟨none,none,2,.store 1 (.t 37) (.t 36),[]⟩])))) (rg [oN 38 (bc .add 16 1),oW 16 38]))))))) (sr [oN 39 (lT 5 3),oS (.store 5 (.t 2) (.t 39))] .ret))))⟩
structure vV (T:Tb):Prop where
 hT:T 183=some sF
 qQ:Bg T
theorem zX{T:Tb}(h:Bg T){r:R}(hl:r.sz≤1048576:=by exact qW):PO T 145 [kC r] (kC r):=by
 simp only [R.sz]at hl;refine lI (fun x d=>x == 139) h.hT ?_;simp only [Bf,Lz,St.enter,ak,aC,aQ];refine ew ?_;have O:=fun s:Store=>(@aiy 2 s).bool r.neg;refine pV (RV h.rD (l:=r.mag) (by omega)) (by (refine ew ?_;try with_reducible exact True.intro)) (by (refine ew ?_;try with_reducible exact True.intro)) ?_;intro v1 σ1 o1 g;have B1:=g.at 1 (by simp) rfl;have B0:=g.at 0 (by simp) rfl;have lq:2≤σ1.length:=g.len;have lf:=g.lf rfl;have lb:=g.lfb rfl
 replace O:=(O _).got g (by simp)
 refine NC @B0 @B1 @lq @lf @lb ?_;refine pV (RV h.rD (l:=r.den) (by omega)) (by (refine ew ?_;try with_reducible exact True.intro)) (by (refine ew ?_;try with_reducible exact True.intro)) ?_;intro v2 σ2 o2 g2
 replace B1:=(g2.old 1 (by omega)).trans B1
 have lq2:2≤σ2.length:=by have:=g2.len;omega
 have lf2:=g2.lf rfl;have lb2:=g2.lfb rfl
 replace O:=O.got g2 (by omega)
 refine CV @B1 @lq2 @lf2 @lb2 @lf @lb ?_;refine⟨by unfold vH;decide +kernel,?_⟩;refine y9 @lq2 ?_;exact(O.set (by decide)).fin
theorem RX{T:Tb}(h:EY T){x:Lk}(hl:x.sz≤1048576:=by exact qW):PO T 133 [V4 x] (V4 x):=by
 simp only [Lk.sz,R.sz]at hl;refine lI (fun x d=>x == 145) h.hT ?_;simp only [zL,Lz,St.enter,ak,aC,aQ];refine ew ?_;have O:=fun s:Store=>@aiy 2 s
 replace O:=fun s=>(O s).int .i64 x.a
 replace O:=fun s=>(O s).int .i64 x.b
 refine pV (zX h.qQ (r:=x.w) (by simp only [R.sz];omega)) (by (refine ew ?_;try with_reducible exact True.intro)) (by (refine ew ?_;try with_reducible exact True.intro)) ?_;intro r σ1 os g;have lq:2≤σ1.length:=g.len;have B0:=g.at 0 (by simp) rfl;have B1:=g.at 1 (by simp) rfl
 replace O:=(O _).got g (by simp)
 obtain⟨a0,d0,_,_,rfl,_,k1,k2⟩:=g.ow.Jy
 replace O:=O.flat rfl
 have la:=k1.leaf rfl;have ld:=k2.leaf rfl;have UY:=ah la ld;have fc:=(fun q=>wX (cs:=[.bool x.w.neg,a0,d0]) (by simp [la,ld,show ∀b,V.leaf (.bool b)=true from fun _=>rfl]) q);clear g;refine NC @B0 @B1 @lq @UY @fc ?_;refine pV (zX h.qQ (r:=x.dx) (by simp only [R.sz];omega)) (by (refine NC @B0 @B1 @lq @UY @fc ?_;try with_reducible exact True.intro)) (by (refine NC @B0 @B1 @lq @UY @fc ?_;try with_reducible exact True.intro)) ?_;intro r σ2 os g
 replace B0:=(g.old 0 (by omega)).trans B0
 replace B1:=(g.old 1 (by omega)).trans B1
 replace O:=O.got g (by omega)
 replace lq:2≤σ2.length:=by have:=g.len;omega
 obtain⟨a1,d1,_,_,rfl,_,k1,k2⟩:=g.ow.Jy
 replace O:=O.flat rfl
 have la:=k1.leaf rfl;have ld:=k2.leaf rfl
 replace UY:=ah UY (ah la ld)
 replace fc:=ah fc (fun q=>wX (cs:=[.bool x.dx.neg,a1,d1]) (by simp [la,ld,show ∀b,V.leaf (.bool b)=true from fun _=>rfl]) q)
 clear g;refine NC @B0 @B1 @lq @UY @fc ?_;refine pV (zX h.qQ (r:=x.dy) (by simp only [R.sz];omega)) (by (refine NC @B0 @B1 @lq @UY @fc ?_;try with_reducible exact True.intro)) (by (refine NC @B0 @B1 @lq @UY @fc ?_;try with_reducible exact True.intro)) ?_;intro r σ3 os g
 replace B0:=(g.old 0 (by omega)).trans B0
 replace B1:=(g.old 1 (by omega)).trans B1
 replace O:=O.got g (by omega)
 replace lq:2≤σ3.length:=by have:=g.len;omega
 obtain⟨a2,d2,_,_,rfl,_,k1,k2⟩:=g.ow.Jy
 replace O:=O.flat rfl
 have la:=k1.leaf rfl;have ld:=k2.leaf rfl
 replace UY:=ah UY (ah la ld)
 replace fc:=ah fc (fun q=>wX (cs:=[.bool x.dy.neg,a2,d2]) (by simp [la,ld,show ∀b,V.leaf (.bool b)=true from fun _=>rfl]) q)
 clear g;refine NC @B0 @B1 @lq @UY @fc ?_;refine⟨by unfold vH;decide +kernel,?_⟩;refine y9 @lq ?_;exact(O.set (by decide)).fin
theorem YA{T:Tb}(h:CX T){l:List Lk}(hl:Qn Lk.sz l≤1048576:=by exact qW):PO T 110 [oP l] (oP l):=by
 have hll:l.length≤1048576:=by unfold Qn at hl;omega
 refine lI (fun x d=>x == 133) h.hT ?_;simp only [yw,Lz,St.enter,ak,aC,aQ];refine ew ?_;refine jX (fun x d=>x == 133) (α:=Nat×Store×V×List (List V)) (fun q=>⟨lS [.any,.any,.jF,q.2.2.1,.any,.any,.any,oP l,iv (l.length:Nat),iv (q.1:Nat)],q.2.1,0,0,[],[]⟩) (fun q=>q.1≤l.length∧Grow q.2.1 q.2.2.1 11 q.2.2.2 ((l.take q.1).map Lk.cells)) (fun q=>l.length-q.1) rfl (0,[none],.jF,[]) ?_ ?_ ?_
 ·exact⟨by omega,aiz⟩
 ·(refine jS ?_;exact zV)
 rintro⟨i,s,v,A⟩ ⟨hi,hG⟩;dsimp only at hi hG;by_cases hc:(i:Int)<(l.length:Nat)
 ·have hil:i<l.length:=by omega
  have hAl:A.length=i:=by have:=hG.len;simp at this;omega
  obtain⟨x,hx⟩:∃x,l.getD i default=x:=⟨_,rfl⟩;have hts:=Wj Lk.cells l hil;have hxs:x.sz≤1048576:=by have:=aaD (f:=Lk.sz) hl (getD_mem hil);rw [hx]at this;exact this
  rw [hx]at hts;have e4:∀σ:Store,resolve σ FD (V4 x)=some (V4 x):=fun σ=>zf (J6 [x] _ (by simp));rcases hG.cases with ⟨rfl,h1,rfl⟩|⟨o,rfl,ho,hlt⟩
  ·refine Fj @hc @mg @hx ?_;refine og (RX h.Kr hxs) (by (refine y9 @e4 ?_;try with_reducible exact True.intro)) ?_;intro r σ2 os g;obtain⟨cs,rfl,k1⟩:=g.ow.kP;have gl:s.length+3≤σ2.length:=by have:=g.len;simp at this;omega
   have lf:=wX (k1.leaf rfl);have cl1:cs.length=11:=k1.len;refine Fj @lf @cl1 @gl ?_;refine⟨by omega,(i+1,(σ2.set (s.length+1) (some ⟨11,[cs]⟩)).set (s.length+1+1) (some ⟨11,[cs]⟩),.kQ (s.length+1+1) 0 1,[cs]),by dsimp only;omega,⟨by dsimp only;omega,?_⟩,by (refine jS ?_;exact zV)⟩;dsimp only;rw [hts];exact hG.azB (fun q hq=>by simp only [bT];exact kY hq) (by simp) g (by omega) (by simp) (by omega) (by simp) (by omega)
  refine NC @hc @mg @hx @ho @hlt ?_;refine og (RX h.Kr hxs) (by (refine y9 @e4 ?_;try with_reducible exact True.intro)) ?_;intro r σ2 os g;obtain⟨cs,rfl,k1⟩:=g.ow.kP;have gl:s.length+3≤σ2.length:=by have:=g.len;simp at this;omega
  have lf:=wX (k1.leaf rfl);have cl1:cs.length=11:=k1.len;have ho2:=(g.old o (by simp;omega)).trans ((by simp only [bT];exact kY hlt:_=iZ s o).trans ho);refine NC @lf @cl1 @gl @ho2 @hlt ?_;refine⟨by omega,(i+1,((σ2.set (s.length+1) (some ⟨11,[cs]⟩)).set o none).set (s.length+1+1) (some ⟨11,A++[cs]⟩),.kQ (s.length+1+1) 0 (A.length+1),A++[cs]),by dsimp only;omega,⟨by dsimp only;omega,?_⟩,by (refine jS ?_;exact zV)⟩;dsimp only;rw [hts];exact hG.azC (fun q hq=>by simp only [bT];exact kY hq) (by simp) g (by omega) (by simp) (by omega) (by simp) (by omega)
 have ei:i=l.length:=by omega
 subst ei;rw [bM]at hG;rcases hG.cases with ⟨rfl,h1,rfl⟩|⟨o,rfl,ho,hlt⟩
 ·refine y9 @hc ?_;exact hG.fin
 refine y9 @hc ?_;exact hG.fin
def uN:Fn:=⟨2,12,[.cell 4 3 true],(.seq (rf 3 [oN 2 (.box (.t 0)),oK 3 1 (.box (.t 1)),oK 4 2 (.alloc vN)]) (.seq (rt 0 [oN 5 (lT 3 2),oN 6 (lT 3 2),oA 7 0 (cl 157 [5,6]) [0,1],oN 8 (lT 3 3),oN 9 (lT 3 3),oA 10 0 (cl 157 [8,9]) [3,4,2],oA 11 0 (cl 131 [7,10]) [2,5,5],⟨none,none,0,.store 3 (.t 4) (.t 11),[6,6,0,1,2,3,4,5,6]⟩]) .ret))⟩
structure uO (T:Tb):Prop where
 hT:T 158=some uN
 kE:lN T
 lQ:pF T
def tY:Fn:=⟨1,11,[.tmp 2],(.seq (rf 1 [oN 1 (.box (.t 0)),oK 2 1 mF]) (sr [oN 3 (fd 0 1),oN 4 (lT 3 3),oN 5 (cl 102 [4]),oW 6 5,oG 6 true 7 (fd 3 1),oG 6 true 8 (lT 3 7),oG 6 true 9 (cl 102 [8]),oN 10 (.pick (.t 6) (.t 9) (.c (.bool false))),oW 2 10] .ret))⟩
structure Bh (T:Tb):Prop where
 hT:T 192=some tY
 lM:sD T
def pO:Fn:=⟨3,45,[.cell 6 3 true],(.seq (rf 4 [oN 3 (.box (.t 0)),oK 4 1 (.box (.t 1)),oK 5 2 (.box (.t 2)),oK 6 3 (.alloc vN)]) (.seq (sr [oN 9 (lT 11 3),oN 10 (cl 84 [9]),oN 11 (nt 10),oW 12 11,oG 12 false 13 (lT 6 4),oG 12 false 14 (cl 192 [13]),oG 12 false 15 (nt 14),oN 16 (.pick (.t 12) (.c (.bool true)) (.t 15)),oW 17 16,oG 17 false 18 (lT 6 5),oG 17 false 19 (cl 192 [18]),oG 17 false 20 (nt 19),oN 21 (.pick (.t 17) (.c (.bool true)) (.t 20))] (cd 21 (sr [oN 22 (.build vN []),oS (.store 3 (.t 6) (.t 22))] .ret) .skip)) (.seq (rt 1 [oK 23 1 (fd 0 5),oA 24 1 (lT 3 23) [0],oK 25 1 (fd 0 4),oA 26 1 (lT 3 25) [2],oA 27 1 (cl 159 [24,26]) [1,3],oK 28 1 (fd 5 3),oA 29 1 (lT 3 28) [5],oA 30 1 (cl 159 [27,29]) [4,6,4],oN 7 (.alloc vN),⟨none,none,1,.store 3 (.t 7) (.t 30),[8,7,7,0,1,2,3,4,5,6,7,8]⟩]) (.seq (rt 1 [oK 31 1 (fd 3 5),oA 32 1 (lT 3 31) [0],oK 33 1 (fd 3 4),oA 34 1 (lT 3 33) [2],oA 35 1 (cl 159 [32,34]) [1,3],oK 36 1 (fd 8 3),oA 37 1 (lT 3 36) [5],oA 38 1 (cl 159 [35,37]) [4,6,4],oN 8 (.alloc vN),⟨none,none,1,.store 3 (.t 8) (.t 38),[8,7,7,0,1,2,3,4,5,6,7,8]⟩]) (.seq (rt 0 [oN 39 (fd 2 3),oA 40 0 (lT 3 39) [0],oN 41 (lT 3 7),oN 42 (lT 3 8),oA 43 0 (cl 158 [41,42]) [2,3],oA 44 0 (cl 157 [40,43]) [1,4,4],⟨none,none,0,.store 3 (.t 6) (.t 44),[5,5,0,1,2,3,4,5]⟩]) .ret)))))⟩
structure Bj (T:Tb):Prop where
 hT:T 187=some pO
 oZ:qw T
 lQ:pF T
 yK:uO T
 pG:wR T
 Ho:Bh T
def oh:Fn:=⟨5,59,[.cell 10 11 true,.tmp 11],(.seq (rf 1 [oN 10 (.alloc J7),oK 11 1 mF]) (.seq (sr [oW 12 0,oN 13 (cl 34 [12]),oN 14 (nt 13),oW 15 14,oG 15 false 16 (oV 1),oG 15 false 17 (cl 34 [16]),oG 15 false 18 (nt 17),oN 19 (.pick (.t 15) (.c (.bool true)) (.t 18)),oW 20 19,oG 20 false 21 (oV 0),oG 20 false 22 (oV 1),oG 20 false 23 (bt .eql 21 22),oN 24 (.pick (.t 20) (.c (.bool true)) (.t 23)),oW 25 24,oG 25 false 26 (oV 2),oG 25 false 27 (.call 35 [(.t 26),(cI 1),(cI 9999)]),oG 25 false 28 (nt 27),oN 29 (.pick (.t 25) (.c (.bool true)) (.t 28)),oW 30 29,oG 30 false 31 (oV 3),oG 30 false 32 (.call 35 [(.t 31),(cI (-1000000)),(cI 1000000)]),oG 30 false 33 (nt 32),oN 34 (.pick (.t 30) (.c (.bool true)) (.t 33)),oW 35 34,oG 35 false 36 (oV 4),oG 35 false 37 (.call 35 [(.t 36),(cI (-1000000)),(cI 1000000)]),oG 35 false 38 (nt 37),oN 39 (.pick (.t 35) (.c (.bool true)) (.t 38))] (cd 39 (sr [oN 40 (.build J7 []),oS (.store 11 (.t 10) (.t 40)),oN 11 mF] .ret) .skip)) (.seq (sr [oW 41 0,oW 42 1,oN 43 (bt .gtr 41 42)] (cd 43 (rg [oW 44 1,oW 45 0,oW 46 3,oN 47 (.un .neg (.t 46)),oW 48 4,oN 49 (.un .neg (.t 48)),oW 0 44,oW 1 45,oW 3 47,oW 4 49]) .skip)) (sr [oW 50 0,oW 51 1,oW 52 2,oN 53 (cl 36 [52]),oW 54 3,oN 55 (cl 36 [54]),oW 56 4,oN 57 (cl 36 [56]),oN 58 (.build J7 [(0,1,(.t 50)),(1,1,(.t 51)),(2,3,(.t 53)),(5,3,(.t 55)),(8,3,(.t 57))]),oS (.store 11 (.t 10) (.t 58)),oN 11 mT] .ret))))⟩
structure Bl (T:Tb):Prop where
 hT:T 14=some oh
 Lu:Gt T
 vO:AP T
 qZ:Ba T
theorem PE{r:R}(h:0<yJ r):r.ok=true:=by
 rw [uq];intro e;unfold yJ at h;rw [e]at h;simp [AB]at h
def inB(a lo hi:Int):Bool:=decide (lo≤a)&&decide (a≤hi)
def KD(c:Cd)(i:Nat):Bool :=
 inB (c.ps.getD i default).node 0 9 && !decide ((c.ps.getD i default).node=c.node)&&(decide (i=0)||decide ((c.ps.getD (i-1) default).node<(c.ps.getD i default).node)) &&
  decide (0<yJ (c.ps.getD i default).share)&&(c.ps.getD i default).dx.ok&&(c.ps.getD i default).dy.ok
def JA(l:List Pa)(n:Nat):R:=(l.take n).foldl (fun s p=>mG s p.share) (ku 0)
theorem YB(l:List Pa):JA l 0=ku 0:=by simp [JA]
theorem YC(l:List Pa){i:Nat}(h:i<l.length):JA l (i+1)=mG (JA l i) (l.getD i default).share:=by
 unfold JA;rw [iM,au h,aj,au h];simp only [Option.toList,Option.getD,List.foldl_append,fJ,iD]
theorem aaE{α:Type}{f:α→R}:∀(l:List α) (a:R),a.cn→(l.foldl (fun s p=>mG s (f p)) a).cn
 | [],_,h=>h
 |_::l,_,_=>aaE l _ (uM _ _)
theorem PG(l:List Pa)(i:Nat):(JA l i).cn:=aaE _ _ (vS (by decide))
def amX(c:Cd):Prop:=∀i,i<c.ps.length→KD c i=true
instance (c:Cd):Decidable (amX c):=inferInstanceAs (Decidable (∀i,i<c.ps.length→KD c i=true))
def uw(c:Cd):Bool:=decide (amX c)&&inB c.node 1 9&&decide (0<yJ c.total) && !c.ps.isEmpty&&decide (JA c.ps c.ps.length=ku 1)
theorem JB{c:Cd}{i:Nat}(hi:i<c.ps.length)(h:KD c i=false):uw c=false:=by
 unfold uw;rw [decide_eq_false (fun k=>by rw [k i hi]at h;cases h)];rfl
theorem aiF{c:Cd}(h:amX c):uw c=(inB c.node 1 9&&decide (0<yJ c.total) && !c.ps.isEmpty&&decide (JA c.ps c.ps.length=ku 1)):=by
 unfold uw;rw [decide_eq_true h,cO]
def sqR(x y:R):R:=mG (mulR x x) (mulR y y)
theorem aiG(x y:R):(sqR x y).cn:=uM _ _
theorem LC{T:Tb}(h:uO T){x y:R}(hx:x.cn:=by exact Lj)(hy:y.cn:=by exact Lj):PF T 158 [kC x,kC y] (kC (sqR x y)):=by
 refine jZ nR h.hT ?_;simp only [uN,Lz];refine ev ?_;refine jl (wW h.lQ hx hx) ?_;refine ev ?_;refine jl (wW h.lQ hy hy) ?_;refine ev ?_;refine jl (Ak h.kE) ?_;refine ev ?_;refine⟨by unfold vH;decide +kernel,?_⟩;exact jP _
def Ij(l:Lk)(p q:Pt):R:=if nD l=true then mulR l.w (sqR (vI (vI q.x p.x) l.dx) (vI (vI q.y p.y) l.dy))else R0
theorem aee(l:Lk)(p q:Pt):(Ij l p q).cn:=by unfold Ij;split;exact Px _ _;exact SI
theorem amY{r s:R}(h:r.q=none):(mG r s).q=none:=by rw [Ig,h,RN]
theorem amZ{r s:R}(h:s.q=none):(mG r s).q=none:=by rw [Ig,h,RP]
theorem MO{r s:R}(h:r.q=none):(vI r s).q=none:=by rw [Oh,h,aao]
theorem aef{r s:R}(h:s.q=none):(vI r s).q=none:=by rw [Oh,h,RS]
theorem aeg{r s:R}(h:r.q=none):(mulR r s).q=none:=by rw [Oi,h,aam]
theorem am0{r s:R}(h:s.q=none):(mulR r s).q=none:=by rw [Oi,h,RQ]
theorem aiH{r s:R}(h:r.q=none):(sqR r s).q=none:=amY (aeg h)
theorem aiI{r s:R}(h:s.q=none):(sqR r s).q=none:=amZ (aeg h)
theorem aaF{l:Lk}{p q:Pt}(h:p.x.ok=false∨p.y.ok=false∨q.x.ok=false∨q.y.ok=false):Ij l p q=R0:=by
 refine Yp (aee l p q) ?_;unfold Ij;split
 ·refine am0 ?_;rcases h with h|h|h|h
  ·exact aiH (MO (aef (DZ.1 h)))
  ·exact aiI (MO (aef (DZ.1 h)))
  ·exact aiH (MO (MO (DZ.1 h)))
  exact aiI (MO (MO (DZ.1 h)))
 exact q_0
theorem zM{l:Lk}(h:nD l=true):l.w.ok=true∧l.dx.ok=true∧l.dy.ok=true∧0<yJ l.w:=by
 unfold nD at h;simp only [aG,decide_eq_true_eq]at h;exact⟨PE h.1.1.2,h.1.2,h.2,h.1.1.2⟩
theorem JC{l:Lk}(h:nD l=true):l.w.cn∧l.dx.cn∧l.dy.cn:=by
 obtain⟨a,b,c,_⟩:=zM h;exact⟨tV a,tV b,tV c⟩
theorem wfA{r:R}(h:r.wf:=by
 first|with_reducible assumption|exact rP Lj):r.wf:=h
theorem PI{T:Tb}(h:Bh T){p:Pt}(hp:p.wf:=by exact wfA):PF T 192 [ptV p] (.bool (p.x.ok&&p.y.ok)):=by
 obtain⟨p1,p2⟩:=hp;have c1:=zD h.lM p1;have c2:=zD h.lM p2
 cases h1:p.x.ok
 ·rw [h1]at c1;refine kR nR h.hT ?_;simp only [tY,Lz];refine ev ?_;refine jl c1 ?_
  (refine ev ?_;try with_reducible exact True.intro)
 rw [h1]at c1;refine kR nR h.hT ?_;simp only [tY,Lz];refine ev ?_;refine jl c1 ?_;refine ev ?_;refine jl c2 ?_
 (refine ev ?_;try with_reducible exact True.intro)
theorem U0{T:Tb}(h:Bj T){l:Lk}{p q:Pt}(hl:l.wf:=by exact wfA)(hp:p.wf:=by exact wfA)(hq:q.wf:=by exact wfA):PO T 187 [V4 l,ptV p,ptV q] (kC (Ij l p q)):=by
 have ci:=AZ h.oZ hl;have cp:=PI h.Ho hp;have cq:=PI h.Ho hq
 cases hb:nD l
 ·rw [hb]at ci;have e:Ij l p q=R0:=by unfold Ij;rw [hb];rfl
  rw [e];refine lI (fun x d=>(x == 157&&d == 44)) h.hT ?_;simp only [pO,Lz,St.enter,ak,aC,aQ];refine ew ?_;refine jl ci ?_;refine ew ?_;exact EW
 rw [hb]at ci
 cases hbp:(p.x.ok&&p.y.ok)
 ·rw [hbp]at cp;rw [aaF (by rw [iQ]at hbp;rcases hbp with h|h;exact .inl h;exact .inr (.inl h))];refine lI (fun x d=>(x == 157&&d == 44)) h.hT ?_;simp only [pO,Lz,St.enter,ak,aC,aQ];refine ew ?_;refine jl ci ?_;refine ew ?_;refine jl cp ?_;refine ew ?_;exact EW
 rw [hbp]at cp
 cases hbq:(q.x.ok&&q.y.ok)
 ·rw [hbq]at cq;rw [aaF (by rw [iQ]at hbq;rcases hbq with h|h;exact .inr (.inr (.inl h));exact .inr (.inr (.inr h)))];refine lI (fun x d=>(x == 157&&d == 44)) h.hT ?_;simp only [pO,Lz,St.enter,ak,aC,aQ];refine ew ?_;refine jl ci ?_;refine ew ?_;refine jl cp ?_;refine ew ?_;refine jl cq ?_;refine ew ?_;exact EW
 rw [hbq]at cq;simp only [aG]at hbp hbq;have hlk:=JC hb;have p1:=tV hbp.1;have p2:=tV hbp.2;have q1:=tV hbq.1;have q2:=tV hbq.2;obtain⟨w1,w2,w3⟩:=hlk;have e:Ij l p q=mulR l.w (sqR (vI (vI q.x p.x) l.dx) (vI (vI q.y p.y) l.dy)):=by unfold Ij;rw [hb];rfl
 rw [e];refine lI (fun x d=>(x == 157&&d == 44)) h.hT ?_;simp only [pO,Lz,St.enter,ak,aC,aQ];refine ew ?_;refine jl ci ?_;refine ew ?_;refine jl cp ?_;refine ew ?_;refine jl cq ?_;refine ew ?_;refine jl (Ap h.pG q1 p1) ?_;refine ew ?_;refine jl (Ap h.pG Lj w2) ?_;refine ew ?_;refine⟨by unfold vH;decide +kernel,?_⟩;refine ew ?_;refine jl (Ap h.pG q2 p2) ?_;refine ew ?_;refine jl (Ap h.pG Lj w3) ?_;refine ew ?_;refine⟨by unfold vH;decide +kernel,?_⟩;refine ew ?_;refine jl (LC h.yK Lj Lj) ?_;refine ew ?_;refine pV (UZ h.lQ (r:=l.w) (s:=sqR (vI (vI q.x p.x) l.dx) (vI (vI q.y p.y) l.dy)) w1 (aiG _ _)) (by (refine ew ?_;try with_reducible exact True.intro)) (by (refine ew ?_;try with_reducible exact True.intro)) ?_;intro v q1 os g;have g0:=g;obtain⟨a0,d0,_,_,rfl,_,k1,k2⟩:=g.ow.Jy;have B3:=g0.at 3 (by simp) rfl;have lq:4≤q1.length:=by have:=g0.len;simp at this;omega
 have la:=k1.leaf rfl;have ld:=k2.leaf rfl;have UY:=ah la ld;have fc:=fun b k=>wX (cs:=[.bool b,a0,d0]) (by simp [la,ld,show ∀b,V.leaf (.bool b)=true from fun _=>rfl]) k;refine IX @B3 @lq @UY @fc ?_;refine⟨by unfold vH;decide +kernel,?_⟩;refine IX @B3 @lq @UY @fc ?_;exact g0.Yx (by simp)
def qA:Fn:=⟨2,24,[.tmp 4],(.seq (rf 2 [oN 2 (.box (.t 0)),oK 3 1 (.box (.t 1)),oK 4 2 mF]) (sr [oN 5 (fd 0 2),oN 6 (lF 1 5),oN 7 (fd 0 3),oN 8 (lF 1 7),oN 9 (bt .lss 6 8),oW 10 9,oG 10 false 11 (fd 0 2),oG 10 false 12 (lF 1 11),oG 10 false 13 (fd 0 3),oG 10 false 14 (lF 1 13),oG 10 false 15 (bt .eql 12 14),oG 10 false 16 (oV 15),oG 16 true 17 (fd 1 2),oG 16 true 18 (lF 1 17),oG 16 true 19 (fd 1 3),oG 16 true 20 (lF 1 19),oG 16 true 21 (bt .lss 18 20),oG 10 false 22 (.pick (.t 16) (.t 21) (.c (.bool false))),oN 23 (.pick (.t 10) (.c (.bool true)) (.t 22)),oW 4 23] .ret))⟩
structure vZ (T:Tb):Prop where
 hT:T 111=some qA
def yx:Fn:=⟨1,30,[.tmp 2],(sr [oN 2 mF] (.seq (sr [oW 5 0,oN 6 (ln 5),oN 7 (.oO (cI 0))] (.block 0 (.loop (sr [oN 8 (bt .lss 7 6)] (.seq (cd 8 .skip (.exit 0)) (.seq (.block 1 (.seq (rf 1 [oK 9 1 (oV 7),oK 10 1 (ix 11 5 7),oK 11 1 (lT 11 10),oN 4 (.alloc J7),oK 3 1 (oV 9),⟨none,none,1,.store 11 (.t 4) (.t 11),[]⟩]) (.seq (rt 0 [oN 12 (lT 11 4),oA 13 0 (cl 84 [12]) [0],oA 14 0 (nt 13) [1],oA 15 0 (oV 14) [2,1],oH 15 false 16 0 (oV 3) [3],oH 15 false 17 0 (bc .gtr 16 0) [4,3],oH 15 false 18 0 (oV 17) [5,3,3],oH 18 true 19 0 (oV 0) [6],oH 18 true 20 0 (oV 3) [6],oH 18 true 21 0 (bc .sub 20 1) [8,6],oH 18 true 22 0 (ix 11 19 21) [7,9,6],oH 18 true 23 0 (lT 11 22) [10,6],oH 18 true 24 0 (lT 11 4) [6],oH 18 true 25 0 (cl 111 [23,24]) [11,12,6,6],oH 18 true 26 0 (nt 25) [13,6],oH 15 false 27 0 (.pick (.t 18) (.t 26) (.c (.bool false))) [6,14,3],oA 28 0 (.pick (.t 15) (.c (.bool true)) (.t 27)) [3,15]]) (cd 28 (sr [oN 2 mF] .ret) .skip)))) (rg [oN 29 (bc .add 7 1),oW 7 29]))))))) (sr [oN 2 mT] .ret)))⟩
structure yA (T:Tb):Prop where
 hT:T 89=some yx
 oZ:qw T
 wu:vZ T
def kM(k l:Lk):Bool:=decide (k.a<l.a)||(decide (k.a=l.a)&&decide (k.b<l.b))
theorem Ik{T:Tb}(h:vZ T){k l:Lk}:PF T 111 [V4 k,V4 l] (.bool (kM k l)):=by
 unfold kM;by_cases h1:k.a<l.a
 ·simp only [h1,decide_true,fC];refine kR nR h.hT ?_;simp only [qA,Lz];refine ev ?_
  (refine ev1 @h1 ?_;try with_reducible exact True.intro)
 by_cases h2:k.a=l.a
 ·simp only [h2,Int.lt_irrefl,decide_true,decide_false,cO,dW];refine kR nR h.hT ?_;simp only [qA,Lz];refine ev ?_
  (refine vM @h2 @Int.lt_irrefl ?_;try with_reducible exact True.intro)
 simp only [h1,h2,decide_false,dM,dW];refine kR nR h.hT ?_;simp only [qA,Lz];refine ev ?_
 (refine vM @h1 @h2 ?_;try with_reducible exact True.intro)
def allB(n:Nat)(p:Nat→Bool):Bool:=decide (∀i,i<n→p i=true)
theorem aiJ{n:Nat}{p:Nat→Bool}(h:∀i,i<n→p i=true):allB n p=true:=decide_eq_true h
theorem aiK{n:Nat}{p:Nat→Bool}{i:Nat}(hi:i<n)(h:p i=false):allB n p=false:=decide_eq_false fun k=>by rw [k i hi]at h;cases h
theorem aaG{n:Nat}{p:Nat→Bool}:allB n p=true↔∀i,i<n→p i=true:=by simp [allB]
def PK(l:List Lk)(i:Nat):Bool:=nD (l.getD i default)&&(decide (i=0)||kM (l.getD (i-1) default) (l.getD i default))
def kN(l:List Lk):Bool:=allB l.length (PK l)
theorem PL{T:Tb}(h:yA T){l:List Lk}(hw:IQ Lk.wf l:=by exact qW):PF T 89 [oP l] (.bool (kN l)):=by
 have hlen:=hw.1;refine kR nR h.hT ?_;simp only [yx,Lz];refine ev ?_;refine jX (fun _ _=>false) (α:=Nat) (fun i=>⟨lS [oP l,.any,.bool false,.any,.any,oP l,iv (l.length:Nat),iv (i:Nat)],[],0,0,[],[]⟩) (fun i=>i≤l.length∧∀j,j<i→PK l j=true) (fun i=>l.length-i) rfl 0 ?_ ?_ ?_
 ·exact⟨by omega,by intro j hj;omega⟩
 ·exact Oa
 rintro i ⟨hi,hj⟩;refine ev ?_;refine jW (fun hc=>?_) fun hc=>?_<;>(refine vM @hc @mg ?_;try with_reducible exact True.intro)
 ·have hil:i<l.length:=by omega
  have cv:=AZ h.oZ (l:=l.getD i default) (hw.at_ hil);have cb:=Ik h.wu (k:=l.getD (i-1) default) (l:=l.getD i default)
  cases hv:nD (l.getD i default)
  ·rw [hv]at cv;refine jl cv ?_;refine ev ?_;have:kN l=false:=aiK hil (by simp only [PK,hv,dM]);rw [this]
  rw [hv]at cv;refine jl cv ?_;by_cases h0:i=0
  ·have h0':¬(0:Int)<(i:Nat):=by omega
   refine ev1 @h0' ?_;refine⟨i+1,by omega,⟨by omega,fun j hj'=>?_⟩,by exact Oa⟩;have:j=i:=by omega
   subst this;unfold PK;rw [hv,decide_eq_true h0];rfl
  have h0':(0:Int)<(i:Nat):=by omega
  have e1:((i:Int)-1).toNat=i-1:=by omega
  cases hb:kM (l.getD (i-1) default) (l.getD i default)
  ·rw [hb]at cb;refine Gp @h0' @mg @e1 ?_;refine jl cb ?_;refine ev ?_;have:kN l=false:=aiK hil (by simp only [PK,hv,hb,h0,decide_false,Bool.or_self,Bool.and_false]);rw [this]
  rw [hb]at cb;refine Gp @h0' @mg @e1 ?_;refine jl cb ?_;refine ev ?_;refine⟨i+1,by omega,⟨by omega,fun j hj'=>?_⟩,by exact Oa⟩;by_cases e:j=i
  ·subst e;simp only [PK,hv,hb,Bool.or_true,Bool.and_self]
  exact hj j (by omega)
 have:kN l=true:=aiJ fun j hj'=>hj j (by omega);rw [this]
end Go.Ml
end
