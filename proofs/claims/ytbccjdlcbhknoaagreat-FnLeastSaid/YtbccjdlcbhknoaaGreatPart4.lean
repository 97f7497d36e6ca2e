/- Contracts of functions. -/
import Derived.Test.YtbccjdlcbhknoaaGreatPart3
set_option linter.unusedSimpArgs false
set_option linter.unusedVariables false
set_option maxRecDepth 100000
set_option maxHeartbeats 16000000
section
namespace Go.Ml
def yE:Fn:=⟨0,4,[.cell 0 6 true],(.seq (rf 1 [oN 0 (.alloc zz6)]) (sr [oN 1 (.call 39 [(cI 0)]),oN 2 (.call 39 [(cI 0)]),oN 3 (.build zz6 [(0,3,(.t 1)),(3,3,(.t 2))]),oS (.store 6 (.t 0) (.t 3))] .ret))⟩
structure yF (T:Tb):Prop where
 hT:T 186=some yE
 kJ:mO T
def pq:Fn:=⟨2,72,[.cell 4 6 true,.tmp 5],(.seq (rf 2 [oN 2 (.box (.t 0)),oK 4 1 (.alloc zz6),oK 5 2 mF]) (.seq (sr [oN 9 (lT 5 2),oN 10 (cl 185 [9]),oN 11 (nt 10)] (cd 11 (sr [oN 12 (.build zz6 []),oS (.store 6 (.t 4) (.t 12)),oN 5 mF] .ret) .skip)) (.seq (rf 1 [oK 13 1 (.call 186 []),oN 6 (.alloc zz6),⟨none,none,1,.store 6 (.t 6) (.t 13),[]⟩]) (.seq (sr [oN 14 (fd 4 2),oN 15 (lF 1 14),oN 16 (ln 15),oN 17 (.oO (cI 0))] (.block 0 (.loop (sr [oN 18 (bt .lss 17 16)] (.seq (cd 18 .skip (.exit 0)) (.seq (.block 1 (.seq (rf 1 [oK 19 1 (ix 10 15 17),oK 20 1 (lT 10 19),oN 8 (.alloc zz5),⟨none,none,1,.store 10 (.t 8) (.t 20),[]⟩]) (.seq (sr [oN 21 (fd 0 8),oN 22 (lF 1 21),oW 23 1,oN 24 (ln 23),oN 25 (bt .geq 22 24)] (cd 25 (sr [oN 26 (.build zz6 []),oS (.store 6 (.t 4) (.t 26)),oN 5 mF] .ret) .skip)) (.seq (rt 0 [oN 27 (fd 0 6),oA 28 0 (lT 3 27) [0],oN 29 (fd 1 8),oA 30 0 (lT 3 29) [2],oW 31 1,oN 32 (fd 0 8),oA 33 0 (lF 1 32) [5],oA 34 0 (ix 6 31 33) [4,6],oA 35 0 (fd 0 34) [7],oA 36 0 (lT 3 35) [8],oN 37 (fd 4 8),oA 38 0 (lT 3 37) [10],oA 39 0 (cl 178 [36,38]) [9,11],oA 40 0 (cl 157 [30,39]) [3,12,12],oA 41 0 (cl 131 [28,40]) [1,13,13],oA 42 0 (fd 0 6) [0,1,2,3,4,5,6,7,8,9,10,11,12,13,14],⟨none,none,0,.store 3 (.t 42) (.t 41),[15,14,14,0,1,2,3,4,5,6,7,8,9,10,11,12,13,14]⟩]) (rt 0 [oN 43 (fd 3 6),oA 44 0 (lT 3 43) [0],oN 45 (fd 1 8),oA 46 0 (lT 3 45) [2],oW 47 1,oN 48 (fd 0 8),oA 49 0 (lF 1 48) [5],oA 50 0 (ix 6 47 49) [4,6],oA 51 0 (fd 3 50) [7],oA 52 0 (lT 3 51) [8],oN 53 (fd 7 8),oA 54 0 (lT 3 53) [10],oA 55 0 (cl 178 [52,54]) [9,11],oA 56 0 (cl 157 [46,55]) [3,12,12],oA 57 0 (cl 131 [44,56]) [1,13,13],oA 58 0 (fd 3 6) [0,1,2,3,4,5,6,7,8,9,10,11,12,13,14],⟨none,none,0,.store 3 (.t 58) (.t 57),[15,14,14,0,1,2,3,4,5,6,7,8,9,10,11,12,13,14]⟩]))))) (rg [oN 59 (bc .add 17 1),oW 17 59]))))))) (.seq (sr [oN 60 (fd 0 6),oN 61 (lT 3 60),oN 62 (cl 132 [61]),oN 63 (nt 62),oW 64 63,oG 64 false 65 (fd 3 6),oG 64 false 66 (lT 3 65),oG 64 false 67 (cl 132 [66]),oG 64 false 68 (nt 67),oN 69 (.pick (.t 64) (.c (.bool true)) (.t 68))] (cd 69 (sr [oN 70 (.build zz6 []),oS (.store 6 (.t 4) (.t 70)),oN 5 mF] .ret) .skip)) (sr [oN 71 (lT 6 6),oS (.store 6 (.t 4) (.t 71)),oN 5 mT] .ret))))))⟩
structure vk (T:Tb):Prop where
 hT:T 176=some pq
 kE:lN T
 jQ:l7 T
 lQ:pF T
 Em:D8 T
 mQ:oD T
 Di:yF T
def acT(p:Pa)(x d:R):R:=mulR p.share (mG x d)
def JO(c:Cd)(at':List Pt):Nat→R
 |0=>ku 0
 |k+1=>mG (JO c at' k) (acT (c.ps.getD k default) (at'.getD (c.ps.getD k default).node.toNat default).x (c.ps.getD k default).dx)
def TJ(c:Cd)(at':List Pt):Nat→R
 |0=>ku 0
 |k+1=>mG (TJ c at' k) (acT (c.ps.getD k default) (at'.getD (c.ps.getD k default).node.toNat default).y (c.ps.getD k default).dy)
def acG(c:Cd)(n:Nat):Bool:=c.ps.all fun p=>decide (p.node<n)
def GZ(c:Cd)(at':List Pt):Bool:=uw c&&(acG c at'.length&&((JO c at' c.ps.length).ok&&(TJ c at' c.ps.length).ok))
def XH(c:Cd)(at':List Pt):Pt:=if GZ c at'=true then⟨JO c at' c.ps.length,TJ c at' c.ps.length⟩else⟨R0,R0⟩
theorem aju(c:Cd)(at':List Pt):∀k,(JO c at' k).cn
 |0=>vS (by decide)
 |k+1=>uM _ _
theorem ajv(c:Cd)(at':List Pt):∀k,(TJ c at' k).cn
 |0=>vS (by decide)
 |k+1=>uM _ _
theorem ajw(p:Pa)(x d:R):(acT p x d).cn:=Px _ _
theorem aq3(c:Cd)(at':List Pt):(XH c at').x.cn∧(XH c at').y.cn:=by
 unfold XH;split
 ·exact⟨aju _ _ _,ajv _ _ _⟩
 exact⟨SI,SI⟩
theorem anp{c:Cd}{n k:Nat}(hk:k<c.ps.length)(h:¬(c.ps.getD k default).node<n):acG c n=false:=by
 unfold acG;rw [jf];refine⟨c.ps.getD k default,?_,by simpa using h⟩;rw [aj,au hk];exact fD hk
theorem aa0{c:Cd}{n:Nat}(h:∀k,k<c.ps.length→(c.ps.getD k default).node<n):acG c n=true:=by
 unfold acG;rw [aT];intro x hx;obtain⟨k,hk⟩:=bD.1 hx;have:=h k (aN.1 hk).1;rw [aj,hk]at this;exact decide_eq_true this
theorem ajx{c:Cd}{at':List Pt}(h:GZ c at'=false):XH c at'=⟨R0,R0⟩:=by
 unfold XH;rw [h];rfl
theorem anq{c:Cd}(h:uw c=true){k:Nat}(hk:k<c.ps.length):0≤(c.ps.getD k default).node∧(c.ps.getD k default).share.ok=true:=by
 unfold uw at h;simp only [aG,decide_eq_true_eq]at h;have:=h.1.1.1.1 k hk;unfold KD inB at this;simp only [aG,decide_eq_true_eq]at this;exact⟨this.1.1.1.1.1.1,PE this.1.1.2⟩
theorem anr{n d:Int}(hn : -10≤n∧n≤10)(hd:1≤d∧d≤3):(KF n d).cn:=tV (ajk hn hd).ok
def H2(a:Rat)(P N:Nat):Prop:=a.num.natAbs≤P∧a.den≤N
theorem JQ{n:Int}{d P N:Nat}(h:d≠0)(h1:n.natAbs≤P)(h2:d≤N):H2 (Rat.normalize n d h) P N:=by
 rw [Rat.normalize_eq];refine⟨?_,bV (Nat.div_le_self _ _) h2⟩;show (n / (n.natAbs.gcd d:Nat)).natAbs≤P;refine bV ?_ h1;have hd:((n.natAbs.gcd d:Nat):Int)∣n:=Int.ofNat_dvd_left.2 (Nat.gcd_dvd_left _ _);rw [Int.natAbs_ediv_of_dvd hd];exact Nat.div_le_self _ _
theorem aq4{a b:Rat}{P Q M N:Nat}(ha:H2 a P N)(hb:H2 b Q M):H2 (a*b) (P*Q) (N*M):=by
 rw [Rat.mul_def];refine JQ _ ?_ (fV ha.2 hb.2);rw [iE];exact fV ha.1 hb.1
theorem ajy{a b:Rat}{P Q M N:Nat}(ha:H2 a P N)(hb:H2 b Q M):H2 (a+b) (P*M+Q*N) (N*M):=by
 rw [Rat.add_def];have h1:(a.num*(b.den:Int)).natAbs≤P*M:=by
  rw [iE,bW];exact fV ha.1 hb.2
 have h2:(b.num*(a.den:Int)).natAbs≤Q*N:=by
  rw [iE,bW];exact fV hb.1 ha.2
 refine JQ _ ?_ (fV ha.2 hb.2);have:=Int.natAbs_add_le (a.num*(b.den:Int)) (b.num*(a.den:Int));omega
theorem ajz{a:Rat}{P N:Nat}(h:H2 a P N):H2 (-a) P N:=by
 unfold H2;rw [Rat.neg_num,Rat.neg_den,Int.natAbs_neg];exact h
theorem aq5{a b:Rat}{P Q M N:Nat}(ha:H2 a P N)(hb:H2 b Q M):H2 (a-b) (P*M+Q*N) (N*M):=by
 rw [Rat.sub_eq_add_neg];exact ajy ha (ajz hb)
theorem ant{p n:Int}{P N:Nat}(hp:p.natAbs≤P)(hn:1≤n)(h:n≤N):H2 ((p:Rat) / (n:Rat)) P N:=by
 obtain⟨e,rfl⟩:∃e:Nat,n=(e:Int):=⟨n.toNat,by omega⟩;rw [←Rat.divInt_eq_div];show H2 (mkRat p e) P N;unfold mkRat
 rw [dif_neg (by omega)];exact JQ _ hp (by omega)
theorem TK{a:Rat}{P N:Nat}(h:H2 a P N)(hP:P<1000000000 ^ 24)(hN:N<1000000000 ^ 24):fits a=true:=by
 unfold fits;rw [decide_eq_true (dZ h.1 hP),decide_eq_true (dZ h.2 hN)];rfl
theorem H2.mono{a:Rat}{P N P' N':Nat}(h:H2 a P N)(hP:P≤P')(hN:N≤N'):H2 a P' N':=⟨bV h.1 hP,bV h.2 hN⟩
def Ft(P N:Nat):Bool:=decide (P<1000000000 ^ 24)&&decide (N<1000000000 ^ 24)
theorem YS{P N:Nat}(h:Ft P N=true):P<1000000000 ^ 24∧N<1000000000 ^ 24:=by
 unfold Ft at h;simp only [aG,decide_eq_true_eq]at h;exact h
structure Rw (r:R) (a:Rat) (P N:Nat):Prop where
 q:r.q=some a
 h:H2 a P N
theorem Rw.add{r s:R}{a b:Rat}{P Q M N:Nat}(h1:Rw r a P N)(h2:Rw s b Q M)(hN:Ft (P*M+Q*N) (N*M)=true:=by decide +kernel):Rw (mG r s) (a+b) (P*M+Q*N) (N*M):=by
 have h:=ajy h1.h h2.h;refine⟨?_,h⟩;rw [Ig,h1.q,h2.q];exact tH (TK h (YS hN).1 (YS hN).2)
theorem Rw.sub{r s:R}{a b:Rat}{P Q M N:Nat}(h1:Rw r a P N)(h2:Rw s b Q M)(hN:Ft (P*M+Q*N) (N*M)=true:=by decide +kernel):Rw (vI r s) (a-b) (P*M+Q*N) (N*M):=by
 have h:=aq5 h1.h h2.h;refine⟨?_,h⟩;rw [Oh,h1.q,h2.q];show norm (a + -b)=_;rw [←Rat.sub_eq_add_neg];exact tH (TK h (YS hN).1 (YS hN).2)
theorem Rw.mul{r s:R}{a b:Rat}{P Q M N:Nat}(h1:Rw r a P N)(h2:Rw s b Q M)(hN:Ft (P*Q) (N*M)=true:=by decide +kernel):Rw (mulR r s) (a*b) (P*Q) (N*M):=by
 have h:=aq4 h1.h h2.h;refine⟨?_,h⟩;rw [Oi,h1.q,h2.q];exact tH (TK h (YS hN).1 (YS hN).2)
theorem Rw.neg{r:R}{a:Rat}{P N:Nat}(h:Rw r a P N)(hN:Ft P N=true:=by decide +kernel):Rw (negR r) (-a) P N:=by
 refine⟨?_,ajz h.h⟩;rw [acw,h.q];rfl
theorem Rw.ok{r:R}{a:Rat}{P N:Nat}(h:Rw r a P N):r.ok=true:=by
 rw [uq,h.q];simp
theorem Rw.v{r:R}{a:Rat}{P N:Nat}(h:Rw r a P N):r.v=a:=R.EG h.q
theorem Rw.mono{r:R}{a:Rat}{P N P' N':Nat}(h:Rw r a P N)(hP:P≤P':=by decide +kernel)(hN:N≤N':=by decide +kernel):Rw r a P' N':=⟨h.q,h.h.mono hP hN⟩
theorem Rw.val{r:R}{a b:Rat}{P N:Nat}(h:Rw r a P N)(e:a=b):Rw r b P N:=e▸h
theorem Rw.re{r:R}{a:Rat}{P N P' N':Nat}(h:Rw r a P N)(k:H2 a P' N'):Rw r a P' N':=⟨h.q,k⟩
theorem Rw.eq{r s:R}{a b:Rat}{P Q M N:Nat}(h1:Rw r a P N)(h2:Rw s b Q M)(hr:r.cn)(hs:s.cn)(e:a=b):r=s:=by
 rw [←hr,←hs,h1.q,h2.q,e]
theorem agq{r:R}{a:Rat}(h:r.q=some a):norm a=some a:=tH (by have:=Hz r;rw [h]at this;exact this)
def hb(P N:Nat):Nat→Nat×Nat
 |0=>(0,1)
 |k+1=>((hb P N k).1*N+P*(hb P N k).2,(hb P N k).2*N)
def enV(l:Lk)(p q:Pt):Rat:=l.w.v*((q.x.v-p.x.v-l.dx.v)*(q.x.v-p.x.v-l.dx.v)+(q.y.v-p.y.v-l.dy.v)*(q.y.v-p.y.v-l.dy.v))
theorem ajA(f:Lk→Rat){l:List Lk}{k:Nat}(h:k<l.length):tot f (l.take (k+1))=tot f (l.take k)+f (l.getD k default):=by
 rw [take_snoc h,zO];show _+(f _+0)=_;rw [Rat.add_zero]
def Vk(l:List Lk)(a b:Int):Lk:=if kN l=true then(am1 l a b).getD Lk0 else Lk0
def NH(v:Int)(l:Lk):Option Pa:=if l.a=v then some ⟨l.b,l.w,negR l.dx,negR l.dy⟩else if l.b=v then some ⟨l.a,l.w,l.dx,l.dy⟩else none
def Iu(S:List Lk)(v:Int)(k:Nat):List Pa:=(S.take k).filterMap (NH v)
def nS(S:List Lk)(v:Int):List Pa:=Iu S v S.length
theorem aq6(S:List Lk)(v:Int):Iu S v 0=[]:=by simp [Iu]
theorem aq7(S:List Lk)(v:Int){i:Nat}(h:i<S.length):Iu S v (i+1)=Iu S v i++(match NH v (S.getD i default)with|some n=>[n]|none=>[]):=by
 unfold Iu;rw [take_snoc h,List.filterMap_append,List.filterMap_cons]
 cases NH v (S.getD i default)<;>rfl
theorem ajB(S:List Lk)(v:Int)(k:Nat):(Iu S v k).length≤k:=by
 unfold Iu;exact bV (List.length_filterMap_le _ _) (by simp;omega)
def pU(A:List Pa):R:=JA A A.length
def G5(t:R)(a:Pa):Pa:=⟨a.node,xR a.share t,a.dx,a.dy⟩
def nN(v:Int)(A:List Pa):Cd:=⟨v,pU A,A.map (G5 (pU A))⟩
def Iw(t:R)(a b:Pa):Lk:=⟨a.node,b.node,xR (mulR a.share b.share) t,vI a.dx b.dx,vI a.dy b.dy⟩
def uI(A:List Pa)(i j:Nat):List Lk:=((A.drop (i+1)).take j).map (Iw (pU A) (A.getD i default))
def qU(A:List Pa):Nat→List Lk
 |0=>[]
 |i+1=>qU A i++uI A i (A.length-(i+1))
def JR(A:List Pa):List Lk:=qU A A.length
theorem aa1(A:List Pa):(pU A).cn:=PG _ _
theorem aeI(t:R)(a b:Pa):(Iw t a b).w.cn∧(Iw t a b).dx.cn∧(Iw t a b).dy.cn:=⟨Ju _ _,Tc _ _,Tc _ _⟩
theorem TL(A:List Pa)(i:Nat):uI A i 0=[]:=by simp [uI]
theorem YT(A:List Pa){i j:Nat}(h:i+1+j<A.length):uI A i (j+1)=uI A i j++[Iw (pU A) (A.getD i default) (A.getD (i+1+j) default)]:=by
 unfold uI;rw [iM,cZ]
 congr 1
 rw [dF,au (by omega),aj (i:=i+1+j),au (by omega)];rfl
theorem XI(A:List Pa)(i j:Nat):(uI A i j).length≤j:=by unfold uI;simp;omega
theorem OC(A:List Pa):∀i,(qU A i).length≤i*A.length
 |0=>fH _
 |
  i+1=>by
  have h1:=OC A i;have h2:=XI A i (A.length-(i+1));show (qU A i++uI A i (A.length-(i+1))).length≤(i+1)*A.length;rw [aO,fZ];omega
theorem XJ{A:List Pa}{i j:Nat}{x:Lk}(h:x∈uI A i j):∃k,i<k∧k<A.length∧x=Iw (pU A) (A.getD i default) (A.getD k default):=by
 unfold uI at h;obtain⟨b,hb,rfl⟩:=bG.1 h;have hb:=bZ hb;obtain⟨q,hq⟩:=bD.1 hb;rw [dF]at hq;have hl:=(aN.1 hq).1;exact⟨i+1+q,by omega,hl,by rw [aj (i:=i+1+q),hq];rfl⟩
theorem GR{A:List Pa}{x:Lk}:∀{i:Nat},x∈qU A i→∃p k,p<i∧p<k∧k<A.length∧x=Iw (pU A) (A.getD p default) (A.getD k default)
 |0,h=>by cases h
 |
  i+1,h=>by
  rcases aK.1 h with h|h
  ·obtain⟨p,k,h1,h2⟩:=GR h;exact⟨p,k,by omega,h2⟩
  obtain⟨k,h1,h2,h3⟩:=XJ h;exact⟨i,k,by omega,h1,h2,h3⟩
theorem anu{A:List Pa}:∀x∈JR A,x.w.cn∧x.dx.cn∧x.dy.cn:=fun x hx=>by
 obtain⟨p,k,_,_,_,rfl⟩:=GR hx;exact aeI _ _ _
def agr(A:List Pa):Prop:=∀i j,i<j→j<A.length→(A.getD i default).node<(A.getD j default).node
theorem aeJ{A:List Pa}(h:∀i,i+1<A.length→(A.getD i default).node<(A.getD (i+1) default).node):agr A
 |i,0,hij,_=>absurd hij (gG _)
 |
  i,j+1,hij,hj=>by
  by_cases e:i=j
  ·subst e;exact h i hj
  exact Int.lt_trans (aeJ h i j (by omega) (by omega)) (h j hj)
theorem aa2{A:List Pa}(h:agr A){i:Nat}:∀j,i+1+j≤A.length→(uI A i j).Pairwise fun k l=>kM k l=true
 |0,_=>by rw [TL];exact .nil
 |
  j+1,hj=>by
  rw [YT A (by omega),iW];refine⟨aa2 h j (by omega),by simp,fun x hx y hy=>?_⟩;rw [aV.1 hy];unfold uI at hx;obtain⟨b,hb,rfl⟩:=bG.1 hx;obtain⟨q,hq⟩:=bD.1 hb;rw [List.getElem?_take]at hq;split at hq
  ·rw [dF]at hq;have e:b=A.getD (i+1+q) default:=by rw [aj,hq];rfl
   rw [uD];refine .inr ⟨rfl,?_⟩;rw [e];exact h _ _ (by omega) (by omega)
  cases hq
theorem XK{A:List Pa}(h:agr A):∀i,i≤A.length→(qU A i).Pairwise fun k l=>kM k l=true
 |0,_=>.nil
 |
  i+1,hi=>by
  show (qU A i++uI A i (A.length-(i+1))).Pairwise _;rw [iW];refine⟨XK h i (by omega),aa2 h _ (by omega),fun x hx y hy=>?_⟩;obtain⟨p,k,h1,_,_,rfl⟩:=GR hx;obtain⟨q,_,_,rfl⟩:=XJ hy;rw [uD];exact .inl (h _ _ h1 (by omega))
theorem BN{v:Int}{A:List Pa}{i:Nat}(h:i<A.length):(nN v A).ps.getD i default=G5 (pU A) (A.getD i default):=by
 show (A.map _).getD i default=_;rw [aj,bI,au h,aj,au h];rfl
theorem aq8{v:Int}{A:List Pa}(h:uw (nN v A)=true):agr A:=by
 have hl:(nN v A).ps.length=A.length:=aX ..;unfold uw at h;simp only [aG,decide_eq_true_eq]at h;refine aeJ fun i hi=>?_;have:=h.1.1.1.1 (i+1) (by rw [hl];exact hi);unfold KD at this;rw [BN hi,Nat.add_sub_cancel,BN (by omega)]at this;simp only [aG,dB,decide_eq_true_eq]at this;rcases this.1.1.1.2 with e|e
 ·omega
 exact e
def TM(S:List Lk)(v:Int):Bool:=kN S&&inB v 1 9&&uw (nN v (nS S v))&&(JR (nS S v)).all nD
def elC(S:List Lk)(v:Int):Cd:=if TM S v=true then nN v (nS S v)else⟨0,R0,[]⟩
def elM(S:List Lk)(v:Int):List Lk:=if TM S v=true then JR (nS S v)else []
theorem ajC{S:List Lk}{v:Int}(h:TM S v=false):elC S v=⟨0,R0,[]⟩∧elM S v=[]:=by
 unfold elC elM;rw [h];exact⟨rfl,rfl⟩
theorem aa3{S:List Lk}{v:Int}(h:TM S v=true):elC S v=nN v (nS S v)∧elM S v=JR (nS S v):=by
 unfold elC elM;rw [h];exact⟨rfl,rfl⟩
theorem ajD{S:List Lk}(h:kN S=true){v:Int}{a:Pa}{k:Nat}(ha:a∈Iu S v k):a.share.ok=true∧a.dx.cn∧a.dy.cn∧0≤a.node∧a.node≤9:=by
 unfold Iu at ha;obtain⟨l,hl,e⟩:=List.mem_filterMap.1 ha;have hk:=pW h (bZ hl);have h1:=zM hk;have h2:=qJ hk;unfold NH at e;split at e
 ·cases e;exact⟨h1.1,Yo _,Yo _,by dsimp only;omega,by dsimp only;omega⟩
 split at e
 ·cases e;exact⟨h1.1,tV h1.2.1,tV h1.2.2.1,by dsimp only;omega,by dsimp only;omega⟩
 cases e
def Vl(S:List Lk)(v n:Int):Pa:=if (Vk S n v).a=v then⟨n,(Vk S n v).w,negR (Vk S n v).dx,negR (Vk S n v).dy⟩else⟨n,(Vk S n v).w,(Vk S n v).dx,(Vk S n v).dy⟩
theorem anv{S:List Lk}(h:kN S=true){x y:Lk}(hx:x∈S)(hy:y∈S)(ha:x.a=y.a)(hb:x.b=y.b):x=y:=by
 have hp:=(qB.1 h).2;rw [fU]at hp;obtain⟨i,hi⟩:=bD.1 hx;obtain⟨j,hj⟩:=bD.1 hy;obtain⟨hil,hie⟩:=aN.1 hi;obtain⟨hjl,hje⟩:=aN.1 hj;rcases Nat.lt_trichotomy i j with k|k|k
 ·have:=hp i j hil hjl k;rw [hie,hje,uD]at this;omega
 ·subst k;rw [←hie,←hje]
 have:=hp j i hjl hil k;rw [hie,hje,uD]at this;omega
theorem aeK{S:List Lk}(h:kN S=true){x:Lk}(hx:x∈S){a b:Int}(hp:lkP a b x=true):am1 S a b=some x:=by
 cases hf:am1 S a b with
 |
  none =>
  have:=List.find?_eq_none.1 hf x hx;exact absurd hp this
 |
  some y =>
  have hy:=aiT hf;have hq:lkP a b y=true:=List.find?_some hf;have n1:=qJ (pW h hx);have n2:=qJ (pW h hy);unfold lkP at hp hq;simp only [dB,aG,decide_eq_true_eq]at hp hq;rw [anv h hy hx (by omega) (by omega)]
theorem aa4{α β:Type}{f g:α→Option β}:∀{l:List α},(∀x∈l,f x=g x)→l.filterMap f=l.filterMap g
 | [],_=>rfl
 |x::l,h=>by rw [List.filterMap_cons,List.filterMap_cons,h x (by simp),aa4 fun y hy=>h y (by simp [hy])]
theorem aeL{S:List Lk}(h:kN S=true)(v:Int):((nbI S v S.length).map (Vl S v))=nS S v:=by
 unfold nbI nS Iu;rw [bM,List.map_filterMap];refine aa4 fun l hl=>?_;have n1:=qJ (pW h hl);unfold acP NH;by_cases e1:l.a=v
 ·have hf:Vk S l.b v=l:=by
   unfold Vk;rw [if_pos h,aeK h hl (by unfold lkP;simp only [dB,aG,decide_eq_true_eq];exact .inr ⟨e1,trivial⟩)];rfl
  rw [if_pos e1,if_pos e1];show some (Vl S v l.b)=_;unfold Vl;rw [hf,if_pos e1]
 rw [if_neg e1,if_neg e1];by_cases e2:l.b=v
 ·have hf:Vk S l.a v=l:=by
   unfold Vk;rw [if_pos h,aeK h hl (by unfold lkP;simp only [dB,aG,decide_eq_true_eq];exact .inl ⟨trivial,e2⟩)];rfl
  rw [if_pos e2,if_pos e2];show some (Vl S v l.a)=_;unfold Vl;rw [hf,if_neg e1]
 rw [if_neg e2,if_neg e2];rfl
section
variable {s s1 σ2 : Store} {a b ta tb rs trs : List V} {os os2 : List Nat} {L : List (Nat × Obj)}
theorem Ep.ajE(E:Ep s (a++b) (ta++tb) os L)(hla:a.length=ta.length)(h1:∀o,o<s.length→iZ s1 o=iZ s o)(hl:s.length≤s1.length)(ho:mJ σ2 rs trs os2)(hn:os2.Nodup)(hf:∀o∈os2,s1.length≤o)
  (old:∀o,o<s1.length→iZ σ2 o=iZ s1 o):∃os',Ep σ2 (rs++b) (trs++tb) os' L∧∀o∈os',o∈os∨s1.length≤o:=by
 obtain⟨a1,a2,oa,ob,e,rfl,k1,k2⟩:=oq E.c.ow;obtain⟨rfl,rfl⟩:=eu e (by rw [hla];exact k1.len.symm);have hlt:=fun o (h:o∈oa++ob)=>E.c.lt o h;have nd:=aZ.1 E.c.nd;refine⟨os2++ob,⟨⟨lH ho (k2.frame fun o h=>?_),?_⟩,fun q hq=>⟨(old _ (aU (E.lt q hq) hl)).trans ((h1 _ (E.lt q hq)).trans (E.l q hq).1),fun hm=>?_⟩⟩,fun o h=>?_⟩
 ·have:=hlt o (fB _ h);rw [old o (by omega),h1 o this]
 ·rw [aZ];refine⟨hn,nd.2.1,fun x hx y hy e=>?_⟩;have:=hf x hx;have:=hlt y (fB _ hy);omega
 ·rcases aK.1 hm with hm|hm
  ·have:=hf _ hm;have:=E.lt q hq;omega
  exact(E.l q hq).2 (fB _ hm)
 rcases aK.1 h with h|h
 ·exact .inr (hf o h)
 exact .inl (fB _ h)
theorem Ep.aq9(E:Ep s (a++b) (ta++tb) os L)(hla:a.length=ta.length)(h1:∀o,o<s.length→iZ s1 o=iZ s o)(hl:s.length≤s1.length)(ho:mJ σ2 rs trs os2)(hn:os2.Nodup)(hf:∀o∈os2,s1.length≤o)
  (old:∀o,o<s1.length→iZ σ2 o=iZ s1 o):∃os',Ep σ2 (a++rs) (ta++trs) os' L∧∀o∈os',o∈os∨s1.length≤o:=by
 obtain⟨a1,a2,oa,ob,e,rfl,k1,k2⟩:=oq E.c.ow;obtain⟨rfl,rfl⟩:=eu e (by rw [hla];exact k1.len.symm);have hlt:=fun o (h:o∈oa++ob)=>E.c.lt o h;have nd:=aZ.1 E.c.nd;refine⟨oa++os2,⟨⟨lH (k1.frame fun o h=>?_) ho,?_⟩,fun q hq=>⟨(old _ (aU (E.lt q hq) hl)).trans ((h1 _ (E.lt q hq)).trans (E.l q hq).1),fun hm=>?_⟩⟩,fun o h=>?_⟩
 ·have:=hlt o (gV _ h);rw [old o (by omega),h1 o this]
 ·rw [aZ];refine⟨nd.1,hn,fun x hx y hy e=>?_⟩;have:=hf y hy;have:=hlt x (gV _ hx);omega
 ·rcases aK.1 hm with hm|hm
  ·exact(E.l q hq).2 (gV _ hm)
  have:=hf _ hm;have:=E.lt q hq;omega
 rcases aK.1 h with h|h
 ·exact .inl (gV _ h)
 exact .inr (hf o h)
end
theorem Ep.sub{s:Store}{cs ts:List V}{os:List Nat}{L L':List (Nat×Obj)}(E:Ep s cs ts os L)(h:∀q∈L',q∈L):Ep s cs ts os L':=⟨E.c,fun q hq=>E.l q (h q hq)⟩
theorem aeM{σ:Store}:Fin σ (.agg [.bool false,.jF,.jF,.bool false,.jF,.jF]) (ptV ⟨R0,R0⟩) :=
 ⟨ptV ⟨R0,R0⟩,[],by simp only [lU,uJ];exact⟨_,rfl,_,_,rfl,rfl,_,_,rfl,of_eq_true (oC 1),_,_,rfl,of_eq_true (oC 1),_,_,rfl,rfl,_,_,rfl,of_eq_true (oC 1),_,_,rfl,of_eq_true (oC 1),rfl⟩,
  nY (nI (nP (o1:=[]) kX (nP (o1:=[]) kX (nI (nP (o1:=[]) kX (nP (o1:=[]) kX nC)))))),.nil⟩
theorem Qc{T:Tb}(h:yF T):PO T 186 [] (ptV ⟨ku 0,ku 0⟩):=by
 refine lI (fun x d=>x == 39) h.hT ?_;simp only [yE,Lz,St.enter,ak,aC,aQ];refine ew ?_;refine og (qI h.kJ (n:=0)) (by (refine ew ?_;try with_reducible exact True.intro)) ?_;intro r q1 o1 G;have gl:1≤q1.length:=by simpa using G.len
 obtain⟨_,rfl,Xz⟩:=G.ow.kP;obtain⟨x1,x2,rfl⟩:=Xz.rat
 have E:Ep [some ⟨6,[[.bool false,.jF,.jF,.bool false,.jF,.jF]]⟩] [] [] [] [(0,⟨6,[[.bool false,.jF,.jF,.bool false,.jF,.jF]]⟩)]:=⟨Lm,by simp [iZ]⟩;have E1:=E.got (fun q hq=>rfl) (aJ _) Xz G.nd G.fresh G.old;clear G E;refine ew ?_;refine og (qI h.kJ (n:=0)) (by (refine ew ?_;try with_reducible exact True.intro)) ?_;intro r q2 o2 G;have gl2:q1.length≤q2.length:=G.len;obtain⟨_,rfl,hQ2⟩:=G.ow.kP;obtain⟨x3,x4,rfl⟩:=hQ2.rat
 have E2:=E1.got (fun q hq=>rfl) (aJ _) hQ2 G.nd G.fresh G.old;clear G E1;have E:Ep q2 [.bool (ku 0).neg,x1,x2,.bool (ku 0).neg,x3,x4] [.bool (ku 0).neg,ints (ku 0).mag,ints (ku 0).den,.bool (ku 0).neg,ints (ku 0).mag,ints (ku 0).den] _ [(0,⟨6,[[.bool false,.jF,.jF,.bool false,.jF,.jF]]⟩)]:=E2;clear E2;have L0:=E.at0 (p:=0) (ob:=⟨6,[[.bool false,.jF,.jF,.bool false,.jF,.jF]]⟩) (by simp);have LF:=ah (ah (E.leaf 1 rfl rfl) (E.leaf 2 rfl rfl)) (ah (E.leaf 4 rfl rfl) (E.leaf 5 rfl rfl));refine Aq @L0 @LF ?_;have n0:=(E.l (0,⟨6,[[.bool false,.jF,.jF,.bool false,.jF,.jF]]⟩) (by simp)).2;have C:=E.c.set (o:=0) (x:=some ⟨6,[[.bool (ku 0).neg,x1,x2,.bool (ku 0).neg,x3,x4]]⟩) n0;exact vU (nY C.ow) C.nd
theorem LM{T:Tb}(h:vk T){c:Cd}{at':List Pt}(hw:c.wf:=by exact qW)(hp:IQ Pt.wf at':=by exact qW)(hl:c.ps.length≤1048576:=by exact qW)(hl2:at'.length≤1048576:=by exact qW):PO T 176 [Xj c,O7 at'] (.nJ [ptV (XH c at'),.bool (GZ c at')]):=by
 have ci:=tu h.mQ hw
 cases hb:uw c
 ·rw [hb]at ci;have e1:GZ c at'=false:=by unfold GZ;rw [hb];rfl
  rw [ajx e1,e1];refine lI (fun x d=>(x == 186&&d == 13)||(x == 131&&d == 41)||(x == 131&&d == 57)) h.hT ?_;simp only [pq,Lz,St.enter,ak,aC,aQ];refine ew ?_;refine jl ci ?_;refine ew ?_;exact aeM.QU
 rw [hb]at ci;have bad:∀k,k<c.ps.length→¬(c.ps.getD k default).node<at'.length→∀σ,Fin σ (.nJ [.agg [.bool false,.jF,.jF,.bool false,.jF,.jF],.bool false]) (.nJ [ptV (XH c at'),.bool (GZ c at')]):=fun k hk h σ=>by
  have e1:GZ c at'=false:=by unfold GZ;rw [anp hk h,hb];rfl
  rw [ajx e1,e1];exact aeM.QU
 have hpa:=fun k hk=>anq hb (k:=k) hk;refine lI (fun x d=>(x == 186&&d == 13)||(x == 131&&d == 41)||(x == 131&&d == 57)) h.hT ?_;simp only [pq,Lz,St.enter,ak,aC,aQ];refine ew ?_;refine jl ci ?_;refine ew ?_;refine og (Qc h.Di) (by (refine ew ?_;try with_reducible exact True.intro)) ?_;intro r q1 o1 G;have gl:3≤q1.length:=by simpa using G.len
 obtain⟨_,rfl,Xz⟩:=G.ow.kP;obtain⟨x1,x2,x3,x4,rfl⟩:=Xz.pt;have E:Ep [some ⟨5,[c.cells]⟩,some ⟨6,[[.bool false,.jF,.jF,.bool false,.jF,.jF]]⟩] [] [] [] [(0,⟨5,[c.cells]⟩),(1,⟨6,[[.bool false,.jF,.jF,.bool false,.jF,.jF]]⟩)]:=⟨Lm,by simp [iZ]⟩;have E2:=E.got (s1:=[some ⟨5,[c.cells]⟩,some ⟨6,[[.bool false,.jF,.jF,.bool false,.jF,.jF]]⟩]++[none]) (fun q hq=>kY hq) (by simp) Xz G.nd G.fresh G.old;have F0:=E.free (s1:=[some ⟨5,[c.cells]⟩,some ⟨6,[[.bool false,.jF,.jF,.bool false,.jF,.jF]]⟩]++[none]) (p:=2) G.fresh (by simp) (by simp);clear E G;have E:Ep q1 [.bool (ku 0).neg,x1,x2,.bool (ku 0).neg,x3,x4] [.bool (ku 0).neg,ints (ku 0).mag,ints (ku 0).den,.bool (ku 0).neg,ints (ku 0).mag,ints (ku 0).den] _ [(0,⟨5,[c.cells]⟩),(1,⟨6,[[.bool false,.jF,.jF,.bool false,.jF,.jF]]⟩)]:=E2;clear E2
 replace E:=E.Ey (p:=2) (ob:=⟨6,[[.bool (ku 0).neg,x1,x2,.bool (ku 0).neg,x3,x4]]⟩) (L':=[(0,⟨5,[c.cells]⟩),(1,⟨6,[[.bool false,.jF,.jF,.bool false,.jF,.jF]]⟩),(2,⟨6,[[.bool (ku 0).neg,x1,x2,.bool (ku 0).neg,x3,x4]]⟩)]) F0 (by omega) (by simp)
 have LF:=ah (ah (E.leaf 1 rfl rfl) (E.leaf 2 rfl rfl)) (ah (E.leaf 4 rfl rfl) (E.leaf 5 rfl rfl));have L0:=E.at0 (p:=0) (ob:=⟨5,[c.cells]⟩) (by simp);have hqe:iZ q1 0=some ⟨5,[c.cells]⟩:=by have:=L0.1;rwa [jM (by omega)]at this
 refine Fj @LF @List.set_set.{0} @hqe ?_;clear LF L0 hqe;refine jX (fun x d=>(x == 186&&d == 13)||(x == 131&&d == 41)||(x == 131&&d == 57)) (α:=Nat×Store×V×V×V×V×List Nat) (fun q=>⟨lS [.any,O7 at',.any,.any,.ptr 1 0 0,.any,.ptr 2 0 0,.any,.any,.any,.any,.any,.any,.any,.any,Nj c.ps,iv (c.ps.length:Nat),iv (q.1:Nat)],q.2.1,0,0,[],[]⟩) (fun q=>(q.1≤c.ps.length∧∀k,k<q.1→(c.ps.getD k default).node<at'.length)∧Ep q.2.1 [.bool (JO c at' q.1).neg,q.2.2.1,q.2.2.2.1,.bool (TJ c at' q.1).neg,q.2.2.2.2.1,q.2.2.2.2.2.1] [.bool (JO c at' q.1).neg,ints (JO c at' q.1).mag,ints (JO c at' q.1).den,.bool (TJ c at' q.1).neg,ints (TJ c at' q.1).mag,ints (TJ c at' q.1).den] q.2.2.2.2.2.2 [(0,⟨5,[c.cells]⟩),(1,⟨6,[[.bool false,.jF,.jF,.bool false,.jF,.jF]]⟩),(2,⟨6,[[.bool (JO c at' q.1).neg,q.2.2.1,q.2.2.2.1,.bool (TJ c at' q.1).neg,q.2.2.2.2.1,q.2.2.2.2.2.1]]⟩)]) (fun q=>c.ps.length-q.1) rfl (0,(q1.set 2 (some ⟨6,[[.bool (ku 0).neg,x1,x2,.bool (ku 0).neg,x3,x4]]⟩)),x1,x2,x3,x4,[]++o1) ?_ ?_ ?_
 ·exact⟨⟨by omega,by intro k hk;omega⟩,E⟩
 ·(refine jS ?_;exact zV)
 clear E;rintro⟨i,s,x1,x2,x3,x4,os⟩ ⟨⟨hi,hg⟩,E⟩;dsimp only at hi hg E;have ex:JO c at' (i+1)=mG (JO c at' i) (acT (c.ps.getD i default) (at'.getD (c.ps.getD i default).node.toNat default).x (c.ps.getD i default).dx):=rfl;have ey:TJ c at' (i+1)=mG (TJ c at' i) (acT (c.ps.getD i default) (at'.getD (c.ps.getD i default).node.toNat default).y (c.ps.getD i default).dy):=rfl;have hxc:=aju c at' i;have hyc:=ajv c at' i;have hbad:=bad i;have hpa:=hpa i;have hfx:i=c.ps.length→JO c at' c.ps.length=JO c at' i:=fun e=>by rw [e]
 have hfy:i=c.ps.length→TJ c at' c.ps.length=TJ c at' i:=fun e=>by rw [e]
 generalize hX:JO c at' i=X at ex hxc hfx E;generalize hY:TJ c at' i=Y at ey hyc hfy E;have L1:=E.at0 (p:=1) (ob:=⟨6,[[.bool false,.jF,.jF,.bool false,.jF,.jF]]⟩) (by simp);have L2:=E.at0 (p:=2) (ob:=⟨6,[[.bool X.neg,x1,x2,.bool Y.neg,x3,x4]]⟩) (by simp);by_cases hc:(i:Int)<(c.ps.length:Nat)
 ·have hil:i<c.ps.length:=by omega
  have hxw:=Oy hw.2 hil;have hbad:=hbad hil;obtain⟨hp0,hp1⟩:=hpa hil;have hgs:(c.ps.getD i default).node<at'.length→∀k,k<i+1→(c.ps.getD k default).node<at'.length:=fun h k hk=>by
   by_cases e:k=i
   ·subst e;exact h
   exact hg k (by omega)
  have hmx:(c.ps.map Pa.cells).getD i []=(c.ps.getD i default).cells:=mg hil;generalize c.ps.getD i default=p at ex ey hbad hxw hgs hp0 hp1 hmx;by_cases hn:p.node<at'.length
  ·have hn1:¬p.node≥(at'.length:Nat):=by omega
   have hgs:=hgs hn;have wp:=Oy hp (k:=p.node.toNat) (by omega);have g1:(at'.map Pt.cells).getD p.node.toNat []=(at'.getD p.node.toNat default).cells:=mg (by omega);generalize at'.getD p.node.toNat default=q at ex ey wp g1;have hsc:=tV hp1;refine CV @hc @hmx @L1 @L2 @hn1 @g1 ?_;refine jl (QN h.Em wp.1 hxw.2.1) ?_;obtain⟨pi,hpi⟩:∃pi,s.length=pi:=⟨_,rfl⟩;obtain⟨s1,hs1⟩:∃s1,s++[some ⟨10,[p.cells]⟩]=s1:=⟨_,rfl⟩;have E1:=E.push (ob:=⟨10,[p.cells]⟩);rw [hs1,hpi]at E1;have hl1:s1.length=pi+1:=by rw [←hs1,←hpi];simp
   have hpi2:3≤pi:=by have:=L2.2;omega
   clear E;simp only [hs1];simp only [hpi];have MP:=E1.at0 (p:=pi) (ob:=⟨10,[p.cells]⟩) (by simp);have M1:=E1.at0 (p:=1) (ob:=⟨6,[[.bool false,.jF,.jF,.bool false,.jF,.jF]]⟩) (by simp);have M2:=E1.at0 (p:=2) (ob:=⟨6,[[.bool X.neg,x1,x2,.bool Y.neg,x3,x4]]⟩) (by simp);have R:=ah (E1.res1 1 rfl rfl (jG _ _)) (E1.res1 2 rfl rfl (jG _ _));refine ew7 @MP @M1 @M2 @g1 @R @jO @kG ?_;refine jl (wW h.lQ hsc (uM _ _)) ?_;refine ew7 @MP @M1 @M2 @g1 @R @jO @kG ?_;refine CW (fun o=>o∈os) (show PO T 131 [kC X,kC (acT p q.x p.dx)] (kC (mG X (acT p q.x p.dx)))from zW h.kE hxc (ajw _ _ _)) (by (refine Fj @R @jO @kG ?_;try with_reducible exact True.intro);rfl) ?_ ?_
   ·intro o ho;have ho:o∈reach s1 (11+1) (.agg [.bool X.neg,x1,x2])++(reach s1 FD (kC (acT p q.x p.dx))++[]):=ho;rw [show reach s1 FD (kC (acT p q.x p.dx))=[]from by (refine ew ?_;try with_reducible exact True.intro),aP,aP]at ho;obtain⟨c,hc,ho⟩:=Au.1 ho;rcases aH.1 hc with e|hc
    ·rw [e]at ho;simp [reach]at ho
    rcases aH.1 hc with e|hc
    ·rw [e]at ho;exact E1.reach 1 rfl rfl _ o ho
    rw [aV.1 hc]at ho;exact E1.reach 2 rfl rfl _ o ho
   intro Rr r q2 oq2 hRr G;obtain⟨_,rfl,hQ⟩:=G.ow.kP;obtain⟨y1,y2,rfl⟩:=hQ.rat
   obtain⟨os2,E0,hos⟩:=Ep.ajE (a:=[.bool X.neg,x1,x2]) (b:=[.bool Y.neg,x3,x4]) (ta:=[.bool X.neg,ints X.mag,ints X.den]) (tb:=[.bool Y.neg,ints Y.mag,ints Y.den]) E1 rfl (s1:=s1) (fun q hq=>rfl) (aJ _) hQ G.nd G.fresh G.old;have gl:=G.len;have n2:2∉os2:=fun hm=>by
    rcases hos 2 hm with h|h
    ·exact(E1.l (2,⟨6,[[.bool X.neg,x1,x2,.bool Y.neg,x3,x4]]⟩) (by simp)).2 h
    omega
   clear hos hRr G hQ E1 R MP M1 M2;rw [←ex]at E0;have E2:Ep q2 [.bool (JO c at' (i+1)).neg,y1,y2,.bool Y.neg,x3,x4] [.bool (JO c at' (i+1)).neg,ints (JO c at' (i+1)).mag,ints (JO c at' (i+1)).den,.bool Y.neg,ints Y.mag,ints Y.den] os2 [(0,⟨5,[c.cells]⟩),(1,⟨6,[[.bool false,.jF,.jF,.bool false,.jF,.jF]]⟩),(2,⟨6,[[.bool X.neg,x1,x2,.bool Y.neg,x3,x4]]⟩),(pi,⟨10,[p.cells]⟩)]:=E0;clear E0;have MP:=E2.at0 (p:=pi) (ob:=⟨10,[p.cells]⟩) (by simp);have M1:=E2.at0 (p:=1) (ob:=⟨6,[[.bool false,.jF,.jF,.bool false,.jF,.jF]]⟩) (by simp);have M2:=E2.at0 (p:=2) (ob:=⟨6,[[.bool X.neg,x1,x2,.bool Y.neg,x3,x4]]⟩) (by simp);have LF:=ah (ah (E2.leaf 1 rfl rfl) (E2.leaf 2 rfl rfl)) (ah (E2.leaf 4 rfl rfl) (E2.leaf 5 rfl rfl));refine ew8 @MP @M1 @M2 @g1 @LF @jO @kG @List.set_set.{0} ?_;refine⟨by unfold vH;rfl,?_⟩
   try rw [←ex]
   obtain⟨s3,hs⟩:∃s,q2.set 2 (some ⟨6,[[.bool (JO c at' (i+1)).neg,y1,y2,.bool Y.neg,x3,x4]]⟩)=s:=⟨_,rfl⟩;have E5:=E2.Ey (p:=2) (ob:=⟨6,[[.bool (JO c at' (i+1)).neg,y1,y2,.bool Y.neg,x3,x4]]⟩) (L':=[(0,⟨5,[c.cells]⟩),(1,⟨6,[[.bool false,.jF,.jF,.bool false,.jF,.jF]]⟩),(2,⟨6,[[.bool (JO c at' (i+1)).neg,y1,y2,.bool Y.neg,x3,x4]]⟩),(pi,⟨10,[p.cells]⟩)]) n2 M2.2 (by simp;try omega);have hl2:q2.length=s3.length:=by rw [←hs];simp
   rw [hs]at E5;simp only [hs]
   try simp only [hl2]
   rw [hl2]at gl;clear E2 MP M1 M2 LF hs hl2 n2;have MP:=E5.at0 (p:=pi) (ob:=⟨10,[p.cells]⟩) (by simp);have M1:=E5.at0 (p:=1) (ob:=⟨6,[[.bool false,.jF,.jF,.bool false,.jF,.jF]]⟩) (by simp);have M2:=E5.at0 (p:=2) (ob:=⟨6,[[.bool (JO c at' (i+1)).neg,y1,y2,.bool Y.neg,x3,x4]]⟩) (by simp);have R:=ah (E5.res1 4 rfl rfl (jG _ _)) (E5.res1 5 rfl rfl (jG _ _));refine jl (QN h.Em wp.2 hxw.2.2) ?_;refine ew7 @MP @M1 @M2 @g1 @R @jO @kG ?_;refine jl (wW h.lQ hsc (uM _ _)) ?_;refine ew7 @MP @M1 @M2 @g1 @R @jO @kG ?_;refine CW (fun o=>o∈os2) (show PO T 131 [kC Y,kC (acT p q.y p.dy)] (kC (mG Y (acT p q.y p.dy)))from zW h.kE hyc (ajw _ _ _)) (by (refine Fj @R @jO @kG ?_;try with_reducible exact True.intro);rfl) ?_ ?_
   ·intro o ho;have ho:o∈reach s3 (11+1) (.agg [.bool Y.neg,x3,x4])++(reach s3 FD (kC (acT p q.y p.dy))++[]):=ho;rw [show reach s3 FD (kC (acT p q.y p.dy))=[]from by (refine ew ?_;try with_reducible exact True.intro),aP,aP]at ho;obtain⟨c,hc,ho⟩:=Au.1 ho;rcases aH.1 hc with e|hc
    ·rw [e]at ho;simp [reach]at ho
    rcases aH.1 hc with e|hc
    ·rw [e]at ho;exact E5.reach 4 rfl rfl _ o ho
    rw [aV.1 hc]at ho;exact E5.reach 5 rfl rfl _ o ho
   intro Rr r q4 oq4 hRr G;obtain⟨_,rfl,hQ⟩:=G.ow.kP;obtain⟨y3,y4,rfl⟩:=hQ.rat
   obtain⟨os4,E0,hos⟩:=Ep.aq9 (a:=[.bool (JO c at' (i+1)).neg,y1,y2]) (b:=[.bool Y.neg,x3,x4]) (ta:=[.bool (JO c at' (i+1)).neg,ints (JO c at' (i+1)).mag,ints (JO c at' (i+1)).den]) (tb:=[.bool Y.neg,ints Y.mag,ints Y.den]) E5 rfl (s1:=s3) (fun q hq=>rfl) (aJ _) hQ G.nd G.fresh G.old;have gl:=G.len;have n2:2∉os4:=fun hm=>by
    rcases hos 2 hm with h|h
    ·exact(E5.l (2,⟨6,[[.bool (JO c at' (i+1)).neg,y1,y2,.bool Y.neg,x3,x4]]⟩) (by simp)).2 h
    omega
   clear hos hRr G hQ E5 R MP M1 M2;rw [←ey]at E0;have E4:Ep q4 [.bool (JO c at' (i+1)).neg,y1,y2,.bool (TJ c at' (i+1)).neg,y3,y4] [.bool (JO c at' (i+1)).neg,ints (JO c at' (i+1)).mag,ints (JO c at' (i+1)).den,.bool (TJ c at' (i+1)).neg,ints (TJ c at' (i+1)).mag,ints (TJ c at' (i+1)).den] os4 [(0,⟨5,[c.cells]⟩),(1,⟨6,[[.bool false,.jF,.jF,.bool false,.jF,.jF]]⟩),(2,⟨6,[[.bool (JO c at' (i+1)).neg,y1,y2,.bool Y.neg,x3,x4]]⟩),(pi,⟨10,[p.cells]⟩)]:=E0;clear E0;have MP:=E4.at0 (p:=pi) (ob:=⟨10,[p.cells]⟩) (by simp);have M1:=E4.at0 (p:=1) (ob:=⟨6,[[.bool false,.jF,.jF,.bool false,.jF,.jF]]⟩) (by simp);have M2:=E4.at0 (p:=2) (ob:=⟨6,[[.bool (JO c at' (i+1)).neg,y1,y2,.bool Y.neg,x3,x4]]⟩) (by simp);have LF:=ah (ah (E4.leaf 1 rfl rfl) (E4.leaf 2 rfl rfl)) (ah (E4.leaf 4 rfl rfl) (E4.leaf 5 rfl rfl));refine ew8 @MP @M1 @M2 @g1 @LF @jO @kG @List.set_set.{0} ?_;refine⟨by unfold vH;rfl,?_⟩
   try rw [←ey]
   obtain⟨s5,hs⟩:∃s,q4.set 2 (some ⟨6,[[.bool (JO c at' (i+1)).neg,y1,y2,.bool (TJ c at' (i+1)).neg,y3,y4]]⟩)=s:=⟨_,rfl⟩;have E5:=E4.Ey (p:=2) (ob:=⟨6,[[.bool (JO c at' (i+1)).neg,y1,y2,.bool (TJ c at' (i+1)).neg,y3,y4]]⟩) (L':=[(0,⟨5,[c.cells]⟩),(1,⟨6,[[.bool false,.jF,.jF,.bool false,.jF,.jF]]⟩),(2,⟨6,[[.bool (JO c at' (i+1)).neg,y1,y2,.bool (TJ c at' (i+1)).neg,y3,y4]]⟩),(pi,⟨10,[p.cells]⟩)]) n2 M2.2 (by simp;try omega);have hl2:q4.length=s5.length:=by rw [←hs];simp
   rw [hs]at E5;simp only [hs]
   try simp only [hl2]
   rw [hl2]at gl;clear E4 MP M1 M2 LF hs hl2 n2;refine⟨(i+1,s5,y1,y2,y3,y4,os4),by dsimp only;omega,⟨⟨by dsimp only;omega,hgs⟩,E5.sub (by intro q hq;simp only [List.mem_cons,List.not_mem_nil,or_false]at hq ⊢;rcases hq with h|h|h<;>simp [h])⟩,?_⟩;dsimp only
   (refine jS ?_;exact zV)
  have hn1:p.node≥(at'.length:Nat):=by omega
  refine NC @hc @hmx @L1 @L2 @hn1 ?_;exact hbad hn _
 have hie:i=c.ps.length:=by omega
 have hG:=aa0 (c:=c) (n:=at'.length) fun k hk=>hg k (by omega);have e1:GZ c at'=((JO c at' c.ps.length).ok&&(TJ c at' c.ps.length).ok):=by unfold GZ;rw [hb,hG,cO,cO]
 unfold XH;rw [e1,hfx hie,hfy hie];have c1:=D9 h.jQ hxc;have c2:=D9 h.jQ hyc;have LF:=ah (ah (E.leaf 1 rfl rfl) (E.leaf 2 rfl rfl)) (ah (E.leaf 4 rfl rfl) (E.leaf 5 rfl rfl));have R:=ah (ah (E.res1 1 rfl rfl (jG _ _)) (E.res1 2 rfl rfl (jG _ _))) (ah (E.res1 4 rfl rfl (jG _ _)) (E.res1 5 rfl rfl (jG _ _)));refine CV @hc @L1 @L2 @R @jO @kG ?_;refine jl c1 ?_
 cases h1:X.ok
 ·refine Fj @L1 @L2 @LF ?_;exact aeM.QU
 refine NC @L1 @L2 @R @jO @kG ?_;refine jl c2 ?_
 cases h2:Y.ok
 ·refine Fj @L1 @L2 @LF ?_;exact aeM.QU
 refine Fj @L1 @L2 @LF ?_;have n1:=(E.l (1,⟨6,[[.bool false,.jF,.jF,.bool false,.jF,.jF]]⟩) (by simp)).2;have C:=E.c.set (o:=1) (x:=some ⟨6,[[.bool X.neg,x1,x2,.bool Y.neg,x3,x4]]⟩) n1;have hf:Fin (s.set 1 (some ⟨6,[[.bool X.neg,x1,x2,.bool Y.neg,x3,x4]]⟩)) (.agg [.bool X.neg,x1,x2,.bool Y.neg,x3,x4]) (ptV ⟨X,Y⟩):=vU (nY C.ow) C.nd;exact hf.QU
end Go.Ml
end
section
namespace Go.Ml
section
variable {s s1 S σ2 : Store} {a b c ta tb tc rs trs cs ts : List V} {os os2 : List Nat} {L L' : List (Nat × Obj)}
theorem Ep.to(E:Ep s cs ts os L)(ho:∀o∈os,iZ S o=iZ s o)(hL:∀q∈L',(q∈L∧iZ S q.1=iZ s q.1)∨(iZ S q.1=some q.2∧q.1∉os)):Ep S cs ts os L':=by
 refine⟨E.c.frame ho,fun q hq=>?_⟩;rcases hL q hq with ⟨h1,h2⟩|h
 ·exact⟨h2.trans (E.l q h1).1,(E.l q h1).2⟩
 exact h
theorem Ep.Wu(E:Ep s cs ts os L):∀o∈os,o<s.length:=fun o h=>E.c.lt o h
theorem Ep.ara(E:Ep s (a++(b++c)) (ta++(tb++tc)) os L)(hla:a.length=ta.length)(hlb:b.length=tb.length)(h1:∀o,o<s.length→iZ s1 o=iZ s o)(hl:s.length≤s1.length)(ho:mJ σ2 rs trs os2)(hn:os2.Nodup)(hf:∀o∈os2,s1.length≤o)
  (old:∀o,o<s1.length→iZ σ2 o=iZ s1 o):∃os',Ep σ2 (a++(rs++c)) (ta++(trs++tc)) os' L∧∀o∈os',o∈os∨s1.length≤o:=by
 obtain⟨a1,a2,oa,obc,e,rfl,k1,k2⟩:=oq E.c.ow;obtain⟨rfl,rfl⟩:=eu e (by rw [hla];exact k1.len.symm);obtain⟨b1,b2,ob,oc,e,rfl,k3,k4⟩:=oq k2;obtain⟨rfl,rfl⟩:=eu e (by rw [hlb];exact k3.len.symm);have hlt:=fun o (h:o∈oa++(ob++oc))=>E.c.lt o h;have nd:=aZ.1 E.c.nd;have nd2:=aZ.1 nd.2.1;have fr:∀o∈oa++(ob++oc),iZ σ2 o=iZ s o:=fun o h=>by
  have:=hlt o h;rw [old o (by omega),h1 o this]
 refine⟨oa++(os2++oc),⟨⟨lH (k1.frame fun o h=>fr o (by simp [h])) (lH ho (k4.frame fun o h=>fr o (by simp [h]))),?_⟩,fun q hq=>⟨(old _ (aU (E.lt q hq) hl)).trans ((h1 _ (E.lt q hq)).trans (E.l q hq).1),fun hm=>?_⟩⟩,fun o h=>?_⟩
 ·rw [aZ,aZ];refine⟨nd.1,⟨hn,nd2.2.1,fun x hx y hy e=>?_⟩,fun x hx y hy e=>?_⟩
  ·have:=hf x hx;have:=hlt y (by simp [hy]);omega
  rcases aK.1 hy with hy|hy
  ·have:=hf y hy;have:=hlt x (by simp [hx]);omega
  exact nd.2.2 x hx y (fB _ hy) e
 ·simp only [aK]at hm;rcases hm with hm|hm|hm
  ·exact(E.l q hq).2 (by simp [hm])
  ·have:=hf _ hm;have:=E.lt q hq;omega
  exact(E.l q hq).2 (by simp [hm])
 simp only [aK]at h;rcases h with h|h|h
 ·exact .inl (by simp [h])
 ·exact .inr (hf o h)
 exact .inl (by simp [h])
theorem Ep.upd{p:Nat}{ob ob0:Obj}(E:Ep s (a++(b++c)) (ta++(tb++tc)) os L)(hp:(p,ob0)∈L)(hla:a.length=ta.length)(hlb:b.length=tb.length)(h1:∀o,o<s.length→iZ s1 o=iZ s o)(hl:s.length≤s1.length)(ho:mJ σ2 rs trs os2)(hn:os2.Nodup)(hf:∀o∈os2,s1.length≤o)
  (old:∀o,o<s1.length→iZ σ2 o=iZ s1 o) (hL:∀q∈L',(q.1≠p∧q∈L)∨q=(p,ob)) (hs:s1.length≤σ2.length):∃os',Ep (σ2.set p (some ob)) (a++(rs++c)) (ta++(trs++tc)) os' L':=by
 obtain⟨os',E2,_⟩:=E.ara hla hlb h1 hl ho hn hf old;have hpl:=E.lt _ hp;exact⟨os',E2.Ey (E2.l _ hp).2 (by dsimp only at hpl;omega) hL⟩
theorem Ep.cut(E:Ep s (a++(b++c)) (ta++(tb++tc)) os L)(hla:a.length=ta.length)(hlb:b.length=tb.length):∃os',Ep s (a++c) (ta++tc) os' L∧∀o∈os',o∈os:=by
 obtain⟨a1,a2,oa,obc,e,rfl,k1,k2⟩:=oq E.c.ow;obtain⟨rfl,rfl⟩:=eu e (by rw [hla];exact k1.len.symm);obtain⟨b1,b2,ob,oc,e,rfl,k3,k4⟩:=oq k2;obtain⟨rfl,rfl⟩:=eu e (by rw [hlb];exact k3.len.symm);have nd:=aZ.1 E.c.nd;have nd2:=aZ.1 nd.2.1;refine⟨oa++oc,⟨⟨lH k1 k4,?_⟩,fun q hq=>⟨(E.l q hq).1,fun hm=>(E.l q hq).2 ?_⟩⟩,fun o h=>?_⟩
 ·rw [aZ];exact⟨nd.1,nd2.2.1,fun x hx y hy e=>nd.2.2 x hx y (fB _ hy) e⟩
 ·rcases aK.1 hm with h|h<;>simp [h]
 rcases aK.1 h with h|h<;>simp [h]
theorem Ep.swap(E:Ep s (a++(b++c)) (ta++(tb++tc)) os L)(hla:a.length=ta.length)(hlb:b.length=tb.length):∃os',Ep s (b++(a++c)) (tb++(ta++tc)) os' L∧∀o,o∈os'↔o∈os:=by
 obtain⟨a1,a2,oa,obc,e,rfl,k1,k2⟩:=oq E.c.ow;obtain⟨rfl,rfl⟩:=eu e (by rw [hla];exact k1.len.symm);obtain⟨b1,b2,ob,oc,e,rfl,k3,k4⟩:=oq k2;obtain⟨rfl,rfl⟩:=eu e (by rw [hlb];exact k3.len.symm);have nd:=aZ.1 E.c.nd;have nd2:=aZ.1 nd.2.1;have hm:∀o,o∈ob++(oa++oc)↔o∈oa++(ob++oc):=fun o=>by simp only [aK];constructor<;>rintro(h|h|h)<;>simp [h]
 refine⟨ob++(oa++oc),⟨⟨lH k3 (lH k1 k4),?_⟩,fun q hq=>⟨(E.l q hq).1,fun h=>(E.l q hq).2 ((hm _).1 h)⟩⟩,hm⟩;rw [aZ,aZ];refine⟨nd2.1,⟨nd.1,nd2.2.1,fun x hx y hy e=>nd.2.2 x hx y (fB _ hy) e⟩,fun x hx y hy e=>?_⟩;rcases aK.1 hy with hy|hy
 ·exact nd.2.2 y hy x (gV _ hx) e.symm
 exact nd2.2.2 x hx y hy e
end
theorem aa5{σ:Store}{k:Nat}:∀{A T:List (List V)} {os:List Nat},(∀r∈A,r.length=k)→(∀r∈T,r.length=k)→A.length=T.length→mJ σ A.flatten T.flatten os→tC σ A T os
 |
  [],[],os,_,_,_,h=>by
  simp only [List.flatten_nil,mJ]at h;simp only [tC];exact h
 | [],t::T,_,_,_,h,_=>by simp at h
 |a::A,[],_,_,_,h,_=>by simp at h
 |
  a::A,t::T,os,ha,ht,hl,h=>by
  simp only [dG]at h;obtain⟨v1,v2,o1,o2,e,rfl,h1,h2⟩:=oq h;have hlen:=h1.len;have e1:=ha a (by simp);have e2:=ht t (by simp);obtain⟨rfl,rfl⟩:=eu e (by omega);simp only [tC];exact⟨a,A,o1,o2,rfl,rfl,h1,aa5 (fun r hr=>ha r (by simp [hr])) (fun r hr=>ht r (by simp [hr])) (by simpa using hl) h2⟩
section
variable {s : Store} {A T : List (List V)} {a c ta tc : List V} {os : List Nat} {L : List (Nat × Obj)} {n p k : Nat}
theorem Ep.close(E:Ep s (A.flatten++c) (T.flatten++tc) os L)(hp:(p,⟨n,A⟩)∈L)(ha:∀r∈A,r.length=k)(ht:∀r∈T,r.length=k)(hl:A.length=T.length) :
  ∃os',Ep s (.kQ p 0 A.length::c) (.sl n T::tc) os' (L.filter fun q=>q.1 != p):=by
 have hfl:A.flatten.length=T.flatten.length:=by
  have e1:∀(X:List (List V)),(∀r∈X,r.length=k)→X.flatten.length=X.length*k:=fun X=>by
   induction X with
   |nil=>intro _;simp
   |
    cons x X ih =>
    intro h;rw [dG,aO,ih fun r hr=>h r (by simp [hr]),h x (by simp),ak,fZ];omega
  rw [e1 A ha,e1 T ht,hl]
 obtain⟨v1,v2,o1,o2,e,rfl,h1,h2⟩:=oq E.c.ow;obtain⟨rfl,rfl⟩:=eu e (by rw [hfl];exact h1.len.symm);have hR:=aa5 ha ht hl h1;have hpo:=E.l _ hp;have nd:=aZ.1 E.c.nd;have hv:lC s (.kQ p 0 A.length) (.sl n T) (p::o1):=by
  simp only [lC];exact .inr ⟨p,A,o1,by rw [hl],hpo.1,rfl,hR⟩
 refine⟨(p::o1)++o2,⟨⟨nP hv h2,?_⟩,fun q hq=>?_⟩⟩
 ·simp only [bK,gI];exact⟨hpo.2,E.c.nd⟩
 obtain⟨hq1,hq2⟩:=dO.1 hq;have hne:q.1≠p:=by simpa using hq2
 refine⟨(E.l q hq1).1,fun hm=>?_⟩;simp only [bK,aH]at hm;rcases hm with hm|hm
 ·exact hne hm
 exact(E.l q hq1).2 hm
theorem Ep.aeN(E:Ep s (A.flatten++c) (T.flatten++tc) os L)(hp:(p,⟨n,A⟩)∈L)(ha:∀r∈A,r.length=k)(ht:∀r∈T,r.length=k)(hl:A.length=T.length)(m:Nat)(hd:mP m (.sl n T)):resolve s m (.kQ p 0 A.length)=some (.sl n T):=by
 obtain⟨os',E2⟩:=E.close hp ha ht hl;obtain⟨v,vs,o1,o2,e,_,h1,h2⟩:=E2.c.ow.inv;simp only [List.cons.injEq]at e;obtain⟨rfl,rfl⟩:=e;exact Ii m h1 hd
end
end Go.Ml
end
section
namespace Go.Ml
def Rd2(s:Store)(v w:V)(X Y:List R):Prop :=
 (X=[]∧Y=[]∧v=.jF∧w=.jF)∨∃p q,p≠q∧v=.kQ p 0 X.length∧w=.kQ q 0 Y.length∧iZ s p=some ⟨3,X.map R.cells⟩∧iZ s q=some ⟨3,Y.map R.cells⟩
theorem Rd2.fr{s s2:Store}{v w:V}{X Y:List R}(h:Rd2 s v w X Y)(hf:∀p,p<s.length→iZ s2 p=iZ s p):Rd2 s2 v w X Y:=by
 rcases h with h|⟨p,q,h1,h2,h3,h4,h5⟩
 ·exact .inl h
 exact .inr ⟨p,q,h1,h2,h3,(hf p (kD h4)).trans h4,(hf q (kD h5)).trans h5⟩
def LAt(n:Nat)(v:V)(A:List (List V))(M:List (Nat×Obj)):Prop:=(A=[]∧v=.jF∧M=[])∨∃p,v=.kQ p 0 A.length∧M=[(p,⟨n,A⟩)]
def ajF(x:Nat×List R):List V:=[.kQ x.1 0 x.2.length]
def adb(s:Store)(v:V)(Z:List (Nat×List R)):Prop:=((Z=[]∧v=.jF)∨∃q,v=.kQ q 0 Z.length∧iZ s q=some ⟨1,Z.map ajF⟩)∧∀x∈Z,iZ s x.1=some ⟨3,x.2.map R.cells⟩
theorem adb.fr{s s2:Store}{v:V}{Z:List (Nat×List R)}(h:adb s v Z)(hf:∀p,p<s.length→iZ s2 p=iZ s p):adb s2 v Z :=
 ⟨h.1.imp id fun ⟨q,e,hq⟩=>⟨q,e,(hf q (kD hq)).trans hq⟩,fun x hx=>(hf _ (kD (h.2 x hx))).trans (h.2 x hx)⟩
theorem adb.map{s:Store}{m:Nat}:∀{Z:List (Nat×List R)},(∀x∈Z,iZ s x.1=some ⟨3,x.2.map R.cells⟩)→((Z.map ajF).mapM fun r=>r.mapM (resolve s (m+2)))=some ((Z.map (·.2)).map fun r=>[Gn r])
 | [],_=>rfl
 |
  x::Z,h=>by
  have hx:=h x (by simp);have e:resolve s (m+2) (.kQ x.1 0 x.2.length)=some (Gn x.2):=by
   have h2:=amb x.2;unfold resolve;simp only [hx];rw [if_pos (by simp),bY,bg (by simp),vJ (n:=m) h2];rfl
  have ih:=adb.map (m:=m) (Z:=Z) fun y hy=>h y (by simp [hy]);rw [bU,bF,ih];have:(ajF x).mapM (resolve s (m+2))=some [Gn x.2]:=by
   unfold ajF;rw [bF,e];rfl
  rw [this];rfl
theorem adb.res{s:Store}{q:Nat}{Z:List (Nat×List R)}(h:∀x∈Z,iZ s x.1=some ⟨3,x.2.map R.cells⟩)(hq:iZ s q=some ⟨1,Z.map ajF⟩):resolve s FD (.kQ q 0 Z.length)=some (N9 (Z.map (·.2))):=by
 show resolve s (9+2+1) _=_;unfold resolve;simp only [hq];rw [if_pos (by simp),bY,bg (by simp),adb.map h];rfl
def arb(s:Store)(n0:Nat)(v:V)(L:List R):Prop:=(L=[]∧v=.jF)∨∃p,v=.kQ p 0 L.length∧n0≤p∧iZ s p=some ⟨3,L.map R.cells⟩
theorem arb.fr{s s2:Store}{v:V}{n0:Nat}{L:List R}(h:arb s n0 v L)(hf:∀p,p<s.length→iZ s2 p=iZ s p):arb s2 n0 v L :=
 h.imp id fun ⟨q,e,hn,hq⟩=>⟨q,e,hn,(hf q (kD hq)).trans hq⟩
def LnA(s:Store)(v:V)(L:List Lk):Prop:=(L=[]∧v=.jF)∨∃p,v=.kQ p 0 L.length∧iZ s p=some ⟨11,L.map Lk.cells⟩
theorem LnA.fr{s s2:Store}{v:V}{L:List Lk}(h:LnA s v L)(hf:∀p,p<s.length→iZ s2 p=iZ s p):LnA s2 v L :=
 h.imp id fun ⟨q,e,hq⟩=>⟨q,e,(hf q (kD hq)).trans hq⟩
abbrev MF:=Nat→List R
def elF(M:MF)(i j:Nat):R:=(M i).getD j default
def rrP(M:MF)(k:Nat):Nat→Nat→Nat
 |0,p=>p
 |f+1,p=>if yJ (elF M p k)=0 then rrP M k f (p+1)else p
def anw(n:Nat)(M:MF)(k:Nat):Nat:=rrP M k (n-k) k
def LP(M:MF)(k p:Nat):MF:=fun i=>if i=p then M k else if i=k then M p else M i
def aeO(r:List R)(k:Nat):List R:=r.map fun x=>xR x (r.getD k default)
def aeP(r b:List R)(f:R):List R:=(List.range r.length).map fun j=>vI (r.getD j default) (mulR (b.getD j default) f)
def ajG(n:Nat)(M:MF)(k:Nat):MF:=LP M k (anw n M k)
def aeQ(n:Nat)(M:MF)(k:Nat):MF:=fun i=>if i=k then aeO (ajG n M k k) k else ajG n M k i
def aeR(M:MF)(k:Nat):MF:=fun i=>if i=k then M k else aeP (M i) (M k) (elF M i k)
def avw(n:Nat)(M:MF):Bool:=allB n fun i=>(M i).all R.ok
def ajH(n:Nat)(M:MF)(k:Nat):Option MF :=
 if (decide (anw n M k<n)&&avw n (aeR (aeQ n M k) k))=true then some (aeR (aeQ n M k) k)else none
def OkM(n c:Nat)(M:MF):Prop:=∀i,i<n→(M i).length=c∧∀x∈M i,x.cn
theorem OkM.el{n c:Nat}{M:MF}(h:OkM n c M){i j:Nat}(hi:i<n)(hj:j<c):(elF M i j).cn:=(h i hi).2 _ (getD_mem (by rw [(h i hi).1];exact hj))
theorem ags(r:List R)(k:Nat):(aeO r k).length=r.length:=by unfold aeO;simp
theorem agt(r b:List R)(f:R):(aeP r b f).length=r.length:=by unfold aeP;simp
theorem ajI(r:List R)(k:Nat):∀x∈aeO r k,x.cn:=fun x hx=>by
 obtain⟨y,_,rfl⟩:=bG.1 hx;exact Ju _ _
theorem ajJ(r b:List R)(f:R):∀x∈aeP r b f,x.cn:=fun x hx=>by
 obtain⟨y,_,rfl⟩:=bG.1 hx;exact Tc _ _
theorem OkM.swap{n c:Nat}{M:MF}(h:OkM n c M){k p:Nat}(hk:k<n)(hp:p<n):OkM n c (LP M k p):=fun i hi=>by
 unfold LP;split
 ·exact h k hk
 split
 ·exact h p hp
 exact h i hi
theorem OkM.one{n c:Nat}{M:MF}(h:OkM n c M){k:Nat}(hk:k<n)(hp:anw n M k<n):OkM n c (ajG n M k):=h.swap hk hp
theorem OkM.two{n c:Nat}{M:MF}(h:OkM n c M){k:Nat}(hk:k<n)(hp:anw n M k<n):OkM n c (aeQ n M k):=fun i hi=>by
 unfold aeQ;split
 ·exact⟨by rw [ags];exact(h.one hk hp k hk).1,ajI _ _⟩
 exact h.one hk hp i hi
theorem OkM.tri{n c:Nat}{M:MF}(h:OkM n c M){k:Nat}(hk:k<n):OkM n c (aeR M k):=fun i hi=>by
 unfold aeR;split
 ·exact h k hk
 exact⟨by rw [agt];exact(h i hi).1,ajJ _ _ _⟩
theorem OkM.step{n c:Nat}{M M':MF}(h:OkM n c M){k:Nat}(hk:k<n)(e:ajH n M k=some M'):OkM n c M':=by
 unfold ajH at e;split at e
 ·rename_i hc;simp only [aG,decide_eq_true_eq]at hc
  cases e
  exact(h.two hk hc.1).tri hk
 cases e
def OD{α:Type}(a b:List α)(j:Nat):List α:=a.take j++b.drop j
theorem arf{α:Type}(a b:List α):OD a b 0=b:=by simp [OD]
theorem ajK{α:Type}(a b:List α)(h:b.length≤a.length)(h2:a.length≤b.length):OD a b b.length=a:=by
 unfold OD;rw [gJ,aP,bg h2]
theorem ajL{α:Type}{a b:List α}{j:Nat}(h:a.length=b.length):(OD a b j).length=b.length:=by simp [OD];omega
theorem ajM{α:Type}{a b:List α}{j:Nat}{x d:α}(h:a.length=b.length)(hj:j<b.length)(hx:a.getD j d=x):(OD a b j).set j x=OD a b (j+1):=by
 have e:(a.take j).length=j:=by simp;omega
 have hja:j<a.length:=by omega
 unfold OD;rw [List.set_append_right _ _ (by omega),e,Nat.sub_self,bH hj,jr];have e2:a.take (j+1)=a.take j++[a[j]]:=by rw [iM,au hja];rfl
 have e3:x=a[j]:=by rw [←hx,aj,au hja];rfl
 rw [e2,bT,e3];rfl
def Ac(s:Store)(v:V)(l:List Int):Prop:=v=ints l∨∃o,v=.kQ o 0 l.length∧iZ s o=some ⟨1,jR l⟩
def Fa(s:Store)(c:List V)(x:R):Prop:=∃v1 v2,c=[.bool x.neg,v1,v2]∧Ac s v1 x.mag∧Ac s v2 x.den
def I5(s:Store)(A:List (List V))(r:List R):Prop:=A.length=r.length∧∀j,j<r.length→Fa s (A.getD j []) (r.getD j default)
def Kp(s s2:Store):Prop:=∀o l,iZ s o=some ⟨1,jR l⟩→iZ s2 o=iZ s o
theorem Kp.refl(s:Store):Kp s s:=fun _ _ _=>rfl
theorem Kp.trans{a b c:Store}(h:Kp a b)(k:Kp b c):Kp a c:=fun o l e=>(k o l ((h o l e).trans e)).trans (h o l e)
theorem Kp.old{s s2:Store}(h:∀o,o<s.length→iZ s2 o=iZ s o):Kp s s2:=fun o l e=>h o (kD e)
theorem Ac.fr{s s2:Store}{v:V}{l:List Int}(h:Ac s v l)(k:Kp s s2):Ac s2 v l:=h.imp id fun ⟨o,e,ho⟩=>⟨o,e,(k o l ho).trans ho⟩
theorem Fa.fr{s s2:Store}{c:List V}{x:R}(h:Fa s c x)(k:Kp s s2):Fa s2 c x:=by
 obtain⟨v1,v2,e,h1,h2⟩:=h;exact⟨v1,v2,e,h1.fr k,h2.fr k⟩
theorem I5.fr{s s2:Store}{A:List (List V)}{r:List R}(h:I5 s A r)(k:Kp s s2):I5 s2 A r:=⟨h.1,fun j hj=>(h.2 j hj).fr k⟩
theorem Ac.leaf{s:Store}{v:V}{l:List Int}(h:Ac s v l):v.leaf=true:=by
 rcases h with rfl|⟨o,rfl,_⟩<;>rfl
theorem Ac.res{s:Store}{v:V}{l:List Int}(h:Ac s v l)(n:Nat):resolve s (n+3) v=some (ints l):=by
 rcases h with rfl|⟨o,rfl,ho⟩
 ·rfl
 have:=LG (n:=n+1) ho (oz l)
 rwa [CQ]at this
theorem aa7{s:Store}(l:List Int):Ac s (ints l) l:=.inl rfl
theorem ajN{s:Store}(x:R):Fa s x.cells x:=⟨_,_,rfl,aa7 _,aa7 _⟩
theorem anx{s:Store}(r:List R):I5 s (r.map R.cells) r:=⟨by simp,fun j hj=>by rw [mg hj];exact ajN _⟩
theorem Fa.mm{s:Store}{c:List V}{x:R}(h:Fa s c x)(n:Nat):c.mapM (resolve s (n+3))=some x.cells:=by
 obtain⟨v1,v2,rfl,h1,h2⟩:=h;simp only [bF,List.mapM_nil,h1.res,h2.res];rfl
theorem Fa.res{s:Store}{c:List V}{x:R}(h:Fa s c x):resolve s FD (.agg c)=some (kC x):=by
 show resolve s (8+3+1) _=_;rw [resolve,h.mm 8];rfl
theorem I5.mm{s:Store}{A:List (List V)}{r:List R}(h:I5 s A r)(n:Nat):(A.mapM fun (c:List V)=>c.mapM (resolve s (n+3)))=some (r.map R.cells):=by
 obtain⟨hl,h⟩:=h
 induction r generalizing A with
 |
  nil =>
  have:A=[]:=aY hl;subst this;rfl
 |
  cons x r ih =>
  rcases A with _|⟨a,A⟩
  ·simp at hl
  have h0:=h 0 (by simp);simp only [List.getD_cons_zero]at h0;rw [bF,h0.mm n,ih (by simpa using hl) fun j hj=>by simpa using h (j+1) (by simpa using hj)];rfl
theorem I5.anz{s:Store}{A:List (List V)}{r:List R}{p:Nat}(h:I5 s A r)(hp:iZ s p=some ⟨3,A⟩)(n:Nat):resolve s (n+4) (.kQ p 0 r.length)=some (Gn r):=by
 rw [resolve];simp only [hp];rw [if_pos (by rw [h.1];omega),bY,bg (by rw [h.1];omega),h.mm n];rfl
theorem I5.res{s:Store}{A:List (List V)}{r:List R}{p:Nat}(h:I5 s A r)(hp:iZ s p=some ⟨3,A⟩):resolve s FD (.kQ p 0 r.length)=some (Gn r):=h.anz hp 8
theorem aeS{s:Store}{v:V}{l:List Int}{os:List Nat}(h:lC s v (ints l) os):Ac s v l∧∀o∈os,∃l,iZ s o=some ⟨1,jR l⟩:=by
 rcases h.y8 with ⟨rfl,rfl,rfl⟩|⟨o,rfl,ho,rfl⟩
 ·exact⟨.inl rfl,by simp⟩
 exact⟨.inr ⟨o,rfl,ho⟩,fun q hq=>by rw [aV.1 hq];exact⟨_,ho⟩⟩
theorem anA{s:Store}{c:List V}{x:R}{os:List Nat}(h:mJ s c x.cells os):Fa s c x∧∀o∈os,∃l,iZ s o=some ⟨1,jR l⟩:=by
 obtain⟨cs,rfl,b⟩:=h.uZ;obtain⟨v1,cs,o1,o2,rfl,rfl,c,d⟩:=b.inv;obtain⟨v2,cs,o3,o4,rfl,rfl,e,f⟩:=d.inv;obtain⟨rfl,rfl⟩:=f.Ec;have k1:=aeS c;have k2:=aeS e;refine⟨⟨v1,v2,rfl,k1.1,k2.1⟩,fun o ho=>?_⟩;rcases aK.1 ho with ho|ho
 ·exact k1.2 o ho
 exact k2.2 o (by simpa using ho)
theorem YU{s:Store}:∀{r:List R} {A:List (List V)} {os:List Nat},tC s A (r.map R.cells) os→I5 s A r∧∀o∈os,∃l,iZ s o=some ⟨1,jR l⟩
 |
  [],A,os,h=>by
  simp only [iO,tC]at h;obtain⟨rfl,rfl⟩:=h;exact⟨⟨rfl,by simp⟩,by simp⟩
 |
  x::r,A,os,h=>by
  simp only [bU,tC]at h;obtain⟨v,vs',o1,o2,rfl,rfl,h1,h2⟩:=h;have k1:=anA h1;have k2:=YU h2;refine⟨⟨by simp [k2.1.1],fun j hj=>?_⟩,fun o ho=>?_⟩
  ·cases j with
   |zero=>exact k1.1
   |succ j=>simpa using k2.1.2 j (by simpa using hj)
  rcases aK.1 ho with ho|ho
  ·exact k1.2 o ho
  exact k2.2 o ho
def OE(n c:Nat)(rp:Nat→Nat):List (List V):=(List.range n).map fun i=>[.kQ (rp i) 0 c]
theorem Qd(n c:Nat)(rp:Nat→Nat):(OE n c rp).length=n:=by simp [OE]
theorem anB{n c:Nat}{rp:Nat→Nat}{i:Nat}(h:i<n):(OE n c rp)[i]? = some [.kQ (rp i) 0 c]:=by
 unfold OE;rw [bI,dS h];rfl
theorem aa8{n c:Nat}{rp:Nat→Nat}{i p:Nat}:(OE n c rp).set i [.kQ p 0 c]=OE n c fun x=>if x=i then p else rp x:=by
 apply dX
 intro x;unfold OE;rw [dP];simp only [aX,jE,bI];by_cases h:i=x
 ·subst h;by_cases hn:i<n
  ·simp [hn]
  rw [if_pos rfl,if_neg hn,aW (by simpa using hn)];rfl
 rw [if_neg h];by_cases hn:x<n
 ·rw [dS hn];simp only [bQ];rw [if_neg fun e:x=i=>h e.symm]
 rw [aW (by simpa using hn)];rfl
structure Sr (s:Store) (q n c:Nat) (rp:Nat→Nat) (A:Nat→List (List V)) (M:MF):Prop where
 inj:∀i j,i<n→j<n→rp i=rp j→i=j
 out:iZ s q=some ⟨1,OE n c rp⟩
 row:∀i,i<n→iZ s (rp i)=some ⟨3,A i⟩
 cel:∀i,i<n→I5 s (A i) (M i)
theorem Sr.lt{s:Store}{q n c:Nat}{rp:Nat→Nat}{A:Nat→List (List V)}{M:MF}(h:Sr s q n c rp A M):q<s.length∧∀i,i<n→rp i<s.length:=⟨kD h.out,fun i hi=>kD (h.row i hi)⟩
theorem Sr.ne{s:Store}{q n c:Nat}{rp:Nat→Nat}{A:Nat→List (List V)}{M:MF}(h:Sr s q n c rp A M){i:Nat}(hi:i<n):rp i≠q:=fun e=>by
 have:=h.row i hi;rw [e,h.out]at this;cases this
theorem Sr.fr{s s2:Store}{q n c:Nat}{rp:Nat→Nat}{A:Nat→List (List V)}{M:MF}(h:Sr s q n c rp A M)(hf:∀p,p<s.length→iZ s2 p=iZ s p):Sr s2 q n c rp A M :=
 ⟨h.inj,(hf _ h.lt.1).trans h.out,fun i hi=>(hf _ (h.lt.2 i hi)).trans (h.row i hi),fun i hi=>(h.cel i hi).fr (.old hf)⟩
theorem Sr.res{s:Store}{q n c:Nat}{rp:Nat→Nat}{A:Nat→List (List V)}{M:MF}(h:Sr s q n c rp A M)(hl:∀i,i<n→(M i).length=c):resolve s FD (.kQ q 0 n)=some (N9 ((List.range n).map M)):=by
 show resolve s (11+1) _=_;rw [resolve];simp only [h.out];rw [if_pos (by rw [Qd];omega),bY,bg (by rw [Qd];omega)];have:((OE n c rp).mapM fun (r:List V)=>r.mapM (resolve s 11))=some ((List.range n).map fun i=>[Gn (M i)]):=by
  unfold OE;rw [List.mapM_map];refine mapM_some fun i hi=>?_;have hi:=fP.1 hi;have h1:=(h.cel i hi).anz (h.row i hi) 7;rw [hl i hi]at h1;simp only [Function.comp,bF,List.mapM_nil];rw [h1];rfl
 rw [this,bQ];unfold N9;rw [gu];rfl
theorem Sr.put{s s2:Store}{q n c k:Nat}{rp:Nat→Nat}{A:Nat→List (List V)}{M:MF}{A2:List (List V)}{r:List R}(h:Sr s q n c rp A M)(hk:k<n)(hr:iZ s2 (rp k)=some ⟨3,A2⟩)(ho:∀o,o<s.length→o≠rp k→iZ s2 o=iZ s o)(hok:I5 s2 A2 r) :
  Sr s2 q n c rp (fun i=>if i=k then A2 else A i) (fun i=>if i=k then r else M i):=by
 have kp:Kp s s2:=fun o l e=>ho o (kD e) fun e2=>by rw [e2,h.row k hk]at e;cases e
 refine⟨h.inj,(ho _ h.lt.1 fun e=>h.ne hk e.symm).trans h.out,fun i hi=>?_,fun i hi=>?_⟩
 ·by_cases e:i=k
  ·subst e;rw [if_pos rfl];exact hr
  rw [if_neg e];exact(ho _ (h.lt.2 i hi) fun e2=>e (h.inj i k hi hk e2)).trans (h.row i hi)
 by_cases e:i=k
 ·subst e;rw [if_pos rfl,if_pos rfl];exact hok
 rw [if_neg e,if_neg e];exact(h.cel i hi).fr kp
theorem Sr.ext{s:Store}{q n c:Nat}{rp:Nat→Nat}{A:Nat→List (List V)}{M M2:MF}(h:Sr s q n c rp A M)(e:∀i,i<n→M i=M2 i):Sr s q n c rp A M2 :=
 ⟨h.inj,h.out,h.row,fun i hi=>e i hi▸h.cel i hi⟩
theorem Vm{n c:Nat}{rp:Nat→Nat}(hn:0<n)(l:List Int):OE n c rp≠jR l:=fun e=>by
 have h1:=anB (c:=c) (rp:=rp) hn;rw [e]at h1
 cases l with
 |nil=>simp [jR]at h1
 |cons x l=>simp [jR]at h1
theorem Sr.swap{s:Store}{q n c k p:Nat}{rp:Nat→Nat}{A:Nat→List (List V)}{M:MF}(h:Sr s q n c rp A M)(hk:k<n)(hp:p<n){rows:List (List V)}(hrows:rows=((OE n c rp).set k [.kQ (rp p) 0 c]).set p [.kQ (rp k) 0 c]){s2:Store}(hq:iZ s2 q=some ⟨1,rows⟩)(ho:∀o,o≠q→o<s.length→iZ s2 o=iZ s o) :
  Sr s2 q n c (fun x=>if x=p then rp k else if x=k then rp p else rp x) (fun x=>if x=p then A k else if x=k then A p else A x) (LP M k p):=by
 have kp:Kp s s2:=fun o l e=>ho o (fun e2=>by
  rw [e2,h.out]at e
  injection e with e
  injection e with _ e
  exact Vm (by omega) l e) (kD e)
 have hr:=fun i hi=>(ho _ (h.ne hi) (h.lt.2 i hi)).trans (h.row i hi);have hc:=fun i hi=>(h.cel i hi).fr kp;refine⟨fun i j hi hj e=>?_,?_,fun i hi=>?_,fun i hi=>?_⟩
 ·have inj:=h.inj;by_cases a1:i=p<;>by_cases b1:j=p
  ·omega
  ·rw [if_pos a1,if_neg b1]at e;by_cases b2:j=k
   ·rw [if_pos b2]at e;have:=inj k p hk hp e;omega
   rw [if_neg b2]at e;have:=inj k j hk hj e;omega
  ·rw [if_neg a1,if_pos b1]at e;by_cases b2:i=k
   ·rw [if_pos b2]at e;have:=inj p k hp hk e;omega
   rw [if_neg b2]at e;have:=inj i k hi hk e;omega
  rw [if_neg a1,if_neg b1]at e;by_cases a2:i=k<;>by_cases b2:j=k
  ·omega
  ·rw [if_pos a2,if_neg b2]at e;have:=inj p j hp hj e;omega
  ·rw [if_neg a2,if_pos b2]at e;have:=inj i p hi hp e;omega
  rw [if_neg a2,if_neg b2]at e;exact inj i j hi hj e
 ·rw [hq,hrows,aa8,aa8]
 ·split
  ·exact hr k hk
  split
  ·exact hr p hp
  exact hr i hi
 unfold LP;split
 ·exact hc k hk
 split
 ·exact hc p hp
 exact hc i hi
structure OwF (s:Store) (A:Nat→List (List V)) (M:MF) (f:Nat→List Nat) (S:Nat→Prop):Prop where
 ow:∀i,S i→tC s (A i) ((M i).map R.cells) (f i)
 nd:∀i,S i→(f i).Nodup
 ap:∀i j,S i→S j→i≠j→∀o∈f i,o∉f j
theorem OwF.kp{s s2:Store}{A:Nat→List (List V)}{M:MF}{f:Nat→List Nat}{S:Nat→Prop}(h:OwF s A M f S)(k:Kp s s2):OwF s2 A M f S :=
 ⟨fun i hi=>(h.ow i hi).frame fun o ho=>by obtain⟨l,hl⟩:=(YU (h.ow i hi)).2 o ho;exact k o l hl,h.nd,h.ap⟩
theorem OwF.put{s s2:Store}{A:Nat→List (List V)}{M:MF}{f:Nat→List Nat}{S:Nat→Prop}{k:Nat}{A2:List (List V)}{r:List R}{os:List Nat}(h:OwF s A M f S)(kp:Kp s s2)(ho:tC s2 A2 (r.map R.cells) os)(hn:os.Nodup)(hf:∀o∈os,s.length≤o) :
  OwF s2 (fun i=>if i=k then A2 else A i) (fun i=>if i=k then r else M i) (fun i=>if i=k then os else f i) (fun i=>S i∨i=k):=by
 have h2:=h.kp kp;have lt:∀i,S i→∀o∈f i,o<s.length:=fun i hi=>(h.ow i hi).lt;refine⟨fun i hi=>?_,fun i hi=>?_,fun i j hi hj hne o h1 h3=>?_⟩
 ·by_cases e:i=k
  ·subst e;rw [if_pos rfl,if_pos rfl,if_pos rfl];exact ho
  rw [if_neg e,if_neg e,if_neg e];exact h2.ow i (hi.resolve_right e)
 ·by_cases e:i=k
  ·subst e;rw [if_pos rfl];exact hn
  rw [if_neg e];exact h.nd i (hi.resolve_right e)
 by_cases e:i=k
 ·by_cases e2:j=k
  ·omega
  rw [if_pos e]at h1;rw [if_neg e2]at h3;have:=hf o h1;have:=lt j (hj.resolve_right e2) o h3;omega
 rw [if_neg e]at h1;by_cases e2:j=k
 ·rw [if_pos e2]at h3;have:=hf o h3;have:=lt i (hi.resolve_right e) o h1;omega
 rw [if_neg e2]at h3;exact h.ap i j (hi.resolve_right e) (hj.resolve_right e2) hne o h1 h3
theorem OwF.ext{s:Store}{A:Nat→List (List V)}{M M2:MF}{f:Nat→List Nat}{S S2:Nat→Prop}(h:OwF s A M f S)(e:∀i,S2 i→S i∧M i=M2 i):OwF s A M2 f S2 :=
 ⟨fun i hi=>(e i hi).2▸h.ow i (e i hi).1,fun i hi=>h.nd i (e i hi).1,fun i j hi hj=>h.ap i j (e i hi).1 (e j hj).1⟩
theorem OwF.fin{s:Store}{q n c:Nat}{rp:Nat→Nat}{A:Nat→List (List V)}{M:MF}{f:Nat→List Nat}(h:Sr s q n c rp A M)(ho:OwF s A M f fun i=>i<n)(hc:0<c)(hl:∀i,i<n→(M i).length=c):Fin s (.kQ q 0 n) (N9 ((List.range n).map M)):=by
 have key:∀m,m≤n→∃os,tC s ((List.range m).map fun i=>[.kQ (rp i) 0 c]) (((List.range m).map M).map fun r=>[Gn r]) os∧os.Nodup∧∀o∈os,∃i,i<m∧(o=rp i∨o∈f i):=by
  intro m
  induction m with
  |zero=>intro _;exact⟨[],by simp [tC],.nil,by simp⟩
  |
   succ m ih =>
   intro hm;obtain⟨os,k1,k2,k3⟩:=ih (by omega);have hm':m<n:=by omega
   have kinds:∀i,i<n→∀o∈f i,∃l,iZ s o=some ⟨1,jR l⟩:=fun i hi=>(YU (ho.ow i hi)).2;have hnf:∀i j,i<n→j<n→rp i∉f j:=fun i j hi hj hm=>by
    obtain⟨l,hl⟩:=kinds j hj _ hm;rw [h.row i hi]at hl;cases hl
   have hv:lC s (.kQ (rp m) 0 c) (Gn (M m)) (rp m::f m):=by
    unfold Gn;simp only [lC];exact .inr ⟨rp m,A m,f m,by rw [aX,hl m hm'],h.row m hm',rfl,ho.ow m hm'⟩
   refine⟨os++(rp m::f m),?_,?_,fun o ho'=>?_⟩
   ·rw [jd,cZ,cZ,cZ];exact Gu k1 (aeb (aed hv))
   ·rw [aZ,gI];refine⟨k2,⟨hnf m m hm' hm',ho.nd m hm'⟩,fun x hx y hy e=>?_⟩;subst e;obtain⟨i,hi,hi2⟩:=k3 x hx;rcases aH.1 hy with hy|hy
    ·rcases hi2 with hi2|hi2
     ·have:=h.inj i m (by omega) hm' (hi2.symm.trans hy);omega
     rw [hy]at hi2;exact hnf m i hm' (by omega) hi2
    rcases hi2 with hi2|hi2
    ·rw [hi2]at hy;exact hnf i m (by omega) hm' hy
    exact ho.ap i m (by omega) hm' (by omega) x hi2 hy
   rcases aK.1 ho' with ho'|ho'
   ·obtain⟨i,hi,k⟩:=k3 o ho';exact⟨i,by omega,k⟩
   rcases aH.1 ho' with rfl|ho'
   ·exact⟨m,by omega,.inl rfl⟩
   exact⟨m,by omega,.inr ho'⟩
 obtain⟨os,k1,k2,k3⟩:=key n (aJ _);refine vU (os:=q::os) ?_ (gI.2 ⟨fun hm=>?_,k2⟩)
 ·unfold N9;simp only [lC];exact .inr ⟨q,_,os,by simp,h.out,rfl,k1⟩
 obtain⟨i,hi,e|e⟩:=k3 q hm
 ·exact h.ne hi e.symm
 obtain⟨l,hl⟩:=(YU (ho.ow i hi)).2 _ e;rw [h.out]at hl
 injection hl with hl
 injection hl with _ hl
 exact Vm (by omega) l hl
def Vo(g:Nat→Nat)(a:Acc):Acc:=⟨a.i,a.R.map g,a.W.map g,a.n⟩
section
variable {g : Nat → Nat} {L L0 : Nat} (hinj : ∀ x y,g x = g y ↔ x = y) (hlt : ∀ x,g x < L ↔ x < L0)
include hinj in
theorem YV(l:List Nat)(p:Nat):(l.map g).contains (g p)=l.contains p:=by
 rw [jB,jC,jC,bG];constructor
 ·rintro⟨q,h1,h2⟩;rw [(hinj _ _).1 h2]at h1;exact h1
 exact fun h=>⟨p,h,rfl⟩
include hlt in
theorem XL(a b:Acc):yI L (Vo g a) (Vo g b)=yI L0 a b:=by
 unfold yI Vo;simp only [jg,Function.comp_def];simp only [hlt]
include hinj hlt in
theorem agu(d e:oM)(a b:Acc):uf L d e (Vo g a) (Vo g b)=uf L0 d e a b:=by
 unfold uf;rw [XL hlt,XL hlt];simp only [Vo,jg,Function.comp_def];simp only [YV hinj]
 congr 6
 congr 1
 funext p
 congr 2
 funext q
 rw [bne,bne]
 congr 1
 rw [jB,beq_iff_eq,beq_iff_eq];exact hinj _ _
include hinj hlt in
theorem aeU{B:Nat→List Nat}{ops:List oM}:∀l:List Acc,okA L B ops (l.map (Vo g))=okA L0 B ops l
 | []=>rfl
 |
  a::l=>by
  simp only [bU,okA,jg,Function.comp_def];rw [aeU l]
  congr 2
  funext b
  have h1:(Vo g a).i=a.i:=rfl;have h2:(Vo g b).i=b.i:=rfl;rw [agu hinj hlt,h1,h2]
include hinj hlt in
theorem anC{ops:List oM}{l l0:List Acc}(he:l=l0.map (Vo g))(hk:vH L0 ops l0):vH L ops l:=by
 unfold vH at hk ⊢;rw [he,←List.map_reverse,aeU hinj hlt];exact hk
end
def gN(l:List Nat)(L x:Nat):Nat:=match l[x]? with
 |some y=>y
 |none=>L+x
theorem ajO{l:List Nat}{L:Nat}(hl:∀o∈l,o<L)(x:Nat):gN l L x<L↔x<l.length:=by
 unfold gN
 cases h:l[x]? with
 |
  none =>
  have:=List.getElem?_eq_none_iff.1 h;simp only [];omega
 |
  some y =>
  have h1:=(aN.1 h).1;have h2:=hl y (aS h);simp only [];omega
theorem arh{l:List Nat}{L:Nat}(hl:∀o∈l,o<L)(hn:l.Nodup)(x y:Nat):gN l L x=gN l L y↔x=y:=by
 constructor
 ·intro e;have hx:=ajO hl x;have hy:=ajO hl y;by_cases h:x<l.length
  ·have h2:y<l.length:=hy.1 (e▸hx.2 h);unfold gN at e;rw [au h,au h2]at e;exact(List.getElem_inj hn).1 e
  have h2:¬y<l.length:=fun k=>h (hx.1 (e▸hy.2 k));unfold gN at e;rw [aW (by omega),aW (by omega)]at e;simp only []at e;omega
 rintro rfl;rfl
theorem nd2{a b:Nat}(h:a≠b):[a,b].Nodup:=by simp [h]
theorem nd3{a b c:Nat}(h:a≠b)(h2:a≠c)(h3:b≠c):[a,b,c].Nodup:=by simp [h,h2,h3]
theorem nd4{a b c d:Nat}(h:a≠b)(h2:a≠c)(h3:a≠d)(h4:b≠c)(h5:b≠d)(h6:c≠d):[a,b,c,d].Nodup:=by simp [h,h2,h3,h4,h5,h6]
theorem lt2{a b L:Nat}(h:a<L)(h2:b<L):∀o∈[a,b],o<L:=by simp [h,h2]
end Go.Ml
end
section
namespace Go.Ml
structure YW (s0 s:Store) (ri:Nat) (box:Obj) (A:List (List V)) (Z:List R) (j:Nat) (N:List (List V)) (os:List Nat):Prop where
 row:iZ s ri=some ⟨3,N++A.drop j⟩
 nl:N.length=j
 ow:tC s N ((Z.take j).map R.cells) os
 nd:os.Nodup
 fr:∀o∈os,s0.length≤o
 old:∀o,o<s0.length→o≠ri→iZ s o=iZ s0 o
 bx:iZ s s0.length=some box
 len:s0.length<s.length
section
variable {s0 s : Store} {ri : Nat} {box : Obj} {A : List (List V)} {Z : List R} {j : Nat} {N : List (List V)} {os : List Nat}
theorem YW.kp(I:YW s0 s ri box A Z j N os)(hi:iZ s0 ri=some ⟨3,A⟩):Kp s0 s:=fun o l e=>I.old o (kD e) fun e2=>by rw [e2,hi]at e;cases e
theorem YW.at(I:YW s0 s ri box A Z j N os)(hj:j<A.length):(N++A.drop j)[j]? = some (A.getD j []):=by
 rw [bJ (by rw [I.nl];exact aJ _),I.nl,Nat.sub_self,dF,gq,aj,au hj];rfl
theorem YW.step(I:YW s0 s ri box A Z j N os)(hri:ri<s0.length)(hj:j<A.length)(hjZ:j<Z.length){z:R}(hz:Z.getD j default=z){q3:Store}{c:List V}{o3:List Nat}(old:∀o,o<s.length→iZ q3 o=iZ s o)(len:s.length≤q3.length)
  (ho:mJ q3 c z.cells o3) (nd3:o3.Nodup) (fr3:∀o∈o3,s.length≤o):YW s0 (q3.set ri (some ⟨3,(N++A.drop j).set j c⟩)) ri box A Z (j+1) (N++[c]) (os++o3):=by
 have hl:=I.len;have ne:∀o,ri≠o→iZ (q3.set ri (some ⟨3,(N++A.drop j).set j c⟩)) o=iZ q3 o:=fun o h=>jM fun e=>h e.symm;have e1:(N++A.drop j).set j c=(N++[c])++A.drop (j+1):=by
  rw [List.set_append_right _ _ (by rw [I.nl];exact aJ _),I.nl,Nat.sub_self,bH hj,jr,bT];rfl
 refine⟨?_,by simp [I.nl],?_,?_,fun o h=>?_,fun o h1 h2=>?_,?_,by simp;omega⟩
 ·rw [kF (by omega),e1]
 ·rw [take_snoc hjZ,cZ,hz];refine Gu (I.ow.frame fun o h=>?_) (aeb (ho.frame fun o h=>?_))
  ·have h1:=I.fr o h;rw [ne o (by omega),old o (I.ow.lt o h)]
  have:=fr3 o h;rw [ne o (by omega)]
 ·rw [aZ];refine⟨I.nd,nd3,fun x hx y hy e=>?_⟩;have:=I.ow.lt x hx;have:=fr3 y hy;omega
 ·rcases aK.1 h with h|h
  ·exact I.fr o h
  have:=fr3 o h;omega
 ·rw [ne o (fun e=>h2 e.symm),old o (by omega),I.old o h1 h2]
 rw [ne _ (by omega),old _ (by omega),I.bx]
theorem YW.fin(I:YW s0 s ri box A Z j N os)(h1:j=A.length)(h2:j=Z.length):iZ s ri=some ⟨3,N⟩∧tC s N (Z.map R.cells) os:=by
 have a:=I.row;have b:=I.ow;rw [h1,gJ,aP]at a;rw [h2,bM]at b;exact⟨a,b⟩
end
theorem Ac.rch{s:Store}{v:V}{l:List Int}(h:Ac s v l):∀n,∀o∈reach s n v,∃l,iZ s o=some ⟨1,jR l⟩:=by
 intro n o ho;rcases h with rfl|⟨q,rfl,hq⟩
 ·cases n<;>simp [reach]at ho
 cases n with
 |zero=>simp [reach]at ho
 |
  succ n =>
  simp only [reach,hq,aH,dY]at ho;rcases ho with rfl|⟨r,hr,c,hc,ho⟩
  ·exact⟨_,hq⟩
  have hs:=oz l r hr c hc
  cases n with
  |zero=>simp [reach]at ho
  |succ n=>rw [Af hs]at ho;cases ho
theorem Fa.rch{s:Store}{c:List V}{x:R}(h:Fa s c x):∀n,∀o∈reach s n (.agg c),∃l,iZ s o=some ⟨1,jR l⟩:=by
 intro n o ho;obtain⟨v1,v2,rfl,h1,h2⟩:=h
 cases n with
 |zero=>simp [reach]at ho
 |
  succ n =>
  rw [Au]at ho;obtain⟨c,hc,ho⟩:=ho;simp only [aH,bP,or_false]at hc;rcases hc with rfl|rfl|rfl
  ·cases n<;>simp [reach]at ho
  ·exact h1.rch n o ho
  exact h2.rch n o ho
end Go.Ml
end
section
namespace Go.Ml
theorem azR{α:Type}{l:List (List α)}{j:Nat}(h:j<l.length):l[j]? = some (l.getD j []):=by
 rw [aj,au h];rfl
theorem Sr.cell{s:Store}{q n c:Nat}{rp:Nat→Nat}{A:Nat→List (List V)}{M:MF}(h:Sr s q n c rp A M)(hl:∀i,i<n→(M i).length=c){i j:Nat}(hi:i<n)(hj:j<c):∃a1 a2,(A i)[j]? = some [.bool (elF M i j).neg,a1,a2]∧Ac s a1 (elF M i j).mag∧Ac s a2 (elF M i j).den:=by
 have hr:=h.cel i hi;have hjl:j<(M i).length:=by rw [hl i hi];exact hj
 obtain⟨a1,a2,e,k1,k2⟩:=hr.2 j hjl;exact⟨a1,a2,by rw [azR (by rw [hr.1];exact hjl),e];rfl,k1,k2⟩
def Vp(s:Store)(q n c:Nat)(rp:Nat→Nat)(M:MF):Prop:=Sr s q n c rp (fun x=>(M x).map R.cells) M
def ari(M:MF)(i:Nat)(r:List R):MF:=fun x=>if x=i then r else M x
theorem Vp.put{s s2:Store}{q n c k:Nat}{rp:Nat→Nat}{M:MF}{r:List R}(h:Vp s q n c rp M)(hk:k<n)(hr:iZ s2 (rp k)=some ⟨3,r.map R.cells⟩)(ho:∀o,o<s.length→o≠rp k→iZ s2 o=iZ s o):Vp s2 q n c rp (ari M k r):=by
 have:=Sr.put h hk hr ho (anx r);have e:(fun i=>if i=k then r.map R.cells else(M i).map R.cells)=fun x=>(ari M k r x).map R.cells:=by
  funext i;unfold ari;split<;>rfl
 rw [e]at this;exact this
theorem Vp.swap{s:Store}{q n c k p:Nat}{rp:Nat→Nat}{M:MF}(h:Vp s q n c rp M)(hk:k<n)(hp:p<n){rows:List (List V)}(hrows:rows=((OE n c rp).set k [.kQ (rp p) 0 c]).set p [.kQ (rp k) 0 c]){s2:Store}(hq:iZ s2 q=some ⟨1,rows⟩)(ho:∀o,o≠q→o<s.length→iZ s2 o=iZ s o) :
  Vp s2 q n c (fun x=>if x=p then rp k else if x=k then rp p else rp x) (LP M k p):=by
 have:=Sr.swap h hk hp hrows hq ho;have e:(fun x=>if x=p then(M k).map R.cells else if x=k then(M p).map R.cells else(M x).map R.cells)=fun x=>(LP M k p x).map R.cells:=by
  funext i;unfold LP;split
  ·rfl
  split<;>rfl
 rw [e]at this;exact this
theorem Vp.ext{s:Store}{q n c:Nat}{rp:Nat→Nat}{M M2:MF}(h:Vp s q n c rp M)(e:∀i,i<n→M i=M2 i):Vp s q n c rp M2 :=
 ⟨h.inj,h.out,fun i hi=>by rw [←e i hi];exact h.row i hi,fun i hi=>by rw [←e i hi];exact h.cel i hi⟩
theorem Vp.cell{s:Store}{q n c:Nat}{rp:Nat→Nat}{M:MF}(h:Vp s q n c rp M)(hl:∀i,i<n→(M i).length=c){i j:Nat}(hi:i<n)(hj:j<c):((M i).map R.cells)[j]? = some (elF M i j).cells:=by
 have hjl:j<(M i).length:=by rw [hl i hi];exact hj
 rw [mg? hjl];rfl
theorem Sr.anz{s:Store}{q n c:Nat}{rp:Nat→Nat}{A:Nat→List (List V)}{M:MF}(h:Sr s q n c rp A M)(hl:∀i,i<n→(M i).length=c)(k:Nat):resolve s (k+5) (.kQ q 0 n)=some (N9 ((List.range n).map M)):=by
 rw [resolve];simp only [h.out];rw [if_pos (by rw [Qd];omega),bY,bg (by rw [Qd];omega)];have:((OE n c rp).mapM fun (r:List V)=>r.mapM (resolve s (k+4)))=some ((List.range n).map fun i=>[Gn (M i)]):=by
  unfold OE;rw [List.mapM_map];refine mapM_some fun i hi=>?_;have hi:=fP.1 hi;have h1:=(h.cel i hi).anz (h.row i hi) k;rw [hl i hi]at h1;simp only [Function.comp,bF,List.mapM_nil];rw [h1];rfl
 rw [this,bQ];unfold N9;rw [gu];rfl
theorem aa9{σ:Store}:∀(n:Nat) {A T:List (List V)} {os:List Nat},tC σ A T os→∃os',tC σ (A.drop n) (T.drop n) os'∧os'.Sublist os
 |0,A,T,os,h=>⟨os,h,List.Sublist.refl _⟩
 |
  n+1,A,[],os,h=>by
  simp only [tC]at h;obtain⟨rfl,rfl⟩:=h;exact⟨[],by simp [tC],List.Sublist.refl _⟩
 |
  n+1,A,t::T,os,h=>by
  simp only [tC]at h;obtain⟨v,vs',o1,o2,rfl,rfl,h1,h2⟩:=h;obtain⟨os',k1,k2⟩:=aa9 n h2;exact⟨os',k1,k2.trans (List.sublist_append_right _ _)⟩
theorem OwF.drop{s:Store}{A:Nat→List (List V)}{M:MF}{f:Nat→List Nat}{n:Nat}(ho:OwF s A M f fun i=>i<n)(d:Nat):∃f',OwF s (fun i=>(A i).drop d) (fun i=>(M i).drop d) f' (fun i=>i<n)∧∀i,i<n→∀o∈f' i,o∈f i:=by
 have h:∀i,∃os',i<n→tC s ((A i).drop d) (((M i).drop d).map R.cells) os'∧os'.Sublist (f i):=fun i=>by
  by_cases hi:i<n
  ·obtain⟨os',k1,k2⟩:=aa9 d (ho.ow i hi);rw [←List.map_drop]at k1;exact⟨os',fun _=>⟨k1,k2⟩⟩
  exact⟨[],fun h=>absurd h hi⟩
 refine⟨fun i=>Classical.choose (h i),⟨fun i hi=>?_,fun i hi=>?_,fun i j hi hj hne o h1 h2=>?_⟩,fun i hi o h1=>?_⟩
 ·exact(Classical.choose_spec (h i) hi).1
 ·exact(ho.nd i hi).sublist (Classical.choose_spec (h i) hi).2
 ·exact ho.ap i j hi hj hne o ((Classical.choose_spec (h i) hi).2.subset h1) ((Classical.choose_spec (h j) hj).2.subset h2)
 exact(Classical.choose_spec (h i) hi).2.subset h1
theorem YX{ops:List oM}{L:Nat}{acc:List Acc}(l:List Nat)(l0:List Acc)(hn:l.Nodup)(hl:∀o∈l,o<L)(he:acc=l0.map (Vo (gN l L)))(h:vH l.length ops l0):vH L ops acc:=anC (arh hl hn) (ajO hl) he h
def wL:Fn:=⟨1,58,[.tmp 2,.tmp 3],(sr [oN 2 mN,oN 3 mF] (.seq (sr [oW 11 0,oN 12 (cl 273 [11]),oN 13 (nt 12)] (cd 13 (sr [oN 2 mN,oN 3 mF] .ret) .skip)) (sr [oN 4 (.oO (cI 0))] (.seq (sr [oW 14 0,oN 15 (ln 14),oN 16 (.oO (cI 0))] (.block 0 (.loop (sr [oN 17 (bt .lss 16 15)] (.seq (cd 17 .skip (.exit 0)) (.seq (.block 1 (.seq (rf 1 [oK 18 1 (ix 5 14 16),oK 19 1 (lT 5 18),oN 6 (.alloc Zi),⟨none,none,1,.store 5 (.t 6) (.t 19),[]⟩]) (rg [oW 20 4,oN 21 (fd 0 6),oN 22 (lF 1 21),oN 23 (.max (.t 20) (.t 22)),oW 4 23]))) (rg [oN 24 (bc .add 16 1),oW 16 24]))))))) (.seq (rf 1 [oK 25 1 (oV 4),oK 26 1 (bc .add 25 1),oN 27 (.make zz6 112 (.t 26)),oK 7 1 (oV 27)]) (sr [oW 28 7,oN 29 (.call 186 []),oN 30 (.idx 6 (.t 28) (cI 0)),oS (.store 6 (.t 30) (.t 29))] (.seq (sr [oW 31 0,oN 32 (ln 31),oN 33 (bc .sub 32 1),oW 8 33] (.block 2 (.loop (.seq (sr [oW 34 8,oN 35 (bc .geq 34 0)] (cd 35 .skip (.exit 2))) (.seq (.block 3 (.seq (rf 1 [oK 39 1 (oV 0),oK 40 1 (oV 8),oK 41 1 (ix 5 39 40),oK 42 1 (lT 5 41),oK 43 1 (oV 7),oK 44 1 (cl 176 [42,43]),oK 38 1 (oV 44),oK 45 1 (ex 0 38),oK 46 1 (ex 1 38),oN 9 (.alloc zz6),⟨none,none,1,.store 6 (.t 9) (.t 45),[]⟩,oK 10 1 (oV 46)]) (.seq (sr [oW 47 10,oN 48 (nt 47)] (cd 48 (sr [oN 2 mN,oN 3 mF] .ret) .skip)) (rt 0 [oW 49 7,oW 50 0,oW 51 8,oA 52 0 (ix 5 50 51) [1,2],oA 53 0 (fd 0 52) [3],oA 54 0 (lF 1 53) [4],oN 55 (lT 6 9),oA 56 0 (ix 6 49 54) [0,5,0,1,2,3,4,5,6],⟨none,none,0,.store 6 (.t 56) (.t 55),[7,6,0,1,2,3,4,5,6]⟩])))) (rg [oW 36 8,oN 37 (bc .sub 36 1),oW 8 37])))))) (sr [oW 57 7,oW 2 57,oN 3 mT] .ret))))))))⟩
structure Fb (T:Tb):Prop where
 hT:T 272=some wL
 I7:vk T
 Di:yF T
 YZ:JD T
def svC(l:List Cd)(k:Nat):Cd:=l.getD (l.length-1-k) default
def Zk(l:List Cd):Nat→Nat
 |0=>0
 |k+1=>max (Zk l k) (l.getD k default).node.toNat
def svP(m:Nat):List Pt:=(List.replicate (m+1) ⟨R0,R0⟩).set 0 ⟨ku 0,ku 0⟩
def FV(l:List Cd):Nat→List Pt
 |0=>svP (Zk l l.length)
 |k+1=>(FV l k).set (svC l k).node.toNat (XH (svC l k) (FV l k))
noncomputable def svG(l:List Cd):Bool:=Hq l&&(List.range l.length).all fun k=>GZ (svC l k) (FV l k)
noncomputable def svV(l:List Cd):List Pt:=if svG l=true then FV l l.length else []
theorem Y0{l:List Cd}(h:svG l=false):svV l=[]:=by unfold svV;rw [h];rfl
theorem Qe{l:List Cd}(h:svG l=true):svV l=FV l l.length:=by unfold svV;rw [if_pos h]
theorem Y1{l:List Cd}(h:Hq l=false):svG l=false:=by unfold svG;rw [h];rfl
theorem arj{l:List Cd}{k:Nat}(hk:k<l.length)(h:GZ (svC l k) (FV l k)=false):svG l=false:=by
 unfold svG;rw [jf.2 ⟨k,fP.2 hk,by rw [h];simp⟩,Bool.and_false]
theorem aeV{l:List Cd}(hn:Hq l=true)(h:∀k,k<l.length→GZ (svC l k) (FV l k)=true):svG l=true:=by
 unfold svG;rw [hn,cO,aT];intro k hk;exact h k (fP.1 hk)
theorem OG{l:List Cd}(h:Hq l=true){i:Nat}(hi:i<l.length):1≤(l.getD i default).node∧(l.getD i default).node≤9:=by
 have h1:=(of_decide_eq_true h i hi).1;unfold uw inB at h1;simp only [aG,decide_eq_true_eq]at h1;exact h1.1.1.1.2
theorem Y2{l:List Cd}(h:Hq l=true):∀k,k≤l.length→Zk l k≤9
 |0,_=>fH _
 |
  k+1,hk=>by
  have:=Y2 h k (by omega);have:=OG h (i:=k) (by omega);unfold Zk;omega
theorem ade{l:List Cd}:∀k,∀i,i<k→(l.getD i default).node.toNat≤Zk l k
 |0,i,hi=>by omega
 |
  k+1,i,hi=>by
  unfold Zk;by_cases e:i=k
  ·subst e;omega
  have:=ade (l:=l) k i (by omega);omega
theorem MX(l:List Cd):∀k,(FV l k).length=Zk l l.length+1
 |0=>by unfold FV svP;simp
 |k+1=>by unfold FV;rw [bC,MX l k]
theorem Y3(l:List Cd):∀k,∀q∈FV l k,q.x.cn∧q.y.cn
 |
  0,q,hq=>by
  unfold FV svP at hq;rcases fM hq with hq|rfl
  ·rw [(List.mem_replicate.1 hq).2];exact⟨SI,SI⟩
  exact⟨vS (by decide),vS (by decide)⟩
 |
  k+1,q,hq=>by
  unfold FV at hq;rcases fM hq with hq|rfl
  ·exact Y3 l k q hq
  exact aq3 _ _
theorem ajP{l:List Pt}(h:∀q∈l,q.x.cn∧q.y.cn)(hl:l.length≤1048576):IQ Pt.wf l:=⟨by omega,fun q hq=>⟨rP (h q hq).1,rP (h q hq).2⟩⟩
theorem ajQ{l:List Cd}(h:Hq l=true){k:Nat}(hk:k<l.length):1≤(svC l k).node∧(svC l k).node.toNat≤Zk l l.length:=by
 unfold svC;exact⟨(OG h (by omega)).1,ade l.length _ (by omega)⟩
theorem ajR(l:List Cd):Qn Pt.sz (svV l)≤100000∧IQ Pt.wf (svV l):=by
 cases h:svG l
 ·rw [Y0 h];exact⟨by simp [Qn],by simp [IQ]⟩
 rw [Qe h];have hn:Hq l=true:=by
  cases hn:Hq l
  ·rw [Y1 hn]at h;cases h
  rfl
 have hm:=Y2 hn l.length (aJ _);have hl:=MX l l.length;have hc:=Y3 l l.length;refine⟨?_,ajP hc (by omega)⟩;have:=U7 (f:=Pt.sz) (k:=200) (l:=FV l l.length) fun q hq=>by
  have h1:=Oj (hc q hq).1;have h2:=Oj (hc q hq).2;unfold Pt.sz R.sz;omega
 omega
def ptz:List V:=[.bool false,.jF,.jF,.bool false,.jF,.jF]
theorem anE(W:L8)(σ:Store):Eu W σ ptz (⟨R0,R0⟩:Pt).cells:=by
 simp only [ptz,Eu,wZ,Pt.cells];exact⟨_,_,rfl,rfl,_,_,rfl,.inr ⟨1,rfl⟩,_,_,rfl,.inr ⟨1,rfl⟩,_,_,rfl,rfl,_,_,rfl,.inr ⟨1,rfl⟩,_,_,rfl,.inr ⟨1,rfl⟩,rfl⟩
theorem ark(m:Nat):(svP m).map Pt.cells=(⟨ku 0,ku 0⟩:Pt).cells::(List.replicate m (⟨R0,R0⟩:Pt).cells):=by
 simp [svP,jJ]
theorem ajS{W:L8}{σ:Store}{m:Nat}{c c2:List V}(hc:Eu W σ c c2)(i:Nat)(r r2:List V)(h1:(c::List.replicate m ptz)[i]? = some r)
  (h2:(c2::List.replicate m (⟨R0,R0⟩:Pt).cells)[i]? = some r2):Eu W σ r r2:=by
 cases i with
 |
  zero =>
  simp at h1 h2;subst h1;subst h2;exact hc
 |
  succ i =>
  simp [ji]at h1 h2;obtain⟨_,rfl⟩:=h1;obtain⟨_,rfl⟩:=h2;exact anE W σ
def Kv(σ:Store)(p:Nat)(ob:Obj)(os:List Nat):Store:=(List.range σ.length).map fun k=>if k=p then some ob else if k∈os then iZ σ k else none
def keepW(σ:Store)(p n:Nat)(os:List Nat):L8:=(List.range σ.length).map fun k=>if k=p then some (p,0,n)else if k∈os then(iZ σ k).map (fun ob=>(k,0,ob.rows.length))else none
theorem EH{σ:Store}{p:Nat}{ob:Obj}{os:List Nat}{k:Nat}(hk:k<σ.length):iZ (Kv σ p ob os) k=if k=p then some ob else if k∈os then iZ σ k else none:=by
 simp only [iZ,Kv,bI,dS hk];rfl
theorem GU{σ:Store}{p n:Nat}{os:List Nat}{k:Nat}(hk:k<σ.length):(keepW σ p n os)[k]? = some (if k=p then some (p,0,n)else if k∈os then(iZ σ k).map (fun ob=>(k,0,ob.rows.length))else none):=by
 unfold keepW;rw [bI,dS hk];rfl
theorem MZ{σ:Store}{p n:Nat}{os:List Nat}{k o s l:Nat}(h:(keepW σ p n os)[k]? = some (some (o,s,l))):k<σ.length∧o=k∧s=0∧((k=p∧l=n)∨(k≠p∧k∈os∧∃ob,iZ σ k=some ob∧l=ob.rows.length)):=by
 have hk:k<σ.length:=by
  have:=(aN.1 h).1;unfold keepW at this;simpa using this
 rw [GU hk]at h;refine⟨hk,?_⟩;by_cases e:k=p
 ·rw [if_pos e]at h;simp only [aB,Prod.mk.injEq]at h;exact⟨by omega,h.2.1.symm,.inl ⟨e,h.2.2.symm⟩⟩
 rw [if_neg e]at h;by_cases m:k∈os
 ·rw [if_pos m]at h;simp only [aB,aI]at h;obtain⟨ob,h1,h2⟩:=h;simp only [Prod.mk.injEq]at h2;exact⟨h2.1.symm,h2.2.1.symm,.inr ⟨e,m,ob,h1,h2.2.2.symm⟩⟩
 rw [if_neg m]at h
 cases h
theorem ajT{p n:Nat}{vs:List V}{env:Nat→V}{σ:Store}{b1 b2:Nat}{r1 r2 m1 m2:List Nat}{A A':List (List V)}{os:List Nat}(h:iZ σ p=some ⟨n,A⟩)(hl:A'.length=A.length)
  (hs:∀o∈os,∀ob,iZ σ o=some ob→l9 ob.rows)
  (hr:∀(i:Nat) (r r2:List V),A[i]? = some r→A'[i]? = some r2→Eu (keepW σ p A.length os) σ r r2) (he:Hy (keepW σ p A.length os) σ vs 0 env) :
  Fg ⟨lS vs,Kv σ p ⟨n,A'⟩ os,0,b1,r1,m1⟩ ⟨env,σ,0,b2,r2,m2⟩:=by
 refine .re (keepW σ p A.length os) ⟨⟨by unfold Kv keepW;simp,?_,?_,?_⟩,rfl,fun i hi=>absurd hi (gG _),fun t=>by have:=he.at_ t;rwa [aQ]at this⟩
 ·intro i j o s l s' l' hi hj;rw [←(MZ hi).2.1,←(MZ hj).2.1]
 ·intro k o s l hk;obtain⟨hlt,rfl,rfl,hk2⟩:=MZ hk;rcases hk2 with ⟨rfl,rfl⟩|⟨e,m,ob,h1,rfl⟩
  ·refine⟨_,⟨n,A'⟩,h,by simp,by show iZ (Kv _ _ _ _) _=_;rw [EH hlt,if_pos rfl],rfl,hl,fun i r r2 h1 h2=>hr i r r2 (by simpa using h1) h2⟩
  refine⟨ob,ob,h1,by simp,by show iZ (Kv _ _ _ _) _=_;rw [EH hlt,if_neg e,if_pos m,h1],rfl,rfl,fun i r r2 h2 h3=>?_⟩;rw [aQ,h3]at h2;simp only [aB]at h2;subst h2;exact Ji fun v hv=>hs o m ob h1 r2 (aS h3) v hv
 intro k hk;have hlt:k<σ.length:=by
  have:=(aN.1 hk).1;unfold keepW at this;simpa using this
 rw [GU hlt]at hk;show iZ (Kv _ _ _ _) _=_;rw [EH hlt];by_cases e:k=p
 ·rw [if_pos e]at hk;cases hk
 rw [if_neg e]at hk ⊢;by_cases m:k∈os
 ·rw [if_pos m]at hk ⊢
  cases ho:iZ σ k
  ·rfl
  rw [ho]at hk;cases hk
 rw [if_neg m]
theorem FW{σ:Store}{v:V}{l:List Int}{os os2:List Nat}{p n:Nat}(h:lC σ v (ints l) os)(hm:∀o∈os,o∈os2∧o≠p):wZ (keepW σ p n os2) σ v v:=by
 rcases h.y8 with ⟨_,rfl,_⟩|⟨o,rfl,h1,rfl⟩
 ·exact Gl rfl
 obtain⟨m1,m2⟩:=hm o (by simp);simp only [wZ];refine .inl ⟨o,0,l.length,?_,fH _,by omega,by rw [Nat.sub_zero]⟩;rw [GU (kD h1),if_neg m2,if_pos m1,h1];simp [CQ]
theorem Vq{σ:Store}{b b2:Bool}{x1 x2 x3 x4:V}{l1 l2 l3 l4:List Int}{os:List Nat}(h:mJ σ [.bool b,x1,x2,.bool b2,x3,x4] [.bool b,ints l1,ints l2,.bool b2,ints l3,ints l4] os) :
  ∃o1 o2 o3 o4,os=o1++(o2++(o3++o4))∧lC σ x1 (ints l1) o1∧lC σ x2 (ints l2) o2∧lC σ x3 (ints l3) o3∧lC σ x4 (ints l4) o4:=by
 simp only [mJ]at h;obtain⟨_,_,_,_,e1,rfl,h1,_,_,_,_,e2,rfl,h2,_,_,_,_,e3,rfl,h3,_,_,_,_,e4,rfl,h4,_,_,_,_,e5,rfl,h5,_,_,_,_,e6,rfl,h6,e7,rfl⟩:=h;simp only [List.cons.injEq]at e1;obtain⟨rfl,rfl⟩:=e1;simp only [List.cons.injEq]at e2;obtain⟨rfl,rfl⟩:=e2;simp only [List.cons.injEq]at e3;obtain⟨rfl,rfl⟩:=e3;simp only [List.cons.injEq]at e4;obtain⟨rfl,rfl⟩:=e4;simp only [List.cons.injEq]at e5;obtain⟨rfl,rfl⟩:=e5;simp only [List.cons.injEq]at e6;obtain⟨rfl,rfl⟩:=e6;have kb:∀{b:Bool} {o:List Nat},lC σ (.bool b) (.bool b) o→o=[]:=fun h=>by simp only [lC]at h;exact h.2
 obtain rfl:=kb h1;obtain rfl:=kb h4;exact⟨_,_,_,_,by simp,h2,h3,h5,h6⟩
theorem BO{σ:Store}{v:V}{l:List Int}{os:List Nat}(h:lC σ v (ints l) os):∀o∈os,∀ob,iZ σ o=some ob→l9 ob.rows:=by
 rcases h.y8 with ⟨_,_,rfl⟩|⟨o,rfl,h1,rfl⟩
 ·intro o ho;cases ho
 intro q hq ob hob;rw [aV.1 hq,h1]at hob
 cases hob
 exact oz _
theorem Y4{σ:Store}{b b2:Bool}{x1 x2 x3 x4:V}{l1 l2 l3 l4:List Int}{os:List Nat}(h:mJ σ [.bool b,x1,x2,.bool b2,x3,x4] [.bool b,ints l1,ints l2,.bool b2,ints l3,ints l4] os):∀o∈os,∀ob,iZ σ o=some ob→l9 ob.rows:=by
 obtain⟨o1,o2,o3,o4,rfl,h1,h2,h3,h4⟩:=Vq h;intro o ho;simp only [aK]at ho;rcases ho with ho|ho|ho|ho
 ·exact BO h1 o ho
 ·exact BO h2 o ho
 ·exact BO h3 o ho
 exact BO h4 o ho
theorem adf{σ:Store}{b b2:Bool}{x1 x2 x3 x4:V}{l1 l2 l3 l4:List Int}{os os2:List Nat}{p n:Nat}(h:mJ σ [.bool b,x1,x2,.bool b2,x3,x4] [.bool b,ints l1,ints l2,.bool b2,ints l3,ints l4] os)(hm:∀o∈os,o∈os2∧o≠p) :
  Eu (keepW σ p n os2) σ [.bool b,x1,x2,.bool b2,x3,x4] [.bool b,x1,x2,.bool b2,x3,x4]:=by
 obtain⟨o1,o2,o3,o4,rfl,h1,h2,h3,h4⟩:=Vq h;have k1:=FW (n:=n) h1 fun o ho=>hm o (by simp [ho]);have k2:=FW (n:=n) h2 fun o ho=>hm o (by simp [ho]);have k3:=FW (n:=n) h3 fun o ho=>hm o (by simp [ho]);have k4:=FW (n:=n) h4 fun o ho=>hm o (by simp [ho]);have kb:∀b:Bool,wZ (keepW σ p n os2) σ (.bool b) (.bool b):=fun b=>Gl rfl;simp only [Eu];exact⟨_,_,rfl,kb _,_,_,rfl,k1,_,_,rfl,k2,_,_,rfl,kb _,_,_,rfl,k3,_,_,rfl,k4,rfl⟩
theorem arl{σ:Store}:mJ σ (⟨R0,R0⟩:Pt).cells (⟨R0,R0⟩:Pt).cells [] :=
 nI (nP (o1:=[]) kX (nP (o1:=[]) kX (nI (nP (o1:=[]) kX (nP (o1:=[]) kX nC)))))
theorem aeW{σ:Store}:∀m:Nat,mJ σ (List.replicate m (⟨R0,R0⟩:Pt).cells).flatten (List.replicate m (⟨R0,R0⟩:Pt).cells).flatten []
 |0=>nC
 |
  m+1=>by
  rw [jJ,dG];exact(lH arl (aeW m):mJ σ _ _ ([]++[]))
theorem ajU{σ:Store}{p m:Nat}{x1 x2 x3 x4:V}{os:List Nat}(h:mJ σ [.bool (ku 0).neg,x1,x2,.bool (ku 0).neg,x3,x4] (⟨ku 0,ku 0⟩:Pt).cells os)(nd:os.Nodup)(hp:p∉os)(hl:p<σ.length) :
  Ep (Kv σ p ⟨6,[.bool (ku 0).neg,x1,x2,.bool (ku 0).neg,x3,x4]::List.replicate m (⟨R0,R0⟩:Pt).cells⟩ os)
   ([.bool (ku 0).neg,x1,x2,.bool (ku 0).neg,x3,x4]::List.replicate m (⟨R0,R0⟩:Pt).cells).flatten ((svP m).map Pt.cells).flatten os
   [(p,⟨6,[.bool (ku 0).neg,x1,x2,.bool (ku 0).neg,x3,x4]::List.replicate m (⟨R0,R0⟩:Pt).cells⟩)]:=by
 have hat:∀o∈os,iZ (Kv σ p ⟨6,[.bool (ku 0).neg,x1,x2,.bool (ku 0).neg,x3,x4]::List.replicate m (⟨R0,R0⟩:Pt).cells⟩ os) o=iZ σ o:=fun o ho=>by
  rw [EH (h.lt o ho),if_neg (fun e=>hp (by rw [←e];exact ho)),if_pos ho]
 refine⟨⟨?_,nd⟩,fun q hq=>?_⟩
 ·rw [ark,dG,dG];have:=lH (h.frame hat) (aeW (σ:=Kv σ p ⟨6,[.bool (ku 0).neg,x1,x2,.bool (ku 0).neg,x3,x4]::List.replicate m (⟨R0,R0⟩:Pt).cells⟩ os) m)
  rwa [aP]at this
 rw [aV.1 hq];exact⟨by rw [EH hl,if_pos rfl],hp⟩
def GnA(n:Nat)(s:Store)(v:V)(A:List (List V)):Prop:=(A=[]∧v=.jF)∨∃p,v=.kQ p 0 A.length∧iZ s p=some ⟨n,A⟩∧3≤p∧0<A.length
theorem GnA.fr{n:Nat}{s s2:Store}{v:V}{A:List (List V)}(h:GnA n s v A)(hf:∀p,3≤p→p<s.length→iZ s2 p=iZ s p):GnA n s2 v A:=by
 rcases h with h|⟨p,h1,h2,h3⟩
 ·exact .inl h
 exact .inr ⟨p,h1,(hf p h3.1 (kD h2)).trans h2,h3⟩
def paZ(a:Pa):List V:=[iv a.node,.bool false,.jF,.jF]++a.dx.cells++a.dy.cells
def Pa.wc(a:Pa):List V:=a.share.cells
structure ElI (s:Store) (v:Int) (X:R) (pv wv:V) (P:List (List V)) (W:List (List V)):Prop where
 a0:iZ s 0=some ⟨5,[[iv 0,.bool false,.jF,.jF,.jF]]⟩
 a1:iZ s 1=some ⟨5,[[iv v,.bool X.neg,ints X.mag,ints X.den,pv]]⟩
 p:GnA 10 s pv P
 w:GnA 3 s wv W
theorem ElI.lt{s:Store}{v:Int}{X:R}{pv wv:V}{P W:List (List V)}(h:ElI s v X pv wv P W):2≤s.length:=kD h.a1
theorem Na{σ:Store}:nK (Option.map V.nJ (match resolve σ 11 (V.agg [V.int .i64 0,V.bool false,V.jF,V.jF,V.jF])with|some d=>some [d,V.jF,V.bool false]|none=>none)) (lU (V.nJ [Xj ⟨0,R0,[]⟩,oP [],V.bool false])):=by
 have e:resolve σ 11 (V.agg [V.int .i64 0,V.bool false,V.jF,V.jF,V.jF])=some (V.agg [V.int .i64 0,V.bool false,V.jF,V.jF,V.jF]):=by simp [resolve]
 rw [e];show lU _ _;simp only [lU,uJ];exact⟨_,rfl,_,_,rfl,⟨_,rfl,_,_,rfl,rfl,_,_,rfl,rfl,_,_,rfl,.inl ⟨rfl,.inl rfl⟩,_,_,rfl,.inl ⟨rfl,.inl rfl⟩,_,_,rfl,.inl ⟨rfl,.inl rfl⟩,rfl⟩,_,_,rfl,.inl ⟨rfl,.inl rfl⟩,_,_,rfl,rfl,rfl⟩
theorem JU{σ:Store}{q n l:Nat}{rows:List (List V)}(h:iZ σ q=some ⟨n,rows⟩)(hs:l9 rows):∀p∈reach σ FD (.kQ q 0 l),p=q:=fun p hp=>by
 have hp:p∈reach σ (11+1) (.kQ q 0 l):=hp;unfold reach at hp;rcases aH.1 hp with e|hp
 ·exact e
 exfalso;dsimp only at hp;rw [h]at hp;obtain⟨r,hr,hp⟩:=dY.1 hp;obtain⟨v,hv,hp⟩:=dY.1 hp;rw [show reach σ 11 v=[]from Af (hs r hr v hv)]at hp
 cases hp
theorem Vr{A:List Pa}{i:Nat}:∀{m:Nat},i≤m→∀x∈qU A i,x∈qU A m
 |0,h,x,hx=>by
           have:i=0:=by omega
           subst this;exact hx
 |
  m+1,h,x,hx=>by
  by_cases e:i=m+1
  ·subst e;exact hx
  exact aK.2 (.inl (Vr (m:=m) (by omega) x hx))
theorem ajV{A:List Pa}{i k:Nat}(hi:i<k)(hk:k<A.length):Iw (pU A) (A.getD i default) (A.getD k default)∈JR A:=by
 refine Vr (i:=i+1) (by omega) _ (aK.2 (.inr ?_));unfold uI;rw [bg (by simp)];refine bG.2 ⟨A.getD k default,bD.2 ⟨k-(i+1),?_⟩,rfl⟩;rw [dF,show i+1+(k-(i+1))=k by omega,au hk,aj,au hk];rfl
theorem ajW{A:List Pa}{i k:Nat}(hi:i<k)(hk:k<A.length)(h:nD (Iw (pU A) (A.getD i default) (A.getD k default))=false):(JR A).all nD=false :=
 jf.2 ⟨_,ajV hi hk,by rw [h];simp⟩
theorem arn{s σ:Store}{c:Cd}{cs:List V}{mv:V}{M:List Lk}{o1:Obj}(he:c.cells=cs)(hst:∀v∈c.cells,v.still=true)(hL:LnA s mv M)(h1:iZ σ 1=iZ s 1)(hx:iZ s 1=some o1)(hf:∀p,p≠0→iZ σ p=iZ s p)(h0:∃z,iZ s 0=some ⟨5,z⟩) :
  nK (Option.map V.nJ (match resolve σ 11 (V.agg cs)with|some d=>(match (match resolve σ 11 mv with|some d=>some [d,V.bool true]|none=>none)with|some ds=>some (d::ds)|none=>none)|none=>none)) (lU (V.nJ [Xj c,oP M,V.bool true])):=by
 subst he;have e1:resolve σ 11 (V.agg c.cells)=some (Xj c):=by
  show (c.cells.mapM (resolve σ (9+1))).map _=_;rw [Jg hst];rfl
 have e2:∃u,resolve σ 11 mv=some u∧lU (oP M) u:=by
  rcases hL with ⟨rfl,rfl⟩|⟨p,rfl,hp⟩
  ·exact⟨.jF,rfl,of_eq_true (oC 11)⟩
  have hp0:p≠0:=fun e=>by
   obtain⟨z,hz⟩:=h0;rw [e,hz]at hp;cases hp
  have:=LG (n:=9) ((hf p hp0).trans hp) (J6 M);rw [aX]at this;exact⟨_,this,jP _⟩
 obtain⟨u,e2,e3⟩:=e2;rw [e1,e2];have k:∀x y z:V,lU y z→lU (V.nJ [x,y,V.bool true]) (V.nJ [x,z,V.bool true]):=fun x y z h=>by
  simp only [lU,uJ];exact⟨_,rfl,_,_,rfl,jP _,_,_,rfl,h,_,_,rfl,rfl,rfl⟩
 exact k _ _ _ e3
theorem JV(A:List Pa)(a:Pa):pU (A++[a])=mG (pU A) a.share:=by
 unfold pU JA;rw [bM,bM,List.foldl_append];rfl
def qV:Fn:=⟨2,167,[.cell 4 5 true,.tmp 5,.tmp 6],(.seq (rf 1 [oN 4 (.alloc Zi),oK 5 1 mN,oK 6 1 mF]) (.seq (sr [oW 18 1,oN 19 (bc .lss 18 1),oW 20 19,oG 20 false 21 (oV 1),oG 20 false 22 (bc .geq 21 10),oN 23 (.pick (.t 20) (.c (.bool true)) (.t 22))] (cd 23 (sr [oN 24 (.build Zi []),oS (.store 5 (.t 4) (.t 24)),oN 5 mN,oN 6 mF] .ret) .skip)) (.seq (rf 1 [oK 25 1 (oV 1),oK 26 1 (.call 39 [(cI 0)]),oK 27 1 (.build Zi [(0,1,(.t 25)),(1,3,(.t 26))]),oN 7 (.alloc Zi),⟨none,none,1,.store 5 (.t 7) (.t 27),[]⟩]) (.seq (rf 1 [oN 28 (.oI 3 vN 0 []),oK 8 1 (oV 28)]) (.seq (sr [oW 29 0,oN 30 (ln 29),oN 31 (.oO (cI 0))] (.block 0 (.loop (sr [oN 32 (bt .lss 31 30)] (.seq (cd 32 .skip (.exit 0)) (.seq (.block 1 (.seq (rf 1 [oK 33 1 (ix 11 29 31),oK 34 1 (lT 11 33),oN 10 (.alloc J7),⟨none,none,1,.store 11 (.t 10) (.t 34),[]⟩]) (.seq (sr [oN 35 (fd 0 10),oN 36 (lF 1 35),oW 37 1,oN 38 (bt .eql 36 37)] (cd 38 (rt 2 [oK 39 2 (fd 4 7),oA 40 2 (lF 1 39) [0],oK 41 2 (fd 1 10),oA 42 2 (lF 1 41) [2],oK 43 2 (fd 5 10),oA 44 2 (lT 3 43) [4],oA 45 2 (cl 161 [44]) [5],oK 46 2 (fd 8 10),oA 47 2 (lT 3 46) [7],oA 48 2 (cl 161 [47]) [8,6],oA 49 2 (.build zz5 [(0,1,(.t 42)),(4,3,(.t 45)),(7,3,(.t 48))]) [3,6,9],oA 50 0 (.oI 10 zz5 1 [(0,(.t 49))]) [10],oA 51 1 (.app 10 176 (.t 40) (.t 50)) [1,11,9],oA 52 2 (fd 4 7) [0,1,2,3,4,5,6,7,8,9,10,11,12],⟨none,none,2,.store 1 (.t 52) (.t 51),[13,12,12,0,1,2,3,4,5,6,7,8,9,10,11,12]⟩]) (sr [oN 53 (fd 1 10),oN 54 (lF 1 53),oW 55 1,oN 56 (bt .eql 54 55)] (cd 56 (rf 2 [oK 57 2 (fd 4 7),oK 58 2 (lF 1 57),oK 59 2 (fd 0 10),oK 60 2 (lF 1 59),oK 61 2 (fd 5 10),oK 62 2 (lT 3 61),oK 63 2 (fd 8 10),oK 64 2 (lT 3 63),oK 65 2 (.build zz5 [(0,1,(.t 60)),(4,3,(.t 62)),(7,3,(.t 64))]),oN 66 (.oI 10 zz5 1 [(0,(.t 65))]),oK 67 1 (.app 10 176 (.t 58) (.t 66)),oK 68 2 (fd 4 7),⟨none,none,2,.store 1 (.t 68) (.t 67),[]⟩]) (.exit 1))))) (.seq (rf 2 [oK 69 2 (oV 8),oK 70 2 (fd 2 10),oK 71 2 (lT 3 70),oN 72 (.oI 3 vN 1 [(0,(.t 71))]),oK 73 1 (.app 3 56 (.t 69) (.t 72)),oK 8 2 (oV 73)]) (rg [oN 74 (fd 1 7),oN 75 (lT 3 74),oN 76 (fd 2 10),oN 77 (lT 3 76),oN 78 (cl 131 [75,77]),oN 79 (fd 1 7),oS (.store 3 (.t 79) (.t 78))]))))) (rg [oN 80 (bc .add 31 1),oW 31 80]))))))) (.seq (sr [oN 81 (fd 4 7),oN 82 (lF 1 81),oN 83 (ln 82),oN 84 (.oO (cI 0))] (.block 2 (.loop (sr [oN 85 (bt .lss 84 83)] (.seq (cd 85 .skip (.exit 2)) (.seq (.block 3 (sr [oW 86 84,oW 11 86] (rt 0 [oN 87 (fd 4 7),oA 88 0 (lF 1 87) [0],oW 89 11,oW 90 8,oW 91 11,oA 92 0 (ix 3 90 91) [3,4],oA 93 0 (lT 3 92) [5],oN 94 (fd 1 7),oA 95 0 (lT 3 94) [7],oA 96 0 (cl 156 [93,95]) [6,8],oA 97 0 (ix 10 88 89) [1,2,0,1,2,3,4,5,6,7,8,9],oA 98 0 (fd 1 97) [10,0,1,2,3,4,5,6,7,8,9],⟨none,none,0,.store 3 (.t 98) (.t 96),[11,9,9,0,1,2,3,4,5,6,7,8,9]⟩]))) (rg [oN 99 (bc .add 84 1),oW 84 99]))))))) (.seq (sr [oN 100 (lT 5 7),oN 101 (cl 185 [100]),oN 102 (nt 101)] (cd 102 (sr [oN 103 (.build Zi []),oS (.store 5 (.t 4) (.t 103)),oN 5 mN,oN 6 mF] .ret) .skip)) (.seq (rf 1 [oN 104 (.oI 11 J7 0 []),oK 12 1 (oV 104)]) (.seq (sr [oN 105 (fd 4 7),oN 106 (lF 1 105),oN 107 (ln 106),oN 108 (.oO (cI 0))] (.block 4 (.loop (sr [oN 109 (bt .lss 108 107)] (.seq (cd 109 .skip (.exit 4)) (.seq (.block 5 (.seq (rf 1 [oK 110 1 (oV 108),oK 111 1 (ix 10 106 108),oK 112 1 (lT 10 111),oN 14 (.alloc zz5),oK 13 1 (oV 110),⟨none,none,1,.store 10 (.t 14) (.t 112),[]⟩]) (sr [oW 113 13,oN 114 (bc .add 113 1),oW 15 114] (.block 6 (.loop (.seq (sr [oW 115 15,oN 116 (fd 4 7),oN 117 (lF 1 116),oN 118 (ln 117),oN 119 (bt .lss 115 118)] (cd 119 .skip (.exit 6))) (.seq (.block 7 (.seq (rf 1 [oK 122 1 (fd 4 7),oK 123 1 (lF 1 122),oK 124 1 (oV 15),oK 125 1 (ix 10 123 124),oK 126 1 (lT 10 125),oN 16 (.alloc zz5),⟨none,none,1,.store 10 (.t 16) (.t 126),[]⟩]) (.seq (rt 1 [oK 127 1 (fd 0 14),oA 128 1 (lF 1 127) [0],oK 129 1 (fd 0 16),oA 130 1 (lF 1 129) [2],oK 131 1 (oV 8),oK 132 1 (oV 13),oA 133 1 (ix 3 131 132) [4,5],oA 134 1 (lT 3 133) [6],oK 135 1 (oV 8),oK 136 1 (oV 15),oA 137 1 (ix 3 135 136) [8,9],oA 138 1 (lT 3 137) [10],oA 139 1 (cl 157 [134,138]) [7,11],oK 140 1 (fd 1 7),oA 141 1 (lT 3 140) [13],oA 142 1 (cl 156 [139,141]) [12,14,12],oA 143 1 (.build J7 [(0,1,(.t 128)),(1,1,(.t 130)),(2,3,(.t 142))]) [1,3,15],oN 17 (.alloc J7),⟨none,none,1,.store 11 (.t 17) (.t 143),[17,16,15,0,1,2,3,4,5,6,7,8,9,10,11,12,13,14,15,16,17]⟩]) (sr [oN 144 (fd 4 14),oN 145 (lT 3 144),oN 146 (fd 4 16),oN 147 (lT 3 146),oN 148 (cl 159 [145,147]),oN 149 (fd 5 17),oS (.store 3 (.t 149) (.t 148))] (sr [oN 150 (fd 7 14),oN 151 (lT 3 150),oN 152 (fd 7 16),oN 153 (lT 3 152),oN 154 (cl 159 [151,153]),oN 155 (fd 8 17),oS (.store 3 (.t 155) (.t 154))] (.seq (sr [oN 156 (lT 11 17),oN 157 (cl 84 [156]),oN 158 (nt 157)] (cd 158 (sr [oN 159 (.build Zi []),oS (.store 5 (.t 4) (.t 159)),oN 5 mN,oN 6 mF] .ret) .skip)) (rf 2 [oK 160 2 (oV 12),oK 161 2 (lT 11 17),oN 162 (.oI 11 J7 1 [(0,(.t 161))]),oK 163 1 (.app 11 184 (.t 160) (.t 162)),oK 12 2 (oV 163)]))))))) (rg [oW 120 15,oN 121 (bc .add 120 1),oW 15 121])))))))) (rg [oN 164 (bc .add 108 1),oW 108 164]))))))) (sr [oN 165 (lT 5 7),oW 166 12,oS (.store 5 (.t 4) (.t 165)),oW 5 166,oN 6 mT] .ret))))))))))⟩
structure yg (T:Tb):Prop where
 hT:T 182=some qV
 kJ:mO T
 oZ:qw T
 kE:lN T
 wY:um T
 lQ:pF T
 pG:wR T
 DX:y7 T
 mQ:oD T
theorem SN{T:Tb}(h:yg T){S:List Lk}{v:Int}(hb:kN S=true)(hw:IQ Lk.wf S):PF T 182 [oP S,iv v] (.nJ [Xj (elC S v),oP (elM S v),.bool (TM S v)]):=by
 have hl:S.length≤100:=Q7 hb;have c0:=Ih h.kJ (n:=0);by_cases hv:1≤v∧v≤9
 ·have hv1:¬v<1:=by omega
  have hv2:¬v≥10:=by omega
  refine jZ (fun x d=>(x == 39&&d == 999)) h.hT ?_;simp only [qV,Lz];refine ew ?_;refine Aq @hv1 @hv2 ?_;refine jl c0 ?_;refine ew ?_;refine jX (fun x d=>(x == 39&&d == 999)) (α:=Nat×Store×V×V) (fun q=>⟨lS [oP S,iv v,.any,.any,.ptr 0 0 0,.jF,.bool false,.ptr 1 0 0,q.2.2.2,.any,.any,.any,.any,.any,.any,.any,.any,.any,.any,.any,.any,.any,.any,.any,.any,.any,.any,.any,.any,oP S,iv (S.length:Nat),iv (q.1:Nat)],q.2.1,0,0,[],[]⟩) (fun q=>q.1≤S.length∧ElI q.2.1 v (pU (Iu S v q.1)) q.2.2.1 q.2.2.2 ((Iu S v q.1).map paZ) ((Iu S v q.1).map Pa.wc)) (fun q=>S.length-q.1) rfl (0,[some ⟨5,[[iv 0,.bool false,.jF,.jF,.jF]]⟩,some ⟨5,[[iv v,.bool (ku 0).neg,ints (ku 0).mag,ints (ku 0).den,.jF]]⟩,none],.jF,.jF) ?_ ?_ ?_
  ·exact⟨Nat.zero_le _,by dsimp only;rw [aq6];exact⟨rfl,rfl,.inl ⟨rfl,rfl⟩,.inl ⟨rfl,rfl⟩⟩⟩
  ·(refine jS ?_;exact zV)
  rintro⟨i,s,pv,wv⟩ ⟨hi,I⟩;dsimp only at hi I;have hX:=aa1 (Iu S v i);have hAl:=ajB S v i;have I0:=I.a0;have I1:=I.a1;have hsl:=I.lt;by_cases hc:(i:Int)<(S.length:Nat)
  ·have hil:i<S.length:=by omega
   have hx:(S.map Lk.cells).getD i []=(S.getD i default).cells:=mg hil;have es:=aq7 S v hil;have hlk:=pW hb (getD_mem hil);obtain⟨kw,kx,ky,kp⟩:=zM hlk;generalize S.getD i default=l at *;unfold NH at es;by_cases ha:l.a=v
   ·have f0:(l.a=v)=True:=eq_true ha;rw [if_pos ha]at es;have n1:=Xp h.DX (tV kx);have n2:=Xp h.DX (tV ky);have ca:=Ak h.kE hX (tV kw);generalize hXe:pU (Iu S v i)=X at *;generalize Iu S v i=A at *;rcases I.p with ⟨hp,rfl⟩|⟨p,rfl,hp,hp3,hpl⟩
    ·have hA:A=[]:=gB.1 hp;subst hA;rcases I.w with ⟨_,rfl⟩|⟨w,_,hw,_,hwl⟩
     case inr=>exact absurd hwl (by simp)
     refine CV @hc @hx @f0 (ah I0 I1) @jO @kG ?_;refine jl n1 ?_;refine CV @hc @hx @f0 (ah I0 I1) @jO @kG ?_;refine jl n2 ?_;refine CV @hc @hx @f0 (ah I0 I1) @jO @kG ?_;refine⟨by omega,by
      have hn0:2≤List.length s:=hsl;generalize List.length s=m at hn0 ⊢
      revert m
      refine xW _ _ 2 (fun n hn=>?_) (fun n hn=>?_) ?_
      ·simp only [sh];split<;>omega
      ·simp [VN,sh];try omega
      unfold vH;decide +kernel,?_⟩
     refine⟨by omega,?_⟩;refine jl ca ?_;refine CV @hc @hx @f0 (ah I0 I1) @jO @kG ?_;refine⟨(i+1,?s1,.kQ (s.length+1+1) 0 1,.kQ (s.length+4) 0 1),?m1,⟨?a1,?b1⟩,?e1⟩
     case e1=>dsimp only;(refine jS ?_;exact zV)
     case m1=>dsimp only;omega
     case a1=>dsimp only;omega
     case b1 =>
      dsimp only;rw [es,JV,hXe];refine⟨(show iZ _ 0=iZ s 0 by exact Ja).trans I0,?u1,.inr ⟨s.length+1+1,?p1,?q1,by omega,by simp⟩,.inr ⟨s.length+4,?r1,?t1,by omega,by simp⟩⟩
      case u1=>simp (disch:=first|omega|(simp only [aO,bC,ak,aC];omega)) only [Py]
      case p1=>simp
      case r1=>simp
      case q1=>simp (disch:=first|omega|(simp only [aO,bC,ak,aC];omega)) only [Py];simp [paZ]
      case t1=>simp (disch:=first|omega|(simp only [aO,bC,ak,aC];omega)) only [Py];simp [Pa.wc]

    rcases I.w with ⟨hwn,_⟩|⟨w,rfl,hw,hw3,hwl⟩
    case inl=>have:=gB.1 hwn;subst this;exact absurd hpl (by simp)
    have hpq:=kD hp;have hwq:=kD hw;have hpw:p≠w:=fun e=>by rw [e,hw]at hp;cases hp
    simp only [aX]at hpl hwl ⊢;refine ew7 @hc @hx @f0 (ah I0 I1) @jO @kG (ah hp hw) ?_;refine jl n1 ?_;refine ew7 @hc @hx @f0 (ah I0 I1) @jO @kG (ah hp hw) ?_;refine jl n2 ?_;refine ew7 @hc @hx @f0 (ah I0 I1) @jO @kG (ah hp hw) ?_;refine⟨by omega,YX [1,p,s.length,s.length+1,s.length+1+1] [⟨14,[0],[0],false⟩,⟨13,[0],[],false⟩,⟨12,[1,3],[1,4],false⟩,⟨11,[],[3],false⟩,⟨10,[],[],false⟩,⟨9,[],[],false⟩,⟨8,[2],[],false⟩,⟨7,[2],[],false⟩,⟨6,[],[],false⟩,⟨5,[2],[],false⟩,⟨4,[2],[],false⟩,⟨3,[2],[],false⟩,⟨2,[2],[],false⟩,⟨1,[0],[],false⟩,⟨0,[0],[],false⟩] ?_ ?_ rfl ?_,?_⟩
    ·generalize List.length s=m at hsl hpq ⊢;simp;omega
    ·intro o ho;simp at ho;omega
    ·show vH 5 _ _;unfold vH;rfl
    refine⟨by omega,?_⟩;refine jl ca ?_;refine ew7 @hc @hx @f0 (ah I0 I1) @jO @kG (ah hp hw) ?_;refine⟨(i+1,?s2,.kQ (s.length+1+1) 0 (A.length+1),.kQ (s.length+4) 0 (A.length+1)),?m2,⟨?a2,?b2⟩,?e2⟩
    case e2=>dsimp only;(refine jS ?_;exact zV)
    case m2=>dsimp only;omega
    case a2=>dsimp only;omega
    case b2 =>
     dsimp only;rw [es,JV,hXe];refine⟨(show iZ _ 0=iZ s 0 by exact Ja).trans I0,?u2,.inr ⟨s.length+1+1,?p2,?q2,by omega,by simp⟩,.inr ⟨s.length+4,?r2,?t2,by omega,by simp⟩⟩
     case u2=>simp (disch:=first|omega|(simp only [aO,bC,ak,aC];omega)) only [Py]
     case p2=>simp
     case r2=>simp
     case q2=>simp (disch:=first|omega|(simp only [aO,bC,ak,aC];omega)) only [Py];simp [paZ]
     case t2=>simp (disch:=first|omega|(simp only [aO,bC,ak,aC];omega)) only [Py];simp [Pa.wc]

   rw [if_neg ha]at es;by_cases hb2:l.b=v
   ·have f0:(l.a=v)=False:=eq_false ha;have f1:(l.b=v)=True:=eq_true hb2;rw [if_pos hb2]at es;have ca:=Ak h.kE hX (tV kw);generalize hXe:pU (Iu S v i)=X at *;generalize Iu S v i=A at *;rcases I.p with ⟨hp,rfl⟩|⟨p,rfl,hp,hp3,hpl⟩
    ·have hA:A=[]:=gB.1 hp;subst hA;rcases I.w with ⟨_,rfl⟩|⟨w,_,hw,_,hwl⟩
     case inr=>exact absurd hwl (by simp)
     refine ew7 @hc @hx @f0 @f1 (ah I0 I1) @jO @kG ?_;refine⟨by omega,?_⟩;refine⟨by omega,?_⟩;refine jl ca ?_;refine ew7 @hc @hx @f0 @f1 (ah I0 I1) @jO @kG ?_;refine⟨(i+1,?s3,.kQ (s.length+1+1) 0 1,.kQ (s.length+4) 0 1),?m3,⟨?a3,?b3⟩,?e3⟩
     case e3=>dsimp only;(refine jS ?_;exact zV)
     case m3=>dsimp only;omega
     case a3=>dsimp only;omega
     case b3 =>
      dsimp only;rw [es,JV,hXe];refine⟨(show iZ _ 0=iZ s 0 by exact Ja).trans I0,?u3,.inr ⟨s.length+1+1,?p3,?q3,by omega,by simp⟩,.inr ⟨s.length+4,?r3,?t3,by omega,by simp⟩⟩
      case u3=>simp (disch:=first|omega|(simp only [aO,bC,ak,aC];omega)) only [Py]
      case p3=>simp
      case r3=>simp
      case q3=>simp (disch:=first|omega|(simp only [aO,bC,ak,aC];omega)) only [Py];simp [paZ]
      case t3=>simp (disch:=first|omega|(simp only [aO,bC,ak,aC];omega)) only [Py];simp [Pa.wc]

    rcases I.w with ⟨hwn,_⟩|⟨w,rfl,hw,hw3,hwl⟩
    case inl=>have:=gB.1 hwn;subst this;exact absurd hpl (by simp)
    have hpq:=kD hp;have hwq:=kD hw;have hpw:p≠w:=fun e=>by rw [e,hw]at hp;cases hp
    simp only [aX]at hpl hwl ⊢;refine ew8 @hc @hx @f0 @f1 (ah I0 I1) @jO @kG (ah hp hw) ?_;refine⟨by omega,?_⟩;refine⟨by omega,?_⟩;refine jl ca ?_;refine ew8 @hc @hx @f0 @f1 (ah I0 I1) @jO @kG (ah hp hw) ?_;refine⟨(i+1,?s4,.kQ (s.length+1+1) 0 (A.length+1),.kQ (s.length+4) 0 (A.length+1)),?m4,⟨?a4,?b4⟩,?e4⟩
    case e4=>dsimp only;(refine jS ?_;exact zV)
    case m4=>dsimp only;omega
    case a4=>dsimp only;omega
    case b4 =>
     dsimp only;rw [es,JV,hXe];refine⟨(show iZ _ 0=iZ s 0 by exact Ja).trans I0,?u4,.inr ⟨s.length+1+1,?p4,?q4,by omega,by simp⟩,.inr ⟨s.length+4,?r4,?t4,by omega,by simp⟩⟩
     case u4=>simp (disch:=first|omega|(simp only [aO,bC,ak,aC];omega)) only [Py]
     case p4=>simp
     case r4=>simp
     case q4=>simp (disch:=first|omega|(simp only [aO,bC,ak,aC];omega)) only [Py];simp [paZ]
     case t4=>simp (disch:=first|omega|(simp only [aO,bC,ak,aC];omega)) only [Py];simp [Pa.wc]

   have f0:(l.a=v)=False:=eq_false ha;have f1:(l.b=v)=False:=eq_false hb2;rw [if_neg hb2]at es;rw [aP]at es;refine IX @hc @hx @f0 @f1 ?_;refine⟨(i+1,?s5,pv,wv),?m5,⟨?a5,?b5⟩,?e5⟩
   case e5=>dsimp only;(refine jS ?_;exact zV)
   case m5=>dsimp only;omega
   case a5=>dsimp only;omega
   case b5 =>
    dsimp only;rw [es];exact⟨(show iZ _ 0=iZ s 0 by exact Ja).trans I0,(show iZ _ 1=iZ s 1 by exact Ja).trans I1,I.p.fr fun q h1 h2=>by simp (disch:=first|omega|(simp only [aO,bC,ak,aC];omega)) only [Py],I.w.fr fun q h1 h2=>by simp (disch:=first|omega|(simp only [aO,bC,ak,aC];omega)) only [Py]⟩
  have hin:i=S.length:=by omega
  subst hin;have hAe:Iu S v S.length=nS S v:=rfl;rw [hAe]at hX hAl I;have hok:∀a∈nS S v,a.share.ok=true∧a.dx.cn∧a.dy.cn∧0≤a.node∧a.node≤9:=fun a ha=>ajD hb ha;have hB:TM S v=(uw (nN v (nS S v))&&(JR (nS S v)).all nD):=by
   unfold TM inB;rw [hb,decide_eq_true hv.1,decide_eq_true hv.2];rfl
  have hC:(nN v (nS S v))=⟨v,pU (nS S v),(nS S v).map (G5 (pU (nS S v)))⟩:=rfl;have hT:=@aa3 S v;have hF:=@ajC S v;clear hw;generalize nS S v=A at *;generalize hXe:pU A=X at hX I hC;have I1:=I.a1;rcases I.p with ⟨hp,rfl⟩|⟨p,rfl,hp,hp3,hpl⟩
  ·have hA0:A=[]:=gB.1 hp;subst hA0;have hnc:uw (nN v [])=false:=by
    unfold uw;rw [hC];simp
   rw [hnc]at hB;have hB:TM S v=false:=hB;rw [(hF hB).1,(hF hB).2,hB];have wcd:(nN v []).wf:=by
    rw [hC];exact⟨rP hX,by simp,fun x hx=>by cases hx⟩
   have cv:=tu h.mQ (c:=nN v []) wcd;rw [hnc,hC]at cv;have I0:=I.a0;refine Aq @hc @I1 ?_;refine jX (fun x d=>(x == 39&&d == 999)) (α:=Store) (fun s=>⟨lS [.any,iv v,.any,.any,.ptr 0 0 0,.jF,.bool false,.ptr 1 0 0,.any,.any,.any,.any,.any,.any,.any,.any,.any,.any,.any,.any,.any,.any,.any,.any,.any,.any,.any,.any,.any,.any,.any,.any,.any,.any,.any,.any,.any,.any,.any,.any,.any,.any,.any,.any,.any,.any,.any,.any,.any,.any,.any,.any,.any,.any,.any,.any,.any,.any,.any,.any,.any,.any,.any,.any,.any,.any,.any,.any,.any,.any,.any,.any,.any,.any,.any,.any,.any,.any,.any,.any,.any,.any,.any,iv 0,iv 0],s,0,0,[],[]⟩) (fun s=>iZ s 0=some ⟨5,[[iv 0,.bool false,.jF,.jF,.jF]]⟩∧iZ s 1=some ⟨5,[[iv v,.bool X.neg,ints X.mag,ints X.den,.jF]]⟩) (fun s=>0) rfl s ?_ ?_ ?_
   ·exact⟨I0,I1⟩
   ·(refine jS ?_;exact zV)
   clear I I0 I1;rintro s ⟨I0,I1⟩;have hz:¬(0:Int)<0:=by decide
   have h0q:=kD I0;have cv2:PF T 185 [.agg [iv v,.bool X.neg,ints X.mag,ints X.den,.jF]] (.bool false):=by
    refine .abG (args:=[Xj ⟨v,X,[]⟩]) (r:=.bool false) ?_ cv (jP _);have k1:=jP (ints X.mag);have k2:=jP (ints X.den);simp only [uJ,lU]at k1 k2 ⊢;exact⟨_,_,rfl,⟨_,rfl,_,_,rfl,rfl,_,_,rfl,rfl,_,_,rfl,k1,_,_,rfl,k2,_,_,rfl,.inl ⟨rfl,.inl rfl⟩,rfl⟩,rfl⟩
   refine Aq @hz @I1 ?_;refine jl cv2 ?_;refine Aq @I0 @I1 ?_;exact Na (σ:=[])
  rcases I.w with ⟨hwn,_⟩|⟨w,rfl,hw,hw3,hwl⟩
  case inl=>have:=gB.1 hwn;subst this;exact absurd hpl (by simp)
  simp only [aX]at hpl hwl I1 ⊢;have hpq:=kD hp;have hwq:=kD hw;refine Fj @hc @I1 @hp ?_;refine jX (fun x d=>(x == 39&&d == 999)) (α:=Nat×Store) (fun q=>⟨lS [.any,iv v,.any,.any,.ptr 0 0 0,.jF,.bool false,.ptr 1 0 0,.kQ w 0 A.length,.any,.any,.any,.any,.any,.any,.any,.any,.any,.any,.any,.any,.any,.any,.any,.any,.any,.any,.any,.any,.any,.any,.any,.any,.any,.any,.any,.any,.any,.any,.any,.any,.any,.any,.any,.any,.any,.any,.any,.any,.any,.any,.any,.any,.any,.any,.any,.any,.any,.any,.any,.any,.any,.any,.any,.any,.any,.any,.any,.any,.any,.any,.any,.any,.any,.any,.any,.any,.any,.any,.any,.any,.any,.any,iv (A.length:Nat),iv (q.1:Nat)],q.2,0,0,[],[]⟩) (fun q=>(q.1≤A.length∧iZ q.2 0=some ⟨5,[[iv 0,.bool false,.jF,.jF,.jF]]⟩∧iZ q.2 w=some ⟨3,A.map Pa.wc⟩)∧(q.1<A.length→iZ q.2 1=some ⟨5,[[iv v,.bool X.neg,ints X.mag,ints X.den,.kQ p 0 A.length]]⟩∧iZ q.2 p=some ⟨10,OD (A.map fun a=>(G5 X a).cells) (A.map paZ) q.1⟩)∧(q.1=A.length→iZ q.2 1=some ⟨5,[(nN v A).cells]⟩)) (fun q=>A.length-q.1) rfl (0,s) ?_ ?_ ?_
  ·exact⟨⟨Nat.zero_le _,I.a0,hw⟩,fun _=>⟨I1,by dsimp only;rw [arf];exact hp⟩,fun e=>by dsimp only at e;omega⟩
  ·(refine jS ?_;exact zV)
  clear I I1 I0 hp hw hpq hwq;rintro⟨j,s⟩ ⟨⟨hj,I0,hw⟩,hM,hE⟩;dsimp only at hj I0 hw hM hE;have hwq:=kD hw;by_cases hc2:(j:Int)<(A.length:Nat)
  ·have hjl:j<A.length:=by omega
   obtain⟨I1,hp⟩:=hM hjl;have hpq:=kD hp;have hpw:p≠w:=fun e=>by rw [e,hw]at hp;cases hp
   have hpA:=hok _ (getD_mem hjl);have hg:(A.map fun a=>(G5 X a).cells).getD j []=(G5 X (A.getD j default)).cells:=mg hjl;have hrow:(OD (A.map fun a=>(G5 X a).cells) (A.map paZ) j)[j]? = some (paZ (A.getD j default)):=by
    unfold OD;rw [bJ (by simp;omega)];simp only [fK,aX,dF];rw [show j+(j-min j A.length)=j by omega,mg? hjl]
   have hml:(OD (A.map fun a=>(G5 X a).cells) (A.map paZ) j).length=A.length:=by rw [ajL (by simp)];simp
   have hst:=ajM (a:=A.map fun a=>(G5 X a).cells) (b:=A.map paZ) (j:=j) (d:=[]) (x:=(G5 X (A.getD j default)).cells) (by simp) (by simpa using hjl) hg;have hgw:(A.map Pa.wc)[j]? = some (A.getD j default).wc:=mg? hjl;have cd:=Xo h.wY (r:=(A.getD j default).share) (s:=X) (tV hpA.1) hX;generalize A.getD j default=a at *;generalize OD (A.map fun a=>(G5 X a).cells) (A.map paZ) j=M at *;have hgw:(A.map Pa.wc)[j]? = some [.bool a.share.neg,ints a.share.mag,ints a.share.den]:=hgw;have hrow:M[j]? = some [iv a.node,.bool false,.jF,.jF,.bool a.dx.neg,ints a.dx.mag,ints a.dx.den,.bool a.dy.neg,ints a.dy.mag,ints a.dy.den]:=hrow;refine ew7 @hc2 @I1 @hp @hw (ah hrow hml) @hgw (ah jO kG) ?_;refine jl cd ?_;refine ew7 @hc2 @I1 @hp @hw (ah hrow hml) @hgw (ah jO kG) ?_;refine⟨YX [1,w,p] [⟨12,[2],[2],false⟩,⟨11,[2],[],false⟩,⟨10,[2],[],false⟩,⟨9,[],[],false⟩,⟨8,[0],[],false⟩,⟨7,[0],[],false⟩,⟨6,[1],[],false⟩,⟨5,[1],[],false⟩,⟨4,[],[],false⟩,⟨3,[],[],false⟩,⟨2,[],[],false⟩,⟨1,[0],[],false⟩,⟨0,[0],[],false⟩] ?_ ?_ rfl ?_,?_⟩
   ·have:1≠w∧1≠p∧w≠p:=by omega
    simp [this]
   ·intro o ho;simp at ho;omega
   ·show vH 3 _ _;unfold vH;rfl
   by_cases hj1:j+1<A.length
   ·refine⟨(j+1,?s6),?m6,⟨⟨?a6,?b6,?c6⟩,fun _=>⟨?d6,?f6⟩,fun e=>absurd e (by dsimp only;omega)⟩,?e6⟩
    case e6=>dsimp only;(refine jS ?_;exact zV)
    case m6=>dsimp only;omega
    case a6=>dsimp only;omega
    case b6=>exact(show iZ _ 0=iZ s 0 by exact Ja).trans I0
    case c6=>exact(show iZ _ w=iZ s w by exact Ja).trans hw
    case d6=>exact(show iZ _ 1=iZ s 1 by exact Ja).trans I1
    case f6=>dsimp only;rw [←hst];exact kF hpq
   have hjn:j+1=A.length:=by omega
   have hrows:OD (A.map fun a=>(G5 X a).cells) (A.map paZ) A.length=(nN v A).ps.map Pa.cells:=by
    have:=ajK (A.map fun a=>(G5 X a).cells) (A.map paZ) (by simp) (by simp);rw [aX]at this;rw [this,hC,gu];rfl
   rw [hjn,hrows]at hst;obtain⟨s2,hs2⟩:∃s2,s.set p (some ⟨10,M.set j (G5 X a).cells⟩)=s2:=⟨_,rfl⟩;have k0:iZ s2 0=some ⟨5,[[iv 0,.bool false,.jF,.jF,.jF]]⟩:=by rw [←hs2,jM (by omega)];exact I0
   have k1:iZ s2 1=some ⟨5,[[iv v,.bool X.neg,ints X.mag,ints X.den,.kQ p 0 A.length]]⟩:=by rw [←hs2,jM (by omega)];exact I1
   have kw:iZ s2 w=some ⟨3,A.map Pa.wc⟩:=by rw [←hs2,jM (by omega)];exact hw
   have kp:iZ s2 p=some ⟨10,(nN v A).ps.map Pa.cells⟩:=by rw [←hs2,kF hpq,hst]
   have hl2:s2.length=s.length:=by rw [←hs2];simp
   have hres:resolve s2 FD (.kQ p 0 A.length)=some (Nj (nN v A).ps):=by
    have:=LG (n:=10) kp (Z5 _);rw [aX,hC,aX]at this;rw [hC];exact this
   refine⟨(j+1,Kv s2 1 ⟨5,[(nN v A).cells]⟩ [0,w]),?m7,⟨⟨?a7,?b7,?c7⟩,fun e=>absurd e (by dsimp only;omega),fun _=>?d7⟩,?e7⟩
   case e7 =>
    dsimp only;show Fg _ ⟨_,s.set p (some ⟨10,M.set j (G5 X a).cells⟩),_,_,_,_⟩;rw [hs2];refine ajT (p:=1) (n:=5) (A:=[[iv v,.bool X.neg,ints X.mag,ints X.den,.kQ p 0 A.length]]) k1 rfl ?_ ?_ ?_
    ·intro o ho ob hob;rcases aH.1 ho with rfl|ho
     ·rw [k0]at hob;cases hob;simp [l9,V.still]
     rw [aV.1 ho,kw]at hob;cases hob;have:=amb (A.map (·.share));rw [gu]at this;exact this
    ·intro i r r2 h1 h2
     cases i with
     |succ i=>cases h1
     |
      zero =>
      cases h1;cases h2
      rw [hC]at hres ⊢;simp only [Eu,wZ];refine⟨_,_,rfl,rfl,_,_,rfl,rfl,_,_,rfl,jP _,_,_,rfl,jP _,_,_,rfl,.inr (.inr ⟨hres,fun q hq k s0 l0 hk=>?_⟩),rfl⟩;have:=JU kp (Z5 _) q hq;have:=MZ hk;simp at this;omega
    refine ew ?_;refine⟨qM (n:=1) ?_ (by omega),qM (n:=1) ?_ (by omega),lD (n:=A.length) ?_ (aJ _) rfl,by omega⟩
    ·rw [GU (by omega),if_neg (by omega),if_pos (by simp),k0];rfl
    ·rw [GU (by omega),if_pos rfl]
    rw [GU (by omega),if_neg (by omega),if_pos (by simp),kw];simp
   case m7=>dsimp only;omega
   case a7=>dsimp only;omega
   case b7=>dsimp only;rw [EH (by omega),if_neg (by omega),if_pos (by simp)];exact k0
   case c7=>dsimp only;rw [EH (by omega),if_neg (by omega),if_pos (by simp)];exact kw
   case d7=>dsimp only;rw [EH (by omega),if_pos rfl]
  have hjn:j=A.length:=by omega
  have I1:=hE hjn;subst hjn;have wcd:(nN v A).wf:=by
   rw [hC];exact⟨rP hX,by simp;omega,fun x hx=>by
    obtain⟨a,ha,rfl⟩:=bG.1 hx;have:=hok a ha;exact⟨rP (Ju _ _),rP this.2.1,rP this.2.2.1⟩⟩
  have cv:=tu h.mQ (c:=nN v A) wcd;have hres:∀σ:Store,resolve σ FD (Xj (nN v A))=some (Xj (nN v A)):=fun σ=>zf (Xk [nN v A] _ (by simp));clear hM hE;refine Aq @hc2 @I1 ?_;refine jl cv ?_
  cases hcd:uw (nN v A)
  ·rw [hcd]at hB;have hB:TM S v=false:=hB;rw [(hF hB).1,(hF hB).2,hB];refine Aq @I1 @I0 ?_
   first|exact Na|exact Na (σ:=[])
  rw [hcd,cO]at hB;have hcc:(nN v A).cells=[iv v,.bool X.neg,ints X.mag,ints X.den,Nj (nN v A).ps]:=by rw [hC]
  rw [hcc]at I1;have hpl2:(nN v A).ps.length=A.length:=by rw [hC];simp
  refine Aq @I1 @hpl2 ?_;refine jX (fun x d=>(x == 39&&d == 999)) (α:=Nat×Store×V) (fun q=>⟨lS [.any,iv v,.any,.any,.ptr 0 0 0,.jF,.bool false,.ptr 1 0 0,.kQ w 0 A.length,.any,.any,.any,q.2.2,.any,.any,.any,.any,.any,.any,.any,.any,.any,.any,.any,.any,.any,.any,.any,.any,.any,.any,.any,.any,.any,.any,.any,.any,.any,.any,.any,.any,.any,.any,.any,.any,.any,.any,.any,.any,.any,.any,.any,.any,.any,.any,.any,.any,.any,.any,.any,.any,.any,.any,.any,.any,.any,.any,.any,.any,.any,.any,.any,.any,.any,.any,.any,.any,.any,.any,.any,.any,.any,.any,.any,.any,.any,.any,.any,.any,.any,.any,.any,.any,.any,.any,.any,.any,.any,.any,.any,.any,.any,.any,.any,.any,.any,Nj (nN v A).ps,iv (A.length:Nat),iv (q.1:Nat)],q.2.1,0,0,[],[]⟩) (fun q=>(q.1≤A.length∧iZ q.2.1 0=some ⟨5,[[iv 0,.bool false,.jF,.jF,.jF]]⟩∧iZ q.2.1 w=some ⟨3,A.map Pa.wc⟩∧iZ q.2.1 1=some ⟨5,[[iv v,.bool X.neg,ints X.mag,ints X.den,Nj (nN v A).ps]]⟩)∧LnA q.2.1 q.2.2 (qU A q.1)∧∀x∈qU A q.1,nD x=true) (fun q=>A.length-q.1) rfl (0,s++[none],.jF) ?_ ?_ ?_
  ·exact⟨⟨fH _,(jU (by omega)).trans I0,(jU hwq).trans hw,(jU (by omega)).trans I1⟩,.inl ⟨rfl,rfl⟩,fun x hx=>by cases hx⟩
  ·(refine jS ?_;exact zV)
  clear I0 I1 hw hwq;rintro⟨i,s,mv⟩ ⟨⟨hi,I0,hw,I1⟩,hL,hall⟩;dsimp only at hi I0 hw I1 hL hall;have hwq:=kD hw;have h1q:=kD I1;have hLl:=OC A i;by_cases hc3:(i:Int)<(A.length:Nat)
  ·have hil:i<A.length:=by omega
   have hg:((nN v A).ps.map Pa.cells).getD i []=(G5 X (A.getD i default)).cells:=by
    have:=mg (l:=(nN v A).ps) (f:=Pa.cells) (j:=i) (by rw [hpl2];exact hil);rw [BN hil,hXe]at this;exact this
   have hiA:=hok _ (getD_mem hil);refine Fj @hc3 @hg @hpl2 ?_;obtain⟨qc,hqc⟩:∃qc,List.length s=qc:=⟨_,rfl⟩;have hq3:3≤qc:=by omega
   refine jX (fun x d=>(x == 39&&d == 999)) (α:=Nat×Store×V) (fun q=>⟨lS [.any,iv v,.any,.any,.ptr 0 0 0,.jF,.bool false,.ptr 1 0 0,.kQ w 0 A.length,.any,.any,.any,q.2.2,iv (i:Nat),.ptr qc 0 0,iv ((i:Nat)+1+(q.1:Nat)),.any,.any,.any,.any,.any,.any,.any,.any,.any,.any,.any,.any,.any,.any,.any,.any,.any,.any,.any,.any,.any,.any,.any,.any,.any,.any,.any,.any,.any,.any,.any,.any,.any,.any,.any,.any,.any,.any,.any,.any,.any,.any,.any,.any,.any,.any,.any,.any,.any,.any,.any,.any,.any,.any,.any,.any,.any,.any,.any,.any,.any,.any,.any,.any,.any,.any,.any,.any,.any,.any,.any,.any,.any,.any,.any,.any,.any,.any,.any,.any,.any,.any,.any,.any,.any,.any,.any,.any,.any,.any,Nj (nN v A).ps,iv (A.length:Nat),iv (i:Nat)],q.2.1,0,0,[],[]⟩) (fun q=>(i+1+q.1≤A.length∧iZ q.2.1 0=some ⟨5,[[iv 0,.bool false,.jF,.jF,.jF]]⟩∧iZ q.2.1 w=some ⟨3,A.map Pa.wc⟩∧iZ q.2.1 1=some ⟨5,[[iv v,.bool X.neg,ints X.mag,ints X.den,Nj (nN v A).ps]]⟩∧iZ q.2.1 qc=some ⟨10,[(G5 X (A.getD i default)).cells]⟩)∧LnA q.2.1 q.2.2 (qU A i++uI A i q.1)∧∀x∈qU A i++uI A i q.1,nD x=true) (fun q=>A.length-q.1) rfl (0,s++[some ⟨10,[(G5 X (A.getD i default)).cells]⟩],mv) ?_ ?_ ?_
   ·refine⟨⟨by dsimp only;omega,(jU (by omega)).trans I0,(jU hwq).trans hw,(jU h1q).trans I1,by dsimp only;rw [←hqc];exact zU _ _⟩,?_,?_⟩
    ·dsimp only;rw [TL,aP];exact hL.fr fun p hp=>jU hp
    dsimp only;rw [TL,aP];exact hall
   ·subst hqc
    (refine jS ?_;exact zV)
   clear I0 I1 hw hwq h1q hL hall hqc;rintro⟨j,s,mv⟩ ⟨⟨hj,I0,hw,I1,Iq⟩,hL,hall⟩;dsimp only at hj I0 hw I1 Iq hL hall;have hwq:=kD hw;have h1q:=kD I1;have hqq:=kD Iq;have hRl:=XI A i j;by_cases hc4:(i:Int)+1+j<(A.length:Nat)
   ·have hkl:i+1+j<A.length:=by omega
    have hg2:((nN v A).ps.map Pa.cells).getD (i+1+j) []=(G5 X (A.getD (i+1+j) default)).cells:=by
     have:=mg (l:=(nN v A).ps) (f:=Pa.cells) (j:=i+1+j) (by rw [hpl2];exact hkl);rw [BN hkl,hXe]at this;exact this
    have hkA:=hok _ (getD_mem hkl);have ht:((i:Int)+1+(j:Nat)).toNat=i+1+j:=by omega
    have hwi:(A.map Pa.wc)[i]? = some (A.getD i default).wc:=mg? hil;have hwk:(A.map Pa.wc)[i+1+j]? = some (A.getD (i+1+j) default).wc:=mg? hkl;have es:=YT A hkl;have hbad:=@ajW A i (i+1+j) (by omega) hkl;rw [hXe]at es hbad;obtain⟨a,ha⟩:∃a,A.getD i default=a:=⟨_,rfl⟩;obtain⟨b,hb'⟩:∃b,A.getD (i+1+j) default=b:=⟨_,rfl⟩;rw [ha]at hiA es hbad Iq hwi;rw [hb']at hkA es hbad hg2 hwk;have hwi:(A.map Pa.wc)[i]? = some [.bool a.share.neg,ints a.share.mag,ints a.share.den]:=hwi;have hwk:(A.map Pa.wc)[i+1+j]? = some [.bool b.share.neg,ints b.share.mag,ints b.share.den]:=hwk;have cm:=wW h.lQ (r:=a.share) (s:=b.share) (tV hiA.1) (tV hkA.1);have cd:=Xo h.wY (r:=mulR a.share b.share) (s:=X) (Px _ _) hX;have cx:=Ap h.pG hiA.2.1 hkA.2.1;have cy:=Ap h.pG hiA.2.2.1 hkA.2.2.1;have hcn:=aeI X a b;have civ:=AZ h.oZ (l:=Iw X a b) ⟨rP hcn.1,rP hcn.2.1,rP hcn.2.2⟩;refine ew7 @hc4 (ah hg2 ht) @hpl2 (ah I1 Iq) @hw (ah hwi hwk) (ah jO kG) ?_;refine jl cm ?_;refine Fj (ah I1 Iq) @hw (ah jO kG) ?_;refine jl cd ?_;refine Fj (ah I1 Iq) @hw (ah jO kG) ?_;have aCY:w≠qc:=fun e=>by rw [e,Iq]at hw;cases hw
    refine⟨YX [1,w,qc,s.length,s.length+1] [⟨18,[4],[4],false⟩,⟨17,[],[4],false⟩,⟨16,[],[],false⟩,⟨15,[],[],false⟩,⟨14,[0],[],false⟩,⟨13,[0],[],false⟩,⟨12,[],[],false⟩,⟨11,[1],[],false⟩,⟨10,[1],[],false⟩,⟨9,[],[],false⟩,⟨8,[],[],false⟩,⟨7,[1],[],false⟩,⟨6,[1],[],false⟩,⟨5,[],[],false⟩,⟨4,[],[],false⟩,⟨3,[3],[],false⟩,⟨2,[3],[],false⟩,⟨1,[2],[],false⟩,⟨0,[2],[],false⟩] ?_ ?_ rfl ?_,?_⟩
    ·clear I0 hw I1 Iq hL hall;generalize List.length s=m at hwq h1q hqq ⊢;have:1≠w∧1≠qc∧w≠qc∧1≠m∧1≠m+1∧w≠m∧w≠m+1∧qc≠m∧qc≠m+1:=by omega
     simp [this];omega
    ·intro o ho;simp at ho;omega
    ·show vH 5 _ _;unfold vH;rfl
    refine Fj (ah I1 Iq) @hw (ah jO kG) ?_;refine jl cx ?_;refine Fj (ah I1 Iq) @hw (ah jO kG) ?_;refine jl cy ?_;refine Fj (ah I1 Iq) @hw (ah jO kG) ?_;refine jl civ ?_
    cases hlk:nD (Iw X a b)
    ·have hB2:TM S v=false:=by rw [hB];exact hbad hlk
     rw [(hF hB2).1,(hF hB2).2,hB2];refine Aq @I0 (ah jO kG) ?_;exact Na (σ:=[])
    have en:qU A i++uI A i (j+1)=(qU A i++uI A i j)++[Iw X a b]:=by rw [es,bT]
    have aoA:∀x∈qU A i++uI A i (j+1),nD x=true:=fun x hx=>by
     rw [en]at hx;rcases aK.1 hx with hx|hx
     ·exact hall x hx
     rw [aV.1 hx];exact hlk
    have hMl:(qU A i++uI A i j).length≤20000:=by
     rw [aO];have:i*A.length≤100*100:=fV (by omega) (by omega);omega
    generalize qU A i++uI A i j=Ms at *;rcases hL with ⟨rfl,rfl⟩|⟨m2,rfl,hm2⟩
    ·refine y9 (ah jO kG) ?_;refine⟨by omega,(j+1,?s8,.kQ (s.length+1+1+1) 0 1),?m8,⟨⟨?a8,?b8,?c8,?d8,?f8⟩,.inr ⟨s.length+1+1+1,?g8,?h8⟩,aoA⟩,?e8⟩
     case e8=>dsimp only;(refine jS ?_;exact zV)
     case m8=>dsimp only;omega
     case a8=>dsimp only;omega
     case b8=>exact(show iZ _ 0=iZ s 0 by exact Ja).trans I0
     case c8=>exact(show iZ _ w=iZ s w by exact Ja).trans hw
     case d8=>exact(show iZ _ 1=iZ s 1 by exact Ja).trans I1
     case f8=>dsimp only;rw [ha];exact(show iZ _ qc=iZ s qc by exact Ja).trans Iq
     case g8=>dsimp only;rw [en];simp
     case h8 =>
      dsimp only;rw [en];simp (disch:=first|omega|(simp only [aO,bC,ak,aC];omega)) only [Py];simp [Iw,G5]
    have aCZ:=kD hm2;have n1:m2≠1:=fun e=>by rw [e,I1]at hm2;cases hm2
    have n2:m2≠w:=fun e=>by rw [e,hw]at hm2;cases hm2
    have n3:m2≠qc:=fun e=>by rw [e,Iq]at hm2;cases hm2
    have n0:m2≠0:=fun e=>by rw [e,I0]at hm2;cases hm2
    refine Aq (ah jO kG) @hm2 ?_;refine⟨by omega,(j+1,?s9,.kQ (s.length+1+1+1) 0 (Ms.length+1)),?m9,⟨⟨?a9,?b9,?c9,?d9,?f9⟩,.inr ⟨s.length+1+1+1,?g9,?h9⟩,aoA⟩,?e9⟩
    case e9=>dsimp only;(refine jS ?_;exact zV)
    case m9=>dsimp only;omega
    case a9=>dsimp only;omega
    case b9=>exact(show iZ _ 0=iZ s 0 by exact Ja).trans I0
    case c9=>exact(show iZ _ w=iZ s w by exact Ja).trans hw
    case d9=>exact(show iZ _ 1=iZ s 1 by exact Ja).trans I1
    case f9=>dsimp only;rw [ha];exact(show iZ _ qc=iZ s qc by exact Ja).trans Iq
    case g9=>dsimp only;rw [en];simp
    case h9 =>
     dsimp only;rw [en];simp (disch:=first|omega|(simp only [aO,bC,ak,aC];omega)) only [Py];simp [Iw,G5]
   have hjn:j=A.length-(i+1):=by omega
   refine NC @hc4 @hpl2 (ah I1 Iq) @hw (ah jO kG) ?_;refine⟨(i+1,s,mv),?mA,⟨⟨?aA,I0,hw,I1⟩,?bA,?cA⟩,?eA⟩
   case eA=>dsimp only;(refine jS ?_;exact zV)
   case mA=>dsimp only;omega
   case aA=>dsimp only;omega
   case bA=>dsimp only;rw [hjn]at hL;exact hL
   case cA=>dsimp only;rw [hjn]at hall;exact hall
  have hin:i=A.length:=by omega
  subst hin;have hB2:TM S v=true:=by rw [hB];exact aT.2 hall
  rw [(hT hB2).1,(hT hB2).2,hB2];refine Aq @hc3 (ah I1 I0) ?_;refine arn (s:=s) (c:=nN v A) hcc (Xk [nN v A] _ (by simp)) hL ?_ I1 ?_ ⟨_,I0⟩
  ·exact Ja
  intro q hq0;exact Ja
 have hB:TM S v=false:=by
  unfold TM inB;rcases Int.lt_or_le v 1 with k|k
  ·rw [decide_eq_false (show ¬1≤v by omega)];simp
  rw [decide_eq_false (show ¬v≤9 by omega)];simp
 rw [(ajC hB).1,(ajC hB).2,hB];refine jZ (fun x d=>(x == 39&&d == 999)) h.hT ?_;simp only [qV,Lz];refine ew ?_;by_cases hv1:v<1
 ·refine y9 @hv1 ?_;exact Na (σ:=[])
 have hv2:v≥10:=by omega
 refine Aq @hv1 @hv2 ?_;exact Na (σ:=[])
theorem Ep.adg{s:Store}{cs cs' ts ts':List V}{os:List Nat}{L:List (Nat×Obj)}(E:Ep s cs ts os L)(h1:cs'=cs)(h2:ts'=ts):Ep s cs' ts' os L:=by
 subst h1;subst h2;exact E
theorem OH{T:Tb}(h:vV T){c:Cd}(hn:0<c.ps.length)(hz:c.total.sz≤1048576∧∀a∈c.ps,a.sz≤1048576)(hl:c.ps.length≤1048576):PO T 183 [Xj c] (Xj c):=by
 refine lI (fun x d=>x == 145) h.hT ?_;simp only [sF,Lz,St.enter,ak,aC,aQ];refine ew ?_;refine pV (zX h.qQ (r:=c.total) hz.1) (by (refine ew ?_;try with_reducible exact True.intro)) (by (refine ew ?_;try with_reducible exact True.intro)) ?_;intro r q1 o1 G;obtain⟨_,rfl,hQ⟩:=G.ow.kP;obtain⟨x1,x2,rfl⟩:=hQ.rat
 have lx:=mJ.leaf hQ rfl;simp only [dU,iP,iI,aG]at lx;have gl:=G.len;simp only [ak,aC,aO]at gl;have P0:iZ q1 0=some ⟨5,[c.cells]⟩:=G.old 0 (by simp);have P1:iZ q1 1=some ⟨5,[[iv 0,.bool false,.jF,.jF,.jF]]⟩:=G.old 1 (by simp);have hf:∀o∈o1,3≤o:=fun o ho=>by have:=G.fresh o ho;simpa using this
 refine IX (ah P0 P1) @lx @gl @List.set_set.{0} ?_;refine⟨by unfold vH;decide +kernel,?_⟩;refine IX (ah P0 P1) @lx @gl @List.set_set.{0} ?_;have E:Ep q1 [iv c.node,.bool c.total.neg,x1,x2] [iv c.node,.bool c.total.neg,ints c.total.mag,ints c.total.den] o1 [(1,⟨5,[[iv 0,.bool false,.jF,.jF,.jF]]⟩)]:=by
  have E0:Ep [some ⟨5,[c.cells]⟩,some ⟨5,[[iv 0,.bool false,.jF,.jF,.jF]]⟩,none] [] [] [] [(1,⟨5,[[iv 0,.bool false,.jF,.jF,.jF]]⟩)]:=⟨Lm,by simp [iZ]⟩;have:=E0.got (s1:=[some ⟨5,[c.cells]⟩,some ⟨5,[[iv 0,.bool false,.jF,.jF,.jF]]⟩,none]) (fun _ _=>rfl) (aJ _) (Hl (q:=.i64) (n:=c.node) hQ) G.nd (by simpa using G.fresh) (by simpa using G.old);simpa using this
 have E1:=E.Ey (p:=2) (ob:=⟨5,[[iv c.node,.bool c.total.neg,x1,x2,.jF]]⟩) (L':=[(1,⟨5,[[iv 0,.bool false,.jF,.jF,.jF]]⟩),(2,⟨5,[[iv c.node,.bool c.total.neg,x1,x2,.jF]]⟩)]) (fun hm=>by have:=hf 2 hm;omega) (by omega) (by simp);clear E G P0 P1 hQ hf gl;refine jX (fun x d=>x == 145) (α:=Nat×Store×V×List (List V)×List Nat) (fun q=>⟨lS [.any,.any,.ptr 1 0 0,.ptr 2 0 0,.any,.any,.any,.any,.any,.any,.any,.any,.any,.any,Nj c.ps,iv (c.ps.length:Nat),iv (q.1:Nat)],q.2.1,0,0,[],[]⟩) (fun q=>(q.1≤c.ps.length∧q.2.2.2.1.length=q.1∧∀r∈q.2.2.2.1,r.length=10)∧∃M,LAt 10 q.2.2.1 q.2.2.2.1 M∧Ep q.2.1 ([iv c.node,.bool c.total.neg,x1,x2]++q.2.2.2.1.flatten) ([iv c.node,.bool c.total.neg,ints c.total.mag,ints c.total.den]++((c.ps.take q.1).map Pa.cells).flatten) q.2.2.2.2 ([(1,⟨5,[[iv 0,.bool false,.jF,.jF,.jF]]⟩),(2,⟨5,[[iv c.node,.bool c.total.neg,x1,x2,q.2.2.1]]⟩)]++M)) (fun q=>c.ps.length-q.1) rfl (0,q1.set 2 (some ⟨5,[[iv c.node,.bool c.total.neg,x1,x2,.jF]]⟩),.jF,[],o1) ?_ ?_ ?_
 ·exact⟨⟨fH _,rfl,fun r hr=>by cases hr⟩,[],.inl ⟨rfl,rfl,rfl⟩,by simpa using E1⟩
 ·(refine jS ?_;exact zV)
 clear E1;rintro⟨i,s,pv,A,os⟩ ⟨⟨hi,hAl,hA10⟩,M,hLA,E⟩;dsimp only at hi hAl hA10 hLA E;have L1:=E.at0 (p:=1) (ob:=⟨5,[[iv 0,.bool false,.jF,.jF,.jF]]⟩) (by simp);have L2:=E.at0 (p:=2) (ob:=⟨5,[[iv c.node,.bool c.total.neg,x1,x2,pv]]⟩) (by simp);by_cases hc:(i:Int)<(c.ps.length:Nat)
 ·have hil:i<c.ps.length:=by omega
  have hx:(c.ps.map Pa.cells).getD i []=(c.ps.getD i default).cells:=mg hil;have hza:=hz.2 _ (getD_mem hil);have ets:(c.ps.take (i+1)).map Pa.cells=(c.ps.take i).map Pa.cells++[(c.ps.getD i default).cells]:=by rw [take_snoc hil,cZ];rfl
  generalize c.ps.getD i default=a at *;unfold Pa.sz at hza;refine Aq @hc @hx ?_;have hq0:∀o,o<s.length→iZ (s++[some ⟨10,[a.cells]⟩]++[none]) o=iZ s o:=fun o ho=>by simp only [bT];exact kY ho
  have hqe:iZ (s++[some ⟨10,[a.cells]⟩]++[none]) s.length=some ⟨10,[a.cells]⟩:=(jU (by simp)).trans (zU _ _);have hs1:(s++[some (⟨10,[a.cells]⟩:Obj)]++[none]).length=s.length+1+1:=by simp
  refine pV (zX h.qQ (r:=a.share) (by omega)) (by (refine ew ?_;try with_reducible exact True.intro)) (by (refine ew ?_;try with_reducible exact True.intro)) ?_;intro r q2 o2 G;obtain⟨_,rfl,hQ⟩:=G.ow.kP;obtain⟨y1,y2,rfl⟩:=hQ.rat
  have lq:=mJ.leaf hQ rfl;simp only [dU,iP,iI,aG]at lq;have E2:=E.got (s1:=s++[some ⟨10,[a.cells]⟩]++[none]) hq0 (by omega) (Hl (q:=.i64) (n:=a.node) hQ) G.nd G.fresh G.old;have he2:iZ q2 s.length=some ⟨10,[a.cells]⟩:=(G.old s.length (by omega)).trans hqe;have ll2:s.length+1+1≤q2.length:=by have:=G.len;omega
  have fr2:∀o∈o2,s.length+2≤o:=fun o ho=>by have:=G.fresh o ho;simp at this;omega
  have lf2:=lq;clear G hQ lq;refine Aq (ah he2 ll2) @lf2 ?_;refine pV (zX h.qQ (r:=a.dx) (by omega)) (by (refine Aq (ah he2 ll2) @lf2 ?_;try with_reducible exact True.intro)) (by (refine Aq (ah he2 ll2) @lf2 ?_;try with_reducible exact True.intro)) ?_;intro r q3 o3 G;obtain⟨_,rfl,hQ⟩:=G.ow.kP;obtain⟨y3,y4,rfl⟩:=hQ.rat
  have lq:=mJ.leaf hQ rfl;simp only [dU,iP,iI,aG]at lq;have E3:=E2.got (s1:=q2) (fun _ _=>rfl) (aJ _) (hQ) G.nd G.fresh G.old;have he3:iZ q3 s.length=some ⟨10,[a.cells]⟩:=(G.old s.length (by omega)).trans he2;have ll3:s.length+1+1≤q3.length:=by have:=G.len;omega
  have fr3:∀o∈o3,s.length+2≤o:=fun o ho=>by have:=G.fresh o ho;omega
  have lf3:=ah lf2 lq;clear G hQ lq;refine Aq (ah he3 ll3) @lf3 ?_;refine pV (zX h.qQ (r:=a.dy) (by omega)) (by (refine Aq (ah he3 ll3) @lf3 ?_;try with_reducible exact True.intro)) (by (refine Aq (ah he3 ll3) @lf3 ?_;try with_reducible exact True.intro)) ?_;intro r q4 o4 G;obtain⟨_,rfl,hQ⟩:=G.ow.kP;obtain⟨y5,y6,rfl⟩:=hQ.rat
  have lq:=mJ.leaf hQ rfl;simp only [dU,iP,iI,aG]at lq;have E4:=E3.got (s1:=q3) (fun _ _=>rfl) (aJ _) (hQ) G.nd G.fresh G.old;have he4:iZ q4 s.length=some ⟨10,[a.cells]⟩:=(G.old s.length (by omega)).trans he3;have ll4:s.length+1+1≤q4.length:=by have:=G.len;omega
  have fr4:∀o∈o4,s.length+2≤o:=fun o ho=>by have:=G.fresh o ho;omega
  have lf4:=ah lf3 lq;clear G hQ lq;refine Aq (ah he4 ll4) @lf4 ?_;refine⟨by
   have hn0:0≤List.length s:=fH _;generalize List.length s=m at hn0 ⊢
   revert m
   refine xW _ _ 0 (fun n hn=>?_) (fun n hn=>?_) ?_
   ·simp only [sh];split<;>omega
   ·simp [VN,sh];try omega
   unfold vH;decide +kernel,?_⟩
  have L22:=E4.at0 (p:=2) (ob:=⟨5,[[iv c.node,.bool c.total.neg,x1,x2,pv]]⟩) (by simp);have L11:=E4.at0 (p:=1) (ob:=⟨5,[[iv 0,.bool false,.jF,.jF,.jF]]⟩) (by simp);have hf5:s.length+1∉((os++o2)++o3)++o4:=by
   intro hm;simp only [aK]at hm;rcases hm with ((hm|hm)|hm)|hm
   ·have:=E.Wu _ hm;omega
   ·have:=fr2 _ hm;omega
   ·have:=fr3 _ hm;omega
   have:=fr4 _ hm;omega
  have hf2:=(E4.l (2,⟨5,[[iv c.node,.bool c.total.neg,x1,x2,pv]]⟩) (by simp)).2;have hf1:=(E4.l (1,⟨5,[[iv 0,.bool false,.jF,.jF,.jF]]⟩) (by simp)).2;have hs3:2<s.length:=L2.2;rcases hLA with ⟨rfl,rfl,rfl⟩|⟨p,rfl,rfl⟩
  ·refine IX @L22 (ah he4 ll4) @lf4 @List.set_set.{0} ?_;refine⟨by omega,(i+1,?s1,.kQ (q4.length+1) 0 1,[]++[[iv a.node,.bool a.share.neg,y1,y2,.bool a.dx.neg,y3,y4,.bool a.dy.neg,y5,y6]],((os++o2)++o3)++o4),?m1,⟨⟨?a1,?b1,?c1⟩,[(q4.length+1,⟨10,[]++[[iv a.node,.bool a.share.neg,y1,y2,.bool a.dx.neg,y3,y4,.bool a.dy.neg,y5,y6]]⟩)],.inr ⟨q4.length+1,?d1,rfl⟩,?f1⟩,?e1⟩
   case e1=>dsimp only;(refine jS ?_;exact zV)
   case m1=>dsimp only;omega
   case a1=>dsimp only;omega
   case b1=>dsimp only;simp at hAl ⊢;omega
   case c1 =>
    intro r hr;rcases aK.1 hr with hr|hr
    ·exact hA10 r hr
    rw [aV.1 hr];rfl
   case d1=>dsimp only;simp
   case f1 =>
    dsimp only;rw [ets];refine Ep.adg (E4.to ?_ ?_) ?_ ?_
    ·intro o ho;have a1:=E4.Wu o ho;have a2:o≠s.length+1:=fun e=>hf5 (e▸ho);have a3:o≠2:=fun e=>hf2 (e▸ho);exact Ja
    ·intro q hq;simp only [bK,dI,aH,bP,or_false]at hq;rcases hq with rfl|rfl|rfl
     ·refine .inl ⟨by simp,?_⟩;show iZ _ 1=iZ q4 1;exact Ja
     ·refine .inr ⟨?_,hf2⟩;show iZ _ 2=_;exact Ja
     refine .inr ⟨?_,fun hm=>by have:=E4.Wu _ hm;omega⟩;show iZ _ (q4.length+1)=_;exact Ja
    ·simp
    simp
  have L33:=E4.at0 (p:=p) (ob:=⟨10,A⟩) (by simp);have hps:p<s.length:=(E.at0 (p:=p) (ob:=⟨10,A⟩) (by simp)).2;have hp2:p≠2:=fun e=>by have:=L33.1;rw [e,L22.1]at this;cases this
  refine NC @L22 @L33 (ah he4 ll4) @lf4 @List.set_set.{0} ?_;have hfp:=(E4.l (p,⟨10,A⟩) (by simp)).2;have hp1:p≠1:=fun e=>by have:=L33.1;rw [e,L11.1]at this;cases this
  refine⟨by omega,(i+1,?s2,.kQ (q4.length+1) 0 (A.length+1),A++[[iv a.node,.bool a.share.neg,y1,y2,.bool a.dx.neg,y3,y4,.bool a.dy.neg,y5,y6]],((os++o2)++o3)++o4),?m2,⟨⟨?a2,?b2,?c2⟩,[(q4.length+1,⟨10,A++[[iv a.node,.bool a.share.neg,y1,y2,.bool a.dx.neg,y3,y4,.bool a.dy.neg,y5,y6]]⟩)],.inr ⟨q4.length+1,?d2,rfl⟩,?f2⟩,?e2⟩
  case e2=>dsimp only;(refine jS ?_;exact zV)
  case m2=>dsimp only;omega
  case a2=>dsimp only;omega
  case b2=>dsimp only;simp;omega
  case c2 =>
   intro r hr;rcases aK.1 hr with hr|hr
   ·exact hA10 r hr
   rw [aV.1 hr];rfl
  case d2=>dsimp only;simp
  case f2 =>
   dsimp only;rw [ets];refine Ep.adg (E4.to ?_ ?_) ?_ ?_
   ·intro o ho;have a1:=E4.Wu o ho;have a2:o≠s.length+1:=fun e=>hf5 (e▸ho);have a3:o≠2:=fun e=>hf2 (e▸ho);have a4:o≠p:=fun e=>hfp (e▸ho);exact Ja
   ·intro q hq;simp only [bK,dI,aH,bP,or_false]at hq;rcases hq with rfl|rfl|rfl
    ·refine .inl ⟨by simp,?_⟩;show iZ _ 1=iZ q4 1;exact Ja
    ·refine .inr ⟨?_,hf2⟩;show iZ _ 2=_;exact Ja
    refine .inr ⟨?_,fun hm=>by have:=E4.Wu _ hm;omega⟩;show iZ _ (q4.length+1)=_;exact Ja
   ·simp
   simp
 have hin:i=c.ps.length:=by omega
 subst hin;rcases hLA with ⟨rfl,rfl,rfl⟩|⟨p,rfl,rfl⟩
 ·simp at hAl;omega
 have L33:=E.at0 (p:=p) (ob:=⟨10,A⟩) (by simp);rw [bM]at E;refine Aq @hc (ah L1 L2) ?_;rw [if_pos (by rw [lx.2.1,lx.2.2];rfl)];have hf1:=(E.l (1,⟨5,[[iv 0,.bool false,.jF,.jF,.jF]]⟩) (by simp)).2;have hp1:p≠1:=fun e=>by have:=L33.1;rw [e,L1.1]at this;cases this
 have Es:=E.Ey (p:=1) (ob:=⟨5,[[iv c.node,.bool c.total.neg,x1,x2,.kQ p 0 A.length]]⟩) (L':=[(p,⟨10,A⟩)]) hf1 L1.2 (fun q hq=>.inl (by rw [aV.1 hq];exact⟨hp1,by simp⟩));have hA':A.length=(c.ps.map Pa.cells).length:=by rw [aX];exact hAl
 have avC:∀r∈c.ps.map Pa.cells,r.length=10:=fun r hr=>by obtain⟨x,_,rfl⟩:=bG.1 hr;rfl
 have hfl:A.flatten.length=(c.ps.map Pa.cells).flatten.length:=by
  have e1:∀(X:List (List V)),(∀r∈X,r.length=10)→X.flatten.length=X.length*10:=fun X=>by
   induction X with
   |nil=>intro _;rfl
   |cons r X ih=>intro h;rw [dG,aO,ih fun r hr=>h r (by simp [hr]),h r (by simp),ak];omega
  rw [e1 A hA10,e1 _ avC,hA']
 obtain⟨os1,E2,_⟩:=(Ep.adg (cs':=[iv c.node,.bool c.total.neg,x1,x2]++(A.flatten++[])) (ts':=[iv c.node,.bool c.total.neg,ints c.total.mag,ints c.total.den]++((c.ps.map Pa.cells).flatten++[])) Es (by simp) (by simp)).swap rfl hfl;obtain⟨os2,E3⟩:=E2.close (p:=p) (n:=10) (k:=10) (by simp) hA10 avC hA';obtain⟨os3,E4,_⟩:=(Ep.adg (cs':=[V.kQ p 0 A.length]++([iv c.node,.bool c.total.neg,x1,x2]++[])) (ts':=[Nj c.ps]++([iv c.node,.bool c.total.neg,ints c.total.mag,ints c.total.den]++[])) E3 (by simp) (by simp)).swap rfl rfl;refine vU (os:=os3) ?_ E4.c.nd;show lC _ (.agg ([iv c.node,.bool c.total.neg,x1,x2]++([V.kQ p 0 A.length]++[]))) (.agg ([iv c.node,.bool c.total.neg,ints c.total.mag,ints c.total.den]++([Nj c.ps]++[]))) os3;simp only [lC];exact⟨_,rfl,E4.c.ow⟩
theorem anG{A:List Pa}(h:agr A)(hb:∀a∈A,0≤a.node∧a.node≤9):A.length≤10:=by
 have key:∀i,i<A.length→(i:Int)≤(A.getD i default).node:=fun i=>by
  induction i with
  |zero=>intro hi;exact(hb _ (getD_mem hi)).1
  |
   succ i ih =>
   intro hi;have h1:=ih (by omega);have h2:=h i (i+1) (by omega) hi;omega
 rcases dD 10 A.length with h1|h1
 ·have h2:=key 10 h1;have h3:=(hb _ (getD_mem (l:=A) (i:=10) h1)).2;omega
 exact h1
structure avD (c:Cd) (M:List Lk):Prop where
 ne:0<c.ps.length
 len:c.ps.length≤10
 cn:c.total.cn∧∀a∈c.ps,a.share.cn∧a.dx.cn∧a.dy.cn
 ms:∀x∈M,x.w.cn∧x.dx.cn∧x.dy.cn
 ml:M.length≤101
theorem aoC{S:List Lk}{v:Int}(h:TM S v=true):avD (elC S v) (elM S v):=by
 rw [(aa3 h).1,(aa3 h).2];unfold TM at h;simp only [aG]at h;obtain⟨⟨⟨hb,_⟩,hc⟩,_⟩:=h;have hok:∀a∈nS S v,a.share.ok=true∧a.dx.cn∧a.dy.cn∧0≤a.node∧a.node≤9:=fun a ha=>ajD hb ha;have hl:=anG (aq8 hc) fun a ha=>⟨(hok a ha).2.2.2.1,(hok a ha).2.2.2.2⟩;have hpl:(nN v (nS S v)).ps.length=(nS S v).length:=aX ..;refine⟨?_,by omega,⟨aa1 _,fun x hx=>?_⟩,anu,?_⟩
 ·rcases iH (nN v (nS S v)).ps.length with e|e
  ·exfalso;have:(nN v (nS S v)).ps=[]:=aY e;unfold uw at hc;rw [this]at hc;simp at hc
  exact e
 ·obtain⟨a,ha,rfl⟩:=bG.1 hx;exact⟨Ju _ _,(hok a ha).2.1,(hok a ha).2.2.1⟩
 have h1:=OC (nS S v) (nS S v).length;have h2:(nS S v).length*(nS S v).length≤10*10:=fV hl hl;show (qU _ _).length≤_;omega
theorem GV{r:R}(h:r.cn):r.sz≤1000:=by
 have:=Oj h;unfold R.sz;omega
theorem Y5(S:List Lk)(v:Int):((elC S v).sz≤40000∧(elC S v).ps.length≤10∧Qn Lk.sz (elM S v)≤20000)∧(elC S v).wf∧IQ Lk.wf (elM S v):=by
 cases hB:TM S v
 ·rw [(ajC hB).1,(ajC hB).2];exact⟨⟨by decide,by decide,by decide⟩,⟨⟨by decide,by decide⟩,by decide,by simp⟩,by decide,by simp⟩
 have O:=aoC hB;have h1:=GV O.cn.1;have h2:=U7 (f:=Pa.sz) (k:=3000) (l:=(elC S v).ps) fun a ha=>by
  have h:=O.cn.2 a ha;have:=GV h.1;have:=GV h.2.1;have:=GV h.2.2;unfold Pa.sz;omega
 have h3:=O.len;refine⟨⟨?_,h3,Rh O.ms O.ml⟩,⟨rP O.cn.1,by omega,fun a ha=>?_⟩,Ri O.ms O.ml⟩
 ·unfold Cd.sz;omega
 have h:=O.cn.2 a ha;exact⟨rP h.1,rP h.2.1,rP h.2.2⟩
theorem ajX{n:Nat}{S:List Lk}(h:Qb n S):∀x∈S,Jn 7 x:=by
 obtain⟨L,hL,rfl⟩:=h.L;have h1:=hL.rn;have h2:=hL.len;obtain⟨S',e,a,hf,hj,he⟩:=Vh (N:=(n:Int)+1) (by omega) (by omega) hL.sm L.length (aJ _);have hg:Qo L=some (S',e):=by unfold Qo;rw [hf];exact if_pos he.ok
 have e1:uH L=S':=by unfold uH;rw [hg];rfl
 rw [e1];intro x hx;exact(hj x hx).mono (by omega)
def stP(v:Int)(l:Lk):Bool:=decide (l.a=v)||decide (l.b=v)
def Vt(v:Int)(l:Lk):Pa:=if l.a=v then⟨l.b,l.w,negR l.dx,negR l.dy⟩else⟨l.a,l.w,l.dx,l.dy⟩
theorem ajY{v:Int}{x:Lk}(h:stP v x=true):NH v x=some (Vt v x):=by
 unfold stP at h;simp only [dB,decide_eq_true_eq]at h;unfold NH Vt;by_cases h1:x.a=v
 ·rw [if_pos h1,if_pos h1]
 rw [if_neg h1,if_neg h1,if_pos (h.resolve_left h1)]
theorem ajZ{v:Int}{x:Lk}(h:stP v x=false):NH v x=none:=by
 unfold stP at h;simp only [Bool.or_eq_false_iff,decide_eq_false_iff_not]at h;unfold NH;rw [if_neg h.1,if_neg h.2]
theorem I8(S:List Lk)(v:Int):nS S v=(S.filter (stP v)).map (Vt v):=by
 unfold nS Iu;rw [bM]
 induction S with
 |nil=>rfl
 |
  cons x S ih =>
  cases h:stP v x
  ·rw [List.filterMap_cons_none (ajZ h),List.filter_cons_of_neg (by rw [h];simp),ih]
  rw [List.filterMap_cons_some (ajY h),List.filter_cons_of_pos h,bU,ih]
structure Jm (v:Int) (a:Pa):Prop where
 nd:0≤a.node∧a.node≤5∧a.node≠v
 w:Rw a.share a.share.v 63 1
 n:∃n:Int,(1≤n∧n≤63)∧a.share.v=(n:Rat)
 x:∃n:Int,(-1260≤n∧n≤1260)∧a.share.v*a.dx.v=(n:Rat)
 y:∃n:Int,(-1260≤n∧n≤1260)∧a.share.v*a.dy.v=(n:Rat)
 dx:Rw a.dx a.dx.v 1260 63
 dy:Rw a.dy a.dy.v 1260 63
theorem aj0(p n:Rat) : -(p / n)=(-p) / n:=by grind
def sm(f:Pa→Rat):List Pa→Rat
 | []=>0
 |a::l=>f a+sm f l
theorem aj1(f:Pa→Rat):∀A B:List Pa,sm f (A++B)=sm f A+sm f B
 | [],B=>by simp only [dI,sm,Rat.zero_add]
 |a::A,B=>by simp only [bK,sm,aj1 f A B,Rat.add_assoc]
theorem aeX(f:Pa→Rat){l:List Pa}{k:Nat}(h:k<l.length):sm f (l.take (k+1))=sm f (l.take k)+f (l.getD k default):=by
 rw [take_snoc h,aj1];show _+(f _+0)=_;rw [Rat.add_zero]
theorem Vu{f g:Pa→Rat}:∀{A:List Pa},(∀a∈A,f a=g a)→sm f A=sm g A
 | [],_=>rfl
 |a::A,h=>by simp only [sm,h a (by simp),Vu (A:=A) fun x hx=>h x (by simp [hx])]
structure Star (v:Int) (A:List Pa):Prop where
 jm:∀a∈A,Jm v a
 asc:A.Pairwise fun a b=>a.node<b.node
 len:1≤A.length∧A.length≤5
 v:1≤v∧v≤5
structure PtF (p:Pt):Prop where
 x:Rw p.x p.x.v 10 3
 y:Rw p.y p.y.v 10 3
 x6:∃n:Int,(-60≤n∧n≤60)∧6*p.x.v=(n:Rat)
 y6:∃n:Int,(-60≤n∧n≤60)∧6*p.y.v=(n:Rat)
structure AtS (P:List Pt):Prop where
 len:P.length=10
 pt:∀p∈P,PtF p
theorem AtS.at{P:List Pt}(h:AtS P){k:Nat}(hk:k<10):PtF (P.getD k default):=h.pt _ (getD_mem (by rw [h.len];exact hk))
def qX(P:List Pt)(a:Pa):Rat:=(P.getD a.node.toNat default).x.v+a.dx.v
def qY(P:List Pt)(a:Pa):Rat:=(P.getD a.node.toNat default).y.v+a.dy.v
def sW(a:Pa):Rat:=a.share.v
theorem lJ{t:Int}(h:1≤t):(t:Rat)≠0:=fun e=>by have:=Rat.intCast_eq_zero_iff.1 e;omega
theorem aeY{t:Int}(h:1≤t):(0:Rat)<(t:Rat):=Rat.intCast_pos.2 (by omega)
theorem Sv{n t:Int}(hn:1≤n)(ht:1≤t):(0:Rat)<(n:Rat) / (t:Rat):=by
 rw [Rat.div_def];exact Rat.mul_pos (aeY hn) (Rat.inv_pos.2 (aeY ht))
theorem agw(t:Rat)(h:t≠0):t / t=1:=by grind
def pX(P:List Pt)(A:List Pa):Rat:=sm (fun a=>sW a*qX P a) A / sm sW A
def pY(P:List Pt)(A:List Pa):Rat:=sm (fun a=>sW a*qY P a) A / sm sW A
theorem q6(w x d:Rat):6*(w*(x+d))=w*(6*x)+6*(w*d):=by grind
structure AtV (P Q:List Pt) (v:Int) (p:Pt):Prop where
 len:Q.length=10
 atv:Q.getD v.toNat default=p
 o:∀k:Nat,k≠v.toNat→Q.getD k default=P.getD k default
def enA(P:List Pt)(px py:Rat)(a:Pa):Rat:=sW a*((qX P a-px)*(qX P a-px)+(qY P a-py)*(qY P a-py))
theorem aeZ(f:Pa→Rat)(g:Lk→Pa):∀L:List Lk,tot (fun l=>f (g l)) L=sm f (L.map g)
 | []=>rfl
 |l::L=>by simp only [tot,bU,sm,aeZ f g L]
def w2(P:List Pt)(a b:Pa):Rat:=sW a*sW b*((qX P b-qX P a)*(qX P b-qX P a)+(qY P b-qY P a)*(qY P b-qY P a))
def pr(P:List Pt):List Pa→Rat
 | []=>0
 |a::l=>sm (w2 P a) l+pr P l
theorem aoD(P:List Pt)(a:Pa):∀l:List Pa,sm (w2 P a) l=sW a*((qX P a*qX P a+qY P a*qY P a)*sm sW l-2*(qX P a*sm (fun b=>sW b*qX P b) l)-2*(qY P a*sm (fun b=>sW b*qY P b) l)+sm (fun b=>sW b*(qX P b*qX P b+qY P b*qY P b)) l)
 | []=>by simp only [sm];grind
 |
  b::l=>by
  simp only [sm];rw [aoD P a l];unfold w2
  grind
theorem aoE(P:List Pt):∀l:List Pa,pr P l=sm sW l*sm (fun b=>sW b*(qX P b*qX P b+qY P b*qY P b)) l-sm (fun b=>sW b*qX P b) l*sm (fun b=>sW b*qX P b) l-sm (fun b=>sW b*qY P b) l*sm (fun b=>sW b*qY P b) l
 | []=>by simp only [pr,sm];grind
 |
  a::l=>by
  simp only [pr,sm];rw [aoE P l,aoD]
  grind
theorem ae0(P:List Pt)(px py:Rat):∀l:List Pa,sm (enA P px py) l=sm (fun b=>sW b*(qX P b*qX P b+qY P b*qY P b)) l-2*(px*sm (fun b=>sW b*qX P b) l)-2*(py*sm (fun b=>sW b*qY P b) l)+(px*px+py*py)*sm sW l
 | []=>by simp only [sm];grind
 |
  a::l=>by
  simp only [sm];rw [ae0 P px py l];unfold enA
  grind
def Qg(Q:List Pt)(l:Lk):Rat:=enV l (Q.getD l.a.toNat default) (Q.getD l.b.toNat default)
def eV(Q:List Pt)(x:Lk):Rat:=(Ij x (Q.getD x.a.toNat default) (Q.getD x.b.toNat default)).v
theorem adh{A:List Pa}{i:Nat}(h:i<A.length):A.drop i=A.getD i default::A.drop (i+1):=by
 rw [bH h,aj,au h];rfl
theorem Wv{T:Tb}(h:C9 T){l:List Lk}(hw:IQ Lk.wf l)(hl:l.length≤1048576):PO T 88 [oP l] (.nJ [oP (uH l),kC (MS l),.bool (Aw l)]):=by
 have c1:=YL h.PY hw
 cases h1:l.all nD
 ·obtain⟨e1,e2,e3⟩:=EC (aaP h1);rw [e1,e2,e3];rw [h1]at c1;refine lI (fun x d=>x == 109||x == 110) h.hT ?_;simp only [vg,Lz,St.enter,ak,aC,aQ];refine ew ?_;refine jl c1 ?_;refine ew ?_;exact aen
 have px:=P5 h.Df hw h1 hl;have hcn:=JK (l:=l);have cz:=Rh hcn.1 hcn.2.2.1;unfold joT at px;rw [h1]at c1;have hb:Aw l=false→uH l=[]∧MS l=R0:=fun hh=>by
  have:Qo l=none:=by unfold Aw at hh;cases hg:Qo l with|none=>rfl|some p=>rw [hg]at hh;cases hh
  exact⟨(EC this).1,(EC this).2.1⟩
 clear hcn;generalize uH l=L at *;generalize MS l=ee at *;generalize Aw l=b at *;have po:=YA h.Q9 (l:=L) (by omega);refine lI (fun x d=>x == 109||x == 110) h.hT ?_;simp only [vg,Lz,St.enter,ak,aC,aQ];refine ew ?_;refine jl c1 ?_;refine ew ?_;refine QT px (by (refine ew ?_;try with_reducible exact True.intro)) (by (refine ew ?_;try with_reducible exact True.intro)) ?_;intro vs q os g;obtain⟨w,v,z,rfl,hw1,hz1,G⟩:=g.fo;obtain rfl:=Bc hz1;obtain⟨_,rfl,hQ⟩:=G.ow.kP;obtain⟨y1,y2,rfl⟩:=hQ.rat
 have lw:=Ez hw1;have gl:2≤q.length:=by have:=G.len;simp at this;omega
 have ho1:=(G.old 0 (by simp)).trans rfl;have ho2:=(G.old 1 (by simp)).trans rfl;have E:Ep q [.bool ee.neg,y1,y2] [.bool ee.neg,ints ee.mag,ints ee.den] os []:=⟨⟨hQ,G.nd⟩,by simp⟩;have LF:=ah lw (ah (E.leaf 1 rfl rfl) (E.leaf 2 rfl rfl));refine Fj @LF @ho1 @ho2 ?_
 cases b
 ·obtain⟨rfl,rfl⟩:=hb rfl;refine y9 @ho1 ?_;exact aen
 refine y9 @LF ?_;have azZ:iZ q 1=none:=ho2;have hmono:∀x y o ob,iZ q o=some ob→iZ ((q.set 1 x).set 1 y) o=some ob:=fun x y o ob ho=>by
  have hne:o≠1:=fun e=>by rw [e,azZ]at ho;cases ho
  rw [jM hne,jM hne];exact ho
 have n1:0∉os:=fun hm=>by have:=G.fresh 0 hm;simp at this
 have n2:1∉os:=fun hm=>by have:=G.fresh 1 hm;simp at this
 have hw2:=aaM (hmono (some ⟨3,[[.bool false,.jF,.jF]]⟩) (some ⟨3,[[.bool ee.neg,y1,y2]]⟩)) _ _ _ hw1;refine UN po (by (refine y9 @hw2 ?_;try with_reducible exact True.intro)) ?_;intro r q2 os2 g;generalize lX _ _ _=R;have lr:=g.ow.leaf rfl;have gl2:2≤q2.length:=by have:=g.len;simp at this;omega
 have o1:iZ q2 0=some ⟨3,[[.bool false,.jF,.jF]]⟩:=(g.old 0 (by simp;omega)).trans (by rw [jM (by decide),jM (by decide)];exact ho1);have o2:iZ q2 1=some ⟨3,[[.bool ee.neg,y1,y2]]⟩:=(g.old 1 (by simp;omega)).trans (by rw [kF (by simp;omega)]);refine IX @LF @lr @o1 @o2 ?_;refine⟨?_,?_⟩
 ·refine Bd (L':=2) gl ?_;unfold vH;rfl
 have C2:Cs q2 [.bool ee.neg,y1,y2] [.bool ee.neg,ints ee.mag,ints ee.den] os:=E.c.frame fun o ho=>by
  have h1:=hQ.lt o ho;have h2:=G.fresh o ho;simp at h2;rw [g.old o (by simpa using h1),jM (by omega),jM (by omega)]
 have n12:0∉os2:=fun hm=>by have:=g.fresh 0 hm;simp at this;subst this;simp at gl
 have hnd:(os2++os).Nodup:=by
  refine aZ.2 ⟨g.nd,G.nd,fun a ha b hb e=>?_⟩;have h1:=hQ.lt b hb;have h2:=g.fresh a ha;simp at h2;omega
 refine vU (os:=os2++os) (Ea (nP (g.ow.frame fun o ho=>jM fun e=>n12 (e▸ho)) ?_)) hnd;have:=nP (nY (C2.set (o:=0) (x:=some ⟨3,[[.bool ee.neg,y1,y2]]⟩) n1).ow) (nI (b:=true) nC)
 rwa [aP]at this
def LnB(σ s:Store)(r:V)(M:List Lk):Prop :=
 ((r=.jF∧M=[])∨∃p,σ.length≤p∧r=.kQ p 0 M.length∧iZ s p=some ⟨11,M.map Lk.cells⟩)∧(∀o,o<σ.length→iZ s o=iZ σ o)∧σ.length≤s.length
theorem LnB.snoc{σ s:Store}{r:V}{M:List Lk}{x:Option Obj}(h:LnB σ s r M):LnB σ (s++[x]) r M:=by
 obtain⟨h1,h2,h3⟩:=h;refine⟨?_,fun o ho=>(jU (by omega)).trans (h2 o ho),by simp;omega⟩;rcases h1 with h1|⟨p,a,b,c⟩
 ·exact .inl h1
 exact .inr ⟨p,a,b,(jU (kD c)).trans c⟩
theorem LnB.new{σ s s':Store}{M:List Lk}{q n:Nat}(h2:∀o,o<σ.length→iZ s o=iZ σ o)(h3:σ.length≤s.length)(hq:σ.length≤q)(ho:∀o,o<σ.length→iZ s' o=iZ s o)(hl:s.length≤s'.length)(hn:n=M.length)
  (hm:iZ s' q=some ⟨11,M.map Lk.cells⟩):LnB σ s' (.kQ q 0 n) M :=
 ⟨.inr ⟨q,hq,by rw [hn],hm⟩,fun o h=>(ho o h).trans (h2 o h),by omega⟩
theorem Vw{T:Tb}(h:zZ T){σ:Store}{l:List Lk}{v:Int}(hl:l.length≤1048576):∃r σ',Run T (.fn 241 [oP l,iv v] σ) (.fn r σ')∧LnB σ σ' r (l.filter (Tq v)):=by
 rw [←aqJ];refine run_end nR h.hT ?_;simp only [wz,Lz,St.enter,ak,aC,aQ];refine ew ?_;refine jX (fun _ _=>false) (α:=Nat×Store×V) (fun q=>⟨lS [.any,iv v,.any,.any,.jF,q.2.2,.any,.any,.any,oP l,iv (l.length:Nat),iv (q.1:Nat)],q.2.1,σ.length,0,[],[]⟩) (fun q=>q.1≤l.length∧LnB σ q.2.1 q.2.2 (wo l v q.1)) (fun q=>l.length-q.1) rfl (0,σ++[none],.jF) ?_ ?_ ?_
 ·exact⟨by omega,.inl ⟨rfl,azG l v⟩,fun o ho=>jU ho,by simp⟩
 ·(refine jS ?_;exact zV)
 rintro⟨i,s,r⟩ ⟨hi,hL,hso,hsl⟩;dsimp only at hi hL hso hsl;have hx:(wo l v i).length≤1048576:=by have:=aqK l v i;omega
 by_cases hc:(i:Int)<(l.length:Nat)
 ·have hil:i<l.length:=by omega
  have es:=azH l v hil;generalize wo l v i=M at *;obtain⟨M',e'⟩:∃M',M'=wo l v (i+1):=⟨_,rfl⟩;rw [←e']at es;unfold Tq at es;obtain⟨y,hy⟩:∃y,l.getD i default=y:=⟨_,rfl⟩;rw [hy]at es;by_cases ha:y.a=v
  ·rw [decide_eq_false (by simp [ha]),dM,if_neg (by simp),aP]at es;subst es;refine IX @hc @mg @hy @ha ?_;exact⟨(i+1,s++[some ⟨11,[y.cells]⟩],r),by dsimp only;omega,⟨by dsimp only;omega,by dsimp only;rw [←e'];exact LnB.snoc ⟨hL,hso,hsl⟩⟩,by (refine jS ?_;exact zV)⟩
  by_cases hb:y.b=v
  ·rw [decide_eq_false (by simp [hb]:¬y.b≠v),Bool.and_false,if_neg (by simp),aP]at es;subst es;refine NC @hc @mg @hy @ha @hb ?_;exact⟨(i+1,s++[some ⟨11,[y.cells]⟩],r),by dsimp only;omega,⟨by dsimp only;omega,by dsimp only;rw [←e'];exact LnB.snoc ⟨hL,hso,hsl⟩⟩,by (refine jS ?_;exact zV)⟩
  rw [decide_eq_true ha,decide_eq_true hb,if_pos (by rfl)]at es;subst es;rcases hL with ⟨rfl,rfl⟩|⟨p,hp,rfl,hm⟩
  ·refine NC @hc @mg @hy @ha @hb ?_;refine⟨by omega,(i+1,?st,.kQ (s.length+1+1) 0 1),by dsimp only;omega,⟨by dsimp only;omega,?lt⟩,?ft⟩
   case ft=>(refine jS ?_;exact zV)
   case lt =>
    dsimp only;rw [←e'];refine LnB.new (s:=s) hso hsl (by omega) (fun o ho=>?_) ?_ rfl ?_
    ·exact Ja
    ·simp
    simp (disch:=first|omega|(simp only [aO,bC,ak,aC];omega)) only [Py];rfl
  have hpl:=kD hm;refine CV @hc @mg @hy @ha @hb @hm ?_;refine⟨⟨by omega,by omega⟩,(i+1,?ss,.kQ (s.length+1+1) 0 (M.length+1)),by dsimp only;omega,⟨by dsimp only;omega,?ll⟩,?ff⟩
  case ff=>(refine jS ?_;exact zV)
  case ll =>
   dsimp only;rw [←e'];refine LnB.new (s:=s) hso hsl (by omega) (fun o ho=>?_) ?_ (by simp) ?_
   ·have hop:o≠p:=by omega
    exact Ja
   ·simp;omega
   simp (disch:=first|omega|(simp only [aO,bC,ak,aC];omega)) only [Py];simp
 have hie:i=l.length:=by omega
 subst hie;refine y9 @hc ?_;exact⟨hL,hso,hsl⟩
theorem anH{n:Nat}{f:Nat→Option Nat}{rows:List (List V)}(h:l9 rows):oQ f ⟨n,rows⟩=⟨n,rows⟩:=by
 unfold oQ
 congr 1
 have:∀r∈rows,r.map (kH f)=r:=fun r hr=>by
  conv=>rhs;rw [←List.map_id r]
  apply iq
  intro v hv;exact acZ (h r hr v hv)
 conv=>rhs;rw [←List.map_id rows]
 apply iq
 intro r hr;exact this r hr
theorem aj2{T:Tb}{f:Nat}{as:List Src}{dst:Option Nat}{env:Nat→V}{σ:Store}{kp bs:Nat}{rs ms:List Nat}{k:St→Prop}{as':List V}{M:List Lk}
  (h:∃r s1,Run T (.fn f as' []) (.fn r s1)∧LnB [] s1 r M) (ha:IJ env σ as (· = as')) (hr:lX env σ as=[]) (hk:∀r σ2,LnB σ σ2 r M→k ⟨nG env dst r,σ2,kp,bs,rs,ms⟩):KX T f as dst ⟨env,σ,kp,bs,rs,ms⟩ k:=by
 obtain⟨r,s1,h,hL,_,_⟩:=h;refine MQ h ha hr (hk _ _ ⟨?_,fun o ho=>by rw [oU,if_pos ho],by unfold yH;simp⟩);rcases hL with ⟨rfl,rfl⟩|⟨p,_,rfl,hm⟩
 ·exact .inl ⟨rfl,rfl⟩
 refine .inr ⟨σ.length+p,by omega,rfl,?_⟩;rw [oU,if_neg (by omega),show σ.length+p-σ.length=p by omega,hm];show some (oQ _ _)=_;rw [anH (J6 M)]
def tZ:Fn:=⟨2,41,[.cell 4 5 true,.tmp 5,.cell 6 3 true,.tmp 7],(.seq (rf 2 [oN 4 (.alloc Zi),oK 5 2 mN,oK 6 1 (.alloc vN),oK 7 2 mF]) (.seq (rf 1 [oK 14 1 (oV 0),oK 15 1 (oV 1),oK 16 1 (cl 182 [14,15]),oK 13 1 (oV 16),oK 17 1 (ex 0 13),oK 18 1 (ex 1 13),oK 19 1 (ex 2 13),oN 8 (.alloc Zi),⟨none,none,1,.store 5 (.t 8) (.t 17),[]⟩,oK 9 1 (oV 18),oK 10 1 (oV 19)]) (.seq (sr [oW 20 10,oN 21 (nt 20)] (cd 21 (sr [oN 22 (.build Zi []),oN 23 (.build vN []),oS (.store 5 (.t 4) (.t 22)),oN 5 mN,oS (.store 3 (.t 6) (.t 23)),oN 7 mF] .ret) .skip)) (.seq (rf 2 [oK 25 2 (oV 0),oK 26 2 (oV 1),oK 27 2 (cl 241 [25,26]),oK 28 2 (oV 9),oN 29 (.app 11 184 (.t 27) (.t 28)),oK 30 2 (cl 109 [29]),oK 24 2 (oV 30),oK 31 2 (ex 0 24),oK 32 2 (ex 1 24),oK 33 2 (ex 2 24),oK 12 1 (.alloc vN),oK 11 2 (oV 31),⟨none,none,2,.store 3 (.t 12) (.t 32),[]⟩,oK 10 2 (oV 33)]) (.seq (sr [oW 34 10,oN 35 (nt 34)] (cd 35 (sr [oN 36 (.build Zi []),oN 37 (.build vN []),oS (.store 5 (.t 4) (.t 36)),oN 5 mN,oS (.store 3 (.t 6) (.t 37)),oN 7 mF] .ret) .skip)) (.seq (rt 0 [oN 38 (lT 5 8),oW 39 11,oN 40 (lT 3 12),⟨none,none,0,.store 5 (.t 4) (.t 38),[0,0]⟩,oA 5 0 (oV 39) [1,3,0,1,3],⟨none,none,0,.store 3 (.t 6) (.t 40),[2,4,0,1,2,3,4]⟩,oA 7 0 mT [5,0,1,2,3,4,5]]) .ret))))))⟩
structure BP (T:Tb):Prop where
 hT:T 274=some tZ
 Df:yC T
 LQ:yg T
 OI:zZ T
def OM(S:List Lk)(v:Int):List Lk:=S.filter (Tq v)++elM S v
def Kw(S:List Lk)(v:Int):Bool:=TM S v&&Aw (OM S v)
def TN(S:List Lk)(v:Int):Cd:=if Kw S v=true then elC S v else⟨0,R0,[]⟩
def TP(S:List Lk)(v:Int):List Lk:=if Kw S v=true then uH (OM S v)else []
def rnE(S:List Lk)(v:Int):R:=if Kw S v=true then MS (OM S v)else R0
theorem Wx{S:List Lk}{v:Int}(h:Kw S v=true):TN S v=elC S v∧TP S v=uH (OM S v)∧rnE S v=MS (OM S v):=by
 unfold TN TP rnE;rw [h];exact⟨rfl,rfl,rfl⟩
theorem anI{S:List Lk}{v:Int}(h:Kw S v=false):TN S v=⟨0,R0,[]⟩∧TP S v=[]∧rnE S v=R0:=by
 unfold TN TP rnE;rw [h];exact⟨rfl,rfl,rfl⟩
theorem aro{S:List Lk}(v:Int)(h:IQ Lk.wf S)(hl:S.length≤1048576):IQ Lk.wf (OM S v):=by
 have h1:=(Y5 S v).2.2;have h2:=jD (Tq v) S;have h3:=(Y5 S v).1.2.2;have h4:=Ut Lk.sz (elM S v);refine⟨by unfold OM;rw [aO];omega,fun x hx=>?_⟩;rcases aK.1 hx with hx|hx
 ·exact h.2 x (dO.1 hx).1
 exact h1.2 x hx
theorem anJ:lU (.nJ [Xj ⟨0,R0,[]⟩,oP [],kC R0,.bool false]) (.nJ [.agg [iv 0,.bool false,.jF,.jF,.jF],.jF,.agg [.bool false,.jF,.jF],.bool false]):=by
 simp only [lU,uJ];exact⟨_,rfl,_,_,rfl,⟨_,rfl,_,_,rfl,rfl,_,_,rfl,rfl,_,_,rfl,.inl ⟨rfl,.inl rfl⟩,_,_,rfl,.inl ⟨rfl,.inl rfl⟩,_,_,rfl,.inl ⟨rfl,.inl rfl⟩,rfl⟩,_,_,rfl,.inl ⟨rfl,.inl rfl⟩,_,_,rfl,uX,_,_,rfl,rfl,rfl⟩
theorem Nb{T:Tb}{f:Nat}{as:List Src}{dst:Option Nat}{env:Nat→V}{σ:Store}{kp bs:Nat}{rs ms:List Nat}{k:St→Prop}{as':List V}{ts:List (Bool×V)}{p:Nat}(h:PX T f as' ts)
  (ha:IJ env σ as (· = as')) (hr:∀o,o∈lX env σ as→o=p) (hk:∀vs σ2 os S,S.length=σ.length→(∀o,o≠p→iZ S o=iZ σ o)→af0 S σ2 vs ts os→(∀S2:Store,(∀o,σ.length≤o→iZ S2 o=iZ σ2 o)→Tf S2 vs ts os)→k ⟨nG env dst (.nJ vs),σ2,kp,bs,rs,ms⟩):KX T f as dst ⟨env,σ,kp,bs,rs,ms⟩ k:=by
 obtain⟨vs,σ',os,h1,h2,h3⟩:=h;obtain⟨as2,e,rfl⟩:=yh ha;obtain⟨R,hR,hRs⟩:∃R,R=(if (mM (V.nJ vs)&&Ci σ')=true then []else lX env σ as)∧∀o,o∉lX env σ as→o∉R:=by
  by_cases hc:(mM (V.nJ vs)&&Ci σ')=true
  ·exact⟨[],by rw [if_pos hc],fun _ _=>by simp⟩
  exact⟨lX env σ as,by rw [if_neg hc],fun _ h=>h⟩
 refine⟨_,.own e h1 (R:=R) hR,?_⟩;have key:∀o,iZ (yH (lW σ R) σ') (σ.length+o)=(iZ σ' o).map (oQ (lG σ.length)):=by
  intro o;rw [oU,Gi,if_neg (by omega)]
  congr 2;omega
 have:=hk (vs.map (kH (lG σ.length))) (yH (lW σ R) σ') (os.map (σ.length + ·)) (lW σ R) (Gi _ _) (fun o ho=>by rw [CO,if_neg (hRs o fun hm=>ho (hr o hm))]) ⟨h2.shift key,?_,?_,?_,?_⟩ (fun S2 hS=>h2.shift fun o=>(hS _ (by omega)).trans (key o))
 ·simpa only [kH,Pz]using this
 ·exact fQ.2 (h3.imp fun hne e=>hne (by omega))
 ·intro o ho;obtain⟨q,_,rfl⟩:=bG.1 ho;rw [Gi];omega
 ·intro o ho;rw [oU,if_pos ho]
 simp [yH]
theorem PX.az0{T:Tb}{f:Nat}{as as':List V}{ts:List (Bool×V)}(h:PX T f as ts)(ha:uJ as as'):PX T f as' ts:=by
 obtain⟨vs,σ',os,h1,h2,h3⟩:=h;exact⟨vs,σ',os,.abG ha h1 (jP _),h2,h3⟩
def rnT(S:List Lk)(v:Int):List (Bool×V):=[(false,Xj (TN S v)),(false,oP (TP S v)),(true,kC (rnE S v)),(false,.bool (Kw S v))]
theorem Vx{σ:Store}:acB σ (.nJ [.agg [iv 0,.bool false,.jF,.jF,.jF],.jF,.agg [.bool false,.jF,.jF],.bool false]) [(false,Xj ⟨0,R0,[]⟩),(false,oP []),(true,kC R0),(false,.bool false)]:=by
 refine⟨[Xj ⟨0,R0,[]⟩,.sl 11 [],kC R0,.bool false],[],anJ,?_,.nil⟩;simp only [Tf,if_true,bn,if_false];refine⟨_,_,[],[],rfl,rfl,⟨rfl,rfl⟩,_,_,[],[],rfl,rfl,⟨rfl,rfl⟩,_,_,[],[],rfl,rfl,?_,_,[],[],[],rfl,rfl,⟨rfl,rfl⟩,rfl,rfl⟩;exact nY (nI (nP (o1:=[]) kX (nP (o1:=[]) kX nC)))
theorem ae1{σ:Store}{a w:V}{vs:List V}{ts:List (Bool×V)}{os:List Nat}(ha:resolve σ FD a=some w)(h:Tf σ vs ts os)(hn:os.Nodup):acB σ (.nJ (a::vs)) ((false,w)::ts):=by
 refine⟨a::vs,os,jP _,?_,hn⟩;unfold Tf;exact⟨a,vs,[],os,rfl,rfl,by simpa using ha,h⟩
theorem Wy{T:Tb}(h:BP T){S:List Lk}{v:Int}(hok:kN S=true)(hw:IQ Lk.wf S):PX T 274 [oP S,iv v] (rnT S v):=by
 unfold rnT;have hl:S.length≤100:=Q7 hok;have ce:=SN h.LQ (v:=v) hok hw
 cases hB:TM S v
 ·obtain⟨e1,e2,e3⟩:=anI (S:=S) (v:=v) (by unfold Kw;rw [hB];rfl);rw [e1,e2,e3,show Kw S v=false by unfold Kw;rw [hB];rfl];rw [hB]at ce;refine PD (fun x d=>(x == 109&&d == 30)||(x == 241&&d == 27)) h.hT ?_;simp only [tZ,Lz,St.enter,ak,aC,aQ];refine ew ?_;refine jl ce ?_;refine ew ?_;exact .inl Vx
 have hB0:=hB;rw [hB]at ce;have m1:(S.filter (Tq v)).length≤1000000:=bV (jD _ _) (by omega);have m2:(elM S v).length≤20000:=by have:=(Y5 S v).1.2.2;have:=Ut Lk.sz (elM S v);omega
 have m3:(OM S v).length≤1048576:=by unfold OM;rw [aO];omega
 have hall:(OM S v).all nD=true:=aT.2 fun x hx=>by
  rcases aK.1 hx with hx|hx
  ·exact(qB.1 hok).1 x (dO.1 hx).1
  rw [(aa3 hB).2]at hx;unfold TM at hB;simp only [aG]at hB;exact aT.1 hB.2 x hx
 have px:=P5 h.Df (l:=OM S v) (aro v hw (by omega)) hall m3;unfold joT at px;have hD:Kw S v=Aw (OM S v):=by unfold Kw;rw [hB];rfl
 have hT:=@Wx S v;have hF:=@anI S v;rw [hD]at hT hF ⊢;have hR:OM S v=S.filter (Tq v)++elM S v:=rfl;have cr:=Vw h.OI (v:=v) (σ:=[]) (l:=S) (by omega);have hb:Aw (OM S v)=false→uH (OM S v)=[]∧MS (OM S v)=R0:=fun hh=>by
  have:Qo (OM S v)=none:=by unfold Aw at hh;cases hg:Qo (OM S v)with|none=>rfl|some p=>rw [hg]at hh;cases hh
  exact⟨(EC this).1,(EC this).2.1⟩
 have hcs:∀σ:Store,resolve σ FD (Xj (elC S v))=some (Xj (elC S v)):=fun σ=>zf (Xk [elC S v] _ (by simp));clear hok hw hl hD hB hB0 hall;generalize elC S v=c at *;generalize OM S v=L at *;generalize elM S v=M at *;generalize S.filter (Tq v)=F at *;generalize TN S v=rc at *;generalize TP S v=rm at *;generalize rnE S v=re at *;generalize uH L=jv at *;generalize MS L=je at *;generalize Aw L=jo at *;refine PD (fun x d=>(x == 109&&d == 30)||(x == 241&&d == 27)) h.hT ?_;simp only [tZ,Lz,St.enter,ak,aC,aQ];refine ew ?_;refine jl ce ?_;refine ew ?_;refine aj2 cr (by (refine ew ?_;try with_reducible exact True.intro)) (by (refine ew ?_;try with_reducible exact True.intro)) ?_;intro r s1 ⟨hL,hso,hsl⟩;simp only [ak,aC]at hso hsl hL;have h0:=(hso 0 (by omega)).trans rfl;have h1:=(hso 1 (by omega)).trans rfl;have h2:=(hso 2 (by omega)).trans rfl;rcases hL with ⟨rfl,rfl⟩|⟨p,hp,rfl,hm⟩
 ·have hL0:L=M:=hR;refine Fj @h0 @h1 @h2 ?_;refine⟨fun hM=>?_,fun hM=>⟨⟨by omega,by omega⟩,?_⟩⟩
  ·rw [hL0,gB.1 hM]at px;refine Nb (p:=3) (px.az0 (as':=[.jF]) ⟨_,_,rfl,of_eq_true (oC 11),rfl⟩) (by (refine Fj @h0 @h1 @h2 ?_;try with_reducible exact True.intro)) (fun o ho=>?_) ?_
   ·have ho:o∈reach s1 FD .jF:=by simpa [lX,Src.ev,upd]using ho
    have:reach s1 FD .jF=[]:=rfl;rw [this]at ho;cases ho
   intro vs q os S' hS1 hS2 g gX;obtain⟨w,e,z,rfl,hw1,hz1,G⟩:=g.fo;obtain rfl:=Bc hz1;obtain⟨_,rfl,hQ⟩:=G.ow.kP;obtain⟨y1,y2,rfl⟩:=hQ.rat
   have lw:=Ez hw1;have gl:=G.len;have k0:=(G.old 0 (by omega)).trans ((hS2 0 (by omega)).trans h0);have k1:=(G.old 1 (by omega)).trans ((hS2 1 (by omega)).trans h1);have k2:=(G.old 2 (by omega)).trans ((hS2 2 (by omega)).trans h2);have E:Ep q [.bool je.neg,y1,y2] [.bool je.neg,ints je.mag,ints je.den] os []:=⟨⟨hQ,G.nd⟩,by simp⟩;have n4:∀o∈os,5≤o:=fun o ho=>by have:=G.fresh o ho;omega
   have LF:=ah lw (ah (E.leaf 1 rfl rfl) (E.leaf 2 rfl rfl));have gl5:5≤q.length:=by omega
   cases jo
   ·obtain⟨rfl,rfl,rfl⟩:=hF rfl;refine IX @LF @k0 @k1 @k2 ?_;exact .inl Vx
   obtain⟨rfl,rfl,rfl⟩:=hT rfl;refine IX @LF @k0 @k1 @k2 ?_;refine⟨Bd (L':=5) (by omega) (by unfold vH;rfl),.inl (ae1 (hcs _) (gX _ fun o ho=>?_) G.nd)⟩
   try simp only [bC]at ho
   exact Ja
  have m3':M.length≤1048576:=by omega
  rw [show oP L=.sl 11 (M.map Lk.cells) by rw [hL0]]at px;refine Nb (p:=3) px (by (refine Fj @h0 @h1 @h2 ?_;try with_reducible exact True.intro)) (fun o ho=>?_) ?_
  ·have ho:o∈reach (s1.set 3 (some ⟨11,M.map Lk.cells⟩)) FD (.kQ 3 0 M.length):=by simpa [lX,Src.ev,upd]using ho
   exact JU (kF (by omega)) (J6 M) o ho
  intro vs q os S' hS1 hS2 g gX;obtain⟨w,e,z,rfl,hw1,hz1,G⟩:=g.fo;obtain rfl:=Bc hz1;obtain⟨_,rfl,hQ⟩:=G.ow.kP;obtain⟨y1,y2,rfl⟩:=hQ.rat
  have lw:=Ez hw1;simp only [bC]at hS1;have gl:=G.len;have k0:=(G.old 0 (by omega)).trans ((hS2 0 (by omega)).trans ((jM (by omega)).trans h0));have k1:=(G.old 1 (by omega)).trans ((hS2 1 (by omega)).trans ((jM (by omega)).trans h1));have k2:=(G.old 2 (by omega)).trans ((hS2 2 (by omega)).trans ((jM (by omega)).trans h2));have E:Ep q [.bool je.neg,y1,y2] [.bool je.neg,ints je.mag,ints je.den] os []:=⟨⟨hQ,G.nd⟩,by simp⟩;have n4:∀o∈os,5≤o:=fun o ho=>by have:=G.fresh o ho;omega
  have LF:=ah lw (ah (E.leaf 1 rfl rfl) (E.leaf 2 rfl rfl));have gl5:5≤q.length:=by omega
  cases jo
  ·obtain⟨rfl,rfl,rfl⟩:=hF rfl;refine IX @LF @k0 @k1 @k2 ?_;exact .inl Vx
  obtain⟨rfl,rfl,rfl⟩:=hT rfl;refine IX @LF @k0 @k1 @k2 ?_;refine⟨Bd (L':=5) (by omega) (by unfold vH;rfl),.inl (ae1 (hcs _) (gX _ fun o ho=>?_) G.nd)⟩
  try simp only [bC]at ho
  exact Ja
 have hFM:F.map Lk.cells++M.map Lk.cells=L.map Lk.cells:=by rw [hR,cZ]
 have hLn:F.length+M.length=L.length:=by rw [hR,aO]
 refine IX @h0 @h1 @h2 @hm ?_;refine⟨fun hM=>?_,fun hM=>⟨⟨by omega,by omega⟩,?_⟩⟩
 ·rw [show oP L=.sl 11 (F.map Lk.cells) by rw [hR,gB.1 hM,aP]]at px;refine Nb (p:=p) px (by (refine IX @h0 @h1 @h2 @hm ?_;try with_reducible exact True.intro)) (fun o ho=>?_) ?_
  ·have ho:o∈reach s1 FD (.kQ p 0 F.length):=by simpa [lX,Src.ev,upd]using ho
   exact JU hm (J6 F) o ho
  intro vs q os S' hS1 hS2 g gX;obtain⟨w,e,z,rfl,hw1,hz1,G⟩:=g.fo;obtain rfl:=Bc hz1;obtain⟨_,rfl,hQ⟩:=G.ow.kP;obtain⟨y1,y2,rfl⟩:=hQ.rat
  have lw:=Ez hw1;have gl:=G.len;have k0:=(G.old 0 (by omega)).trans ((hS2 0 (by omega)).trans h0);have k1:=(G.old 1 (by omega)).trans ((hS2 1 (by omega)).trans h1);have k2:=(G.old 2 (by omega)).trans ((hS2 2 (by omega)).trans h2);have E:Ep q [.bool je.neg,y1,y2] [.bool je.neg,ints je.mag,ints je.den] os []:=⟨⟨hQ,G.nd⟩,by simp⟩;have n4:∀o∈os,5≤o:=fun o ho=>by have:=G.fresh o ho;omega
  have LF:=ah lw (ah (E.leaf 1 rfl rfl) (E.leaf 2 rfl rfl));have gl5:5≤q.length:=by omega
  cases jo
  ·obtain⟨rfl,rfl,rfl⟩:=hF rfl;refine IX @LF @k0 @k1 @k2 ?_;exact .inl Vx
  obtain⟨rfl,rfl,rfl⟩:=hT rfl;refine IX @LF @k0 @k1 @k2 ?_;refine⟨Bd (L':=5) (by omega) (by unfold vH;rfl),.inl (ae1 (hcs _) (gX _ fun o ho=>?_) G.nd)⟩
  try simp only [bC]at ho
  exact Ja
 rw [hFM]
 try simp only [aX]
 rw [hLn];refine Nb (p:=3) px (by (refine IX @h0 @h1 @h2 @hm ?_;try with_reducible exact True.intro)) (fun o ho=>?_) ?_
 ·have ho:o∈reach ((s1.set p none).set 3 (some ⟨11,L.map Lk.cells⟩)) FD (.kQ 3 0 L.length):=by simpa [lX,Src.ev,upd]using ho
  exact JU (kF (by simp;omega)) (J6 L) o ho
 intro vs q os S' hS1 hS2 g gX;obtain⟨w,e,z,rfl,hw1,hz1,G⟩:=g.fo;obtain rfl:=Bc hz1;obtain⟨_,rfl,hQ⟩:=G.ow.kP;obtain⟨y1,y2,rfl⟩:=hQ.rat
 have lw:=Ez hw1;simp only [bC]at hS1;have gl:=G.len;have k0:=(G.old 0 (by omega)).trans ((hS2 0 (by omega)).trans ((jM (by omega)).trans ((jM (by omega)).trans h0)));have k1:=(G.old 1 (by omega)).trans ((hS2 1 (by omega)).trans ((jM (by omega)).trans ((jM (by omega)).trans h1)));have k2:=(G.old 2 (by omega)).trans ((hS2 2 (by omega)).trans ((jM (by omega)).trans ((jM (by omega)).trans h2)));have E:Ep q [.bool je.neg,y1,y2] [.bool je.neg,ints je.mag,ints je.den] os []:=⟨⟨hQ,G.nd⟩,by simp⟩;have n4:∀o∈os,5≤o:=fun o ho=>by have:=G.fresh o ho;omega
 have LF:=ah lw (ah (E.leaf 1 rfl rfl) (E.leaf 2 rfl rfl));have gl5:5≤q.length:=by omega
 cases jo
 ·obtain⟨rfl,rfl,rfl⟩:=hF rfl;refine IX @LF @k0 @k1 @k2 ?_;exact .inl Vx
 obtain⟨rfl,rfl,rfl⟩:=hT rfl;refine IX @LF @k0 @k1 @k2 ?_;refine⟨Bd (L':=5) (by omega) (by unfold vH;rfl),.inl (ae1 (hcs _) (gX _ fun o ho=>?_) G.nd)⟩
 try simp only [bC]at ho
 exact Ja
theorem aj3{S:List Lk}{v:Int}(h:Kw S v=true):avD (TN S v) (elM S v):=by
 have h1:TM S v=true:=by unfold Kw at h;simp only [aG]at h;exact h.1
 rw [(Wx h).1];exact aoC h1
theorem adi(S:List Lk)(v:Int):((TN S v).sz≤40000∧(TN S v).ps.length≤10∧Qn Lk.sz (TP S v)≤20000∧(rnE S v).sz≤1000)∧(TN S v).wf∧IQ Lk.wf (TP S v)∧(rnE S v).wf:=by
 have hcn:=JK (l:=OM S v);have he:=Y5 S v
 cases hB:Kw S v
 ·obtain⟨e1,e2,e3⟩:=anI hB;rw [e1,e2,e3];exact⟨⟨by decide,by decide,by decide,by decide⟩,⟨⟨by decide,by decide⟩,by decide,by simp⟩,⟨by decide,by simp⟩,by decide,by decide⟩
 obtain⟨e1,e2,e3⟩:=Wx hB;rw [e1,e2,e3];exact⟨⟨he.1.1,he.1.2.1,Rh hcn.1 hcn.2.2.1,GV hcn.2.1⟩,he.2.1,Ri hcn.1 hcn.2.2.1,rP hcn.2.1⟩
def En:Fn:=⟨1,26,[.cell 2 100 true],(.seq (rf 1 [oN 2 (.alloc zz7)]) (.seq (rf 1 [oN 3 (.alloc zz7)]) (.seq (sr [oW 6 0,oN 7 (ln 6),oN 8 (.oO (cI 0))] (.block 0 (.loop (sr [oN 9 (bt .lss 8 7)] (.seq (cd 9 .skip (.exit 0)) (.seq (.block 1 (.seq (rf 1 [oK 10 1 (ix 11 6 8),oK 11 1 (lT 11 10),oN 5 (.alloc J7),⟨none,none,1,.store 11 (.t 5) (.t 11),[]⟩]) (.seq (rt 0 [oN 12 (fd 0 5),oA 13 0 (lF 1 12) [0],oN 14 (fd 1 5),oA 15 0 (lF 1 14) [2],oA 16 0 (.BZ 10 10 (.t 3) (.t 13)) [1],oA 17 0 (.BZ 10 1 (.t 16) (.t 15)) [4,3,0,1,2,3],⟨none,none,0,.store 1 (.t 17) (.c (.bool true)),[5,0,1,2,3]⟩]) (rt 0 [oN 18 (fd 1 5),oA 19 0 (lF 1 18) [0],oN 20 (fd 0 5),oA 21 0 (lF 1 20) [2],oA 22 0 (.BZ 10 10 (.t 3) (.t 19)) [1],oA 23 0 (.BZ 10 1 (.t 22) (.t 21)) [4,3,0,1,2,3],⟨none,none,0,.store 1 (.t 23) (.c (.bool true)),[5,0,1,2,3]⟩])))) (rg [oN 24 (bc .add 8 1),oW 8 24]))))))) (sr [oN 25 (lT 100 3),oS (.store 100 (.t 2) (.t 25))] .ret))))⟩
structure Iy (T:Tb):Prop where
 hT:T 316=some En
def yG:Fn:=⟨2,64,[.cell 4 100 true,.tmp 5],(.seq (rf 2 [oN 2 (.box (.t 0)),oK 4 1 (.alloc zz7),oK 5 2 (.oO (cI 0))]) (sr [oN 6 (.oO (cI 0))] (.seq (sr [oN 7 (.oO (cI 0))] (.block 0 (.loop (.seq (sr [oW 10 7,oN 11 (bc .lss 10 10)] (cd 11 .skip (.exit 0))) (.seq (.block 1 (sr [oW 14 7,oN 15 (bc .add 14 1),oW 8 15] (.block 2 (.loop (.seq (sr [oW 16 8,oN 17 (bc .lss 16 10)] (cd 17 .skip (.exit 2))) (.seq (.block 3 (sr [oW 20 1,oW 21 7,oN 22 (.BZ 10 10 (.t 2) (.t 20)),oN 23 (.BZ 10 1 (.t 22) (.t 21)),oN 24 (lF 1 23),oW 25 24,oG 25 true 26 (oV 1),oG 25 true 27 (oV 8),oG 25 true 28 (.BZ 10 10 (.t 2) (.t 26)),oG 25 true 29 (.BZ 10 1 (.t 28) (.t 27)),oG 25 true 30 (lF 1 29),oN 31 (.pick (.t 25) (.t 30) (.c (.bool false))),oW 32 31,oG 32 true 33 (oV 7),oG 32 true 34 (oV 8),oG 32 true 35 (.BZ 10 10 (.t 2) (.t 33)),oG 32 true 36 (.BZ 10 1 (.t 35) (.t 34)),oG 32 true 37 (lF 1 36),oG 32 true 38 (nt 37),oN 39 (.pick (.t 32) (.t 38) (.c (.bool false)))] (cd 39 (sr [oW 40 7,oW 41 8,oN 42 (.BZ 10 10 (.t 2) (.t 40)),oN 43 (.BZ 10 1 (.t 42) (.t 41)),oS (.store 1 (.t 43) (.c (.bool true)))] (sr [oW 44 8,oW 45 7,oN 46 (.BZ 10 10 (.t 2) (.t 44)),oN 47 (.BZ 10 1 (.t 46) (.t 45)),oS (.store 1 (.t 47) (.c (.bool true)))] (rg [oW 48 6,oN 49 (bc .add 48 1),oW 6 49]))) .skip))) (rg [oW 18 8,oN 19 (bc .add 18 1),oW 8 19]))))))) (rg [oW 12 7,oN 13 (bc .add 12 1),oW 7 13])))))) (.seq (sr [oN 9 (.oO (cI 0))] (.block 4 (.loop (.seq (sr [oW 50 9,oN 51 (bc .lss 50 10)] (cd 51 .skip (.exit 4))) (.seq (.block 5 (sr [oW 54 1,oW 55 9,oN 56 (.BZ 10 10 (.t 2) (.t 54)),oN 57 (.BZ 10 1 (.t 56) (.t 55)),oS (.store 1 (.t 57) (.c (.bool false)))] (rg [oW 58 9,oW 59 1,oN 60 (.BZ 10 10 (.t 2) (.t 58)),oN 61 (.BZ 10 1 (.t 60) (.t 59)),oS (.store 1 (.t 61) (.c (.bool false)))]))) (rg [oW 52 9,oN 53 (bc .add 52 1),oW 9 53])))))) (sr [oN 62 (lT 100 2),oW 63 6,oS (.store 100 (.t 4) (.t 62)),oW 5 63] .ret)))))⟩
structure Dj (T:Tb):Prop where
 hT:T 317=some yG
def uQ:Fn:=⟨2,19,[.tmp 4],(.seq (rf 1 [oN 2 (.box (.t 0)),oK 4 1 (.oO (cI 0))]) (sr [oN 5 (.oO (cI 0))] (.seq (sr [oW 8 1,oN 9 (.BZ 10 10 (.t 2) (.t 8)),oN 10 (lT 10 9),oN 11 (.oO (cI 0))] (.block 0 (.loop (sr [oN 12 (bc .lss 11 10)] (.seq (cd 12 .skip (.exit 0)) (.seq (.block 1 (sr [oN 13 (.XV 10 (.t 10) (.t 11)),oW 7 13] (sr [oW 14 7] (cd 14 (rg [oW 15 5,oN 16 (bc .add 15 1),oW 5 16]) .skip)))) (rg [oN 17 (bc .add 11 1),oW 11 17]))))))) (sr [oW 18 5,oW 4 18] .ret))))⟩
structure yL (T:Tb):Prop where
 hT:T 322=some uQ
def xG:Fn:=⟨2,24,[.tmp 4],(sr [oN 4 mN] (.seq (rf 1 [oN 8 (.oI 1 I9 0 []),oK 5 1 (oV 8)]) (.seq (sr [oW 9 0,oN 10 (ln 9),oN 11 (.oO (cI 0))] (.block 0 (.loop (sr [oN 12 (bt .lss 11 10)] (.seq (cd 12 .skip (.exit 0)) (.seq (.block 1 (sr [oN 13 (ix 1 9 11),oN 14 (lF 1 13),oW 7 14] (sr [oW 15 7,oW 16 1,oN 17 (bt .neq 15 16)] (cd 17 (rf 2 [oK 18 2 (oV 5),oK 19 2 (oV 7),oN 20 (.oI 1 I9 1 [(0,(.t 19))]),oK 21 1 (.app 1 8 (.t 18) (.t 20)),oK 5 2 (oV 21)]) .skip)))) (rg [oN 22 (bc .add 11 1),oW 11 22]))))))) (sr [oW 23 5,oW 4 23] .ret))))⟩
structure BQ (T:Tb):Prop where
 hT:T 323=some xG
def qm:Fn:=⟨2,77,[.tmp 4],(sr [oN 4 mN] (.seq (sr [oW 14 0,oN 15 (cl 89 [14]),oN 16 (nt 15)] (cd 16 (sr [oN 4 mN] .ret) .skip)) (.seq (rf 1 [oK 17 1 (oV 0),oK 18 1 (cl 316 [17]),oN 5 (.alloc zz7),⟨none,none,1,.store 100 (.t 5) (.t 18),[]⟩]) (sr [oW 19 0,oN 20 (cl 180 [19]),oW 6 20] (.seq (rf 1 [oN 21 (.oI 1 I9 0 []),oK 7 1 (oV 21)]) (.seq (.block 0 (.loop (.seq (sr [oW 22 6,oN 23 (ln 22),oN 24 (bc .gtr 23 0)] (cd 24 .skip (.exit 0))) (.block 1 (.seq (rf 1 [oN 25 (.oI 1 I9 0 []),oK 8 1 (oV 25)]) (.seq (sr [oW 26 6,oN 27 (ln 26),oN 28 (.oO (cI 0))] (.block 2 (.loop (sr [oN 29 (bt .lss 28 27)] (.seq (cd 29 .skip (.exit 2)) (.seq (.block 3 (sr [oN 30 (ix 1 26 28),oN 31 (lF 1 30),oW 10 31] (sr [oW 32 1,oW 33 10,oN 34 (cl 236 [32,33]),oN 35 (nt 34)] (cd 35 (rf 2 [oK 36 2 (oV 8),oK 37 2 (oV 10),oN 38 (.oI 1 I9 1 [(0,(.t 37))]),oK 39 1 (.app 1 8 (.t 36) (.t 38)),oK 8 2 (oV 39)]) .skip)))) (rg [oN 40 (bc .add 28 1),oW 28 40]))))))) (.seq (sr [oW 41 8,oN 42 (ln 41),oN 43 (bc .eql 42 0)] (cd 43 (rg [oW 44 6,oW 8 44]) .skip)) (sr [oW 45 8,oN 46 (.idx 1 (.t 45) (cI 0)),oN 47 (lF 1 46),oW 11 47] (.seq (sr [oW 48 8,oN 49 (ln 48),oN 50 (.oO (cI 0))] (.block 4 (.loop (sr [oN 51 (bt .lss 50 49)] (.seq (cd 51 .skip (.exit 4)) (.seq (.block 5 (sr [oN 52 (ix 1 48 50),oN 53 (lF 1 52),oW 13 53] (.seq (rt 0 [oN 54 (lT 100 5),oW 55 13,oA 56 0 (cl 322 [54,55]) [0,1],oN 57 (lT 100 5),oW 58 11,oA 59 0 (cl 322 [57,58]) [3,4,2],oA 60 0 (bt .lss 56 59) [2,5]]) (cd 60 (rg [oW 61 13,oW 11 61]) .skip)))) (rg [oN 62 (bc .add 50 1),oW 50 62]))))))) (.seq (rf 2 [oK 63 2 (oV 7),oK 64 2 (oV 11),oN 65 (.oI 1 I9 1 [(0,(.t 64))]),oK 66 1 (.app 1 8 (.t 63) (.t 65)),oK 7 2 (oV 66)]) (sr [oN 68 (lT 100 5),oW 69 11,oN 70 (cl 317 [68,69]),oW 67 70,oN 71 (ex 0 67),oN 72 (ex 1 67),oS (.store 100 (.t 5) (.t 71))] (rg [oW 73 6,oW 74 11,oN 75 (cl 323 [73,74]),oW 6 75])))))))))))) (sr [oW 76 7,oW 4 76] .ret)))))))⟩
structure xA (T:Tb):Prop where
 hT:T 300=some qm
 CZ:yA T
 Gx:Bv T
 uy:zh T
 WA:Iy T
 Rj:Dj T
 Nq:yL T
 Qh:BQ T
def gOf(l:List Lk):Nat→Gd
 |0=>gz
 |k+1=>Cb (Cb (gOf l k) (l.getD k default).a.toNat (l.getD k default).b.toNat true) (l.getD k default).b.toNat (l.getD k default).a.toNat true
theorem agy{a b:St}(h:Fg a b:=by
 (refine Fh [(0,_),(1,_)] (by simp) (by intro p hp;simp only [aH,bP,or_false]at hp;rcases hp with rfl|rfl<;>refine⟨rfl,?_⟩<;>first|exact qR _|exact oz _|simp [l9,V.still]) rfl ?_)<;>(try (refine ev ?_;try with_reducible exact True.intro))<;>(repeat' (first|exact True.intro|omega|exact qM rfl (by simp)|refine⟨?_,?_⟩|exact of_eq_true (rJ _ _ _)|exact lK rfl (by simp;done)|exact lK rfl rfl|(refine lD rfl ?_ rfl;simp [jR];done)|(refine lD rfl ?_ rfl;simp [jR];omega)|(refine rM ?_ ?_;(focus ((refine ev ?_;try with_reducible exact True.intro);done));(intro q hq k s0 l0;simp;done))))):Fg a b:=h
theorem aj7{T:Tb}(h:Iy T){l:List Lk}(hw:IQ Lk.wf l:=by exact qW)(hok:kN l=true:=by assumption):PF T 316 [oP l] (.agg (kU (gOf l l.length))):=by
 have hlen:=hw.1;have hz:kU gz=List.replicate 100 (.bool false):=YF;simp only [List.replicate]at hz;refine jZ nR h.hT ?_;simp only [En,Lz];refine ev ?_;rw [←hz];refine jX (fun _ _=>false) (α:=Nat) (fun i=>⟨lS [.any,.any,.ptr 0 0 0,.ptr 1 0 0,.any,.any,oP l,iv (l.length:Nat),iv (i:Nat)],[some ⟨100,[kU gz]⟩,some ⟨100,[kU (gOf l i)]⟩],0,0,[],[]⟩) (fun i=>i≤l.length) (fun i=>l.length-i) rfl 0 ?_ ?_ ?_
 ·omega
 ·(refine jS ?_;exact EJ)
 intro i hi;refine ev ?_;refine jW (fun hc=>?_) fun hc=>?_<;>(refine vM @hc @mg ?_;try with_reducible exact True.intro)
 ·have hil:i<l.length:=by omega
  obtain⟨n1,n2,n3⟩:=qJ (xY hok hil);have en:gOf l (i+1)=Cb (Cb (gOf l i) (l.getD i default).a.toNat (l.getD i default).b.toNat true) (l.getD i default).b.toNat (l.getD i default).a.toNat true:=rfl;generalize hx:l.getD i default=x at n1 n2 n3 en ⊢;have ha:x.a.toNat<10:=by omega
  have hb:x.b.toNat<10:=by omega
  refine ev ?_;rw [IZ ha hb,IZ hb ha,←en,tK,tK];refine⟨by omega,?_⟩;refine⟨by unfold vH;decide +kernel,?_⟩;refine⟨by omega,?_⟩;refine⟨by unfold vH;decide +kernel,?_⟩;exact⟨i+1,by omega,by omega,by exact agy⟩
 have:i=l.length:=by omega
 subst this;have t1:=Hr (gOf l l.length);have t2:=Hr gz;generalize kU (gOf l l.length)=c at t1 ⊢;generalize kU gz=d at t2 ⊢;refine vM @t1 @t2 ?_;exact jP _
def stp(v i j:Nat)(s:Gd×Nat):Gd×Nat:=if s.1 v i=true∧s.1 v j=true∧s.1 i j=false then(Cb (Cb s.1 i j true) j i true,s.2+1)else s
def cj(v i:Nat)(s:Gd×Nat):Nat→Gd×Nat
 |0=>s
 |n+1=>if i<n then stp v i n (cj v i s n)else s
def ci(v:Nat)(g:Gd):Nat→Gd×Nat
 |0=>(g,0)
 |n+1=>cj v n (ci v g n) 10
def cz(v:Nat)(g:Gd):Nat→Gd
 |0=>g
 |n+1=>Cb (Cb (cz v g n) v n false) n v false
def abb(g:Gd)(v:Nat):Gd:=cz v (ci v g 10).1 10
def arp(g:Gd)(v:Nat):Nat:=(ci v g 10).2
theorem aj8(v i:Nat)(s:Gd×Nat):∀n,(cj v i s n).2≤s.2+n
 |0=>aJ _
 |
  n+1=>by
  have:=aj8 v i s n;unfold cj;split
  ·unfold stp;split<;>(try dsimp only)<;>omega
  omega
theorem aoF(v:Nat)(g:Gd):∀n,(ci v g n).2≤10*n
 |0=>aJ _
 |
  n+1=>by
  have:=aoF v g n;have:=aj8 v n (ci v g n) 10;unfold ci;omega
theorem az2{v i j:Nat}{s:Gd×Nat}(h:i<j):cj v i s (j+1)=stp v i j (cj v i s j):=by
 conv=>lhs;unfold cj
 rw [if_pos h]
theorem az3{v i:Nat}{s:Gd×Nat}:cj v i s (i+1)=s:=by
 conv=>lhs;unfold cj
 rw [if_neg (jV _)]
theorem avF{T:Tb}(h:Dj T){g:Gd}{v:Int}(hv:0≤v∧v≤9:=by exact qW):PF T 317 [.agg (kU g),iv v] (.nJ [.agg (kU (abb g v.toNat)),iv (arp g v.toNat:Nat)]):=by
 have hvn:v.toNat<10:=by omega
 have hz:kU gz=List.replicate 100 (.bool false):=YF;simp only [List.replicate]at hz;obtain⟨cs,hx⟩:∃cs,kU g=.bool (g 0 0)::cs:=⟨_,rfl⟩;have hl:=Ov g;have hn:=tK g;rw [hx]at hl hn ⊢;rw [ak]at hn;have hl2:cs.all V.leaf=true:=by rw [dU,aG]at hl;exact hl.2
 refine jZ nR h.hT ?_;simp only [yG,Lz];refine ev ?_;refine vM @hl2 @hn ?_;rw [hn,←hx,←hz];clear hx hl hn hl2 hz;refine jX (fun _ _=>false) (α:=Nat) (fun i=>⟨lS [.any,iv v,.ptr 0 0 0,.any,.ptr 1 0 0,.any,iv ((ci v.toNat g i).2:Nat),iv (i:Nat)],[some ⟨100,[kU (ci v.toNat g i).1]⟩,some ⟨100,[kU gz]⟩],0,0,[],[]⟩) (fun i=>i≤10) (fun i=>10-i) rfl 0 ?_ ?_ ?_
 ·omega
 ·rw [show ci v.toNat g 0=(g,0)from rfl];(refine jS ?_;exact EJ)
 intro i hi;have hle:=aoF v.toNat g i;generalize hs:ci v.toNat g i=s at hle;refine ev ?_;refine jW (fun hc=>?_) fun hc=>?_<;>(refine ev1 @hc ?_;try with_reducible exact True.intro)
 ·refine jX (fun _ _=>false) (α:=Nat) (fun j=>⟨lS [.any,iv v,.ptr 0 0 0,.any,.ptr 1 0 0,.any,iv ((cj v.toNat i s j).2:Nat),iv (i:Nat),iv (j:Nat)],[some ⟨100,[kU (cj v.toNat i s j).1]⟩,some ⟨100,[kU gz]⟩],0,0,[],[]⟩) (fun j=>i+1≤j∧j≤10) (fun j=>10-j) rfl (i+1) ?_ ?_ ?_
  ·omega
  ·rw [az3];(refine jS ?_;exact EJ)
  intro j hj;have hle2:=aj8 v.toNat i s j;have es:=az2 (v:=v.toNat) (i:=i) (j:=j) (s:=s) (by omega);generalize hp:cj v.toNat i s j=p at hle2 es ⊢;unfold stp at es;refine ev ?_;refine jW (fun hd=>?_) fun hd=>?_<;>(refine ev1 @hd ?_;try with_reducible exact True.intro)
  ·have g1:=@Q5 p.1 v.toNat i hvn (by omega)
   cases h1:p.1 v.toNat i
   ·rw [h1]at g1;rw [if_neg (by rw [h1];simp)]at es;refine ev1 @g1 ?_;rw [←es];exact⟨j+1,by omega,by omega,by exact agy⟩
   rw [h1]at g1;have g2:=@Q5 p.1 v.toNat j hvn (by omega)
   cases h2:p.1 v.toNat j
   ·rw [h2]at g2;rw [if_neg (by rw [h2];simp)]at es;refine vM @g1 @g2 ?_;rw [←es];exact⟨j+1,by omega,by omega,by exact agy⟩
   rw [h2]at g2;have g3:=@Q5 p.1 i j (by omega) (by omega)
   cases h3:p.1 i j
   ·rw [h3]at g3;rw [if_pos ⟨h1,h2,h3⟩]at es;refine Gp @g1 @g2 @g3 ?_;rw [IZ (by omega) (by omega),IZ (by omega) (by omega),tK,tK];refine⟨by omega,by omega,j+1,by omega,by omega,?_⟩;rw [es];exact agy
   rw [h3]at g3;rw [if_neg (by rw [h3];simp)]at es;refine Gp @g1 @g2 @g3 ?_;rw [←es];exact⟨j+1,by omega,by omega,by exact agy⟩
  have:j=10:=by omega
  subst this;have e1:ci v.toNat g (i+1)=p:=by unfold ci;rw [hs];exact hp
  refine⟨i+1,by omega,by omega,?_⟩;rw [e1]
  (refine jS ?_;exact EJ)
 have:i=10:=by omega
 subst this;have e2:arp g v.toNat=s.2:=by unfold arp;rw [hs]
 have e3:abb g v.toNat=cz v.toNat s.1 10:=by unfold abb;rw [hs]
 rw [e2,e3];clear e2 e3;refine jX (fun _ _=>false) (α:=Nat) (fun k=>⟨lS [.any,iv v,.ptr 0 0 0,.any,.ptr 1 0 0,.any,iv (s.2:Nat),.any,.any,iv (k:Nat)],[some ⟨100,[kU (cz v.toNat s.1 k)]⟩,some ⟨100,[kU gz]⟩],0,0,[],[]⟩) (fun k=>k≤10) (fun k=>10-k) rfl 0 ?_ ?_ ?_
 ·omega
 ·(refine jS ?_;exact EJ)
 intro k hk;refine ev ?_;refine jW (fun he=>?_) fun he=>?_<;>(refine ev1 @he ?_;try with_reducible exact True.intro)
 ·rw [IZ (by omega) (by omega),IZ (by omega) (by omega),tK,tK];exact⟨by omega,by omega,k+1,by omega,by omega,by exact agy⟩
 have:k=10:=by omega
 subst this;have t1:=Hr (cz v.toNat s.1 10);have t2:=Hr gz;generalize kU (cz v.toNat s.1 10)=c at t1 ⊢;generalize kU gz=d at t2 ⊢;refine vM @t1 @t2 ?_;exact jP _
def dg(g:Gd)(v:Nat):Nat→Nat
 |0=>0
 |n+1=>dg g v n+if g v n=true then 1 else 0
theorem aoG(g:Gd)(v:Nat):∀n,dg g v n≤n
 |0=>aJ _
 |
  n+1=>by
  have:=aoG g v n;unfold dg;split<;>omega
theorem agz(g:Gd){v:Nat}(hv:v<10):List.take 10 (List.drop (v*10) (kU g))=(List.range 10).map fun j=>.bool (g v j):=by
 apply dX
 intro n;by_cases hn:n<10
 ·rw [iR hn,dF,U6 hv hn,bI,dS hn];rfl
 rw [aW (by simp;omega),aW (by simp;omega)]
theorem aj9{T:Tb}(h:yL T){g:Gd}{v:Int}(hv:0≤v∧v≤9:=by exact qW):PF T 322 [.agg (kU g),iv v] (iv (dg g v.toNat 10:Nat)):=by
 have hvn:v.toNat<10:=by omega
 obtain⟨cs,hx⟩:∃cs,kU g=.bool (g 0 0)::cs:=⟨_,rfl⟩;have hl:=Ov g;have hn:=tK g;have hr:=agz g hvn;rw [hx]at hl hn ⊢;rw [ak]at hn;have hl2:cs.all V.leaf=true:=by rw [dU,aG]at hl;exact hl.2
 refine jZ nR h.hT ?_;simp only [uQ,Lz];refine ev ?_;refine vM @hl2 @hn ?_;rw [hn,←hx,hr];clear hx hl hr hl2;refine⟨by omega,?_⟩;refine jX (fun _ _=>false) (α:=Nat) (fun k=>⟨lS [.any,.any,.any,.any,.any,iv (dg g v.toNat k:Nat),.any,.any,.any,.any,.agg ((List.range 10).map fun j=>.bool (g v.toNat j)),iv (k:Nat)],[some ⟨100,[kU g]⟩],0,0,[],[]⟩) (fun k=>k≤10) (fun k=>10-k) rfl 0 ?_ ?_ ?_
 ·omega
 ·rw [show dg g v.toNat 0=0 from rfl];(refine jS ?_;exact EJ)
 intro k hk;have hle:=aoG g v.toNat k;have es:dg g v.toNat (k+1)=dg g v.toNat k+if g v.toNat k=true then 1 else 0:=rfl
 refine ev ?_;refine jW (fun hc=>?_) fun hc=>?_<;>(refine ev1 @hc ?_;try with_reducible exact True.intro)
 ·have e1:((List.range 10).map fun j=>V.bool (g v.toNat j))[k]? = some (.bool (g v.toNat k)):=by rw [bI,dS (by omega)];rfl
  generalize hR:((List.range 10).map fun j=>V.bool (g v.toNat j))=R at e1 ⊢
  cases hb:g v.toNat k
  ·rw [hb]at e1;rw [hb,if_neg (by simp),gq]at es;refine ev1 @e1 ?_;refine⟨k+1,by omega,by omega,?_⟩;rw [es]
   (refine jS ?_;exact EJ)
  rw [hb]at e1;rw [hb,if_pos rfl]at es;refine ev1 @e1 ?_;refine⟨k+1,by omega,by omega,?_⟩;rw [es]
  (refine jS ?_;exact EJ)
 have:k=10:=by omega
 subst this;exact jP _
theorem ae2{l:List Lk}{o:List Int}(h:ND l o=true):o.length≤10:=by
 have h2:=(of_decide_eq_true h:acN l o).2.1;have:=JE l;omega
theorem akb{l:List Lk}{o:List Int}(h:ND l o=true):kN l=true:=(of_decide_eq_true h:acN l o).1
def rQ:Fn:=⟨2,56,[.tmp 4,.cell 5 3 true,.tmp 6],(.seq (rf 1 [oK 4 1 mN,oN 5 (.alloc vN),oK 6 1 mF]) (.seq (sr [oW 15 0,oW 16 1,oN 17 (cl 221 [15,16]),oN 18 (nt 17)] (cd 18 (sr [oN 19 (.build vN []),oN 4 mN,oS (.store 3 (.t 5) (.t 19)),oN 6 mF] .ret) .skip)) (.seq (rf 1 [oN 20 (.oI 5 Zi 0 []),oK 7 1 (oV 20)]) (.seq (rf 1 [oK 21 1 (.call 39 [(cI 0)]),oN 8 (.alloc vN),⟨none,none,1,.store 3 (.t 8) (.t 21),[]⟩]) (.seq (sr [oW 22 1,oN 23 (ln 22),oN 24 (.oO (cI 0))] (.block 0 (.loop (sr [oN 25 (bt .lss 24 23)] (.seq (cd 25 .skip (.exit 0)) (.seq (.block 1 (sr [oN 26 (ix 1 22 24),oN 27 (lF 1 26),oW 10 27] (.seq (rf 2 [oK 29 2 (oV 0),oK 30 2 (oV 10),oK 31 2 (cl 274 [29,30]),oK 28 2 (oV 31),oK 32 2 (ex 0 28),oK 33 2 (ex 1 28),oK 34 2 (ex 2 28),oK 35 2 (ex 3 28),oN 11 (.alloc Zi),oK 13 1 (.alloc vN),⟨none,none,2,.store 5 (.t 11) (.t 32),[]⟩,oK 12 2 (oV 33),⟨none,none,2,.store 3 (.t 13) (.t 34),[]⟩,oK 14 2 (oV 35)]) (sr [oN 36 (lT 3 8),oN 37 (lT 3 13),oN 38 (cl 131 [36,37]),oS (.store 3 (.t 8) (.t 38))] (.seq (sr [oW 39 14,oN 40 (nt 39),oW 41 40,oG 41 false 42 (lT 3 8),oG 41 false 43 (cl 132 [42]),oG 41 false 44 (nt 43),oN 45 (.pick (.t 41) (.c (.bool true)) (.t 44))] (cd 45 (sr [oN 46 (.build vN []),oN 4 mN,oS (.store 3 (.t 5) (.t 46)),oN 6 mF] .ret) .skip)) (.seq (rf 2 [oK 47 2 (oV 7),oK 48 2 (lT 5 11),oK 49 2 (cl 183 [48]),oN 50 (.oI 5 Zi 1 [(0,(.t 49))]),oK 51 1 (.app 5 88 (.t 47) (.t 50)),oK 7 2 (oV 51)]) (rg [oW 52 12,oW 0 52]))))))) (rg [oN 53 (bc .add 24 1),oW 24 53]))))))) (.seq (rt 0 [oW 54 7,oN 55 (lT 3 8),oA 4 0 (oV 54) [0,0],⟨none,none,0,.store 3 (.t 5) (.t 55),[1,2,0,1,2]⟩,oA 6 0 mT [3,0,1,2,3]]) .ret))))))⟩
structure yM (T:Tb):Prop where
 hT:T 270=some rQ
 kJ:mO T
 kE:lN T
 jQ:l7 T
 JW:vV T
 Vy:Gw T
 Qi:BP T
def Sz(S:List Lk)(o:List Int):Nat→Option (List Lk×List Cd×R)
 |0=>some (S,[],ku 0)
 |
  k+1=>match Sz S o k with
  |none=>none
  |some p=>if Kw p.1 (o.getD k 0)=true then some (TP p.1 (o.getD k 0),p.2.1++[TN p.1 (o.getD k 0)],mG p.2.2 (rnE p.1 (o.getD k 0)))else none
def
  WB (S:List Lk) (o:List Int):Option (List Lk×List Cd×R):=if ND S o=true then
  match Sz S o o.length with
  |none=>none
  |some p=>if p.2.2.ok=true then some p else none
 else none
def abd(S:List Lk)(o:List Int):Bool:=(WB S o).isSome
def eaN(S:List Lk)(o:List Int):List Cd:=((WB S o).map (·.2.1)).getD []
def eaE(S:List Lk)(o:List Int):R:=((WB S o).map (·.2.2)).getD R0
theorem LU{S:List Lk}{o:List Int}(h:WB S o=none):eaN S o=[]∧eaE S o=R0∧abd S o=false:=by
 unfold eaN eaE abd;rw [h];exact⟨rfl,rfl,rfl⟩
theorem Qj{S:List Lk}{o:List Int}{p:List Lk×List Cd×R}(h:WB S o=some p):eaN S o=p.2.1∧eaE S o=p.2.2∧abd S o=true:=by
 unfold eaN eaE abd;rw [h];exact⟨rfl,rfl,rfl⟩
theorem abe{S:List Lk}{o:List Int}{k:Nat}(h:Sz S o k=none):∀n,k≤n→Sz S o n=none
 |0,hn=>by rw [Nat.le_zero.1 hn]at h;exact h
 |
  n+1,hn=>by
  rcases dD k (n+1)with hk|hk
  ·simp only [Sz,abe h n (by omega)]
  rw [show n+1=k by omega];exact h
theorem ae3{S:List Lk}{o:List Int}{k:Nat}{p:List Lk×List Cd×R}(h:Sz S o k=some p)(hb:p.2.2.ok=false):∀n,k≤n→∀q,Sz S o n=some q→q.2.2.ok=false
 |0,hn,q,hq=>by rw [Nat.le_zero.1 hn]at h;rw [h]at hq;cases hq;exact hb
 |
  n+1,hn,q,hq=>by
  rcases dD k (n+1)with hk|hk
  ·simp only [Sz]at hq
   cases hf:Sz S o n with
   |none=>rw [hf]at hq;cases hq
   |
    some r =>
    rw [hf]at hq;dsimp only at hq;split at hq
    ·cases hq
     exact PZ (ae3 h hb n (by omega) r hf)
    cases hq
  rw [show n+1=k by omega]at hq;rw [h]at hq;cases hq;exact hb
theorem abf{S:List Lk}{o:List Int}{k:Nat}(h:Sz S o k=none)(hk:k≤o.length):WB S o=none:=by
 unfold WB;rw [abe h o.length hk];split<;>rfl
theorem adk{S:List Lk}{o:List Int}{k:Nat}{p:List Lk×List Cd×R}(h:Sz S o k=some p)(hb:p.2.2.ok=false)(hk:k≤o.length):WB S o=none:=by
 unfold WB
 cases hf:Sz S o o.length with
 |none=>split<;>rfl
 |some q=>dsimp only;rw [if_neg (c:=q.2.2.ok=true) (by rw [ae3 h hb _ hk q hf];simp)];split<;>rfl
structure CdG (c:Cd):Prop where
 ne:0<c.ps.length
 len:c.ps.length≤10
 cn:c.total.cn∧∀a∈c.ps,a.share.cn∧a.dx.cn∧a.dy.cn
 sz:c.sz≤40000
 wf:c.wf
theorem akc{S:List Lk}{v:Int}(h:Kw S v=true):CdG (TN S v) :=
 ⟨(aj3 h).ne,(aj3 h).len,(aj3 h).cn,(adi S v).1.1,(adi S v).2.1⟩
theorem akd{S:List Lk}{v:Int}(h:Kw S v=true):kN (TP S v)=true:=by
 rw [(Wx h).2.1];exact JK.2.2.2
theorem arq(S:List Lk)(v:Int):(rnE S v).cn:=by
 cases h:Kw S v
 ·rw [(anI h).2.2];exact SI
 rw [(Wx h).2.2];exact JK.2.1
theorem Y6{S:List Lk}{o:List Int}(hok:kN S=true)(hw:IQ Lk.wf S)(hz:Qn Lk.sz S≤1048576):∀{k:Nat} {p:List Lk×List Cd×R},Sz S o k=some p→(kN p.1=true∧IQ Lk.wf p.1∧Qn Lk.sz p.1≤1048576)∧p.2.2.cn∧(∀c∈p.2.1,CdG c)∧p.2.1.length=k
 |0,p,h=>by cases h;exact⟨⟨hok,hw,hz⟩,vS (by decide),by simp,rfl⟩
 |
  k+1,p,h=>by
  simp only [Sz]at h
  cases hf:Sz S o k with
  |none=>rw [hf]at h;cases h
  |
   some r =>
   rw [hf]at h;dsimp only at h;split at h
   ·rename_i hk
    cases h
    obtain⟨_,_,i3,i4⟩:=Y6 hok hw hz hf;have R:=adi r.1 (o.getD k 0);refine⟨⟨akd hk,R.2.2.1,by have:=R.1.2.2.1;dsimp only;omega⟩,uM _ _,fun c hc=>?_,by simp [i4]⟩;rcases aK.1 hc with hc|hc
    ·exact i3 c hc
    rw [aV.1 hc];exact akc hk
   cases h
theorem ars{N:List Cd}(h:∀c∈N,CdG c)(hl:N.length≤10):Qn Cd.sz N≤500000:=by
 have:=U7 (f:=Cd.sz) (k:=40000) fun c hc=>(h c hc).sz;have:N.length*(40000+1)≤10*(40000+1):=dA _ hl;omega
theorem aru{S:List Lk}(o:List Int)(hw:IQ Lk.wf S)(hz:Qn Lk.sz S≤1048576):(Qn Cd.sz (eaN S o)≤500000∧(eaE S o).sz≤1000)∧IQ Cd.wf (eaN S o)∧(eaE S o).wf:=by
 cases hg:WB S o with
 |
  none =>
  obtain⟨e1,e2,_⟩:=LU hg;rw [e1,e2];exact⟨⟨by decide,by decide⟩,⟨by decide,by simp⟩,by decide,by decide⟩
 |
  some p =>
  obtain⟨e1,e2,_⟩:=Qj hg;rw [e1,e2];unfold WB at hg;split at hg
  ·rename_i ho
   cases hf:Sz S o o.length with
   |none=>rw [hf]at hg;cases hg
   |
    some q =>
    rw [hf]at hg;dsimp only at hg;split at hg
    ·cases hg
     obtain⟨_,i2,i3,i4⟩:=Y6 (akb ho) hw hz hf;have:=ae2 ho;exact⟨⟨ars i3 (by omega),GV i2⟩,⟨by omega,fun c hc=>(i3 c hc).wf⟩,rP i2⟩
    cases hg
  cases hg
theorem anK:lU (.nJ [O8 [],kC R0,.bool false]) (.nJ [.jF,.agg [.bool false,.jF,.jF],.bool false]):=by
 simp only [lU,uJ];exact⟨_,rfl,_,_,rfl,.inl ⟨rfl,.inl rfl⟩,_,_,rfl,uX,_,_,rfl,rfl,rfl⟩
theorem TQ(l:Lk)(p q:Pt):enV l p q=mW l*((q.x.v-p.x.v)*(q.x.v-p.x.v)+(q.y.v-p.y.v)*(q.y.v-p.y.v))-2*((q.x.v-p.x.v)*mX l)-2*((q.y.v-p.y.v)*mY l)+mZ l:=by
 unfold enV mW mX mY mZ;grind
theorem avG{P:List Pt}{k l:Lk}(h1:nD k=true)(h2:nD l=true)(hg:QZ k l=true)(ea:k.a=l.a)(eb:k.b=l.b):Qg P (RY k l)+(PV k l).v=Qg P k+Qg P l:=by
 obtain⟨m1,m2,m3,m4⟩:=ajn h1 h2 hg;have e1:(RY k l).a=l.a:=ea;have e2:(RY k l).b=l.b:=eb;unfold Qg;rw [TQ,TQ,TQ,m1,m2,m3,ea,eb,e1,e2]
 grind
theorem arv{P:List Pt}{s:List Lk}{l:Lk}{t:List Lk}{e:R}(h:Ox s l=some (t,e))(h1:kN s=true)(h2:nD l=true):tot (Qg P) t+e.v=tot (Qg P) s+Qg P l:=by
 obtain⟨hv,hp⟩:=qB.1 h1;have hpost:=MR (l:=l) hp;have hpl:=JG l s;unfold Ox at h;dsimp only at h;generalize GY l s=i at *;have hsp:s.take i++s.drop i=s:=fE i s;split at h
 ·cases h
  have e0:(ku 0).v=0:=R.EG (a:=((0:Int):Rat)) (ET (by decide));rw [e0]
  conv=>rhs;rw [←hsp]
  simp only [zO,tot]
  grind
 rename_i hc;split at h
 ·rename_i hg
  cases h
  have hi:i<s.length:=by
   rcases dD i s.length with k|k
   ·exact k
   exact absurd (.inl (by omega)) hc
  have hd:s.drop i=s.getD i default::s.drop (i+1):=by
   rw [bH hi,aj,au hi];rfl
  have hx0:=hpost (s.getD i default) (by rw [hd];simp);have hxl:kM l (s.getD i default)=false:=by
   cases hq:kM l (s.getD i default)
   ·rfl
   exact absurd (.inr hq) hc
  have hsm:=getD_mem (l:=s) hi;generalize s.getD i default=x at *;obtain⟨ea,eb⟩:=JJ hx0 hxl;have m:=avG (P:=P) (hv x hsm) h2 hg ea eb
  conv=>rhs;rw [←hsp,hd]
  simp only [zO,tot]
  grind
 cases h
theorem ake{P:List Pt}{l:List Lk}:∀{k:Nat} {S:List Lk} {e:R},k≤l.length→KE l k=some (S,e)→e.ok=true→tot (Qg P) S+e.v=tot (Qg P) (l.take k)
 |
  0,S,e,_,h,_=>by
  cases h
  have e0:(ku 0).v=0:=R.EG (a:=((0:Int):Rat)) (ET (by decide));rw [e0];simp [tot,Rat.zero_add]
 |
  k+1,S,e,hk,h,he=>by
  simp only [KE]at h
  cases hf:KE l k with
  |none=>rw [hf]at h;cases h
  |
   some p =>
   rw [hf]at h;dsimp only at h;split at h
   ·rename_i ho
    cases h
    obtain⟨o1,o2⟩:=EF he;have m2:=ake (P:=P) (k:=k) (S:=p.1) (e:=p.2) (by omega) hf o1;obtain⟨a1,a2,a3⟩:=ac1 ho;obtain⟨g1,g2,g3⟩:=JH a2 a3;have es:=take_snoc (l:=l) (i:=k) (by omega);generalize l.getD k default=x at *
    cases hr:Ox p.1 x with
    |none=>rw [hr]at g3;rw [g3]at ho;cases ho
    |
     some t =>
     rw [hr]at g1 g2;have g1:adV p.1 x=t.1:=g1;have g2:adE p.1 x=t.2:=g2;have n2:=arv (P:=P) (t:=t.1) (e:=t.2) hr a2 a3;rw [g2]at o2 he ⊢;rw [g1,es];have ev:=R.EG (JM (R.wK o1) (R.wK o2) he);rw [ev,zO,←m2];simp only [tot,Rat.add_zero]
     grind
   cases h
theorem akf{P:List Pt}{l:List Lk}(h:Aw l=true):tot (Qg P) (uH l)+(MS l).v=tot (Qg P) l:=by
 unfold Aw at h
 cases hg:Qo l with
 |none=>rw [hg]at h;cases h
 |
  some p =>
  have e1:uH l=p.1:=by unfold uH;rw [hg];rfl
  have e2:MS l=p.2:=by unfold MS;rw [hg];rfl
  rw [e1,e2];unfold Qo at hg
  cases hf:KE l l.length with
  |none=>rw [hf]at hg;cases hg
  |
   some q =>
   rw [hf]at hg;dsimp only at hg;split at hg
   ·rename_i ho
    cases hg
    have:=ake (P:=P) (S:=p.1) (e:=p.2) (aJ _) hf ho;rw [bM]at this;exact this
   cases hg
theorem akg(v:Int)(x:Lk):Tq v x = !stP v x:=by
 unfold Tq stP;by_cases h1:x.a=v<;>by_cases h2:x.b=v<;>simp [h1,h2]
theorem XM(f:Lk→Rat)(v:Int):∀S:List Lk,tot f S=tot f (S.filter (Tq v))+tot f (S.filter (stP v))
 | []=>(Rat.add_zero 0).symm
 |
  x::S=>by
  have ih:=XM f v S;have hw:=akg v x
  cases h:stP v x
  ·rw [h]at hw;rw [List.filter_cons_of_pos hw,List.filter_cons_of_neg (by rw [h];simp)];simp only [tot];rw [ih,Rat.add_assoc]
  rw [h]at hw;rw [List.filter_cons_of_neg (by rw [hw];simp),List.filter_cons_of_pos h];simp only [tot];rw [ih];grind
theorem abg{r:R}(h:r.ok=true):(negR r).v = -r.v:=by
 have e:=R.wK h;refine R.EG ?_;rw [acw,e];rfl
theorem arw{P:List Pt}{v:Int}{l:Lk}(h:nD l=true)(hs:stP v l=true):Qg P l=enA P (P.getD v.toNat default).x.v (P.getD v.toNat default).y.v (Vt v l):=by
 have hk:=zM h;unfold stP at hs;simp only [dB,decide_eq_true_eq]at hs;unfold Vt Qg enV enA sW qX qY;by_cases ha:l.a=v
 ·rw [if_pos ha];dsimp only;rw [abg hk.2.1,abg hk.2.2.1,ha];have k1:∀x p d:Rat,x-p-d=x + -d-p:=fun x p d=>by grind
  rw [k1,k1]
 have hb:l.b=v:=by omega
 rw [if_neg ha];dsimp only;rw [hb];have k1:∀x p d:Rat,x-p-d = -(p+d-x):=fun x p d=>by grind
 rw [k1,k1]
 grind
theorem Nc{f g:Lk→Rat}:∀{L:List Lk},(∀x∈L,f x=g x)→tot f L=tot g L
 | [],_=>rfl
 |x::L,h=>by simp only [tot];rw [h x (by simp),Nc (L:=L) fun y hy=>h y (by simp [hy])]
theorem akh{P:List Pt}{v:Int}{S:List Lk}(h:kN S=true):tot (Qg P) (S.filter (stP v))=sm (enA P (P.getD v.toNat default).x.v (P.getD v.toNat default).y.v) (nS S v):=by
 rw [I8,←aeZ];refine Nc fun x hx=>?_;obtain⟨h1,h2⟩:=dO.1 hx;exact arw (pW h h1) h2
theorem avH(g:Lk→Rat){P:List Pt}{A:List Pa}{t:Rat}{i:Nat}(h:∀j,i<j→j<A.length→g (Iw (pU A) (A.getD i default) (A.getD j default))=w2 P (A.getD i default) (A.getD j default) / t):∀j,i+1+j≤A.length→tot g (uI A i j)=sm (w2 P (A.getD i default)) ((A.drop (i+1)).take j) / t
 |0,_=>by rw [TL,List.take_zero];simp only [tot,sm];rw [Rat.div_def,Rat.zero_mul]
 |
  j+1,hj=>by
  rw [YT A (by omega),zO,avH g h j (by omega),aeX _ (by simp;omega)];have e:=h (i+1+j) (by omega) (by omega);have e2:(A.drop (i+1)).getD j default=A.getD (i+1+j) default:=by
   rw [aj,dF,aj]
  rw [e2];simp only [tot,Rat.add_zero];rw [e,Rat.div_def,Rat.div_def,Rat.div_def,Rat.add_mul]
theorem aoH(g:Lk→Rat){P:List Pt}{A:List Pa}{t:Rat}(h:∀i j,i<j→j<A.length→g (Iw (pU A) (A.getD i default) (A.getD j default))=w2 P (A.getD i default) (A.getD j default) / t):∀k,k≤A.length→tot g (qU A k)+pr P (A.drop k) / t=pr P A / t
 |0,_=>by rw [bY];simp only [qU,tot,Rat.zero_add]
 |
  k+1,hk=>by
  have ih:=aoH g h k (by omega);rw [adh (by omega)]at ih;show tot g (qU A k++uI A k (A.length-(k+1)))+_=_;rw [zO,avH g (h k) _ (by omega),bg (by simp),←ih];simp only [pr];rw [Rat.div_def,Rat.div_def,Rat.div_def,Rat.add_mul,Rat.add_assoc]
theorem Qk{A:List Pa}{i:Nat}:∀{n:Nat},i<n→∀{j:Nat},i<j→j<A.length→Iw (pU A) (A.getD i default) (A.getD j default)∈qU A n
 |0,h,_,_,_=>absurd h (gG _)
 |
  n+1,h,j,hij,hj=>by
  show _∈qU A n++uI A n (A.length-(n+1));rw [aK];by_cases e:i=n
  ·subst e;refine .inr ?_;unfold uI;refine bG.2 ⟨A.getD j default,?_,rfl⟩;rw [bg (by simp)];refine bD.2 ⟨j-(i+1),?_⟩;rw [dF,show i+1+(j-(i+1))=j by omega,au hj,aj,au hj];rfl
  exact .inl (Qk (by omega) hij hj)
theorem anL{P:List Pt}{t:R}{a b:Pa}(h:nD (Iw t a b)=true):Qg P (Iw t a b)=w2 P a b / t.v:=by
 have hk:=zM h;obtain⟨o1,o2⟩:=P7 (r:=mulR a.share b.share) (s:=t) hk.1;obtain⟨o3,o4⟩:=GN o1;obtain⟨o5,o6⟩:=I4 (r:=a.dx) (s:=b.dx) hk.2.1;obtain⟨o7,o8⟩:=I4 (r:=a.dy) (s:=b.dy) hk.2.2.1;have vw:(xR (mulR a.share b.share) t).v=a.share.v*b.share.v / t.v:=R.EG (YP (E8 (R.wK o3) (R.wK o4) o1) (R.wK o2) hk.1).1;have vx:(vI a.dx b.dx).v=a.dx.v-b.dx.v:=R.EG (LJ (R.wK o5) (R.wK o6) hk.2.1);have vy:(vI a.dy b.dy).v=a.dy.v-b.dy.v:=R.EG (LJ (R.wK o7) (R.wK o8) hk.2.2.1);unfold Qg enV w2 sW qX qY Iw;dsimp only;rw [vw,vx,vy];have k1:∀x y d e:Rat,x-y-(d-e)=x+e-(y+d):=fun x y d e=>by grind
 rw [k1,k1];have k2:∀w t z:Rat,w / t*z=w*z / t:=fun w t z=>by rw [Rat.div_def,Rat.div_def];grind
 rw [k2]
theorem aki{P:List Pt}{A:List Pa}(h:(JR A).all nD=true):tot (Qg P) (JR A)=pr P A / (pU A).v:=by
 have hm:=aoH (Qg P) (P:=P) (A:=A) (t:=(pU A).v) (fun i j hij hj=>anL (aT.1 h _ (Qk (by omega) hij hj))) A.length (aJ _);rw [gJ]at hm;have e:pr P [] / (pU A).v=0:=by show (0:Rat) / _=0;rw [Rat.div_def,Rat.zero_mul]
 rw [e,Rat.add_zero]at hm;exact hm
theorem akj{A:List Pa}:∀k,k≤A.length→(JA A k).ok=true→(JA A k).v=sm sW (A.take k)
 |0,_,_=>by rw [YB,List.take_zero];exact R.EG (a:=((0:Int):Rat)) (ET (by decide))
 |
  k+1,hk,ho=>by
  rw [YC A (by omega)]at ho ⊢;obtain⟨o1,o2⟩:=EF ho;rw [R.EG (JM (R.wK o1) (R.wK o2) ho),akj k (by omega) o1,aeX _ (by omega)];rfl
theorem akk{c:Cd}(h:uw c=true):0<c.total.v:=by
 unfold uw at h;simp only [aG,decide_eq_true_eq]at h;have hs:0<yJ c.total:=by
  first
  |exact h.1.1.2
  |exact h.1.2
  |exact h.2
 have ho:=PE hs;unfold yJ at hs;rw [R.wK ho]at hs;have:0<sgn c.total.v.num:=hs;rw [Rat.lt_iff,show (0:Rat).num=0 from rfl,show (0:Rat).den=1 from rfl,Int.zero_mul,Int.natCast_one,Int.mul_one];exact aex this
def dsq(P:List Pt)(v:Int)(A:List Pa):Rat:=((P.getD v.toNat default).x.v-pX P A)*((P.getD v.toNat default).x.v-pX P A)+((P.getD v.toNat default).y.v-pY P A)*((P.getD v.toNat default).y.v-pY P A)
theorem az5(t z x y a b:Rat)(h:t≠0):z-2*(a*x)-2*(b*y)+(a*a+b*b)*t=(t*z-x*x-y*y) / t+t*((a-x / t)*(a-x / t)+(b-y / t)*(b-y / t)):=by grind
theorem akl{P:List Pt}{A:List Pa}{v:Int}(h:sm sW A≠0):sm (enA P (P.getD v.toNat default).x.v (P.getD v.toNat default).y.v) A=pr P A / sm sW A+sm sW A*dsq P v A:=by
 unfold dsq;rw [ae0,aoE];unfold pX pY;exact az5 _ _ _ _ _ _ h
theorem akm{P:List Pt}{S:List Lk}{v:Int}(h:Kw S v=true):tot (Qg P) S=tot (Qg P) (TP S v)+(rnE S v).v+(TN S v).total.v*dsq P v (nS S v)∧0<(TN S v).total.v∧(TN S v).total.v=sm sW (nS S v):=by
 obtain⟨e1,e2,e3⟩:=Wx h;unfold Kw at h;rw [aG]at h;obtain⟨hB,hj⟩:=h;obtain⟨f1,f2⟩:=aa3 hB;have hB2:=hB;unfold TM at hB2;simp only [aG]at hB2;obtain⟨⟨⟨hS,_⟩,hC⟩,hM⟩:=hB2;have ht:=akk hC;have ev:(pU (nS S v)).v=sm sW (nS S v):=by
  have ho:(pU (nS S v)).ok=true:=by
   cases hq:(pU (nS S v)).ok
   ·exfalso;have:(pU (nS S v)).v=0:=by
     unfold R.v
     cases hz:(pU (nS S v)).q with
     |none=>rfl
     |some a=>rw [uq.2 (by rw [hz];simp)]at hq;cases hq
    have h2:0<(pU (nS S v)).v:=ht;rw [this]at h2;exact absurd h2 Rat.lt_irrefl
   rfl
  have:=akj (A:=nS S v) _ (aJ _) ho;rw [bM]at this;exact this
 have ht':0<(pU (nS S v)).v:=ht;have hne:sm sW (nS S v)≠0:=fun e=>by rw [ev,e]at ht';exact absurd ht' Rat.lt_irrefl
 have et:(TN S v).total=pU (nS S v):=by rw [e1,f1];rfl
 have hJ:=akf (P:=P) hj;rw [e2,e3,et,hJ];refine⟨?_,ht',ev⟩;unfold OM;rw [zO,f2,aki hM,XM _ v S,akh hS,akl hne,ev,Rat.add_assoc]
def Ab(p:Int)(P:Nat):Prop:=p.natAbs≤P
theorem jY{p q:Int}{P Q:Nat}(h:Ab p P)(k:Ab q Q):Ab (p*q) (P*Q):=by
 unfold Ab at *;rw [iE];exact fV h k
theorem vC{p q:Int}{P Q:Nat}(h:Ab p P)(k:Ab q Q):Ab (p+q) (P+Q):=by
 unfold Ab at *;omega
theorem BR{p q:Int}{P Q:Nat}(h:Ab p P)(k:Ab q Q):Ab (p-q) (P+Q):=by
 unfold Ab at *;omega
theorem akn{p:Int}{P:Nat}(h:Ab p P):Ab (-p) P:=by
 unfold Ab at *;omega
theorem Ab.mono{p:Int}{P Q:Nat}(h:Ab p P)(k:P≤Q):Ab p Q:=bV h k
theorem pz{a b:Int}(ha:1≤a)(hb:1≤b):1≤a*b:=by
 have:0<a*b:=Int.mul_pos (by omega) (by omega);omega
theorem avI{a b:Int}(ha:1≤a)(hb:1≤b):1≤a+b:=by omega
structure Fq (r:R) (p n:Int):Prop where
 q:r.q=some ((p:Rat) / (n:Rat))
 n:1≤n
theorem Fq.v{r:R}{p n:Int}(h:Fq r p n):r.v=(p:Rat) / (n:Rat):=R.EG h.q
theorem Fq.ok{r:R}{p n:Int}(h:Fq r p n):r.ok=true:=by rw [uq,h.q];simp
theorem Ql{p n:Int}{P N:Nat}(hn:1≤n)(hp:Ab p P)(hd:Ab n N)(hF:Ft P N=true):norm ((p:Rat) / (n:Rat))=some ((p:Rat) / (n:Rat)) :=
 tH (TK (ant hp hn (by unfold Ab at hd;omega)) (YS hF).1 (YS hF).2)
theorem ri{a b:Int}(e:a=b):(a:Rat)=(b:Rat):=by rw [e]
theorem avJ{p1 n1 p n:Int}(h1:1≤n1)(h:1≤n)(e:p1*n=p*n1):(p1:Rat) / n1=(p:Rat) / n:=by
 have a1:=lJ h1;have a:=lJ h;have e':=ri e;simp only [Rat.intCast_mul]at e'
 grind
theorem adn{p1 n1 p2 n2 p n:Int}(h1:1≤n1)(h2:1≤n2)(h:1≤n)(e:(p1*n2+p2*n1)*n=p*(n1*n2)):(p1:Rat) / n1+(p2:Rat) / n2=(p:Rat) / n:=by
 have a1:=lJ h1;have a2:=lJ h2;have a:=lJ h;have e':=ri e;simp only [Rat.intCast_mul,Rat.intCast_add]at e'
 grind
theorem arx{p1 n1 p2 n2 p n:Int}(h1:1≤n1)(h2:1≤n2)(h:1≤n)(e:(p1*n2-p2*n1)*n=p*(n1*n2)):(p1:Rat) / n1-(p2:Rat) / n2=(p:Rat) / n:=by
 have a1:=lJ h1;have a2:=lJ h2;have a:=lJ h;have e':=ri e;simp only [Rat.intCast_mul,Rat.intCast_sub]at e'
 grind
theorem arz{p1 n1 p2 n2 p n:Int}(h1:1≤n1)(h2:1≤n2)(h:1≤n)(e:p1*p2*n=p*(n1*n2)):(p1:Rat) / n1*((p2:Rat) / n2)=(p:Rat) / n:=by
 have a1:=lJ h1;have a2:=lJ h2;have a:=lJ h;have e':=ri e;simp only [Rat.intCast_mul]at e'
 grind
theorem arA{p1 n1 p2 n2 p n:Int}(h1:1≤n1)(h2:1≤n2)(h3:1≤p2)(h:1≤n)(e:p1*n2*n=p*(n1*p2)):(p1:Rat) / n1 / ((p2:Rat) / n2)=(p:Rat) / n:=by
 have a1:=lJ h1;have a2:=lJ h2;have a3:=lJ h3;have a:=lJ h;have e':=ri e;simp only [Rat.intCast_mul]at e'
 grind
theorem Fq.add{r s:R}{p1 n1 p2 n2:Int}(h1:Fq r p1 n1)(h2:Fq s p2 n2){p n:Int}{P N:Nat}(e:(p1*n2+p2*n1)*n=p*(n1*n2))(hn:1≤n)(hp:Ab p P)(hd:Ab n N)(hF:Ft P N=true):Fq (mG r s) p n:=by
 refine⟨?_,hn⟩;rw [Ig,h1.q,h2.q];show norm (_+_)=_;rw [adn h1.n h2.n hn e];exact Ql hn hp hd hF
theorem Fq.sub{r s:R}{p1 n1 p2 n2:Int}(h1:Fq r p1 n1)(h2:Fq s p2 n2){p n:Int}{P N:Nat}(e:(p1*n2-p2*n1)*n=p*(n1*n2))(hn:1≤n)(hp:Ab p P)(hd:Ab n N)(hF:Ft P N=true):Fq (vI r s) p n:=by
 refine⟨?_,hn⟩;rw [Oh,h1.q,h2.q];show norm (_ + -_)=_;rw [←Rat.sub_eq_add_neg,arx h1.n h2.n hn e];exact Ql hn hp hd hF
theorem Fq.mul{r s:R}{p1 n1 p2 n2:Int}(h1:Fq r p1 n1)(h2:Fq s p2 n2){p n:Int}{P N:Nat}(e:p1*p2*n=p*(n1*n2))(hn:1≤n)(hp:Ab p P)(hd:Ab n N)(hF:Ft P N=true):Fq (mulR r s) p n:=by
 refine⟨?_,hn⟩;rw [Oi,h1.q,h2.q];show norm (_*_)=_;rw [arz h1.n h2.n hn e];exact Ql hn hp hd hF
theorem Fq.div{r s:R}{p1 n1 p2 n2:Int}(h1:Fq r p1 n1)(h2:Fq s p2 n2)(h3:1≤p2){p n:Int}{P N:Nat}(e:p1*n2*n=p*(n1*p2))(hn:1≤n)(hp:Ab p P)(hd:Ab n N)(hF:Ft P N=true):Fq (xR r s) p n:=by
 refine⟨?_,hn⟩;rw [Yn,h1.q,h2.q];show (if _=0 then none else norm (_ / _))=_;have hp2:(p2:Rat) / (n2:Rat)≠0:=fun e0=>by
  have:=Sv h3 h2.n;rw [e0]at this;exact absurd this Rat.lt_irrefl
 rw [if_neg hp2,arA h1.n h2.n h3 hn e];exact Ql hn hp hd hF
theorem Fq.neg{r:R}{p n:Int}(h:Fq r p n):Fq (negR r) (-p) n:=by
 refine⟨?_,h.n⟩;rw [acw,h.q,Rat.intCast_neg,←aj0];rfl
theorem Fq.to{r:R}{p1 n1 p n:Int}(h:Fq r p1 n1)(hn:1≤n)(e:p1*n=p*n1):Fq r p n:=⟨by rw [h.q,avJ h.n hn e],hn⟩
theorem abh:Fq (ku 0) 0 1:=⟨by rw [Rat.div_def,Rat.intCast_zero,Rat.zero_mul];exact ET (n:=0) (by decide),by decide⟩
theorem Fq.pos{r:R}{p n:Int}(h:Fq r p n)(hp:1≤p):0<yJ r:=by
 have hv:=Sv hp h.n;have ho:=uq.1 h.ok;have hq:=h.q;unfold yJ;rw [hq];show 0<sgn _;have:0<((p:Rat) / (n:Rat)).num:=by
  rw [Rat.lt_iff,show (0:Rat).num=0 from rfl,show (0:Rat).den=1 from rfl,Int.zero_mul,Int.natCast_one,Int.mul_one]at hv;exact hv
 unfold sgn;rw [if_neg (by omega),if_neg (by omega)]
 decide
structure Cm (M:Int) (N B:Nat) (x:Lk):Prop where
 ex:∃n p q:Int,(1≤n∧Ab n N)∧(Ab p B∧Ab q B)∧Fq x.w n M∧Fq x.dx p n∧Fq x.dy q n
theorem Cm.mono{M:Int}{N B N' B':Nat}{x:Lk}(h:Cm M N B x)(hN:N≤N')(hB:B≤B'):Cm M N' B' x:=by
 obtain⟨n,p,q,h1,h2,h3⟩:=h.ex;exact⟨n,p,q,⟨h1.1,h1.2.mono hN⟩,⟨h2.1.mono hB,h2.2.mono hB⟩,h3⟩
theorem Cm.up{M T:Int}{N B TB:Nat}{x:Lk}(h:Cm M N B x)(hT:1≤T)(hB:Ab T TB):Cm (M*T) (N*TB) (B*TB) x:=by
 obtain⟨n,p,q,h1,h2,h3,h4,h5⟩:=h.ex;have hn:=pz h1.1 hT;exact⟨n*T,p*T,q*T,⟨hn,jY h1.2 hB⟩,⟨jY h2.1 hB,jY h2.2 hB⟩,h3.to (pz h3.n hT) (by grind),h4.to hn (by grind),h5.to hn (by grind)⟩
theorem Cm.lk{M:Int}{N B:Nat}{x:Lk}(h:Cm M N B x)(hn:0≤x.a∧x.a<x.b∧x.b≤9):nD x=true:=by
 obtain⟨n,p,q,h1,h2,h3,h4,h5⟩:=h.ex;have hp:=h3.pos h1.1;unfold yJ at hp;unfold nD nd;rw [h4.ok,h5.ok,decide_eq_true hn.2.1,decide_eq_true hp];simp;omega
def cmF(M N1 B1 N2 B2:Nat):Bool :=
 Ft (N1+N2) M&&Ft (B1+B2) M&&Ft (B1+B2) (N1+N2)&&Ft (N1*N2) (M*M)&&Ft (N1*N2) (M*(N1+N2))&&Ft (B1*N2+B2*N1) (N1*N2)&&Ft (2*((B1*N2+B2*N1)*(B1*N2+B2*N1))) (N1*N2*(N1*N2))&&Ft (2*((B1*N2+B2*N1)*(B1*N2+B2*N1))) (M*((N1+N2)*(N1*N2)))
theorem ae4{P N P' N':Nat}(h:Ft P N=true)(hP:P'≤P)(hN:N'≤N):Ft P' N'=true:=by
 have:=YS h;unfold Ft;rw [decide_eq_true (dZ hP this.1),decide_eq_true (dZ hN this.2)];rfl
theorem ako{M:Int}{N1 B1 N2 B2 MB:Nat}{x y:Lk}(hx:Cm M N1 B1 x)(hy:Cm M N2 B2 y)(hM:Ab M MB)(hF:cmF MB N1 B1 N2 B2=true) :
  QZ x y=true∧Cm M (N1+N2) (B1+B2) (RY x y)∧∃p q:Int,1≤q∧Ab q ((N1+N2)*(N1*N2))∧Ab p (2*((B1*N2+B2*N1)*(B1*N2+B2*N1)))∧Fq (PV x y) p (M*q):=by
 obtain⟨n,p,q,hn,hp,en,ep,eq⟩:=hx.ex;obtain⟨m,a,b,hm,ha,em,ea,eb⟩:=hy.ex;unfold cmF at hF;simp only [aG]at hF;obtain⟨⟨⟨⟨⟨⟨⟨f1,f2⟩,f3⟩,f4⟩,f5⟩,f6⟩,f7⟩,f8⟩:=hF;have hM1:=en.n;have hnm:=pz hn.1 hm.1;have hs:=avI hn.1 hm.1;have bs:=vC hn.2 hm.2;have Zl:=jY hn.2 hm.2;have eW:Fq (qj x y) (n+m) M:=en.add em (by grind) hM1 bs hM f1;have c1:∀{r s:R} {u v:Int},Fq r u n→Fq s v m→Ab u B1→Ab v B2→Fq (xR (mG (mulR x.w r) (mulR y.w s)) (qj x y)) (u+v) (n+m):=fun {r s u v} hr hs' hu hv =>
  Fq.div (Fq.add (Fq.mul en hr (p:=u) (n:=M) (by grind) hM1 hu hM (ae4 f2 (by omega) (aJ _))) (Fq.mul em hs' (p:=v) (n:=M) (by grind) hM1 hv hM (ae4 f2 (by omega) (aJ _))) (p:=u+v) (n:=M) (by grind) hM1 (vC hu hv) hM f2) eW hs (by grind) hs (vC hu hv) bs f3
 have eX:Fq (F6 x y) (p+a) (n+m):=c1 ep ea hp.1 ha.1;have eY:Fq (KH x y) (q+b) (n+m):=c1 eq eb hp.2 ha.2;have sx:=ep.sub ea (p:=p*m-a*n) (n:=n*m) (by grind) hnm (BR (jY hp.1 hm.2) (jY ha.1 hn.2)) Zl f6;have sy:=eq.sub eb (p:=q*m-b*n) (n:=n*m) (by grind) hnm (BR (jY hp.2 hm.2) (jY ha.2 hn.2)) Zl f6;have bx:=BR (jY hp.1 hm.2) (jY ha.1 hn.2);have by':=BR (jY hp.2 hm.2) (jY ha.2 hn.2);have f7':∀{Z:Nat},Z=(B1*N2+B2*N1)*(B1*N2+B2*N1)→Ft Z (N1*N2*(N1*N2))=true:=fun e=>ae4 f7 (by omega) (aJ _);have hnn:=pz hnm hnm;have qx:=sx.mul sx (p:=(p*m-a*n)*(p*m-a*n)) (n:=n*m*(n*m)) (by grind) hnn (jY bx bx) (jY Zl Zl) (f7' rfl);have qy:=sy.mul sy (p:=(q*m-b*n)*(q*m-b*n)) (n:=n*m*(n*m)) (by grind) hnn (jY by' by') (jY Zl Zl) (f7' rfl);have bS:Ab ((p*m-a*n)*(p*m-a*n)+(q*m-b*n)*(q*m-b*n)) (2*((B1*N2+B2*N1)*(B1*N2+B2*N1))):=(vC (jY bx bx) (jY by' by')).mono (by omega);have sq:=qx.add qy (p:=(p*m-a*n)*(p*m-a*n)+(q*m-b*n)*(q*m-b*n)) (n:=n*m*(n*m)) (by grind) hnn bS (jY Zl Zl) f7;have wm:=en.mul em (p:=n*m) (n:=M*M) (by grind) (pz hM1 hM1) Zl (jY hM hM) f4;have hMs:=pz hM1 hs;have wd:=wm.div eW hs (p:=n*m) (n:=M*(n+m)) (by grind) hMs Zl (jY hM bs) f5;have hq:=pz hs hnm;have eE:Fq (PV x y) _ _:=wd.mul sq (p:=(p*m-a*n)*(p*m-a*n)+(q*m-b*n)*(q*m-b*n)) (n:=M*((n+m)*(n*m))) (by grind) (pz hM1 hq) bS (jY hM (jY bs Zl)) f8;refine⟨by unfold QZ;rw [eW.ok,eX.ok,eY.ok,eE.ok];rfl,⟨n+m,p+a,q+b,⟨hs,bs⟩,⟨vC hp.1 ha.1,vC hp.2 ha.2⟩,eW,eX,eY⟩,_,_,hq,jY bs Zl,bS,eE⟩
def jbF(M P N K:Nat):Bool:=(List.range (K+1)).all fun k=>Ft (hb P N k).1 (M*(hb P N k).2)
theorem akp{M P N K k:Nat}(h:jbF M P N K=true)(hk:k≤K):Ft (hb P N k).1 (M*(hb P N k).2)=true:=by
 unfold jbF at h;exact aT.1 h k (fP.2 (by omega))
theorem Y7{P N:Nat}(hN:1≤N):∀k,(hb P N k).1≤(hb P N (k+1)).1∧(hb P N k).2≤(hb P N (k+1)).2:=fun k=>by
 have h1:(hb P N (k+1)).1=(hb P N k).1*N+P*(hb P N k).2:=rfl;have h2:(hb P N (k+1)).2=(hb P N k).2*N:=rfl;have h3:(hb P N k).1*1≤(hb P N k).1*N:=Nat.mul_le_mul_left _ hN;have h4:(hb P N k).2*1≤(hb P N k).2*N:=Nat.mul_le_mul_left _ hN;omega
structure JI (L:List Lk) (r:Nat) (M:Int) (N1 B1 N2 B2:Nat) (k:Nat) (S:List Lk) (e:R):Prop where
 pr:∀y∈S,∃j,j<k∧y.a=(L.getD j default).a∧y.b=(L.getD j default).b
 cm:∀y∈S,Cm M N1 B1 y∨(Cm M (N1+N2) (B1+B2) y∧∃j,r≤j∧j<k∧y.a=(L.getD j default).a∧y.b=(L.getD j default).b)
 e:∃p q:Int,1≤q∧Ab p (hb (2*((B1*N2+B2*N1)*(B1*N2+B2*N1))) ((N1+N2)*(N1*N2)) (k-r)).1∧Ab q (hb (2*((B1*N2+B2*N1)*(B1*N2+B2*N1))) ((N1+N2)*(N1*N2)) (k-r)).2∧Fq e p (M*q)
theorem aoI{L:List Lk}{r:Nat}{M:Int}{N1 B1 N2 B2 MB K:Nat}(hM:Ab M MB)(hM1:1≤M)(hr:r≤L.length)(hl:L.length-r≤K)(h1:∀j,j<r→Cm M N1 B1 (L.getD j default))(h2:∀j,r≤j→j<L.length→Cm M N2 B2 (L.getD j default))
  (hn:∀x∈L,0≤x.a∧x.a<x.b∧x.b≤9) (hd:∀i j,i<j→j<L.length→(r≤i∨j<r)→¬((L.getD i default).a=(L.getD j default).a∧(L.getD i default).b=(L.getD j default).b))
  (hN:1≤N1∧1≤N2) (hF:r<L.length→cmF MB N1 B1 N2 B2=true) (hJ:jbF MB (2*((B1*N2+B2*N1)*(B1*N2+B2*N1))) ((N1+N2)*(N1*N2)) K=true) :
  ∀k,k≤L.length→∃S e,KE L k=some (S,e)∧JI L r M N1 B1 N2 B2 k S e
 |0,_=>⟨[],ku 0,rfl,by simp,by simp,0,1,by decide,by simp [Ab],by rw [Nat.zero_sub];exact aJ 1,abh.to (by omega) (by omega)⟩
 |
  k+1,hk=>by
  obtain⟨S,e,hf,hJI⟩:=aoI hM hM1 hr hl h1 h2 hn hd hN hF hJ k (by omega);have i1:=(Tz hf).1;dsimp only at i1;have hmem:=getD_mem (l:=L) (i:=k) (by omega);have hnx:=hn _ hmem;generalize hxe:L.getD k default=x at hmem hnx;have hxo:nD x=true:=by
   rcases dD k r with hkr|hkr
   ·have:=h1 k hkr;rw [hxe]at this;exact this.lk hnx
   have:=h2 k hkr (by omega);rw [hxe]at this;exact this.lk hnx
  have hmg:∀y∈S,y.a=x.a→y.b=x.b→r≤k∧Cm M N1 B1 y∧Cm M N2 B2 x:=fun y hy ea eb=>by
   obtain⟨j,hj,ja,jb⟩:=hJI.pr y hy;have hkr:r≤k:=by
    rcases dD k r with hkr|hkr
    ·exact absurd ⟨by rw [hxe];omega,by rw [hxe];omega⟩ (hd j k hj (by omega) (.inr hkr))
    exact hkr
   have:=h2 k hkr (by omega);rw [hxe]at this;refine⟨hkr,?_,this⟩;rcases hJI.cm y hy with h|⟨_,j',hj1,hj2,ja',jb'⟩
   ·exact h
   exact absurd ⟨by rw [hxe];omega,by rw [hxe];omega⟩ (hd j' k hj2 (by omega) (.inl hj1))
  have hmm:=fun y hy ea eb=>ako (hmg y hy ea eb).2.1 (hmg y hy ea eb).2.2 hM (hF (by have:=(hmg y hy ea eb).1;omega));obtain⟨t,e',hr',hc⟩:=aeC i1 hxo fun y hy ea eb=>(hmm y hy ea eb).1;obtain⟨g1,g2,g3⟩:=JH i1 hxo;rw [hr']at g1 g2 g3;have g1:adV S x=t:=g1;have g2:adE S x=e':=g2;have g3:SL S x=true:=g3;refine⟨t,mG e e',by simp only [KE,hf,hxe,g3,if_true,g1,g2],?_⟩;obtain⟨p,q,hq1,hp,hq,he⟩:=hJI.e;have hNN:1≤(N1+N2)*(N1*N2):=by
   have h3:0<(N1+N2)*(N1*N2):=Nat.mul_pos (by omega) (Nat.mul_pos (by omega) (by omega));omega
  rcases hc with ⟨h,rfl⟩|⟨y,hy,ea,eb,h,rfl⟩
  ·refine⟨fun z hz=>?_,fun z hz=>?_,p,q,hq1,?_,?_,?_⟩
   ·rcases h z hz with hz|rfl
    ·obtain⟨j,hj,ja⟩:=hJI.pr z hz;exact⟨j,by omega,ja⟩
    exact⟨k,by omega,by rw [hxe],by rw [hxe]⟩
   ·rcases h z hz with hz|rfl
    ·rcases hJI.cm z hz with h|⟨h,j,hj1,hj2,hj3⟩
     ·exact .inl h
     exact .inr ⟨h,j,hj1,by omega,hj3⟩
    rcases dD k r with hkr|hkr
    ·have:=h1 k hkr;rw [hxe]at this;exact .inl this
    have:=h2 k hkr (by omega);rw [hxe]at this;exact .inr ⟨this.mono (by omega) (by omega),k,hkr,by omega,by rw [hxe],by rw [hxe]⟩
   ·rcases dD k r with hkr|hkr
    ·rw [show k+1-r=k-r by omega];exact hp
    rw [show k+1-r=k-r+1 by omega];exact hp.mono (Y7 hNN _).1
   ·rcases dD k r with hkr|hkr
    ·rw [show k+1-r=k-r by omega];exact hq
    rw [show k+1-r=k-r+1 by omega];exact hq.mono (Y7 hNN _).2
   exact he.add abh (by grind) (pz hM1 hq1) hp (jY hM hq) (akp hJ (by omega))
  obtain⟨hkr,cy,cx⟩:=hmg y hy ea eb;obtain⟨_,cm,p2,q2,hq2,bq2,bp2,hE⟩:=hmm y hy ea eb;have hma:(RY y x).a=y.a:=rfl;have hmb:(RY y x).b=y.b:=rfl;refine⟨fun z hz=>?_,fun z hz=>?_,p*q2+p2*q,q*q2,pz hq1 hq2,?_,?_,?_⟩
  ·rcases h z hz with hz|rfl
   ·obtain⟨j,hj,ja⟩:=hJI.pr z hz;exact⟨j,by omega,ja⟩
   exact⟨k,by omega,by rw [hxe,hma,ea],by rw [hxe,hmb,eb]⟩
  ·rcases h z hz with hz|rfl
   ·rcases hJI.cm z hz with h|⟨h,j,hj1,hj2,hj3⟩
    ·exact .inl h
    exact .inr ⟨h,j,hj1,by omega,hj3⟩
   exact .inr ⟨cm,k,hkr,by omega,by rw [hxe,hma,ea],by rw [hxe,hmb,eb]⟩
  ·rw [show k+1-r=k-r+1 by omega];exact vC (jY hp bq2) (jY bp2 hq)
  ·rw [show k+1-r=k-r+1 by omega];exact jY hq bq2
  have hF2:=akp (k:=k-r+1) hJ (by omega);exact he.add hE (by grind) (pz hM1 (pz hq1 hq2)) (vC (jY hp bq2) (jY bp2 hq)) (jY hM (jY hq bq2)) hF2
def wN(M:Int)(a:Pa):Int:=(a.share.v*(M:Rat)).num
def xN(M:Int)(a:Pa):Int:=(a.share.v*(M:Rat)*a.dx.v).num
def yN(M:Int)(a:Pa):Int:=(a.share.v*(M:Rat)*a.dy.v).num
structure Am (M:Int) (N B:Nat) (a:Pa):Prop where
 n:1≤wN M a∧Ab (wN M a) N
 p:Ab (xN M a) B∧Ab (yN M a) B
 w:Fq a.share (wN M a) M
 x:Fq a.dx (xN M a) (wN M a)
 y:Fq a.dy (yN M a) (wN M a)
theorem aoJ{M:Int}{N B:Nat}{a:Pa}{n p q:Int}(h1:1≤n∧Ab n N)(h2:Ab p B∧Ab q B)(hw:Fq a.share n M)(hx:Fq a.dx p n)(hy:Fq a.dy q n):Am M N B a:=by
 have hM:=lJ hw.n;have hn:=lJ h1.1;have k:∀n m:Rat,m≠0→n / m*m=n:=fun n m h=>by grind
 have k2:∀p n:Rat,n≠0→n*(p / n)=p:=fun n m h=>by grind
 have e1:wN M a=n:=by unfold wN;rw [hw.v,k _ _ hM,Rat.num_intCast]
 have e2:xN M a=p:=by unfold xN;rw [hw.v,k _ _ hM,hx.v,k2 _ _ hn,Rat.num_intCast]
 have e3:yN M a=q:=by unfold yN;rw [hw.v,k _ _ hM,hy.v,k2 _ _ hn,Rat.num_intCast]
 exact⟨by rw [e1];exact h1,by rw [e2,e3];exact h2,by rw [e1];exact hw,by rw [e1,e2];exact hx,by rw [e1,e3];exact hy⟩
theorem avK{M:Int}{N B:Nat}{l:Lk}(h:Cm M N B l)(v:Int):Am M N B (Vt v l):=by
 obtain⟨n,p,q,h1,h2,h3,h4,h5⟩:=h.ex;unfold Vt;split
 ·exact aoJ h1 ⟨akn h2.1,akn h2.2⟩ h3 h4.neg h5.neg
 exact aoJ h1 h2 h3 h4 h5
def LV(f:Pa→Int):List Pa→Int
 | []=>0
 |a::l=>f a+LV f l
theorem ae5(f:Pa→Int):∀A B:List Pa,LV f (A++B)=LV f A+LV f B
 | [],B=>by simp only [dI,LV,Int.zero_add]
 |a::A,B=>by simp only [bK,LV,ae5 f A B,Int.add_assoc]
theorem Vz(f:Pa→Int){l:List Pa}{k:Nat}(h:k<l.length):LV f (l.take (k+1))=LV f (l.take k)+f (l.getD k default):=by
 rw [take_snoc h,ae5];show _+(f _+0)=_;rw [Int.add_zero]
theorem akq{f:Pa→Int}{N:Nat}:∀{A:List Pa},(∀a∈A,Ab (f a) N)→Ab (LV f A) (A.length*N)
 | [],_=>by simp [LV,Ab]
 |
  a::A,h=>by
  have:=vC (h a (by simp)) (akq (A:=A) fun x hx=>h x (by simp [hx]));simp only [LV,ak];exact this.mono (by rw [fZ];omega)
theorem Hw{f:Pa→Int}{N m:Nat}{A:List Pa}(h:∀a∈A,Ab (f a) N)(hm:A.length≤m)(k:Nat):Ab (LV f (A.take k)) (m*N) :=
 (akq fun a ha=>h a (bZ ha)).mono (dA _ (by simp;omega))
theorem ae6{f:Pa→Int}:∀{A:List Pa},(∀a∈A,1≤f a)→(A.length:Int)≤LV f A
 | [],_=>by simp [LV]
 |
  a::A,h=>by
  have:=ae6 (A:=A) fun x hx=>h x (by simp [hx]);have:=h a (by simp);simp only [LV,ak];omega
theorem LX{f:Pa→Rat}{g:Pa→Int}{M:Int}:∀{A:List Pa},(∀a∈A,f a=(g a:Rat) / (M:Rat))→sm f A=(LV g A:Rat) / (M:Rat)
 | [],_=>by simp only [sm,LV];rw [Rat.intCast_zero,Rat.div_def,Rat.zero_mul]
 |
  a::A,h=>by
  simp only [sm,LV];rw [h a (by simp),LX (A:=A) fun x hx=>h x (by simp [hx]),Rat.intCast_add,Rat.div_def,Rat.div_def,Rat.div_def,Rat.add_mul]
structure Ar (v D:Int) (N B m:Nat) (A:List Pa):Prop where
 am:∀a∈A,Am D N B a
 nd:∀a∈A,0≤a.node∧a.node≤9∧a.node≠v
 asc:A.Pairwise fun a b=>a.node<b.node
 len:1≤A.length∧A.length≤m
 v:1≤v∧v≤9
 d:1≤D
def SA(D:Int)(A:List Pa):Int:=LV (wN D) A
def arF(DB N B m:Nat):Bool:=Ft (m*N) DB&&Ft N (m*N)&&Ft (m*N) (m*N)&&Ft (N*N) (DB*DB)&&Ft (N*N) (DB*(m*N))&&Ft (B*N+B*N) (N*N)
theorem Ar.t{v D:Int}{N B m:Nat}{A:List Pa}(h:Ar v D N B m A):1≤SA D A∧Ab (SA D A) (m*N):=by
 have h1:=ae6 (f:=wN D) (A:=A) fun a ha=>(h.am a ha).n.1;have h2:=h.len;have h3:=Hw (f:=wN D) (m:=m) (A:=A) (fun a ha=>(h.am a ha).n.2) h.len.2 A.length;rw [bM]at h3;unfold SA;exact⟨by omega,h3⟩
theorem akr{v D:Int}{N B m DB:Nat}{A:List Pa}(h:Ar v D N B m A)(hD:Ab D DB)(hF:Ft (m*N) DB=true):∀k,k≤A.length→Fq (JA A k) (LV (wN D) (A.take k)) D
 |0,_=>by rw [YB,List.take_zero];exact abh.to h.d (by simp [LV])
 |
  k+1,hk=>by
  have ih:=akr h hD hF k (by omega);have hm:=h.am _ (getD_mem (l:=A) (i:=k) (by omega));have hb:=Hw (f:=wN D) (m:=m) (A:=A) (fun a ha=>(h.am a ha).n.2) h.len.2 (k+1);rw [YC A (by omega)];rw [Vz _ (by omega)]at hb ⊢;exact ih.add hm.w (by grind) h.d hb hD hF
theorem ado{v D:Int}{N B m DB:Nat}{A:List Pa}(h:Ar v D N B m A)(hD:Ab D DB)(hF:Ft (m*N) DB=true):Fq (pU A) (SA D A) D:=by
 have:=akr h hD hF A.length (aJ _);rw [bM]at this;exact this
theorem VA{v D:Int}{N B m DB:Nat}{A:List Pa}(h:Ar v D N B m A)(hD:Ab D DB)(hF:arF DB N B m=true){a:Pa}(ha:a∈A):Fq (xR a.share (pU A)) (wN D a) (SA D A):=by
 unfold arF at hF;simp only [aG]at hF;obtain⟨⟨⟨⟨⟨f1,f2⟩,_⟩,_⟩,_⟩,_⟩:=hF;have j:=h.am a ha;have ht:=h.t;exact j.w.div (ado h hD f1) ht.1 (by grind) ht.1 j.n.2 ht.2 f2
theorem aks{v D:Int}{N B m DB:Nat}{A:List Pa}(h:Ar v D N B m A)(hD:Ab D DB)(hF:arF DB N B m=true):uw (nN v A)=true:=by
 have hF':=hF;unfold arF at hF;simp only [aG]at hF;obtain⟨⟨⟨⟨⟨f1,f2⟩,f3⟩,_⟩,_⟩,_⟩:=hF;have hT:=ado h hD f1;have ht:=h.t;have hl:=h.len;have hv:=h.v;have hpl:(nN v A).ps.length=A.length:=aX ..;have hpa:amX (nN v A):=fun i hi=>by
  rw [hpl]at hi;have hm:=getD_mem (l:=A) (i:=i) hi;have j:=h.am _ hm;have hp:=(VA h hD hF' hm).pos j.n.1;unfold KD;rw [BN hi];have avL:(decide (i=0)||decide (((nN v A).ps.getD (i-1) default).node<(G5 (pU A) (A.getD i default)).node))=true:=by
   rcases iH i with h0|h0
   ·rw [decide_eq_true h0];rfl
   rw [BN (by omega)];have:=fU.1 h.asc (i-1) i (by omega) hi (by omega);rw [dB];refine .inr (decide_eq_true ?_);show (A.getD (i-1) default).node<(A.getD i default).node;rw [aj,au (by omega),aj,au hi];exact this
  rw [avL];have nd:=h.nd _ hm;show (inB (A.getD i default).node 0 9 && !decide ((A.getD i default).node=v)&&true&&decide (0<yJ (xR (A.getD i default).share (pU A)))&&(A.getD i default).dx.ok&&(A.getD i default).dy.ok)=true;rw [decide_eq_true hp,j.x.ok,j.y.ok,decide_eq_false nd.2.2];unfold inB;rw [decide_eq_true nd.1,decide_eq_true nd.2.1];rfl
 rw [aiF hpa];have h1:inB (nN v A).node 1 9=true:=by
  show inB v 1 9=true;unfold inB;rw [decide_eq_true hv.1,decide_eq_true hv.2];rfl
 have h2:0<yJ (nN v A).total:=hT.pos ht.1;have h3:(nN v A).ps.isEmpty=false:=by
  cases he:(nN v A).ps with
  |nil=>rw [he]at hpl;simp at hpl;omega
  |cons _ _=>rfl
 have h4:JA (nN v A).ps (nN v A).ps.length=ku 1:=by
  have key:∀k,k≤A.length→Fq (JA (nN v A).ps k) (LV (wN D) (A.take k)) (SA D A):=fun k=>by
   induction k with
   |zero=>intro _;rw [YB,List.take_zero];exact abh.to ht.1 (by simp [LV])
   |
    succ k ih =>
    intro hk;have hb:=Hw (f:=wN D) (m:=m) (A:=A) (fun a ha=>(h.am a ha).n.2) h.len.2 (k+1);rw [YC _ (by omega),BN (by omega)];rw [Vz _ (by omega)]at hb ⊢;exact(ih (by omega)).add (VA h hD hF' (getD_mem (by omega))) (by grind) ht.1 hb ht.2 f3
  have hk:=key A.length (aJ _);rw [bM]at hk;rw [hpl];have h1:=hk.to (p:=1) (n:=1) (by decide) (by unfold SA;omega);have e:(ku 1).q=some (((1:Int):Rat) / ((1:Int):Rat)):=by
   rw [show ((1:Int):Rat) / ((1:Int):Rat)=((1:Int):Rat) by rw [Rat.intCast_one];exact agw 1 (by decide)];exact ET (n:=1) (by decide)
  rw [←PG (nN v A).ps A.length,←vS (n:=1) (by decide),h1.q,e]
 rw [h1,decide_eq_true h2,h3,decide_eq_true h4];rfl
theorem avM{v D:Int}{N B m DB:Nat}{A:List Pa}(h:Ar v D N B m A)(hD:Ab D DB)(hF:arF DB N B m=true){a b:Pa}(ha:a∈A)(hb:b∈A):Cm (D*SA D A) (N*N) (B*N+B*N) (Iw (pU A) a b):=by
 unfold arF at hF;simp only [aG]at hF;obtain⟨⟨⟨⟨⟨f1,f2⟩,f3⟩,f4⟩,f5⟩,f6⟩:=hF;have hT:=ado h hD f1;have ht:=h.t;have hd:=h.d;have ja:=h.am a ha;have jb:=h.am b hb;have hnm:=pz ja.n.1 jb.n.1;have Zl:=jY ja.n.2 jb.n.2;have hw:=(ja.w.mul jb.w (p:=wN D a*wN D b) (n:=D*D) (by grind) (pz hd hd) Zl (jY hD hD) f4).div hT ht.1 (p:=wN D a*wN D b) (n:=D*SA D A) (by grind) (pz hd ht.1) Zl (jY hD ht.2) f5;have bx:=BR (jY ja.p.1 jb.n.2) (jY jb.p.1 ja.n.2);have by':=BR (jY ja.p.2 jb.n.2) (jY jb.p.2 ja.n.2);have hx:=ja.x.sub jb.x (p:=xN D a*wN D b-xN D b*wN D a) (n:=wN D a*wN D b) (by grind) hnm bx Zl f6;have hy:=ja.y.sub jb.y (p:=yN D a*wN D b-yN D b*wN D a) (n:=wN D a*wN D b) (by grind) hnm by' Zl f6;exact⟨_,_,_,⟨hnm,Zl⟩,⟨bx,by'⟩,hw,hx,hy⟩
theorem Ar.avN{v D:Int}{N B m:Nat}{A:List Pa}(h:Ar v D N B m A):agr A:=fun i j hij hj=>by
 have:=fU.1 h.asc i j (by omega) hj hij;rw [aj,au (by omega),aj,au hj];exact this
theorem akt{v D:Int}{N B m DB:Nat}{A:List Pa}(h:Ar v D N B m A)(hD:Ab D DB)(hF:arF DB N B m=true):∀x∈JR A,Cm (D*SA D A) (N*N) (B*N+B*N) x∧0≤x.a∧x.a<x.b∧x.b≤9:=fun x hx=>by
 obtain⟨i,k,_,h2,h3,rfl⟩:=GR hx;have m1:=getD_mem (l:=A) (i:=i) (by omega);have m2:=getD_mem (l:=A) (i:=k) h3;have n1:=h.nd _ m1;have n2:=h.nd _ m2;exact⟨avM h hD hF m1 m2,n1.1,h.avN i k h2 h3,n2.2.1⟩
theorem avO{S:List Lk}{v D:Int}{N B m DB:Nat}(hS:kN S=true)(h:Ar v D N B m (nS S v))(hD:Ab D DB)(hF:arF DB N B m=true):TM S v=true:=by
 have hv:=h.v;unfold TM;rw [hS,aks h hD hF,aT.2 fun x hx=>(akt h hD hF x hx).1.lk (akt h hD hF x hx).2];unfold inB;rw [decide_eq_true hv.1,decide_eq_true hv.2];rfl
theorem avP{S:List Lk}{v D:Int}{N B m:Nat}(hS:kN S=true)(hC:∀x∈S,Cm D N B x)(hD:1≤D)(hv:1≤v∧v≤9)(hl:1≤(nS S v).length∧(nS S v).length≤m):Ar v D N B m (nS S v):=by
 refine⟨?_,?_,?_,hl,hv,hD⟩
 ·rw [I8];intro a ha;obtain⟨l,hl,rfl⟩:=bG.1 ha;exact avK (hC l (dO.1 hl).1) v
 ·rw [I8];intro a ha;obtain⟨l,hl,rfl⟩:=bG.1 ha;obtain⟨h1,h2⟩:=dO.1 hl;have n:=qJ (pW hS h1);unfold stP at h2;simp only [dB,decide_eq_true_eq]at h2;unfold Vt;split<;>(dsimp only;omega)
 have e:=(aeL hS v).symm;have hn:Asc (nbI S v S.length):=by rw [←aot hS v];exact Tm _ _ .nil
 rw [e,fQ];refine List.Pairwise.imp ?_ hn;intro a b hab;unfold Vl;split<;>split<;>exact hab
def mK(m:Nat):Nat:=m*(m-1) / 2
theorem aku{A:List Pa}{m:Nat}(h:A.length≤m)(hm:m≤5):(JR A).length≤mK m:=by
 have key:∀k,k≤A.length→(qU A k).length=(List.range k).foldl (fun s i=>s+(A.length-(i+1))) 0:=fun k=>by
  induction k with
  |zero=>intro _;rfl
  |
   succ k ih =>
   intro hk;rw [jd,List.foldl_append,fJ,iD,←ih (by omega)];show (qU A k++uI A k (A.length-(k+1))).length=_;rw [aO]
   congr 1
   unfold uI;simp
 unfold JR;rw [key _ (aJ _)];generalize A.length=n at h;have k2:∀m,m<6→∀n,n<m+1→(List.range n).foldl (fun s i=>s+(n-(i+1))) 0≤mK m:=by decide
 exact k2 m (by omega) n (by omega)
def n1(N m:Nat):Nat:=N*(m*N)+N*N
def b1(N B m:Nat):Nat:=B*(m*N)+(B*N+B*N)
def stF(DB N B m:Nat):Bool:=arF DB N B m&&(decide (m≤1)||cmF (DB*(m*N)) (N*(m*N)) (B*(m*N)) (N*N) (B*N+B*N)) &&
 jbF (DB*(m*N)) (2*((B*(m*N)*(N*N)+(B*N+B*N)*(N*(m*N)))*(B*(m*N)*(N*N)+(B*N+B*N)*(N*(m*N))))) ((N*(m*N)+N*N)*(N*(m*N)*(N*N))) (mK m)
theorem Qm{α:Type}{A B:List α}{d:α}{j:Nat}:(A++B).getD j d=if j<A.length then A.getD j d else B.getD (j-A.length) d:=by
 rw [aj];split
 ·rename_i h;rw [bf h,aj]
 rename_i h;rw [bJ (by omega),aj]
theorem aoK{S:List Lk}(h:S.Pairwise fun k l=>kM k l=true){i j:Nat}(hij:i<j)(hj:j<S.length):¬((S.getD i default).a=(S.getD j default).a∧(S.getD i default).b=(S.getD j default).b):=by
 have:=fU.1 h i j (by omega) hj hij;rw [aj,au (by omega),aj,au hj];rw [uD]at this;show ¬(S[i].a=S[j].a∧S[i].b=S[j].b);omega
theorem avQ{S:List Lk}{v D:Int}{N B m DB:Nat}(hS:kN S=true)(hC:∀x∈S,Cm D N B x)(hD1:1≤D)(hD:Ab D DB)(hv:1≤v∧v≤9)(hl:1≤(nS S v).length∧(nS S v).length≤m)(hm:m≤5)(hN:1≤N)(hF:stF DB N B m=true) :
  Ar v D N B m (nS S v)∧Kw S v=true∧∀x∈TP S v,Cm (D*SA D (nS S v)) (n1 N m) (b1 N B m) x:=by
 have hA:=avP (B:=B) (N:=N) hS hC hD1 hv hl;unfold stF at hF;simp only [aG,dB,decide_eq_true_eq]at hF;obtain⟨⟨f1,f2⟩,f3⟩:=hF;have hB:=avO hS hA hD f1;obtain⟨eC,eM⟩:=aa3 hB;have ht:=hA.t;have hms:=akt hA hD f1;have hml:=aku hl.2 hm;have hL:OM S v=S.filter (Tq v)++JR (nS S v):=by unfold OM;rw [eM]
 have hpw:=(qB.1 hS).2.filter (Tq v);have hmw:=XK hA.avN _ (aJ (nS S v).length);have hr:∀x∈S.filter (Tq v),x∈S:=fun x hx=>(dO.1 hx).1;generalize S.filter (Tq v)=W at hL hpw hr;have hm1:1≤m:=by omega
 have hT1:1≤m*N:=Nat.mul_pos hm1 hN;have hNN:1≤N*N:=Nat.mul_pos hN hN;have hlen:(OM S v).length=W.length+(JR (nS S v)).length:=by rw [hL,aO]
 obtain⟨S',e,hf,hj⟩:=aoI (L:=OM S v) (r:=W.length) (M:=D*SA D (nS S v)) (MB:=DB*(m*N)) (K:=mK m) (N1:=N*(m*N)) (B1:=B*(m*N)) (N2:=N*N) (B2:=B*N+B*N)
  (jY hD ht.2) (pz hD1 ht.1) (by omega) (by omega)
  (fun j hj=>by
   rw [hL,Qm,if_pos hj];exact(hC _ (hr _ (getD_mem hj))).up ht.1 ht.2)
  (fun j hj hj2=>by
   rw [hL,Qm,if_neg (by omega)];exact(hms _ (getD_mem (by omega))).1)
  (fun x hx=>by
   rw [hL]at hx;rcases aK.1 hx with hx|hx
   ·exact qJ (pW hS (hr x hx))
   exact(hms x hx).2)
  (fun i j hij hj hc=>by
   rw [hL,Qm,Qm];rcases hc with hc|hc
   ·rw [if_neg (by omega),if_neg (by omega)];exact aoK hmw (by omega) (by show j-W.length<(JR (nS S v)).length;omega)
   rw [if_pos (by omega),if_pos hc];exact aoK hpw hij hc)
  ⟨Nat.mul_pos hN hT1,hNN⟩
  (fun h=>by
   rcases f2 with h1|h1
   ·exfalso;have:mK m=0:=by
               have:m=1:=by omega
               rw [this];rfl
    omega
   exact h1)
  f3 (OM S v).length (aJ _)
 obtain⟨p,q,_,_,_,he⟩:=hj.e;have hg:Qo (OM S v)=some (S',e):=by unfold Qo;rw [hf];exact if_pos he.ok
 have ho:Aw (OM S v)=true:=by unfold Aw;rw [hg];rfl
 have hb:Kw S v=true:=by unfold Kw;rw [hB,ho];rfl
 have e1:TP S v=S':=by rw [(Wx hb).2.1];unfold uH;rw [hg];rfl
 refine⟨hA,hb,fun x hx=>?_⟩;rw [e1]at hx;rcases hj.cm x hx with h|⟨h,_⟩
 ·exact h.mono (by unfold n1;omega) (by unfold b1;omega)
 exact h
def stE(a b:Nat)(s:Gd×Nat):Gd×Nat:=(Cb (Cb s.1 a b true) b a true,if s.1 a b=true then s.2 else s.2+1)
def ej(L:List Int)(i:Nat)(s:Gd×Nat):Nat→Gd×Nat
 |0=>s
 |k+1=>stE (L.getD i 0).toNat (L.getD (i+1+k) 0).toNat (ej L i s k)
def ez(a v:Nat)(s:Gd×Nat):Gd×Nat:=(Cb (Cb s.1 a v false) v a false,s.2)
def ei(L:List Int)(v:Nat)(g:Gd):Nat→Gd×Nat
 |0=>(g,0)
 |i+1=>ez (L.getD i 0).toNat v (ej L i (ei L v g i) (L.length-(i+1)))
structure Gok (g:Gd):Prop where
 irr:∀x,g x x=false
 sym:∀x y,g x y=g y x
theorem ae7(g:Gd)(i j x y:Nat)(b:Bool):Cb g i j b x y=if x=i∧y=j then b else g x y:=rfl
theorem VB(g:Gd)(i j x y:Nat)(b:Bool):Cb (Cb g i j b) j i b x y=if (x=i∧y=j)∨(x=j∧y=i)then b else g x y:=by
 rw [ae7,ae7];by_cases h1:x=j∧y=i
 ·rw [if_pos h1,if_pos (.inr h1)]
 rw [if_neg h1];by_cases h2:x=i∧y=j
 ·rw [if_pos h2,if_pos (.inl h2)]
 rw [if_neg h2,if_neg (by rintro(h|h);exact h2 h;exact h1 h)]
theorem Gok.set2{g:Gd}(h:Gok g){i j:Nat}(b:Bool)(hij:i≠j∨b=false):Gok (Cb (Cb g i j b) j i b):=by
 refine⟨fun x=>?_,fun x y=>?_⟩
 ·rw [VB];by_cases h1:(x=i∧x=j)∨(x=j∧x=i)
  ·rw [if_pos h1];rcases hij with hij|hij
   ·exfalso;rcases h1 with ⟨h1,h2⟩|⟨h1,h2⟩
    ·exact hij (h1.symm.trans h2)
    exact hij (h2.symm.trans h1)
   exact hij
  rw [if_neg h1];exact h.irr x
 rw [VB,VB,h.sym x y];by_cases h1:(x=i∧y=j)∨(x=j∧y=i)
 ·rw [if_pos h1,if_pos (by rcases h1 with ⟨h1,h2⟩|⟨h1,h2⟩;exact .inr ⟨h2,h1⟩;exact .inl ⟨h2,h1⟩)]
 rw [if_neg h1,if_neg (by rintro(⟨h2,h3⟩|⟨h2,h3⟩);exact h1 (.inr ⟨h3,h2⟩);exact h1 (.inl ⟨h3,h2⟩))]
theorem arC:Gok gz:=⟨fun _=>rfl,fun _ _=>rfl⟩
theorem TR{l:List Lk}(hok:kN l=true):∀k,k≤l.length→Gok (gOf l k)
 |0,_=>arC
 |
  k+1,hk=>by
  have h:=qJ (xY hok (k:=k) (by omega));exact(TR hok k (by omega)).set2 true (.inl (by omega))
structure aC4 (g:Gd) (v:Nat) (xs:List Nat) (sI sS:Gd×Nat):Prop where
 n:sS.2=sI.2
 eq:∀x y,x≠v→y≠v→sS.1 x y=sI.1 x y
 ok:Gok sI.1
 row:∀y,sI.1 v y=g v y
 rs:∀y,sS.1 v y=(g v y&&decide (y∈xs∨10≤y))
 cs:∀y,sS.1 y v=(g v y&&decide (y∈xs∨10≤y))
structure aC5 (g:Gd) (v:Nat) (f:Nat→Bool) (sI sS:Gd×Nat):Prop where
 n:sS.2=sI.2
 eq:∀x y,x≠v→y≠v→sS.1 x y=sI.1 x y
 ok:Gok sI.1
 row:∀y,sI.1 v y=g v y
 rs:∀y,sS.1 v y=f y
 cs:∀y,sS.1 y v=f y
theorem akv{v:Nat}{g:Gd}(h:Gok g):∀n,Gok (cz v g n)
 |0=>h
 |n+1=>(akv h n).set2 false (.inr rfl)
theorem akw{v i:Nat}{s:Gd×Nat}(h:Gok s.1):∀n,Gok (cj v i s n).1
 |0=>h
 |
  n+1=>by
  have ih:=akw (v:=v) (i:=i) h n;unfold cj;split
  ·unfold stp;split
   ·exact ih.set2 true (.inl (by omega))
   exact ih
  exact h
theorem akx{v:Nat}{g:Gd}(h:Gok g):∀n,Gok (ci v g n).1
 |0=>h
 |n+1=>akw (akx h n) 10
theorem anM{g:Gd}(h:Gok g)(v:Nat):Gok (abb g v):=akv (akx h 10) 10
def wI(l:List Int)(n:Int):Nat→List Int
 |0=>[]
 |k+1=>wI l n k++if l.getD k 0=n then []else [l.getD k 0]
theorem aky(l:List Int)(n:Int):∀k,(wI l n k).length≤k
 |0=>aJ _
 |
  k+1=>by
  have:=aky l n k;unfold wI;split<;>simp<;>omega
theorem aoL(l:List Int)(n:Int):∀k,k≤l.length→wI l n k=(l.take k).filter fun x=>decide (x≠n)
 |0,_=>by simp [wI]
 |
  k+1,h=>by
  have e:l.take (k+1)=l.take k++[l.getD k 0]:=by
   rw [iM,aj,au (by omega)];rfl
  unfold wI;rw [aoL l n k (by omega),e,List.filter_append]
  congr 1
  generalize l.getD k 0=y;by_cases hx:y=n
  ·rw [if_pos hx];simp [hx]
  rw [if_neg hx];simp [hx]
def woI(l:List Int)(n:Int):List Int:=l.filter fun x=>decide (x≠n)
theorem Y8{T:Tb}(h:BQ T){l:List Int}{n:Int}(hl:l.length≤1048576:=by exact qW):PF T 323 [ints l,iv n] (ints (woI l n)):=by
 have e:woI l n=wI l n l.length:=by rw [aoL l n _ (aJ _),bM];rfl
 rw [e];refine jZ nR h.hT ?_;simp only [xG,Lz];refine ev ?_;refine jX (fun _ _=>false) (α:=Nat×List Int) (fun q=>⟨lS [.any,iv n,.any,.any,.any,slV q.2.length,.any,.any,.any,ints l,iv (l.length:Nat),iv (q.1:Nat)],Zj 1 (jR q.2),0,0,[],[]⟩) (fun q=>q.1≤l.length∧q.2=wI l n q.1) (fun q=>l.length-q.1) rfl (0,[]) ?_ ?_ ?_
 ·exact⟨by omega,rfl⟩
 ·exact aco
 rintro⟨i,xs⟩ ⟨hi,hx0⟩;dsimp only at hi hx0;have hx:xs.length≤1048576:=by rw [hx0];have:=aky l n i;omega
 by_cases hc:(i:Int)<(l.length:Nat)
 ·have es:wI l n (i+1)=wI l n i++if l.getD i 0=n then []else [l.getD i 0]:=rfl
  rw [←hx0]at es;by_cases hb:l.getD i 0=n
  ·rw [if_pos hb,aP]at es;have hb':=eq_true hb
   (rcases xs with _|⟨x,xs⟩<;>simp only [aC,ak,Ag,yP,nV,lY]at hx ⊢)
   ·refine Gp @hc @mg @hb' ?_;exact⟨(i+1,[]),by dsimp only;omega,⟨by dsimp only;omega,es.symm⟩,by exact aco⟩
   refine Gp @hc @mg @hb' ?_;exact⟨(i+1,x::xs),by dsimp only;omega,⟨by dsimp only;omega,es.symm⟩,by exact V6⟩
  rw [if_neg hb]at es
  (rcases xs with _|⟨x,xs⟩<;>simp only [aC,ak,Ag,yP,nV,lY]at hx ⊢)
  ·refine Gp @hc @mg @hb ?_;exact⟨by omega,(i+1,([])++[l.getD i 0]),by dsimp only;omega,⟨by dsimp only;omega,es.symm⟩,by exact Pj⟩
  refine Gp @hc @mg @hb ?_;exact⟨by omega,(i+1,(x::xs)++[l.getD i 0]),by dsimp only;omega,⟨by dsimp only;omega,es.symm⟩,by exact Nk⟩
 have:i=l.length:=by omega
 subst this;rw [←hx0]
 (rcases xs with _|⟨x,xs⟩<;>simp only [aC,ak,Ag,yP,nV,lY]at hx ⊢)
 ·refine ev1 @hc ?_;exact of_eq_true (oC 1)
 refine ev1 @hc ?_;exact jP _
theorem anN{l:List Int}{x:Int}(hn:l.Nodup)(hx:x∈l):(woI l x).length+1=l.length:=by
 have h1:woI l x=l.erase x:=by
  rw [List.Nodup.erase_eq_filter hn];unfold woI
  congr 1
  funext y
  simp [bne];rw [jB];simp
 rw [h1,List.length_erase_of_mem hx];have:=List.length_pos_of_mem hx;omega
theorem adp(l o:List Int)(v:Int):woI (l.filter fun x=>decide (x∉o)) v=l.filter fun x=>decide (x∉o++[v]):=by
 unfold woI;rw [List.filter_filter]
 congr 1
 funext x
 rw [jB];simp;constructor<;>intro h<;>exact⟨h.2,h.1⟩
def slW(n:Nat):V:=if n=0 then .jF else .kQ 1 0 n
theorem XO:slW 0=.jF:=rfl
theorem XP(n:Nat):slW (n+1)=.kQ 1 0 (n+1):=rfl
end Go.Ml
end
