/- Contracts of functions. -/
import Derived.Test.YtbccjdlcbhknoabGreatPart4
set_option linter.unusedSimpArgs false
set_option linter.unusedVariables false
set_option maxRecDepth 100000
set_option maxHeartbeats 16000000
section
namespace Go.Ml
theorem Ep.ahE{s:Store}{cs cs' ts ts':List V}{os:List Nat}{L:List (Nat×Obj)}(E:Ep s cs ts os L)(h1:cs'=cs)(h2:ts'=ts):Ep s cs' ts' os L:=by
 subst h1;subst h2;exact E
theorem TI{T:Tb}(h:xR T){c:Cd}(hn:0<c.ps.length)(hz:c.total.sz≤1048576∧∀a∈c.ps,a.sz≤1048576)(hl:c.ps.length≤1048576):PO T 183 [TQ c] (TQ c):=by
 refine kW (fun x d=>x == 145) h.hT ?_;simp only [um,Lz,St.enter,aj,au,aN];refine ew ?_;refine qx (DI h.sH (r:=c.total) hz.1) (by (refine ew ?_;try with_reducible exact True.intro)) (by (refine ew ?_;try with_reducible exact True.intro)) ?_;intro r q1 o1 G;obtain⟨_,rfl,hQ⟩:=G.ow.kV;obtain⟨x1,x2,rfl⟩:=hQ.rat
 have lx:=nI.leaf hQ rfl;simp only [dh,fB,dK,aG]at lx;have gl:=G.len;simp only [aj,au,aJ]at gl;have P0:jH q1 0=some ⟨5,[c.cells]⟩:=G.old 0 (by simp);have P1:jH q1 1=some ⟨5,[[iv 0,.bool false,.jL,.jL,.jL]]⟩:=G.old 1 (by simp);have hf:∀o∈o1,3≤o:=fun o ho=>by have:=G.fresh o ho;simpa using this
 refine DF (ah P0 P1) @lx @gl @List.set_set.{0} ?_;refine⟨by unfold pz;decide +kernel,?_⟩;refine DF (ah P0 P1) @lx @gl @List.set_set.{0} ?_;have E:Ep q1 [iv c.node,.bool c.total.neg,x1,x2] [iv c.node,.bool c.total.neg,ints c.total.mag,ints c.total.den] o1 [(1,⟨5,[[iv 0,.bool false,.jL,.jL,.jL]]⟩)]:=by
  have E0:Ep [some ⟨5,[c.cells]⟩,some ⟨5,[[iv 0,.bool false,.jL,.jL,.jL]]⟩,none] [] [] [] [(1,⟨5,[[iv 0,.bool false,.jL,.jL,.jL]]⟩)]:=⟨Np,by simp [jH]⟩;have:=E0.got (s1:=[some ⟨5,[c.cells]⟩,some ⟨5,[[iv 0,.bool false,.jL,.jL,.jL]]⟩,none]) (fun _ _=>rfl) (aP _) (MI (q:=.i64) (n:=c.node) hQ) G.nd (by simpa using G.fresh) (by simpa using G.old);simpa using this
 have E1:=E.EF (p:=2) (ob:=⟨5,[[iv c.node,.bool c.total.neg,x1,x2,.jL]]⟩) (L':=[(1,⟨5,[[iv 0,.bool false,.jL,.jL,.jL]]⟩),(2,⟨5,[[iv c.node,.bool c.total.neg,x1,x2,.jL]]⟩)]) (fun hm=>by have:=hf 2 hm;omega) (by omega) (by simp);clear E G P0 P1 hQ hf gl;refine kG (fun x d=>x == 145) (α:=Nat×Store×V×List (List V)×List Nat) (fun q=>⟨kX [.any,.any,.ptr 1 0 0,.ptr 2 0 0,.any,.any,.any,.any,.any,.any,.any,.any,.any,.any,xJ c.ps,iv (c.ps.length:Nat),iv (q.1:Nat)],q.2.1,0,0,[],[]⟩) (fun q=>(q.1≤c.ps.length∧q.2.2.2.1.length=q.1∧∀r∈q.2.2.2.1,r.length=10)∧∃M,LAt 10 q.2.2.1 q.2.2.2.1 M∧Ep q.2.1 ([iv c.node,.bool c.total.neg,x1,x2]++q.2.2.2.1.flatten) ([iv c.node,.bool c.total.neg,ints c.total.mag,ints c.total.den]++((c.ps.take q.1).map Pa.cells).flatten) q.2.2.2.2 ([(1,⟨5,[[iv 0,.bool false,.jL,.jL,.jL]]⟩),(2,⟨5,[[iv c.node,.bool c.total.neg,x1,x2,q.2.2.1]]⟩)]++M)) (fun q=>c.ps.length-q.1) rfl (0,q1.set 2 (some ⟨5,[[iv c.node,.bool c.total.neg,x1,x2,.jL]]⟩),.jL,[],o1) ?_ ?_ ?_
 ·exact⟨⟨dY _,rfl,fun r hr=>by cases hr⟩,[],.inl ⟨rfl,rfl,rfl⟩,by simpa using E1⟩
 ·(refine jW ?_;exact qw)
 clear E1;rintro⟨i,s,pv,A,os⟩ ⟨⟨hi,hAl,hA10⟩,M,hLA,E⟩;dsimp only at hi hAl hA10 hLA E;have L1:=E.at0 (p:=1) (ob:=⟨5,[[iv 0,.bool false,.jL,.jL,.jL]]⟩) (by simp);have L2:=E.at0 (p:=2) (ob:=⟨5,[[iv c.node,.bool c.total.neg,x1,x2,pv]]⟩) (by simp);by_cases hc:(i:Int)<(c.ps.length:Nat)
 ·have hil:i<c.ps.length:=by omega
  have hx:(c.ps.map Pa.cells).getD i []=(c.ps.getD i default).cells:=mg hil;have hza:=hz.2 _ (getD_mem hil);have ets:(c.ps.take (i+1)).map Pa.cells=(c.ps.take i).map Pa.cells++[(c.ps.getD i default).cells]:=by rw [take_snoc hil,bK];rfl
  generalize c.ps.getD i default=a at *;unfold Pa.sz at hza;refine uh @hc @hx ?_;have hq0:∀o,o<s.length→jH (s++[some ⟨10,[a.cells]⟩]++[none]) o=jH s o:=fun o ho=>by simp only [bJ];exact lQ ho
  have hqe:jH (s++[some ⟨10,[a.cells]⟩]++[none]) s.length=some ⟨10,[a.cells]⟩:=(kJ (by simp)).trans (tu _ _);have hs1:(s++[some (⟨10,[a.cells]⟩:Obj)]++[none]).length=s.length+1+1:=by simp
  refine qx (DI h.sH (r:=a.share) (by omega)) (by (refine ew ?_;try with_reducible exact True.intro)) (by (refine ew ?_;try with_reducible exact True.intro)) ?_;intro r q2 o2 G;obtain⟨_,rfl,hQ⟩:=G.ow.kV;obtain⟨y1,y2,rfl⟩:=hQ.rat
  have lq:=nI.leaf hQ rfl;simp only [dh,fB,dK,aG]at lq;have E2:=E.got (s1:=s++[some ⟨10,[a.cells]⟩]++[none]) hq0 (by omega) (MI (q:=.i64) (n:=a.node) hQ) G.nd G.fresh G.old;have he2:jH q2 s.length=some ⟨10,[a.cells]⟩:=(G.old s.length (by omega)).trans hqe;have ll2:s.length+1+1≤q2.length:=by have:=G.len;omega
  have fr2:∀o∈o2,s.length+2≤o:=fun o ho=>by have:=G.fresh o ho;simp at this;omega
  have lf2:=lq;clear G hQ lq;refine uh (ah he2 ll2) @lf2 ?_;refine qx (DI h.sH (r:=a.dx) (by omega)) (by (refine uh (ah he2 ll2) @lf2 ?_;try with_reducible exact True.intro)) (by (refine uh (ah he2 ll2) @lf2 ?_;try with_reducible exact True.intro)) ?_;intro r q3 o3 G;obtain⟨_,rfl,hQ⟩:=G.ow.kV;obtain⟨y3,y4,rfl⟩:=hQ.rat
  have lq:=nI.leaf hQ rfl;simp only [dh,fB,dK,aG]at lq;have E3:=E2.got (s1:=q2) (fun _ _=>rfl) (aP _) (hQ) G.nd G.fresh G.old;have he3:jH q3 s.length=some ⟨10,[a.cells]⟩:=(G.old s.length (by omega)).trans he2;have ll3:s.length+1+1≤q3.length:=by have:=G.len;omega
  have fr3:∀o∈o3,s.length+2≤o:=fun o ho=>by have:=G.fresh o ho;omega
  have lf3:=ah lf2 lq;clear G hQ lq;refine uh (ah he3 ll3) @lf3 ?_;refine qx (DI h.sH (r:=a.dy) (by omega)) (by (refine uh (ah he3 ll3) @lf3 ?_;try with_reducible exact True.intro)) (by (refine uh (ah he3 ll3) @lf3 ?_;try with_reducible exact True.intro)) ?_;intro r q4 o4 G;obtain⟨_,rfl,hQ⟩:=G.ow.kV;obtain⟨y5,y6,rfl⟩:=hQ.rat
  have lq:=nI.leaf hQ rfl;simp only [dh,fB,dK,aG]at lq;have E4:=E3.got (s1:=q3) (fun _ _=>rfl) (aP _) (hQ) G.nd G.fresh G.old;have he4:jH q4 s.length=some ⟨10,[a.cells]⟩:=(G.old s.length (by omega)).trans he3;have ll4:s.length+1+1≤q4.length:=by have:=G.len;omega
  have fr4:∀o∈o4,s.length+2≤o:=fun o ho=>by have:=G.fresh o ho;omega
  have lf4:=ah lf3 lq;clear G hQ lq;refine uh (ah he4 ll4) @lf4 ?_;refine⟨by
   have hn0:0≤List.length s:=dY _;generalize List.length s=m at hn0 ⊢
   revert m
   refine zM _ _ 0 (fun n hn=>?_) (fun n hn=>?_) ?_
   ·simp only [sh];split<;>omega
   ·simp [Z5,sh];try omega
   unfold pz;decide +kernel,?_⟩
  have L22:=E4.at0 (p:=2) (ob:=⟨5,[[iv c.node,.bool c.total.neg,x1,x2,pv]]⟩) (by simp);have L11:=E4.at0 (p:=1) (ob:=⟨5,[[iv 0,.bool false,.jL,.jL,.jL]]⟩) (by simp);have hf5:s.length+1∉((os++o2)++o3)++o4:=by
   intro hm;simp only [aO]at hm;rcases hm with ((hm|hm)|hm)|hm
   ·have:=E.aax _ hm;omega
   ·have:=fr2 _ hm;omega
   ·have:=fr3 _ hm;omega
   have:=fr4 _ hm;omega
  have hf2:=(E4.l (2,⟨5,[[iv c.node,.bool c.total.neg,x1,x2,pv]]⟩) (by simp)).2;have hf1:=(E4.l (1,⟨5,[[iv 0,.bool false,.jL,.jL,.jL]]⟩) (by simp)).2;have hs3:2<s.length:=L2.2;rcases hLA with ⟨rfl,rfl,rfl⟩|⟨p,rfl,rfl⟩
  ·refine DF @L22 (ah he4 ll4) @lf4 @List.set_set.{0} ?_;refine⟨by omega,(i+1,?s1,.kP (q4.length+1) 0 1,[]++[[iv a.node,.bool a.share.neg,y1,y2,.bool a.dx.neg,y3,y4,.bool a.dy.neg,y5,y6]],((os++o2)++o3)++o4),?m1,⟨⟨?a1,?b1,?c1⟩,[(q4.length+1,⟨10,[]++[[iv a.node,.bool a.share.neg,y1,y2,.bool a.dx.neg,y3,y4,.bool a.dy.neg,y5,y6]]⟩)],.inr ⟨q4.length+1,?d1,rfl⟩,?f1⟩,?e1⟩
   case e1=>dsimp only;(refine jW ?_;exact qw)
   case m1=>dsimp only;omega
   case a1=>dsimp only;omega
   case b1=>dsimp only;simp at hAl ⊢;omega
   case c1 =>
    intro r hr;rcases aO.1 hr with hr|hr
    ·exact hA10 r hr
    rw [aT.1 hr];rfl
   case d1=>dsimp only;simp
   case f1 =>
    dsimp only;rw [ets];refine Ep.ahE (E4.to ?_ ?_) ?_ ?_
    ·intro o ho;have a1:=E4.aax o ho;have a2:o≠s.length+1:=fun e=>hf5 (e▸ho);have a3:o≠2:=fun e=>hf2 (e▸ho);exact AV
    ·intro q hq;simp only [bP,dL,aH,bV,or_false]at hq;rcases hq with rfl|rfl|rfl
     ·refine .inl ⟨by simp,?_⟩;show jH _ 1=jH q4 1;exact AV
     ·refine .inr ⟨?_,hf2⟩;show jH _ 2=_;exact AV
     refine .inr ⟨?_,fun hm=>by have:=E4.aax _ hm;omega⟩;show jH _ (q4.length+1)=_;exact AV
    ·simp
    simp
  have L33:=E4.at0 (p:=p) (ob:=⟨10,A⟩) (by simp);have hps:p<s.length:=(E.at0 (p:=p) (ob:=⟨10,A⟩) (by simp)).2;have hp2:p≠2:=fun e=>by have:=L33.1;rw [e,L22.1]at this;cases this
  refine Df @L22 @L33 (ah he4 ll4) @lf4 @List.set_set.{0} ?_;have hfp:=(E4.l (p,⟨10,A⟩) (by simp)).2;have hp1:p≠1:=fun e=>by have:=L33.1;rw [e,L11.1]at this;cases this
  refine⟨by omega,(i+1,?s2,.kP (q4.length+1) 0 (A.length+1),A++[[iv a.node,.bool a.share.neg,y1,y2,.bool a.dx.neg,y3,y4,.bool a.dy.neg,y5,y6]],((os++o2)++o3)++o4),?m2,⟨⟨?a2,?b2,?c2⟩,[(q4.length+1,⟨10,A++[[iv a.node,.bool a.share.neg,y1,y2,.bool a.dx.neg,y3,y4,.bool a.dy.neg,y5,y6]]⟩)],.inr ⟨q4.length+1,?d2,rfl⟩,?f2⟩,?e2⟩
  case e2=>dsimp only;(refine jW ?_;exact qw)
  case m2=>dsimp only;omega
  case a2=>dsimp only;omega
  case b2=>dsimp only;simp;omega
  case c2 =>
   intro r hr;rcases aO.1 hr with hr|hr
   ·exact hA10 r hr
   rw [aT.1 hr];rfl
  case d2=>dsimp only;simp
  case f2 =>
   dsimp only;rw [ets];refine Ep.ahE (E4.to ?_ ?_) ?_ ?_
   ·intro o ho;have a1:=E4.aax o ho;have a2:o≠s.length+1:=fun e=>hf5 (e▸ho);have a3:o≠2:=fun e=>hf2 (e▸ho);have a4:o≠p:=fun e=>hfp (e▸ho);exact AV
   ·intro q hq;simp only [bP,dL,aH,bV,or_false]at hq;rcases hq with rfl|rfl|rfl
    ·refine .inl ⟨by simp,?_⟩;show jH _ 1=jH q4 1;exact AV
    ·refine .inr ⟨?_,hf2⟩;show jH _ 2=_;exact AV
    refine .inr ⟨?_,fun hm=>by have:=E4.aax _ hm;omega⟩;show jH _ (q4.length+1)=_;exact AV
   ·simp
   simp
 have hin:i=c.ps.length:=by omega
 subst hin;rcases hLA with ⟨rfl,rfl,rfl⟩|⟨p,rfl,rfl⟩
 ·simp at hAl;omega
 have L33:=E.at0 (p:=p) (ob:=⟨10,A⟩) (by simp);rw [bQ]at E;refine uh @hc (ah L1 L2) ?_;rw [if_pos (by rw [lx.2.1,lx.2.2];rfl)];have hf1:=(E.l (1,⟨5,[[iv 0,.bool false,.jL,.jL,.jL]]⟩) (by simp)).2;have hp1:p≠1:=fun e=>by have:=L33.1;rw [e,L1.1]at this;cases this
 have Es:=E.EF (p:=1) (ob:=⟨5,[[iv c.node,.bool c.total.neg,x1,x2,.kP p 0 A.length]]⟩) (L':=[(p,⟨10,A⟩)]) hf1 L1.2 (fun q hq=>.inl (by rw [aT.1 hq];exact⟨hp1,by simp⟩));have hA':A.length=(c.ps.map Pa.cells).length:=by rw [aV];exact hAl
 have ayw:∀r∈c.ps.map Pa.cells,r.length=10:=fun r hr=>by obtain⟨x,_,rfl⟩:=bM.1 hr;rfl
 have hfl:A.flatten.length=(c.ps.map Pa.cells).flatten.length:=by
  have e1:∀(X:List (List V)),(∀r∈X,r.length=10)→X.flatten.length=X.length*10:=fun X=>by
   induction X with
   |nil=>intro _;rfl
   |cons r X ih=>intro h;rw [dI,aJ,ih fun r hr=>h r (by simp [hr]),h r (by simp),aj];omega
  rw [e1 A hA10,e1 _ ayw,hA']
 obtain⟨os1,E2,_⟩:=(Ep.ahE (cs':=[iv c.node,.bool c.total.neg,x1,x2]++(A.flatten++[])) (ts':=[iv c.node,.bool c.total.neg,ints c.total.mag,ints c.total.den]++((c.ps.map Pa.cells).flatten++[])) Es (by simp) (by simp)).swap rfl hfl;obtain⟨os2,E3⟩:=E2.close (p:=p) (n:=10) (k:=10) (by simp) hA10 ayw hA';obtain⟨os3,E4,_⟩:=(Ep.ahE (cs':=[V.kP p 0 A.length]++([iv c.node,.bool c.total.neg,x1,x2]++[])) (ts':=[xJ c.ps]++([iv c.node,.bool c.total.neg,ints c.total.mag,ints c.total.den]++[])) E3 (by simp) (by simp)).swap rfl rfl;refine rE (os:=os3) ?_ E4.c.nd;show lM _ (.agg ([iv c.node,.bool c.total.neg,x1,x2]++([V.kP p 0 A.length]++[]))) (.agg ([iv c.node,.bool c.total.neg,ints c.total.mag,ints c.total.den]++([xJ c.ps]++[]))) os3;simp only [lM];exact⟨_,rfl,E4.c.ow⟩
theorem aqV{A:List Pa}(h:ani A)(hb:∀a∈A,0≤a.node∧a.node≤9):A.length≤10:=by
 have key:∀i,i<A.length→(i:Int)≤(A.getD i default).node:=fun i=>by
  induction i with
  |zero=>intro hi;exact(hb _ (getD_mem hi)).1
  |
   succ i ih =>
   intro hi;have h1:=ih (by omega);have h2:=h i (i+1) (by omega) hi;omega
 rcases fG 10 A.length with h1|h1
 ·have h2:=key 10 h1;have h3:=(hb _ (getD_mem (l:=A) (i:=10) h1)).2;omega
 exact h1
structure ayx (c:Cd) (M:List Lk):Prop where
 ne:0<c.ps.length
 len:c.ps.length≤10
 cn:c.total.cn∧∀a∈c.ps,a.share.cn∧a.dx.cn∧a.dy.cn
 ms:∀x∈M,x.w.cn∧x.dx.cn∧x.dy.cn
 ml:M.length≤101
theorem arY{S:List Lk}{v:Int}(h:TS S v=true):ayx (elC S v) (elM S v):=by
 rw [(ank h).1,(ank h).2];unfold TS at h;simp only [aG]at h;obtain⟨⟨⟨hb,_⟩,hc⟩,_⟩:=h;have hok:∀a∈yU S v,a.share.ok=true∧a.dx.cn∧a.dy.cn∧0≤a.node∧a.node≤9:=fun a ha=>ahv hb ha;have hl:=aqV (anj hc) fun a ha=>⟨(hok a ha).2.2.2.1,(hok a ha).2.2.2.2⟩;have hpl:(qg v (yU S v)).ps.length=(yU S v).length:=aV ..;refine⟨?_,by omega,⟨Zt _,fun x hx=>?_⟩,aiF,?_⟩
 ·rcases iH (qg v (yU S v)).ps.length with e|e
  ·exfalso;have:(qg v (yU S v)).ps=[]:=bf e;unfold rD at hc;rw [this]at hc;simp at hc
  exact e
 ·obtain⟨a,ha,rfl⟩:=bM.1 hx;exact⟨MC _ _,(hok a ha).2.1,(hok a ha).2.2.1⟩
 have h1:=LC (yU S v) (yU S v).length;have h2:(yU S v).length*(yU S v).length≤10*10:=jK hl hl;show (qR _ _).length≤_;omega
theorem LD{r:R}(h:r.cn):r.sz≤1000:=by
 have:=Qr h;unfold R.sz;omega
theorem Wq(S:List Lk)(v:Int):((elC S v).sz≤40000∧(elC S v).ps.length≤10∧Dy Lk.sz (elM S v)≤20000)∧(elC S v).wf∧Bg Lk.wf (elM S v):=by
 cases hB:TS S v
 ·rw [(aaw hB).1,(aaw hB).2];exact⟨⟨by decide,by decide,by decide⟩,⟨⟨by decide,by decide⟩,by decide,by simp⟩,by decide,by simp⟩
 have O:=arY hB;have h1:=LD O.cn.1;have h2:=Zn (f:=Pa.sz) (k:=3000) (l:=(elC S v).ps) fun a ha=>by
  have h:=O.cn.2 a ha;have:=LD h.1;have:=LD h.2.1;have:=LD h.2.2;unfold Pa.sz;omega
 have h3:=O.len;refine⟨⟨?_,h3,Tz O.ms O.ml⟩,⟨mP O.cn.1,by omega,fun a ha=>?_⟩,Wh O.ms O.ml⟩
 ·unfold Cd.sz;omega
 have h:=O.cn.2 a ha;exact⟨mP h.1,mP h.2.1,mP h.2.2⟩
def FI:Fn:=⟨2,53,[.tmp 4],(sr [oN 4 mN] (.seq (rf 1 [oN 11 (.ny 10 VG 0 []),oK 5 1 (oV 11)]) (.seq (sr [oW 12 0,oW 13 1,oN 14 (cl 238 [12,13]),oN 15 (ln 14),oN 16 (.mM (cI 0))] (.block 0 (.loop (sr [oN 17 (bt .lss 16 15)] (.seq (cd 17 .skip (.exit 0)) (.seq (.block 1 (sr [oN 18 (ix 1 14 16),oN 19 (lF 1 18),oW 7 19] (.seq (rf 1 [oK 21 1 (oV 0),oK 22 1 (oV 7),oK 23 1 (oV 1),oK 24 1 (cl 225 [21,22,23]),oK 20 1 (oV 24),oK 25 1 (ex 0 20),oK 26 1 (ex 1 20),oN 8 (.alloc D6),⟨none,none,1,.store 11 (.t 8) (.t 25),[]⟩,oK 9 1 (oV 26)]) (.seq (rf 1 [oK 27 1 (oV 7),oK 28 1 (fd 2 8),oK 29 1 (lT 3 28),oK 30 1 (fd 5 8),oK 31 1 (lT 3 30),oK 32 1 (fd 8 8),oK 33 1 (lT 3 32),oK 34 1 (.build VG [(0,1,(.t 27)),(1,3,(.t 29)),(4,3,(.t 31)),(7,3,(.t 33))]),oN 10 (.alloc VG),⟨none,none,1,.store 10 (.t 10) (.t 34),[]⟩]) (.seq (sr [oN 35 (fd 0 8),oN 36 (lF 1 35),oW 37 1,oN 38 (bt .eql 36 37)] (cd 38 (sr [oN 39 (fd 5 8),oN 40 (lT 3 39),oN 41 (cl 399 [40]),oN 42 (fd 4 10),oS (.store 3 (.t 42) (.t 41))] (rg [oN 43 (fd 8 8),oN 44 (lT 3 43),oN 45 (cl 399 [44]),oN 46 (fd 7 10),oS (.store 3 (.t 46) (.t 45))])) .skip)) (rf 2 [oK 47 2 (oV 5),oK 48 2 (lT 10 10),oN 49 (.ny 10 VG 1 [(0,(.t 48))]),oK 50 1 (.app 10 176 (.t 47) (.t 49)),oK 5 2 (oV 50)])))))) (rg [oN 51 (bc .add 16 1),oW 16 51]))))))) (sr [oW 52 5,oW 4 52] .ret))))⟩
structure LG (T:Tb):Prop where
 hT:T 397=some FI
 aaA:Nv T
 ZG:Lh T
 RU:Nh T
theorem arZ{a b:St}(h:Fg a b:=by
 (simp only [bK,bC,fZ];refine JQ (k:=3) (by simp only [XP,Uy,XO,and_true,true_and];(repeat' (first|exact Qo _|exact amH _|refine⟨?_,?_⟩))) rfl ?_;(try (refine ev ?_;try with_reducible exact True.intro));(repeat' (first|exact True.intro|omega|exact Ac (by simp) (by simp) (by simp)|refine⟨?_,?_⟩|exact lY rfl (by simp))))):Fg a b:=h
theorem ar0{a b:St}(h:Fg a b:=by
 (simp only [bK,bC,fZ];refine JQ (k:=4) (by simp only [XP,Uy,XO,and_true,true_and];(repeat' (first|exact Qo _|exact amH _|refine⟨?_,?_⟩))) rfl ?_;(try (refine ev ?_;try with_reducible exact True.intro));(repeat' (first|exact True.intro|omega|exact Ac (by simp) (by simp) (by simp)|refine⟨?_,?_⟩|exact lY rfl (by simp))))):Fg a b:=h
theorem akA{T:Tb}(h:LG T){S:List Lk}{v:Int}(hb:lH S=true)(hw:Bg Lk.wf S)(hz:Dy Lk.sz S≤1048576):PF T 397 [kY S,iv v] (xJ (yU S v)):=by
 have hl:S.length≤1048576:=by have:=vY Lk.sz S;omega
 have cn:=akj h.ZG (v:=v) hw hl hb;have hnl:(nbI S v S.length).length≤1048576:=cZ (List.length_filterMap_le _ _) (by simp;omega);rw [←aqE hb];generalize nbI S v S.length=nb at *;refine kH nR h.hT ?_;simp only [FI,Lz];refine ev ?_;refine ev ?_;refine jy cn ?_;refine ev ?_;refine kG (fun _ _=>false) (α:=Nat×List Pa) (fun q=>⟨kX [kY S,iv v,.any,.any,.any,slV q.2.length,.any,.any,.any,.any,.any,.any,.any,.any,ints nb,iv (nb.length:Nat),iv (q.1:Nat)],VH 10 (q.2.map Pa.cells),0,0,[],[]⟩) (fun q=>q.1≤nb.length∧q.2=(nb.take q.1).map (UY S v)) (fun q=>nb.length-q.1) rfl (0,[]) ?_ ?_ ?_
 ·exact⟨dY _,by simp⟩
 ·exact PV
 rintro⟨i,ys⟩ ⟨hi,hy⟩;dsimp only at hi hy;have hyl:ys.length≤1048576:=by rw [hy];simp;omega
 by_cases hc:(i:Int)<(nb.length:Nat)
 ·have hil:i<nb.length:=by omega
  have es:(nb.take (i+1)).map (UY S v)=ys++[UY S v (nb.getD i 0)]:=by
   rw [dD,bK,←hy,aB hil,ak,aB hil];rfl
  have cl:=akr h.aaA (l:=S) (a:=nb.getD i 0) (b:=v) hw hz;have hlw:=aqC (a:=nb.getD i 0) (b:=v) hw;obtain⟨n,hn⟩:∃n,nb.getD i 0=n:=⟨_,rfl⟩;rw [hn]at es cl hlw;have hA:UY S v n=if (Lu S n v).a=v then⟨n,(Lu S n v).w,negR (Lu S n v).dx,negR (Lu S n v).dy⟩else⟨n,(Lu S n v).w,(Lu S n v).dx,(Lu S n v).dy⟩:=rfl
  generalize Lu S n v=l at *;generalize anh S n v=b at *;have c1:=aa9 h.RU hlw.2.1;have c2:=aa9 h.RU hlw.2.2;by_cases e:l.a=v
  ·rw [if_pos e]at hA;rw [hA]at es;have f0:(l.a=v)=True:=eq_true e;rcases ys with _|⟨y,ys⟩<;>simp only [au,aj,qX,qH,fZ,bC,aek,aa8]at hyl ⊢
   ·refine zl @hc @hil @hn ?_;refine jy cl ?_;refine ev1 @f0 ?_;refine jy c1 ?_;refine ev ?_;refine jy c2 ?_;refine ev ?_;exact⟨by omega,(i+1,([])++[⟨n,l.w,negR l.dx,negR l.dy⟩]),by dsimp only;omega,⟨by dsimp only;omega,es.symm⟩,by exact arZ⟩
   refine zl @hc @hil @hn ?_;refine jy cl ?_;refine ev1 @f0 ?_;refine jy c1 ?_;refine ev ?_;refine jy c2 ?_;refine ev ?_;exact⟨by omega,(i+1,(y::ys)++[⟨n,l.w,negR l.dx,negR l.dy⟩]),by dsimp only;omega,⟨by dsimp only;omega,es.symm⟩,by exact ar0⟩
  rw [if_neg e]at hA;rw [hA]at es;rcases ys with _|⟨y,ys⟩<;>simp only [au,aj,qX,qH,fZ,bC,aek,aa8]at hyl ⊢
  ·refine zl @hc @hil @hn ?_;refine jy cl ?_;refine ev1 @e ?_;exact⟨by omega,(i+1,([])++[⟨n,l.w,l.dx,l.dy⟩]),by dsimp only;omega,⟨by dsimp only;omega,es.symm⟩,by exact arZ⟩
  refine zl @hc @hil @hn ?_;refine jy cl ?_;refine ev1 @e ?_;exact⟨by omega,(i+1,(y::ys)++[⟨n,l.w,l.dx,l.dy⟩]),by dsimp only;omega,⟨by dsimp only;omega,es.symm⟩,by exact ar0⟩
 have hin:i=nb.length:=by omega
 subst hin;rw [bQ]at hy;rw [←hy];rcases ys with _|⟨y,ys⟩<;>simp only [au,aj,qX,qH,fZ,bC,aek,aa8]at hyl ⊢
 ·refine ev1 @hc ?_;exact of_eq_true (mX 10)
 refine ev1 @hc ?_;have:=JO (σ:=[some ⟨10,y.cells::List.map Pa.cells ys⟩]) (Qo (y::ys)) (s:=0) (l:=ys.length+1) (n:=10) (by simp);rw [bZ,aY (by simp)]at this;rw [show VF [some ⟨10,y.cells::List.map Pa.cells ys⟩] 0 (ys.length+1) (some ⟨10,y.cells::List.map Pa.cells ys⟩)=some (xJ (y::ys))from this];exact kE _
def qB:Fn:=⟨2,126,[.cell 4 5 true,.tmp 5,.tmp 6],(.seq (rf 1 [oN 4 (.alloc QW),oK 5 1 mN,oK 6 1 mF]) (.seq (sr [oW 19 0,oN 20 (cl 193 [19]),oN 21 (nt 20),oW 22 21,oG 22 false 23 (oV 1),oG 22 false 24 (.call 35 [(.t 23),(cI 1),(cI 9)]),oG 22 false 25 (nt 24),oN 26 (.pick (.t 22) (.c (.bool true)) (.t 25))] (cd 26 (sr [oN 27 (.build QW []),oS (.store 5 (.t 4) (.t 27)),oN 5 mN,oN 6 mF] .ret) .skip)) (sr [oW 28 0,oW 29 1,oN 30 (cl 397 [28,29]),oW 7 30] (.seq (rf 1 [oK 31 1 (.call 36 [(cI 0)]),oN 8 (.alloc qL),⟨none,none,1,.store 3 (.t 8) (.t 31),[]⟩]) (.seq (sr [oW 32 7,oN 33 (ln 32),oN 34 (.mM (cI 0))] (.block 0 (.loop (sr [oN 35 (bt .lss 34 33)] (.seq (cd 35 .skip (.exit 0)) (.seq (.block 1 (.seq (rf 1 [oK 36 1 (ix 10 32 34),oK 37 1 (lT 10 36),oN 10 (.alloc VG),⟨none,none,1,.store 10 (.t 10) (.t 37),[]⟩]) (rg [oN 38 (lT 3 8),oN 39 (fd 1 10),oN 40 (lT 3 39),oN 41 (cl 189 [38,40]),oS (.store 3 (.t 8) (.t 41))]))) (rg [oN 42 (bc .add 34 1),oW 34 42]))))))) (.seq (rf 1 [oK 43 1 (oV 1),oK 44 1 (lT 3 8),oK 45 1 (.build QW [(0,1,(.t 43)),(1,3,(.t 44))]),oN 11 (.alloc QW),⟨none,none,1,.store 5 (.t 11) (.t 45),[]⟩]) (.seq (sr [oW 46 7,oN 47 (ln 46),oN 48 (.mM (cI 0))] (.block 2 (.loop (sr [oN 49 (bt .lss 48 47)] (.seq (cd 49 .skip (.exit 2)) (.seq (.block 3 (.seq (rf 1 [oK 50 1 (ix 10 46 48),oK 51 1 (lT 10 50),oN 13 (.alloc VG),⟨none,none,1,.store 10 (.t 13) (.t 51),[]⟩]) (rt 2 [oK 52 2 (fd 4 11),oA 53 2 (lF 1 52) [0],oK 54 2 (fd 0 13),oA 55 2 (lF 1 54) [2],oK 56 2 (fd 1 13),oA 57 2 (lT 3 56) [4],oK 58 2 (lT 3 8),oA 59 2 (cl 200 [57,58]) [5,6],oK 60 2 (fd 4 13),oA 61 2 (lT 3 60) [8],oA 62 2 (cl 204 [61]) [9,7],oK 63 2 (fd 7 13),oA 64 2 (lT 3 63) [11],oA 65 2 (cl 204 [64]) [12,10],oA 66 2 (.build VG [(0,1,(.t 55)),(1,3,(.t 59)),(4,3,(.t 62)),(7,3,(.t 65))]) [3,7,10,13],oA 67 0 (.ny 10 VG 1 [(0,(.t 66))]) [14],oA 68 1 (.app 10 176 (.t 53) (.t 67)) [1,15,13],oA 69 2 (fd 4 11) [0,1,2,3,4,5,6,7,8,9,10,11,12,13,14,15,16],⟨none,none,2,.store 1 (.t 69) (.t 68),[17,16,16,0,1,2,3,4,5,6,7,8,9,10,11,12,13,14,15,16]⟩]))) (rg [oN 70 (bc .add 48 1),oW 48 70]))))))) (.seq (rf 1 [oN 71 (.ny 11 D6 0 []),oK 14 1 (oV 71)]) (.seq (sr [oW 72 7,oN 73 (ln 72),oN 74 (.mM (cI 0))] (.block 4 (.loop (sr [oN 75 (bt .lss 74 73)] (.seq (cd 75 .skip (.exit 4)) (.seq (.block 5 (.seq (rf 1 [oK 76 1 (oV 74),oK 77 1 (ix 10 72 74),oK 78 1 (lT 10 77),oN 16 (.alloc VG),oK 15 1 (oV 76),⟨none,none,1,.store 10 (.t 16) (.t 78),[]⟩]) (sr [oW 79 7,oW 80 15,oN 81 (bc .add 80 1),oN 82 (.slice 10 (.t 79) (some (.t 81)) none),oN 83 (ln 82),oN 84 (.mM (cI 0))] (.block 6 (.loop (sr [oN 85 (bt .lss 84 83)] (.seq (cd 85 .skip (.exit 6)) (.seq (.block 7 (.seq (rf 1 [oK 86 1 (ix 10 82 84),oK 87 1 (lT 10 86),oN 18 (.alloc VG),⟨none,none,1,.store 10 (.t 18) (.t 87),[]⟩]) (rt 2 [oK 88 2 (oV 14),oK 89 2 (fd 0 16),oA 90 2 (lF 1 89) [1],oK 91 2 (fd 0 18),oA 92 2 (lF 1 91) [3],oK 93 2 (fd 1 16),oA 94 2 (lT 3 93) [5],oK 95 2 (fd 1 18),oA 96 2 (lT 3 95) [7],oA 97 2 (cl 201 [94,96]) [6,8],oK 98 2 (lT 3 8),oA 99 2 (cl 200 [97,98]) [9,10,9],oK 100 2 (fd 4 16),oA 101 2 (lT 3 100) [12],oK 102 2 (fd 4 18),oA 103 2 (lT 3 102) [14],oA 104 2 (cl 203 [101,103]) [13,15,11],oK 105 2 (fd 7 16),oA 106 2 (lT 3 105) [17],oK 107 2 (fd 7 18),oA 108 2 (lT 3 107) [19],oA 109 2 (cl 203 [106,108]) [18,20,16],oA 110 2 (.build D6 [(0,1,(.t 90)),(1,1,(.t 92)),(2,3,(.t 99)),(5,3,(.t 104)),(8,3,(.t 109))]) [2,4,11,16,21],oA 111 0 (.ny 11 D6 1 [(0,(.t 110))]) [22],oA 112 1 (.app 11 184 (.t 88) (.t 111)) [0,23,21],oA 14 2 (oV 112) [24,24,0,1,2,3,4,5,6,7,8,9,10,11,12,13,14,15,16,17,18,19,20,21,22,23,24]]))) (rg [oN 113 (bc .add 84 1),oW 84 113]))))))))) (rg [oN 114 (bc .add 74 1),oW 74 114]))))))) (.seq (sr [oN 115 (lT 5 11),oN 116 (cl 294 [115]),oN 117 (nt 116),oW 118 117,oG 118 false 119 (oV 14),oG 118 false 120 (cl 193 [119]),oG 118 false 121 (nt 120),oN 122 (.pick (.t 118) (.c (.bool true)) (.t 121))] (cd 122 (sr [oN 123 (.build QW []),oS (.store 5 (.t 4) (.t 123)),oN 5 mN,oN 6 mF] .ret) .skip)) (sr [oN 124 (lT 5 11),oW 125 14,oS (.store 5 (.t 4) (.t 124)),oW 5 125,oN 6 mT] .ret)))))))))))⟩
structure zV (T:Tb):Prop where
 hT:T 389=some qB
 xK:Ae T
 kZ:nU T
 lJ:pY T
 lZ:o8 T
 yL:Iy T
 nV:yH T
 BR:Iw T
 xk:Fb T
 pO:pK T
 ZH:LG T
theorem anJ{S:List Lk}{v:Int}(hv:¬(1≤v∧v≤9)):TS S v=false:=by
 unfold TS inB;rcases Int.lt_or_le v 1 with k|k
 ·rw [decide_eq_false (show ¬1≤v by omega)];simp
 rw [decide_eq_false (show ¬v≤9 by omega)];simp
theorem ar1{r:R}(h:r.cn):r.sz≤1048576:=by
 have:=Qr h;unfold R.sz;omega
theorem aiY{σ:Store}{p n k:Nat}{os:List Nat}{ob:Obj}(hk:k≠p)(hm:k∈os)(h:jH σ k=some ob):(keepW σ p n os)[k]? = some (some (k,0,ob.rows.length)):=by
 rw [Cc (kK h),if_neg hk,if_pos hm,h];rfl
theorem ayy{σ:Store}{p n:Nat}{os:List Nat}{ob:Obj}(h:jH σ p=some ob):(keepW σ p n os)[p]? = some (some (p,0,n)):=by
 rw [Cc (kK h),if_pos rfl]
theorem aqW{σ:Store}{p:Nat}{ob o1:Obj}{os:List Nat}(h:jH σ p=some o1):jH (BZ σ p ob os) p=some ob:=by
 rw [Cb (kK h),if_pos rfl]
theorem Xa{σ:Store}{p k:Nat}{ob o1:Obj}{os:List Nat}(h:jH σ k=some o1)(hk:k≠p)(hm:k∈os):jH (BZ σ p ob os) k=some o1:=by
 rw [Cb (kK h),if_neg hk,if_pos hm,h]
theorem ahF{σ:Store}{cN:Nat}{v:Int}{X Y:R}{ps:List Pa}{pv:V}{vs:List V}{env:Nat→V}{b1 b2:Nat}{r1 r2 m1 m2:List Nat}(hcN:2≤cN)
  (h0:jH σ 0=some ⟨5,[[iv 0,.bool false,.jL,.jL,.jL]]⟩) (h1:jH σ 1=some ⟨3,[Y.cells]⟩) (hc:jH σ cN=some ⟨5,[[iv v,.bool X.neg,ints X.mag,ints X.den,pv]]⟩)
  (hp:(ps=[]∧pv=.jL)∨∃p,pv=.kP p 0 ps.length∧jH σ p=some ⟨10,ps.map Pa.cells⟩) (he:∀W:P6,W=keepW σ cN 1 [0,1]→W[0]? = some (some (0,0,1))→W[1]? = some (some (1,0,1))→W[cN]? = some (some (cN,0,1))→Jl W σ vs 0 env) :
  Fg ⟨kX vs,BZ σ cN ⟨5,[[iv v,.bool X.neg,ints X.mag,ints X.den,xJ ps]]⟩ [0,1],0,b1,r1,m1⟩ ⟨env,σ,0,b2,r2,m2⟩:=by
 refine ZB (p:=cN) (n:=5) (A:=[[iv v,.bool X.neg,ints X.mag,ints X.den,pv]]) hc rfl ?_ ?_ (he _ rfl (aiY (by omega) (by simp) h0) (aiY (by omega) (by simp) h1) (ayy hc))
 ·intro o ho ob hob;rcases aH.1 ho with rfl|ho
  ·rw [h0]at hob;cases hob;simp [l7,V.still]
  rw [aT.1 ho,h1]at hob;cases hob;exact aei [Y]
 intro i r r2 g1 g2
 cases i with
 |succ i=>cases g1
 |
  zero =>
  cases g1;cases g2
  simp only [Gf];refine⟨_,_,rfl,xI rfl,_,_,rfl,xI rfl,_,_,rfl,xI rfl,_,_,rfl,xI rfl,_,_,rfl,?_,rfl⟩;rcases hp with ⟨rfl,rfl⟩|⟨p,rfl,hp⟩
  ·simp only [xG];exact .inr ⟨10,rfl⟩
  have hres:resolve σ FD (.kP p 0 ps.length)=some (xJ ps):=by
   have:=Jh (n:=10) hp (Qo _);rw [aV]at this;exact this
  simp only [xG];refine .inr (.inr ⟨hres,fun q hq k s0 l0 hk=>?_⟩);have e:=GU hp (Qo _) q hq;have hk:=Ky hk;have n0:p≠0:=fun e=>by rw [e,h0]at hp;cases hp
  have n1:p≠1:=fun e=>by rw [e,h1]at hp;cases hp
  have n2:p≠cN:=fun e=>by rw [e,hc]at hp;cases hp
  simp at hk;omega
theorem aqX{σ:Store}{c:Cd}{M:List Lk}:nY (Option.map V.nK (match resolve σ 11 (V.agg c.cells)with|some d=>some [d,kY M,V.bool true]|none=>none)) (lW (V.nK [TQ c,kY M,V.bool true])):=by
 have e1:resolve σ 11 (V.agg c.cells)=some (TQ c):=by
  show (c.cells.mapM (resolve σ (9+1))).map _=_;rw [zy (fun v hv=>RG [c] _ (by simp) v hv)];rfl
 rw [e1];exact kE _
theorem auH{σ:Store}{cN:Nat}{X:R}{c:Cd}{vs:List V}{env:Nat→V}{b1 b2:Nat}{r1 r2 m1 m2:List Nat}(hcN:2≤cN)
  (h0:jH σ 0=some ⟨5,[[iv 0,.bool false,.jL,.jL,.jL]]⟩) (h1:jH σ 1=some ⟨3,[X.cells]⟩) (hc:jH σ cN=some ⟨5,[c.cells]⟩)
  (he:∀W:P6,(∀(mv:V) (L:List Lk),LnA σ mv L→OA W σ (kY L) mv)→W[0]? = some (some (0,0,1))→W[1]? = some (some (1,0,1))→W[cN]? = some (some (cN,0,1))→Jl W σ vs 0 env) :
  Fg ⟨kX vs,BZ σ cN ⟨5,[c.cells]⟩ [0,1],0,b1,r1,m1⟩ ⟨env,σ,0,b2,r2,m2⟩:=by
 refine ZB (p:=cN) (n:=5) (A:=[c.cells]) hc rfl ?_ ?_ (he _ ?_ (aiY (by omega) (by simp) h0) (aiY (by omega) (by simp) h1) (ayy hc))
 ·intro o ho ob hob;rcases aH.1 ho with rfl|ho
  ·rw [h0]at hob;cases hob;simp [l7,V.still]
  rw [aT.1 ho,h1]at hob;cases hob;exact aei [X]
 ·intro i r r2 g1 g2
  cases i with
  |succ i=>cases g1
  |
   zero =>
   cases g1;cases g2
   exact KG fun v hv=>RG [c] _ (by simp) v hv
 intro mv L hL;rcases hL with ⟨rfl,rfl⟩|⟨p,rfl,hp⟩
 ·exact of_eq_true (tH _ _ _)
 have hres:resolve σ FD (.kP p 0 L.length)=some (kY L):=by
  have:=Jh (n:=10) hp (DV _);rw [aV]at this;exact this
 refine tJ hres fun q hq k s0 l0 hk=>?_;have e:=GU hp (DV _) q hq;have hk:=Ky hk;have n0:p≠0:=fun e=>by rw [e,h0]at hp;cases hp
 have n1:p≠1:=fun e=>by rw [e,h1]at hp;cases hp
 have n2:p≠cN:=fun e=>by rw [e,hc]at hp;cases hp
 simp at hk;omega
theorem Ws{T:Tb}(h:zV T){S:List Lk}{v:Int}(hw:Bg Lk.wf S)(hz:Dy Lk.sz S≤1048576):PF T 389 [kY S,iv v] (.nK [TQ (elC S v),kY (elM S v),.bool (TS S v)]):=by
 have hl:S.length≤1048576:=by have:=vY Lk.sz S;omega
 have ci:=vO h.lZ hw
 cases hb:lH S
 ·rw [hb]at ci;have hB:TS S v=false:=by unfold TS;rw [hb];rfl
  rw [(aaw hB).1,(aaw hB).2,hB];refine kH (fun x d=>(x == 36&&d == 999)) h.hT ?_;simp only [qB,Lz];refine ew ?_;refine jy ci ?_;refine ew ?_;exact I8 (σ:=[])
 rw [hb]at ci;have cl:=XE h.xK (a:=v) (b:=1) (c:=9);by_cases hv:1≤v∧v≤9
 ·rw [decide_eq_true hv.1,decide_eq_true hv.2]at cl;have ca:=akA h.ZH (v:=v) hb hw hz;have c0:=uw h.kZ (n:=0);have hAl:=afe S v S.length;have hl1:S.length≤100:=Og hb;have hAe:Ny S v S.length=yU S v:=rfl;rw [hAe]at hAl;have hok:∀a∈yU S v,a.share.ok=true∧a.dx.cn∧a.dy.cn∧0≤a.node∧a.node≤9:=fun a ha=>ahv hb ha;have hX:=Zt (yU S v);have hB:TS S v=(rD (qg v (yU S v))&&(Oh (yU S v)).all qm):=by
   unfold TS inB;rw [hb,decide_eq_true hv.1,decide_eq_true hv.2];rfl
  have hC:(qg v (yU S v))=⟨v,zT (yU S v),(yU S v).map (AB (zT (yU S v)))⟩:=rfl;have hT:=@ank S v;have hF:=@aaw S v;clear hAe hz hw;generalize yU S v=A at *;refine kH (fun x d=>(x == 36&&d == 999)) h.hT ?_;simp only [qB,Lz];refine ew ?_;refine jy ci ?_;refine ew ?_;refine jy cl ?_;refine ew ?_;refine jy ca ?_;refine ew ?_;refine jy c0 ?_;refine ew ?_;refine kG (fun x d=>(x == 36&&d == 999)) (α:=Nat×Store) (fun q=>⟨kX [.any,iv v,.any,.any,.ptr 0 0 0,.jL,.bool false,xJ A,.ptr 1 0 0,.any,.any,.any,.any,.any,.any,.any,.any,.any,.any,.any,.any,.any,.any,.any,.any,.any,.any,.any,.any,.any,.any,.any,xJ A,iv (A.length:Nat),iv (q.1:Nat)],q.2,0,0,[],[]⟩) (fun q=>q.1≤A.length∧jH q.2 0=some ⟨5,[[iv 0,.bool false,.jL,.jL,.jL]]⟩∧jH q.2 1=some ⟨3,[(LX A q.1).cells]⟩) (fun q=>A.length-q.1) rfl (0,[some ⟨5,[[iv 0,.bool false,.jL,.jL,.jL]]⟩,some ⟨3,[[.bool (kR 0).neg,ints (kR 0).mag,ints (kR 0).den]]⟩]) ?_ ?_ ?_
  ·exact⟨Nat.zero_le _,rfl,by dsimp only;rw [agH];rfl⟩
  ·(refine jW ?_;exact qw)
  rintro⟨i,s⟩ ⟨hi,I0,I1⟩;dsimp only at hi I0 I1;have h1q:=kK I1;have hsc:=MH A i;by_cases hc:(i:Int)<(A.length:Nat)
  ·have hil:i<A.length:=by omega
   have hx:(A.map Pa.cells).getD i []=(A.getD i default).cells:=mg hil;have es:=agI A hil;have hiA:=hok _ (getD_mem hil);have Qu:=vw h.lJ (r:=LX A i) (s:=(A.getD i default).share) (mP hsc) (mP (zH hiA.1));rw [←es]at Qu;generalize A.getD i default=a at *;generalize LX A i=Y at *;refine vW @hc @hx (ah I0 I1) ?_;refine jy Qu ?_;refine uh (ah I0 I1) (ah jT kM) ?_;refine⟨(i+1,?s1),?m1,⟨?a1,?b1,?c1⟩,?e1⟩
   case e1=>dsimp only;(refine jW ?_;exact qw)
   case m1=>dsimp only;omega
   case a1=>dsimp only;omega
   case b1=>exact(show jH _ 0=jH s 0 by exact AV).trans I0
   case c1=>dsimp only;simp (disch:=first|omega|(simp only [List.length_append,List.length_set,List.length_cons,List.length_nil];omega)) only [LK]
  have hin:i=A.length:=by omega
  subst hin;rw [show LX A A.length=zT A from rfl]at I1 hsc;generalize hXe:zT A=X at hX hC I1;clear hsc;refine uh @hc (ah I0 I1) ?_;obtain⟨cN,hcN⟩:∃cN,List.length s=cN:=⟨_,rfl⟩;have hc2:2≤cN:=by omega
  obtain⟨s1,hs1⟩:∃s1,s++[some ⟨5,[[iv v,.bool X.neg,ints X.mag,ints X.den,.jL]]⟩]=s1:=⟨_,rfl⟩;have k0:jH s1 0=some ⟨5,[[iv 0,.bool false,.jL,.jL,.jL]]⟩:=by rw [←hs1];exact(kJ (by omega)).trans I0
  have k1:jH s1 1=some ⟨3,[X.cells]⟩:=by rw [←hs1];exact(kJ (by omega)).trans I1
  have kc:jH s1 cN=some ⟨5,[[iv v,.bool X.neg,ints X.mag,ints X.den,.jL]]⟩:=by rw [←hs1,←hcN];exact tu _ _
  have hsl1:s1.length=cN+1:=by rw [←hs1];simp;omega
  clear I0 I1 h1q;refine kG (fun x d=>(x == 36&&d == 999)) (α:=Nat×Store×V) (fun q=>⟨kX [.any,iv v,.any,.any,.ptr 0 0 0,.jL,.bool false,xJ A,.ptr 1 0 0,.any,.any,.ptr cN 0 0,.any,.any,.any,.any,.any,.any,.any,.any,.any,.any,.any,.any,.any,.any,.any,.any,.any,.any,.any,.any,.any,.any,.any,.any,.any,.any,.any,.any,.any,.any,.any,.any,.any,.any,xJ A,iv (A.length:Nat),iv (q.1:Nat)],q.2.1,0,0,[],[]⟩) (fun q=>(q.1≤A.length∧jH q.2.1 0=some ⟨5,[[iv 0,.bool false,.jL,.jL,.jL]]⟩∧jH q.2.1 1=some ⟨3,[X.cells]⟩)∧(q.1<A.length→jH q.2.1 cN=some ⟨5,[[iv v,.bool X.neg,ints X.mag,ints X.den,q.2.2]]⟩∧GnA 10 q.2.1 q.2.2 ((A.take q.1).map fun a=>(AB X a).cells))∧(q.1=A.length→jH q.2.1 cN=some ⟨5,[(qg v A).cells]⟩)) (fun q=>A.length-q.1) rfl (0,if A.length=0 then BZ s1 cN ⟨5,[(qg v A).cells]⟩ [0,1]else s1,.jL) ?_ ?_ ?_
  ·dsimp only;by_cases hA0:A.length=0
   ·rw [if_pos hA0];exact⟨⟨dY _,Xa k0 (by omega) (by simp),Xa k1 (by omega) (by simp)⟩,fun e=>by omega,fun _=>aqW kc⟩
   rw [if_neg hA0];exact⟨⟨dY _,k0,k1⟩,fun _=>⟨kc,.inl ⟨by simp,rfl⟩⟩,fun e=>by omega⟩
  ·dsimp only;rw [hcN,hs1];by_cases hA0:A.length=0
   ·rw [if_pos hA0];have hA:A=[]:=bf hA0;rw [show (qg v A).cells=[iv v,.bool X.neg,ints X.mag,ints X.den,xJ (qg v A).ps] by rw [hC]];refine ahF (Y:=X) (pv:=.jL) hc2 k0 k1 kc (.inl ⟨by rw [hC,hA];rfl,rfl⟩) ?_;intro W _ w0 w1 wc;refine ew ?_;exact⟨nP w0 (by omega),nP w1 (by omega),nP wc (by omega),rfl⟩
   rw [if_neg hA0]
   (refine jW ?_;exact qw)
  clear k0 k1 kc hsl1 hs1 hcN;rintro⟨i,s,pv⟩ ⟨⟨hi,I0,I1⟩,hM,hE⟩;dsimp only at hi I0 I1 hM hE;have h1q:=kK I1;by_cases hc3:(i:Int)<(A.length:Nat)
  ·have hil:i<A.length:=by omega
   obtain⟨Ic,hP⟩:=hM hil;have hcq:=kK Ic;have hx:(A.map Pa.cells).getD i []=(A.getD i default).cells:=mg hil;have hiA:=hok _ (getD_mem hil);have ets:(A.take (i+1)).map (fun a=>(AB X a).cells)=(A.take i).map (fun a=>(AB X a).cells)++[(AB X (A.getD i default)).cells]:=by rw [take_snoc hil,bK];rfl
   have ayA:((A.take i).map fun a=>(AB X a).cells).length=i:=by simp;omega
   have cd:=N7 h.yL (r:=(A.getD i default).share) (s:=X) (mP (zH hiA.1)) (mP hX);have c1:=Ob h.xk (r:=(A.getD i default).dx) (ar1 hiA.2.1);have c2:=Ob h.xk (r:=(A.getD i default).dy) (ar1 hiA.2.2.1);generalize A.getD i default=a at *;generalize (A.take i).map (fun a=>(AB X a).cells)=P at *;rcases hP with ⟨rfl,rfl⟩|⟨p,rfl,hp,hp3,hpl⟩
   ·refine DF @hc3 @hx (ah I0 (ah I1 Ic)) (ah jT kM) ?_;refine jy cd ?_;refine uh (ah I0 (ah I1 Ic)) (ah jT kM) ?_;refine jy c1 ?_;refine uh (ah I0 (ah I1 Ic)) (ah jT kM) ?_;refine jy c2 ?_;refine uh (ah I0 (ah I1 Ic)) (ah jT kM) ?_;have hpq:=h1q;have hp0:=h1q;refine⟨by omega,O4 [1,cN,s.length,s.length+1,s.length+1+1] [⟨18,[1],[1],false⟩,⟨17,[1],[],false⟩,⟨16,[3],[4],false⟩,⟨15,[],[3],false⟩,⟨14,[],[],false⟩,⟨13,[],[],false⟩,⟨12,[2],[],false⟩,⟨11,[2],[],false⟩,⟨10,[],[],false⟩,⟨9,[2],[],false⟩,⟨8,[2],[],false⟩,⟨7,[],[],false⟩,⟨6,[0],[],false⟩,⟨5,[2],[],false⟩,⟨4,[2],[],false⟩,⟨3,[2],[],false⟩,⟨2,[2],[],false⟩,⟨1,[1],[],false⟩,⟨0,[1],[],false⟩] ?_ ?_ rfl ?_,?_⟩
    ·clear hp0 I0 I1 Ic hE hM ca ci c0 cl;generalize List.length s=m at h1q hcq hpq ⊢;simp;omega
    ·intro o ho;simp at ho;omega
    ·show pz 5 _ _;unfold pz;rfl
    by_cases hi1:i+1<A.length
    ·refine⟨(i+1,?s2,.kP (s.length+1+1) 0 1),?m2,⟨⟨?a2,?b2,?c2⟩,fun _=>⟨?d2,?f2⟩,fun e=>absurd e (by dsimp only;omega)⟩,?e2⟩
     case e2=>dsimp only;(refine jW ?_;exact qw)
     case m2=>dsimp only;omega
     case a2=>dsimp only;omega
     case b2=>exact(show jH _ 0=jH s 0 by exact AV).trans I0
     case c2=>exact(show jH _ 1=jH s 1 by exact AV).trans I1
     case d2=>dsimp only;simp (disch:=first|omega|(simp only [List.length_append,List.length_set,List.length_cons,List.length_nil];omega)) only [LK]
     case f2 =>
      dsimp only;rw [ets];refine .inr ⟨s.length+1+1,?g2,?h2,by omega,by simp⟩
      case g2=>simp
      case h2=>simp (disch:=first|omega|(simp only [aJ,aW,aj,au];omega)) only [LK];simp [AB]
    have hin:i+1=A.length:=by omega
    have eps:(qg v A).ps.map Pa.cells=[]++[(AB X a).cells]:=by
     rw [←ets,hin,bQ,hC,fK];rfl
    refine⟨(i+1,BZ ?s2x cN ⟨5,[[iv v,.bool X.neg,ints X.mag,ints X.den,xJ (qg v A).ps]]⟩ [0,1],.jL),?m2x,⟨⟨?a2x,?b2x,?c2x⟩,fun e=>absurd e (by dsimp only;omega),fun _=>?d2x⟩,?e2x⟩
    case e2x =>
     dsimp only;refine ahF (Y:=X) (pv:=.kP (s.length+1+1) 0 1) hc2 ?z0 ?z1 ?zc ?zp ?ze
     case z0=>exact(show jH _ 0=jH s 0 by exact AV).trans I0
     case z1=>exact(show jH _ 1=jH s 1 by exact AV).trans I1
     case zc=>simp (disch:=first|omega|(simp only [aJ,aW,aj,au];omega)) only [LK]
     case zp =>
      refine .inr ⟨s.length+1+1,?_,?_⟩
      ·rw [show (qg v A).ps.length=A.length by rw [hC];simp,←hin,←ayA];try rfl
      rw [eps];simp (disch:=first|omega|(simp only [aJ,aW,aj,au];omega)) only [LK];simp [AB]
     case ze =>
      intro W _ w0 w1 wc;refine ew ?_;exact⟨nP w0 (by omega),nP w1 (by omega),nP wc (by omega),by omega⟩
    case m2x=>dsimp only;omega
    case a2x=>dsimp only;omega
    case b2x=>exact Xa ((show jH _ 0=jH s 0 by exact AV).trans I0) (by omega) (by simp)
    case c2x=>exact Xa ((show jH _ 1=jH s 1 by exact AV).trans I1) (by omega) (by simp)
    case d2x =>
     rw [show (qg v A).cells=[iv v,.bool X.neg,ints X.mag,ints X.den,xJ (qg v A).ps] by rw [hC]];refine aqW (o1:=⟨5,[[iv v,.bool X.neg,ints X.mag,ints X.den,.kP (s.length+1+1) 0 1]]⟩) ?_;exact AV
   have hpq:=kK hp;have hpc:p≠cN:=fun e=>by rw [e,Ic]at hp;cases hp
   refine Df @hc3 @hx (ah I0 (ah I1 Ic)) @hp (ah jT kM) ?_;refine jy cd ?_;refine vW (ah I0 (ah I1 Ic)) @hp (ah jT kM) ?_;refine jy c1 ?_;refine vW (ah I0 (ah I1 Ic)) @hp (ah jT kM) ?_;refine jy c2 ?_;refine vW (ah I0 (ah I1 Ic)) @hp (ah jT kM) ?_;have hp0:=h1q;refine⟨by omega,O4 [1,cN,s.length,s.length+1,s.length+1+1,p] [⟨18,[1],[1],false⟩,⟨17,[1],[],false⟩,⟨16,[5,3],[5,4],false⟩,⟨15,[],[3],false⟩,⟨14,[],[],false⟩,⟨13,[],[],false⟩,⟨12,[2],[],false⟩,⟨11,[2],[],false⟩,⟨10,[],[],false⟩,⟨9,[2],[],false⟩,⟨8,[2],[],false⟩,⟨7,[],[],false⟩,⟨6,[0],[],false⟩,⟨5,[2],[],false⟩,⟨4,[2],[],false⟩,⟨3,[2],[],false⟩,⟨2,[2],[],false⟩,⟨1,[1],[],false⟩,⟨0,[1],[],false⟩] ?_ ?_ rfl ?_,?_⟩
   ·clear hp0 hp I0 I1 Ic hE hM ca ci c0 cl;generalize List.length s=m at h1q hcq hpq ⊢;simp;omega
   ·intro o ho;simp at ho;omega
   ·show pz 6 _ _;unfold pz;rfl
   by_cases hi1:i+1<A.length
   ·refine⟨(i+1,?s3,.kP (s.length+1+1) 0 (P.length+1)),?m3,⟨⟨?a3,?b3,?c3⟩,fun _=>⟨?d3,?f3⟩,fun e=>absurd e (by dsimp only;omega)⟩,?e3⟩
    case e3=>dsimp only;(refine jW ?_;exact qw)
    case m3=>dsimp only;omega
    case a3=>dsimp only;omega
    case b3=>exact(show jH _ 0=jH s 0 by exact AV).trans I0
    case c3=>exact(show jH _ 1=jH s 1 by exact AV).trans I1
    case d3=>dsimp only;simp (disch:=first|omega|(simp only [List.length_append,List.length_set,List.length_cons,List.length_nil];omega)) only [LK]
    case f3 =>
     dsimp only;rw [ets];refine .inr ⟨s.length+1+1,?g3,?h3,by omega,by simp⟩
     case g3=>simp
     case h3=>simp (disch:=first|omega|(simp only [aJ,aW,aj,au];omega)) only [LK];simp [AB]
   have hin:i+1=A.length:=by omega
   have eps:(qg v A).ps.map Pa.cells=P++[(AB X a).cells]:=by
    rw [←ets,hin,bQ,hC,fK];rfl
   refine⟨(i+1,BZ ?s3x cN ⟨5,[[iv v,.bool X.neg,ints X.mag,ints X.den,xJ (qg v A).ps]]⟩ [0,1],.jL),?m3x,⟨⟨?a3x,?b3x,?c3x⟩,fun e=>absurd e (by dsimp only;omega),fun _=>?d3x⟩,?e3x⟩
   case e3x =>
    dsimp only;refine ahF (Y:=X) (pv:=.kP (s.length+1+1) 0 (P.length+1)) hc2 ?z0 ?z1 ?zc ?zp ?ze
    case z0=>exact(show jH _ 0=jH s 0 by exact AV).trans I0
    case z1=>exact(show jH _ 1=jH s 1 by exact AV).trans I1
    case zc=>simp (disch:=first|omega|(simp only [aJ,aW,aj,au];omega)) only [LK]
    case zp =>
     refine .inr ⟨s.length+1+1,?_,?_⟩
     ·rw [show (qg v A).ps.length=A.length by rw [hC];simp,←hin,←ayA];try rfl
     rw [eps];simp (disch:=first|omega|(simp only [aJ,aW,aj,au];omega)) only [LK];simp [AB]
    case ze =>
     intro W _ w0 w1 wc;refine ew ?_;exact⟨nP w0 (by omega),nP w1 (by omega),nP wc (by omega),by omega⟩
   case m3x=>dsimp only;omega
   case a3x=>dsimp only;omega
   case b3x=>exact Xa ((show jH _ 0=jH s 0 by exact AV).trans I0) (by omega) (by simp)
   case c3x=>exact Xa ((show jH _ 1=jH s 1 by exact AV).trans I1) (by omega) (by simp)
   case d3x =>
    rw [show (qg v A).cells=[iv v,.bool X.neg,ints X.mag,ints X.den,xJ (qg v A).ps] by rw [hC]];refine aqW (o1:=⟨5,[[iv v,.bool X.neg,ints X.mag,ints X.den,.kP (s.length+1+1) 0 (P.length+1)]]⟩) ?_;exact AV
  have hin:i=A.length:=by omega
  have Ic:=hE hin;subst hin;have hcq:=kK Ic;have hcc:(qg v A).cells=[iv v,.bool X.neg,ints X.mag,ints X.den,xJ (qg v A).ps]:=by rw [hC]
  clear hM hE;refine qj @hc3 ?_;obtain⟨s1,hs1⟩:∃s1,s++[none]=s1:=⟨_,rfl⟩;have k0:jH s1 0=some ⟨5,[[iv 0,.bool false,.jL,.jL,.jL]]⟩:=by rw [←hs1];exact(kJ (by omega)).trans I0
  have k1:jH s1 1=some ⟨3,[X.cells]⟩:=by rw [←hs1];exact(kJ (by omega)).trans I1
  have kc:jH s1 cN=some ⟨5,[(qg v A).cells]⟩:=by rw [←hs1];exact(kJ (by omega)).trans Ic
  clear I0 I1 Ic hcq h1q;refine kG (fun x d=>(x == 36&&d == 999)) (α:=Nat×Store×V) (fun q=>⟨kX [.any,iv v,.any,.any,.ptr 0 0 0,.jL,.bool false,xJ A,.ptr 1 0 0,.any,.any,.ptr cN 0 0,.any,.any,q.2.2,.any,.any,.any,.any,.any,.any,.any,.any,.any,.any,.any,.any,.any,.any,.any,.any,.any,.any,.any,.any,.any,.any,.any,.any,.any,.any,.any,.any,.any,.any,.any,.any,.any,.any,.any,.any,.any,.any,.any,.any,.any,.any,.any,.any,.any,.any,.any,.any,.any,.any,.any,.any,.any,.any,.any,.any,.any,xJ A,iv (A.length:Nat),iv (q.1:Nat)],q.2.1,0,0,[],[]⟩) (fun q=>(q.1≤A.length∧jH q.2.1 0=some ⟨5,[[iv 0,.bool false,.jL,.jL,.jL]]⟩∧jH q.2.1 1=some ⟨3,[X.cells]⟩∧jH q.2.1 cN=some ⟨5,[(qg v A).cells]⟩)∧(q.1<A.length→LnA q.2.1 q.2.2 (qR A q.1))∧(q.1=A.length→q.2.2=kY (Oh A))) (fun q=>A.length-q.1) rfl (0,s1,if A.length=0 then kY []else .jL) ?_ ?_ ?_
  ·dsimp only;refine⟨⟨dY _,k0,k1,kc⟩,fun e=>.inl ⟨rfl,if_neg (by omega)⟩,fun e=>?_⟩;rw [if_pos e.symm];unfold Oh;rw [←e];rfl
  ·dsimp only;rw [hs1];by_cases hA0:A.length=0
   ·rw [if_pos hA0];refine jW ?_;refine ew ?_
    (repeat' (first|exact vI _|exact vH (by omega)|refine⟨?_,?_⟩|exact xH rfl|rfl))
   rw [if_neg hA0]
   (refine jW ?_;exact qw)
  clear k0 k1 kc hs1;rintro⟨i,s,mv⟩ ⟨⟨hi,I0,I1,Ic⟩,hM,hE⟩;dsimp only at hi I0 I1 Ic hM hE;have h1q:=kK I1;have hcq:=kK Ic;by_cases hc4:(i:Int)<(A.length:Nat)
  ·have hil:i<A.length:=by omega
   have hL:=hM hil;have hx:(A.map Pa.cells).getD i []=(A.getD i default).cells:=mg hil;have hiA:=hok _ (getD_mem hil);have hLl:=LC A i;have ht:((i:Int)+1).toNat=i+1:=by omega
   have hdr:(A.map Pa.cells).drop (i+1)=(A.drop (i+1)).map Pa.cells:=(jr ..).symm;have hdl:(A.drop (i+1)).length=A.length-(i+1):=by simp
   refine Df @hc4 @hx @ht @hdr (ah I0 (ah I1 Ic)) ?_;obtain⟨qc,hqc⟩:∃qc,List.length s=qc:=⟨_,rfl⟩;refine kG (fun x d=>(x == 36&&d == 999)) (α:=Nat×Store×V) (fun q=>⟨kX [.any,iv v,.any,.any,.ptr 0 0 0,.jL,.bool false,xJ A,.ptr 1 0 0,.any,.any,.ptr cN 0 0,.any,.any,q.2.2,iv (i:Nat),.ptr qc 0 0,.any,.any,.any,.any,.any,.any,.any,.any,.any,.any,.any,.any,.any,.any,.any,.any,.any,.any,.any,.any,.any,.any,.any,.any,.any,.any,.any,.any,.any,.any,.any,.any,.any,.any,.any,.any,.any,.any,.any,.any,.any,.any,.any,.any,.any,.any,.any,.any,.any,.any,.any,.any,.any,.any,.any,xJ A,iv (A.length:Nat),iv (i:Nat),.any,.any,.any,.any,.any,.any,.any,xJ (A.drop (i+1)),iv ((A.drop (i+1)).length:Nat),iv (q.1:Nat)],q.2.1,0,0,[],[]⟩) (fun q=>(i+1+q.1≤A.length∧jH q.2.1 0=some ⟨5,[[iv 0,.bool false,.jL,.jL,.jL]]⟩∧jH q.2.1 1=some ⟨3,[X.cells]⟩∧jH q.2.1 cN=some ⟨5,[(qg v A).cells]⟩∧jH q.2.1 qc=some ⟨10,[(A.getD i default).cells]⟩)∧LnA q.2.1 q.2.2 (qR A i++xu A i q.1)) (fun q=>A.length-q.1) rfl (0,s++[some ⟨10,[(A.getD i default).cells]⟩],mv) ?_ ?_ ?_
   ·refine⟨⟨by dsimp only;omega,(kJ (by omega)).trans I0,(kJ h1q).trans I1,(kJ hcq).trans Ic,by dsimp only;rw [←hqc];exact tu _ _⟩,?_⟩;dsimp only;rw [XZ,aQ];exact hL.fr fun p hp=>kJ hp
   ·subst hqc
    (refine jW ?_;exact qw)
   have hq3:3≤qc:=by omega
   clear I0 I1 Ic h1q hcq hL hM hE hqc;rintro⟨j,s,mv⟩ ⟨⟨hj,I0,I1,Ic,Iq⟩,hL⟩;dsimp only at hj I0 I1 Ic Iq hL;have h1q:=kK I1;have hcq:=kK Ic;have hqq:=kK Iq;have hRl:=Wi A i j;by_cases hc5:(j:Int)<((A.drop (i+1)).length:Nat)
   ·have hkl:i+1+j<A.length:=by omega
    have hg2:((A.drop (i+1)).map Pa.cells).getD j []=(A.getD (i+1+j) default).cells:=by
     rw [mg (by omega),ak,dA,←ak]
    have hkA:=hok _ (getD_mem hkl);have es:=acP A hkl;rw [hXe]at es;obtain⟨a,ha⟩:∃a,A.getD i default=a:=⟨_,rfl⟩;obtain⟨b,hb'⟩:∃b,A.getD (i+1+j) default=b:=⟨_,rfl⟩;rw [ha]at hiA es Iq;rw [hb']at hkA es hg2;have cm:=wV h.nV (r:=a.share) (s:=b.share) (mP (zH hiA.1)) (mP (zH hkA.1));have cd:=N7 h.yL (r:=mulR a.share b.share) (s:=X) (mP (Un _ _)) (mP hX);have cx:=QZ h.BR (r:=a.dx) (s:=b.dx) (mP hiA.2.1) (mP hkA.2.1);have cy:=QZ h.BR (r:=a.dy) (s:=b.dy) (mP hiA.2.2.1) (mP hkA.2.2.1);have en:qR A i++xu A i (j+1)=(qR A i++xu A i j)++[QC X a b]:=by rw [es,bJ]
    have hMl:(qR A i++xu A i j).length≤20000:=by
     rw [aJ];have:i*A.length≤100*100:=jK (by omega) (by omega);omega
    generalize qR A i++xu A i j=Ms at *;rcases hL with ⟨rfl,rfl⟩|⟨m2,rfl,hm2⟩
    ·refine DF @hc5 @hg2 (ah I1 Iq) (ah jT kM) ?_;refine jy cm ?_;refine uh (ah I1 Iq) (ah jT kM) ?_;refine jy cd ?_;refine uh (ah I1 Iq) (ah jT kM) ?_;refine jy cx ?_;refine uh (ah I1 Iq) (ah jT kM) ?_;refine jy cy ?_;refine uh (ah I1 Iq) (ah jT kM) ?_;refine⟨by omega,O4 [1,qc,s.length,s.length+1,s.length+1+1] [⟨25,[],[],false⟩,⟨24,[3],[4],false⟩,⟨23,[],[3],false⟩,⟨22,[],[],false⟩,⟨21,[],[],false⟩,⟨20,[2],[],false⟩,⟨19,[2],[],false⟩,⟨18,[1],[],false⟩,⟨17,[1],[],false⟩,⟨16,[],[],false⟩,⟨15,[2],[],false⟩,⟨14,[2],[],false⟩,⟨13,[1],[],false⟩,⟨12,[1],[],false⟩,⟨11,[],[],false⟩,⟨10,[0],[],false⟩,⟨9,[],[],false⟩,⟨8,[2],[],false⟩,⟨7,[2],[],false⟩,⟨6,[1],[],false⟩,⟨5,[1],[],false⟩,⟨4,[2],[],false⟩,⟨3,[2],[],false⟩,⟨2,[1],[],false⟩,⟨1,[1],[],false⟩,⟨0,[],[],false⟩] ?_ ?_ rfl ?_,?_⟩
     ·clear I0 I1 Ic Iq ca ci c0 cl;generalize List.length s=m at h1q hcq hqq ⊢;simp;omega
     ·intro o ho;simp at ho;omega
     ·show pz 5 _ _;unfold pz;rfl
     refine⟨(j+1,?s6,.kP (s.length+1+1) 0 1),?m6,⟨⟨?a6,?b6,?c6,?d6,?f6⟩,.inr ⟨s.length+1+1,?g6,?h6⟩⟩,?e6⟩
     case e6=>dsimp only;(refine jW ?_;exact qw)
     case m6=>dsimp only;omega
     case a6=>dsimp only;omega
     case b6=>exact(show jH _ 0=jH s 0 by exact AV).trans I0
     case c6=>exact(show jH _ 1=jH s 1 by exact AV).trans I1
     case d6=>exact(show jH _ cN=jH s cN by exact AV).trans Ic
     case f6=>dsimp only;rw [ha];exact(show jH _ qc=jH s qc by exact AV).trans Iq
     case g6=>dsimp only;rw [en];simp
     case h6 =>
      dsimp only;rw [en];simp (disch:=first|omega|(simp only [aJ,aW,aj,au];omega)) only [LK];simp [QC]
    have ayt:=kK hm2;have n1:m2≠1:=fun e=>by rw [e,I1]at hm2;cases hm2
    have n2:m2≠cN:=fun e=>by rw [e,Ic]at hm2;cases hm2
    have n3:m2≠qc:=fun e=>by rw [e,Iq]at hm2;cases hm2
    have n0:m2≠0:=fun e=>by rw [e,I0]at hm2;cases hm2
    refine Df @hc5 @hg2 (ah I1 Iq) (ah jT kM) @hm2 ?_;refine jy cm ?_;refine vW (ah I1 Iq) (ah jT kM) @hm2 ?_;refine jy cd ?_;refine vW (ah I1 Iq) (ah jT kM) @hm2 ?_;refine jy cx ?_;refine vW (ah I1 Iq) (ah jT kM) @hm2 ?_;refine jy cy ?_;refine vW (ah I1 Iq) (ah jT kM) @hm2 ?_;refine⟨by omega,O4 [1,qc,s.length,s.length+1,s.length+1+1,m2] [⟨25,[],[],false⟩,⟨24,[5,3],[5,4],false⟩,⟨23,[],[3],false⟩,⟨22,[],[],false⟩,⟨21,[],[],false⟩,⟨20,[2],[],false⟩,⟨19,[2],[],false⟩,⟨18,[1],[],false⟩,⟨17,[1],[],false⟩,⟨16,[],[],false⟩,⟨15,[2],[],false⟩,⟨14,[2],[],false⟩,⟨13,[1],[],false⟩,⟨12,[1],[],false⟩,⟨11,[],[],false⟩,⟨10,[0],[],false⟩,⟨9,[],[],false⟩,⟨8,[2],[],false⟩,⟨7,[2],[],false⟩,⟨6,[1],[],false⟩,⟨5,[1],[],false⟩,⟨4,[2],[],false⟩,⟨3,[2],[],false⟩,⟨2,[1],[],false⟩,⟨1,[1],[],false⟩,⟨0,[],[],false⟩] ?_ ?_ rfl ?_,?_⟩
    ·clear I0 I1 Ic Iq ca ci c0 cl hm2;generalize List.length s=m at h1q hcq hqq ayt ⊢;simp;omega
    ·intro o ho;simp at ho;omega
    ·show pz 6 _ _;unfold pz;rfl
    refine⟨(j+1,?s7,.kP (s.length+1+1) 0 (Ms.length+1)),?m7,⟨⟨?a7,?b7,?c7,?d7,?f7⟩,.inr ⟨s.length+1+1,?g7,?h7⟩⟩,?e7⟩
    case e7=>dsimp only;(refine jW ?_;exact qw)
    case m7=>dsimp only;omega
    case a7=>dsimp only;omega
    case b7=>exact(show jH _ 0=jH s 0 by exact AV).trans I0
    case c7=>exact(show jH _ 1=jH s 1 by exact AV).trans I1
    case d7=>exact(show jH _ cN=jH s cN by exact AV).trans Ic
    case f7=>dsimp only;rw [ha];exact(show jH _ qc=jH s qc by exact AV).trans Iq
    case g7=>dsimp only;rw [en];simp
    case h7 =>
     dsimp only;rw [en];simp (disch:=first|omega|(simp only [aJ,aW,aj,au];omega)) only [LK];simp [QC]
   have hjn:j=A.length-(i+1):=by omega
   have hL2:LnA s mv (qR A (i+1)):=by
    rw [hjn]at hL;exact hL
   refine qj @hc5 ?_;by_cases hi1:i+1<A.length
   ·refine⟨(i+1,s,mv),by dsimp only;omega,⟨⟨by dsimp only;omega,I0,I1,Ic⟩,fun _=>hL2,fun e=>absurd e (by dsimp only;omega)⟩,?_⟩;dsimp only
    (refine jW ?_;exact qw)
   have hin:i+1=A.length:=by omega
   have hms:qR A (i+1)=Oh A:=by unfold Oh;rw [hin]
   rw [hms]at hL2;refine⟨(i+1,BZ s cN ⟨5,[(qg v A).cells]⟩ [0,1],kY (Oh A)),by dsimp only;omega,⟨⟨by dsimp only;omega,Xa I0 (by omega) (by simp),Xa I1 (by omega) (by simp),aqW Ic⟩,fun e=>absurd e (by dsimp only;omega),fun _=>rfl⟩,?_⟩;dsimp only;refine auH hc2 I0 I1 Ic ?_;intro W hW w0 w1 wc;refine ew ?_;exact⟨nP w0 (by omega),nP w1 (by omega),nP wc (by omega),hW _ _ hL2,by omega⟩
  have hin:i=A.length:=by omega
  have hmv:=hE hin;subst hin;subst hmv;have wcd:(qg v A).wf:=by
   rw [hC];exact⟨mP hX,by simp;omega,fun x hx=>by
    obtain⟨a,ha,rfl⟩:=bM.1 hx;have:=hok a ha;exact⟨mP (MC _ _),mP this.2.1,mP this.2.2.1⟩⟩
  have hml:=LC A A.length;have Xn:A.length*A.length≤100*100:=jK (by omega) (by omega);have wms:Bg Lk.wf (Oh A):=⟨by show (qR A A.length).length≤_;omega,fun x hx=>by
   have:=aiF x hx;exact⟨mP this.1,mP this.2.1,mP this.2.2⟩⟩
  have cv:=yS h.pO (c:=qg v A) wcd;have cs:=vO h.lZ (l:=Oh A) wms;refine uh @hc4 (ah I0 (ah I1 Ic)) ?_;refine jy cv ?_
  cases hcd:rD (qg v A)
  ·rw [hcd]at hB;have hB:TS S v=false:=hB;rw [(hF hB).1,(hF hB).2,hB];refine qj @I0 ?_;exact I8 (σ:=[])
  rw [hcd,bU]at hB;rw [aur hcd]at cs;refine qj @I0 ?_;refine jy cs ?_
  cases ha:(Oh A).all qm
  ·rw [ha]at hB;rw [(hF hB).1,(hF hB).2,hB];refine qj @I0 ?_;exact I8 (σ:=[])
  rw [ha]at hB;rw [(hT hB).1,(hT hB).2,hB];refine qj (ah I0 (ah I1 Ic)) ?_;exact aqX (σ:=List.set s 0 (some ⟨5,[(qg v A).cells]⟩))
 have hB:=anJ (S:=S) hv;have hcl:(decide ((1:Int)≤v)&&decide (v≤9))=false:=by
  rcases Int.lt_or_le v 1 with k|k
  ·rw [decide_eq_false (show ¬1≤v by omega)];rfl
  rw [decide_eq_false (show ¬v≤9 by omega)];simp
 rw [hcl]at cl;rw [(aaw hB).1,(aaw hB).2,hB];refine kH (fun x d=>(x == 36&&d == 999)) h.hT ?_;simp only [qB,Lz];refine ew ?_;refine jy ci ?_;refine ew ?_;refine jy cl ?_;refine ew ?_;exact I8 (σ:=[])
def zW:Nat→V→Prop
 |0,_=>False
 |n+1,.sl _ rows=>∀r∈rows,∀c∈r,zW n c
 |n+1,.agg cs=>∀c∈cs,zW n c
 |n+1,.nK cs=>∀c∈cs,zW n c
 |_+1,.oZ _ _=>False
 |_+1,_=>True
theorem zW.le:∀{n:Nat} {v:V},zW n v→nZ n v
 |0,_,h=>h
 |
  n+1,v,h=>by
  cases v with
  |sl k rows=>simp only [zW,nZ]at h ⊢;exact fun r hr c hc=>(h r hr c hc).le
  |agg cs=>simp only [zW,nZ]at h ⊢;exact fun c hc=>(h c hc).le
  |nK cs=>simp only [zW,nZ]at h ⊢;exact fun c hc=>(h c hc).le
  |_=>simp [nZ]
theorem ac6(n:Nat)(q:IntKind)(k:Int):zW (n+1) (.int q k):=by simp [zW]
theorem I9(n:Nat)(b:Bool):zW (n+1) (.bool b):=by simp [zW]
theorem wH(n:Nat)(l:List Int):zW (n+2) (ints l):=by
 simp only [zW];intro r hr c hc;simp only [kF,bM]at hr;obtain⟨x,_,rfl⟩:=hr;simp only [aH,bV,or_false]at hc;subst hc;simp [zW]
theorem anK{n:Nat}{cs:List V}(h:∀c∈cs,zW n c):zW (n+1) (.agg cs):=by simpa only [zW]using h
theorem anL(n:Nat)(x:R):zW (n+3) (kN x):=by
 refine anK ?_;simp only [eH];exact⟨I9 _ _,wH _ _,wH _ _,by simp⟩
theorem anM(n:Nat)(l:List Lk):zW (n+3) (kY l):=by
 simp only [zW];intro r hr c hc;obtain⟨x,_,rfl⟩:=bM.1 hr
 revert c
 simp only [eH];exact⟨ac6 _ _ _,ac6 _ _ _,I9 _ _,wH _ _,wH _ _,I9 _ _,wH _ _,wH _ _,I9 _ _,wH _ _,wH _ _,by simp⟩
theorem aiZ{σ:Store}:∀(n:Nat) {v t:V},resolve σ (n+1) v=some t→zW n t→resolve σ n v=some t
 |0,v,t,_,hd=>by simp [zW]at hd
 |
  n+1,v,t,h,hd=>by
  have ih:=@aiZ σ n;have hl:∀(l l':List V),l.mapM (resolve σ (n+1))=some l'→(∀c∈l',zW n c)→l.mapM (resolve σ n)=some l':=by
   intro l
   induction l with
   |nil=>intro l' h _;exact h
   |
    cons x l ihl =>
    intro l' h hd;rw [bD]at h ⊢
    cases hx:resolve σ (n+1) x with
    |none=>rw [hx]at h;cases h
    |
     some y =>
     rw [hx]at h
     cases hl:l.mapM (resolve σ (n+1))with
     |none=>rw [hl]at h;cases h
     |
      some ys =>
      rw [hl]at h
      cases h
      rw [ih hx (hd y (by simp)),ihl ys hl fun c hc=>hd c (by simp [hc])];rfl
  have hr:∀(l:List (List V)) (l':List (List V)),(l.mapM fun (r:List V)=>r.mapM (resolve σ (n+1)))=some l'→(∀r∈l',∀c∈r,zW n c)→(l.mapM fun (r:List V)=>r.mapM (resolve σ n))=some l':=by
   intro l
   induction l with
   |nil=>intro l' h _;exact h
   |
    cons x l ihl =>
    intro l' h hd;rw [bD]at h ⊢
    cases hx:x.mapM (resolve σ (n+1))with
    |none=>rw [hx]at h;cases h
    |
     some y =>
     rw [hx]at h
     cases hl':l.mapM fun (r:List V)=>r.mapM (resolve σ (n+1))with
     |none=>rw [hl']at h;cases h
     |
      some ys =>
      rw [hl']at h
      cases h
      rw [hl x y hx (hd y (by simp)),ihl ys hl' fun c hc=>hd c (by simp [hc])];rfl
  cases v with
  |
   kP o s l =>
   simp only [resolve]at h ⊢
   cases ho:jH σ o with
   |none=>rw [ho]at h;cases h
   |
    some ob =>
    rw [ho]at h;dsimp only at h ⊢;split at h
    ·rename_i hle;rw [if_pos hle];obtain⟨rows,h1,rfl⟩:=aI.1 h;rw [hr _ _ h1 (by simpa only [zW]using hd)];rfl
    cases h
  |
   ptr o r off =>
   simp only [resolve]at h ⊢
   cases ho:jH σ o with
   |none=>rw [ho]at h;cases h
   |
    some ob =>
    rw [ho]at h;dsimp only at h ⊢
    cases hro:ob.rows[r]? with
    |none=>rw [hro]at h;cases h
    |
     some row =>
     rw [hro]at h;dsimp only at h ⊢;obtain⟨rows,h1,rfl⟩:=aI.1 h;simp [zW]at hd
  |
   agg cs =>
   simp only [resolve]at h ⊢;obtain⟨rows,h1,rfl⟩:=aI.1 h;rw [hl _ _ h1 (by simpa only [zW]using hd)];rfl
  |
   nK cs =>
   simp only [resolve]at h ⊢;obtain⟨rows,h1,rfl⟩:=aI.1 h;rw [hl _ _ h1 (by simpa only [zW]using hd)];rfl
  |_=>simpa only [resolve]using h
theorem ai0{σ:Store}:∀{ts:List (Bool×V)} {vs:List V} {os:List Nat},XL σ vs ts os→(∀p∈ts,zW 11 p.2)→vs.mapM (resolve σ 11)=some (ts.map (·.2))
 |
  [],vs,os,h,_=>by
  simp only [XL]at h;obtain⟨rfl,rfl⟩:=h;rfl
 |
  (b,t)::ts,vs,os,h,hd=>by
  simp only [XL]at h;obtain⟨v,vs',o1,o2,rfl,rfl,h1,h2⟩:=h;have e2:=ai0 h2 fun p hp=>hd p (by simp [hp]);have hdt:zW 11 t:=hd (b,t) (by simp);have e1:resolve σ 11 v=some t:=by
   cases b with
   |true=>exact OL 11 (by simpa using h1) hdt.le
   |
    false =>
    have h1:resolve σ FD v=some t∧o1=[]:=by simpa using h1
    exact aiZ 11 h1.1 hdt
  rw [bD,e1,e2];rfl
theorem PX.frz{T:Tb}{f:Nat}{args:List V}{ts:List (Bool×V)}(h:PX T f args ts)(hd:∀p∈ts,zW 11 p.2):PF T f args (.nK (ts.map (·.2))):=by
 obtain⟨vs,σ',os,h1,h2,h3⟩:=h;refine .frz h1 ?_;show resolve σ' (11+1) _=_;rw [resolve,ai0 h2 hd];rfl
theorem ac7{T:Tb}(h:Fz T){l:List Lk}(hw:Bg Lk.wf l:=by exact lX):PF T 108 [kY l] (.bool (l.all qm)):=by
 refine kQ nR h.hT ?_;simp only [y9,Lz];refine ev ?_;refine kG (fun _ _=>false) (α:=Nat) (fun i=>⟨kX [kY l,.any,.any,.any,.any,kY l,iv (l.length:Nat),iv (i:Nat)],[],0,0,[],[]⟩) (fun i=>i≤l.length∧∀k,k<i→qm (l.getD k default)=true) (fun i=>l.length-i) rfl 0 ?_ ?_ ?_
 ·exact⟨by omega,by intro k hk;omega⟩
 ·(refine jW ?_;exact zX)
 rintro i ⟨hi,hg⟩;have hl1:=hw.1;by_cases hc:(i:Int)<(l.length:Nat)
 ·have hil:i<l.length:=by omega
  have hxw:=Tv hw hil;have hmx:(l.map Lk.cells).getD i []=(l.getD i default).cells:=mg hil;have hmem:=getD_mem (l:=l) hil;have hgs:qm (l.getD i default)=true→∀k,k<i+1→qm (l.getD k default)=true:=fun h k hk=>by
   by_cases e:k=i
   ·subst e;exact h
   exact hg k (by omega)
  generalize l.getD i default=x at hxw hmx hmem hgs;have cl:=KN h.uP hxw
  cases hx:qm x
  ·have ha:l.all qm=false:=jG.2 ⟨x,hmem,by rw [hx];simp⟩;rw [hx]at cl;rw [ha];refine qW @hc @hmx ?_;refine jy cl ?_
   (refine ev ?_;try with_reducible exact True.intro)
  rw [hx]at cl;refine qW @hc @hmx ?_;refine jy cl ?_;refine ev ?_;exact⟨i+1,by omega,⟨by omega,hgs hx⟩,by exact PV⟩
 have hie:i=l.length:=by omega
 have ha:l.all qm=true:=aZ.2 fun x hx=>by
  obtain⟨k,hk⟩:=bF.1 hx;have:=hg k (by have:=(aK.1 hk).1;omega);rw [ak,hk]at this;exact this
 rw [ha]
 (refine ev1 @hc ?_;try with_reducible exact True.intro)
theorem afy{l:List Lk}(h:l.all qm=false):Z7 l=none:=by
 obtain⟨x,hx,hb⟩:=jG.1 h;obtain⟨k,hk⟩:=bF.1 hx;have hkl:=(aK.1 hk).1;have e:l.getD k default=x:=by rw [ak,hk];rfl
 have:UU l (k+1)=none:=by
  simp only [UU]
  cases UU l k with
  |none=>rfl
  |
   some p =>
   dsimp only;rw [e,if_neg];unfold V6;have:qm x=false:=by simpa using hb
   simp [this]
 exact QB this (by omega)
def joT(l:List Lk):List (Bool×V):=[(false,kY (zn l)),(true,kN (V8 l)),(false,.bool (GN l))]
theorem Ep.fr{s S1:Store}{cs ts:List V}{os:List Nat}{L:List (Nat×Obj)}(E:Ep s cs ts os L)(h1:∀o,o<s.length→jH S1 o=jH s o):Ep S1 cs ts os L :=
 ⟨E.c.frame fun o ho=>h1 o (E.c.lt o ho),fun q hq=>⟨(h1 _ (E.lt q hq)).trans (E.l q hq).1,(E.l q hq).2⟩⟩
theorem anN(sz:Nat):EvV (.sl sz []) .jL=True:=eq_true (vI sz)
theorem U4{T:Tb}(h:AA T){l:List Lk}(hw:Bg Lk.wf l)(ha:l.all qm=true)(hl:l.length≤1048576):PX T 109 [kY l] (joT l):=by
 unfold joT;refine Uz (fun x d=>(x == 39&&d == 13)||(x == 131&&d == 29)) h.hT ?_;simp only [Az,Lz,St.enter,aj,au,aN];refine ew ?_;refine kU (uy h.lG (n:=0)) (by (refine ew ?_;try with_reducible exact True.intro)) ?_;intro r q1 o1 G;obtain⟨_,rfl,Zk⟩:=G.ow.kV;obtain⟨x1,x2,rfl⟩:=Zk.rat
 have E:Ep [some ⟨3,[[.bool false,.jL,.jL]]⟩] [] [] [] [(0,⟨3,[[.bool false,.jL,.jL]]⟩)]:=⟨Np,by simp [jH]⟩;have E2:=E.got (s1:=[some ⟨3,[[.bool false,.jL,.jL]]⟩]++[none,none]) (fun q hq=>by first|exact lQ hq|(simp only [bJ];exact lQ hq)) (by simp) Zk G.nd G.fresh G.old;have F0:=E.free (s1:=[some ⟨3,[[.bool false,.jL,.jL]]⟩]++[none,none]) (p:=2) G.fresh (by simp) (by simp);have hq:3≤q1.length:=by simpa using G.len
 clear E G;have E:Ep q1 [.bool (kR 0).neg,x1,x2] [.bool (kR 0).neg,ints (kR 0).mag,ints (kR 0).den] _ [(0,⟨3,[[.bool false,.jL,.jL]]⟩)]:=E2;clear E2
 replace E:=E.EF (p:=2) (ob:=⟨3,[[.bool (kR 0).neg,x1,x2]]⟩) (L':=[(0,⟨3,[[.bool false,.jL,.jL]]⟩),(2,⟨3,[[.bool (kR 0).neg,x1,x2]]⟩)]) F0 (by omega) (by simp)
 have LF:=ah (E.leaf 1 rfl rfl) (E.leaf 2 rfl rfl);refine DF @LF @jT @kM @List.set_set.{0} ?_;clear LF;refine kG (fun x d=>(x == 39&&d == 13)||(x == 131&&d == 29)) (α:=Nat×Store×List Lk×R×V×V×List Nat) (fun q=>⟨kX [kY l,.any,.any,.ptr 0 0 0,.any,kY q.2.2.1,.ptr 2 0 0,.any,.any,.any,.any,.any,.any,.any,kY l,iv (l.length:Nat),iv (q.1:Nat)],q.2.1,0,0,[],[]⟩) (fun q=>(q.1≤l.length∧UU l q.1=some (q.2.2.1,q.2.2.2.1)∧q.2.2.2.1.ok=true)∧Ep q.2.1 [.bool q.2.2.2.1.neg,q.2.2.2.2.1,q.2.2.2.2.2.1] [.bool q.2.2.2.1.neg,ints q.2.2.2.1.mag,ints q.2.2.2.1.den] q.2.2.2.2.2.2 [(0,⟨3,[[.bool false,.jL,.jL]]⟩),(2,⟨3,[[.bool q.2.2.2.1.neg,q.2.2.2.2.1,q.2.2.2.2.2.1]]⟩)]) (fun q=>l.length-q.1) rfl (0,(q1.set 2 (some ⟨3,[[.bool (kR 0).neg,x1,x2]]⟩)),[],kR 0,x1,x2,[]++o1) ?_ ?_ ?_
 ·exact⟨⟨by omega,rfl,show (kR 0).ok=true by decide +kernel⟩,E⟩
 ·dsimp only;rw [show kY []=.sl 11 []from rfl]
  (refine jW ?_)<;>(try (refine qj @anN ?_;try with_reducible exact True.intro))<;>(repeat' (first|refine⟨?_,?_⟩|exact vH (by omega)|exact xH (by simp)|exact vI _))
 clear E;rintro⟨k,s,S,e,x1,x2,os⟩ ⟨⟨hk,hf,he⟩,E⟩;dsimp only at hk hf he E;obtain⟨i1,i2,i3,i4⟩:=acO hf;dsimp only at i1 i2 i3 i4;have L0:=E.at0 (p:=0) (ob:=⟨3,[[.bool false,.jL,.jL]]⟩) (by simp);have L1:=E.at0 (p:=2) (ob:=⟨3,[[.bool e.neg,x1,x2]]⟩) (by simp);have LFx:=ah (E.leaf 1 rfl rfl) (E.leaf 2 rfl rfl);by_cases hc:(k:Int)<(l.length:Nat)
 ·have hkl:k<l.length:=by omega
  have hxw:=Tv hw hkl;have hxo:qm (l.getD k default)=true:=aZ.1 ha _ (getD_mem hkl);have hs:UU l (k+1)=if V6 S (l.getD k default)=true then some (adV S (l.getD k default),pI e (adE S (l.getD k default)))else none:=by simp only [UU,hf]
  have hmx:(l.map Lk.cells).getD k []=(l.getD k default).cells:=mg hkl;have hbad:UU l (k+1)=none→Z7 l=none:=fun h=>QB h (by omega);have hbd2:∀p,UU l (k+1)=some p→p.2.ok=false→Z7 l=none:=fun p h h2=>ahu h h2 (by omega);generalize l.getD k default=x at hs hxw hxo hmx;have ca:=(ahr h.Zq (S:=S) (l:=x) (Wh i3 i4) i1 hxo (by omega)).frz (by
   intro p hp;simp only [adT,aH,bV,or_false]at hp;rcases hp with rfl|rfl|rfl
   ·exact anM _ _
   ·exact anL _ _
   exact I9 _ _)
  have hac:=ahs S x;obtain⟨g1,g2,g3⟩:=XW i1 hxo;simp only [adT,bC,fZ]at ca;rw [←g1,←g2,←g3]at ca;clear g1 g2 g3;generalize hS':adV S x=S' at hs ca hac;generalize he':adE S x=e' at hs ca hac;generalize ho:V6 S x=ok at hs ca;refine uh @hc @hmx ?_;refine jy ca ?_;have hp2:¬(s.length+1=s.length):=by omega
  refine Df @L0 @L1 @LFx @jT @kM ?_;obtain⟨S1,hS1⟩:∃S1,(List.set (s++[some ⟨11,[x.cells]⟩]++[none]) (s.length+1) (some ⟨3,[[.bool false,.jL,.jL]]⟩)).set (s.length+1) (some ⟨3,[e'.cells]⟩)=S1:=⟨_,rfl⟩;have h1:∀o,o<s.length→jH S1 o=jH s o:=fun o ho=>by
   rw [←hS1,jV (by omega),jV (by omega),bJ,lQ ho]
  have hl1:S1.length=s.length+2:=by rw [←hS1];simp
  rw [hS1];clear hS1;have E1:=E.fr h1;have R:=ah (E1.res1 1 rfl rfl (jS _ _)) (E1.res1 2 rfl rfl (jS _ _));refine kU (Gv h.lC i2 hac.2.1) (by (refine vW @R @jT @kM ?_;try with_reducible exact True.intro)) ?_;intro r q2 o2 G;have gl:s.length+2≤q2.length:=by have:=G.len;omega
  obtain⟨_,rfl,hQ⟩:=G.ow.kV;obtain⟨y1,y2,rfl⟩:=hQ.rat
  have F1:2∉o2:=fun hm=>by have h1:=G.fresh 2 hm;have:=L1.2;omega
  have E2:=E1.renew (fun q hq=>rfl) (aP _) hQ G.nd G.fresh G.old;have auI:=vK e e';have hbd2:=fun (hs:UU l (k+1)=some (S',pI e e'))=>hbd2 (S',pI e e') hs;dsimp only at hbd2;generalize pI e e'=e2 at *;have LF:=ah (E2.leaf 1 rfl rfl) (E2.leaf 2 rfl rfl);have M0:=E2.at0 (p:=0) (ob:=⟨3,[[.bool false,.jL,.jL]]⟩) (by simp);have M1:=E2.at0 (p:=2) (ob:=⟨3,[[.bool e.neg,x1,x2]]⟩) (by simp);refine Df @LF @M0 @M1 @jT @kM ?_;have E3:=E2.EF (p:=2) (ob:=⟨3,[[.bool e2.neg,y1,y2]]⟩) (L':=[(0,⟨3,[[.bool false,.jL,.jL]]⟩),(2,⟨3,[[.bool e2.neg,y1,y2]]⟩)]) F1 M1.2 (by simp);generalize hq3:q2.set 2 (some ⟨3,[[.bool e2.neg,y1,y2]]⟩)=q3 at *;have N0:=E3.at0 (p:=0) (ob:=⟨3,[[.bool false,.jL,.jL]]⟩) (by simp);have N1:=E3.at0 (p:=2) (ob:=⟨3,[[.bool e2.neg,y1,y2]]⟩) (by simp);have R3:=ah (E3.res1 1 rfl rfl (jS _ _)) (E3.res1 2 rfl rfl (jS _ _))
  cases ok
  ·obtain⟨e1,e2,e3⟩:=BX (hbad (by rw [hs];rfl));rw [e1,e2,e3];refine Df @N0 @N1 @LF @jT @kM ?_;exact .inl acL
  have cg:=J3 h.kL auI;refine zK @N0 @N1 @LF @R3 @jT @kM ?_;refine jy cg ?_
  cases hb:e2.ok
  ·obtain⟨e1,e2,e3⟩:=BX (hbd2 (by rw [hs];rfl) hb);rw [e1,e2,e3];refine Df @N0 @N1 @LF @jT @kM ?_;exact .inl acL
  refine Df @N0 @N1 @LF @jT @kM ?_;refine⟨(k+1,q3,S',e2,y1,y2,o2),by dsimp only;omega,⟨⟨by dsimp only;omega,by dsimp only;rw [hs];rfl,hb⟩,E3⟩,?_⟩;dsimp only
  (refine jW ?_;exact qw)
 have hie:k=l.length:=by omega
 have hg:Z7 l=some (S,e):=by unfold Z7;rw [←hie,hf];exact if_pos he
 have e1:zn l=S:=by unfold zn;rw [hg];rfl
 have e2:V8 l=e:=by unfold V8;rw [hg];rfl
 have e3:GN l=true:=by unfold GN;rw [hg];rfl
 rw [e1,e2,e3];refine zK @hc @L0 @L1 @LFx @jT @kM ?_;refine⟨by unfold pz;rfl,.inl (abu rfl ?_ E.c.nd)⟩;have n0:=(E.l (0,⟨3,[[.bool false,.jL,.jL]]⟩) (by simp)).2;exact nN (E.c.set (o:=0) (x:=some ⟨3,[[.bool e.neg,x1,x2]]⟩) n0).ow
theorem aaB{T:Tb}(h:GK T){l:List Lk}(hw:Bg Lk.wf l)(hl:l.length≤1048576):PO T 88 [kY l] (.nK [kY (zn l),kN (V8 l),.bool (GN l)]):=by
 have c1:=ac7 h.UR hw
 cases h1:l.all qm
 ·obtain⟨e1,e2,e3⟩:=BX (afy h1);rw [e1,e2,e3];rw [h1]at c1;refine kW (fun x d=>x == 109||x == 110) h.hT ?_;simp only [xq,Lz,St.enter,aj,au,aN];refine ew ?_;refine jy c1 ?_;refine ew ?_;exact aiC
 have px:=U4 h.GL hw h1 hl;have hcn:=V9 (l:=l);have cz:=Tz hcn.1 hcn.2.2.1;unfold joT at px;rw [h1]at c1;have hb:GN l=false→zn l=[]∧V8 l=R0:=fun hh=>by
  have:Z7 l=none:=by unfold GN at hh;cases hg:Z7 l with|none=>rfl|some p=>rw [hg]at hh;cases hh
  exact⟨(BX this).1,(BX this).2.1⟩
 clear hcn;generalize zn l=L at *;generalize V8 l=ee at *;generalize GN l=b at *;have po:=acC h.V7 (l:=L) (by omega);refine kW (fun x d=>x == 109||x == 110) h.hT ?_;simp only [xq,Lz,St.enter,aj,au,aN];refine ew ?_;refine jy c1 ?_;refine ew ?_;refine VR px (by (refine ew ?_;try with_reducible exact True.intro)) (by (refine ew ?_;try with_reducible exact True.intro)) ?_;intro vs q os g;obtain⟨w,v,z,rfl,hw1,hz1,G⟩:=g.fo;obtain rfl:=ED hz1;obtain⟨_,rfl,hQ⟩:=G.ow.kV;obtain⟨y1,y2,rfl⟩:=hQ.rat
 have lw:=Ji hw1;have gl:2≤q.length:=by have:=G.len;simp at this;omega
 have ho1:=(G.old 0 (by simp)).trans rfl;have ho2:=(G.old 1 (by simp)).trans rfl;have E:Ep q [.bool ee.neg,y1,y2] [.bool ee.neg,ints ee.mag,ints ee.den] os []:=⟨⟨hQ,G.nd⟩,by simp⟩;have LF:=ah lw (ah (E.leaf 1 rfl rfl) (E.leaf 2 rfl rfl));refine vW @LF @ho1 @ho2 ?_
 cases b
 ·obtain⟨rfl,rfl⟩:=hb rfl;refine qj @ho1 ?_;exact aiC
 refine qj @LF ?_;have aDC:jH q 1=none:=ho2;have hmono:∀x y o ob,jH q o=some ob→jH ((q.set 1 x).set 1 y) o=some ob:=fun x y o ob ho=>by
  have hne:o≠1:=fun e=>by rw [e,aDC]at ho;cases ho
  rw [jV hne,jV hne];exact ho
 have n1:0∉os:=fun hm=>by have:=G.fresh 0 hm;simp at this
 have n2:1∉os:=fun hm=>by have:=G.fresh 1 hm;simp at this
 have hw2:=afa (hmono (some ⟨3,[[.bool false,.jL,.jL]]⟩) (some ⟨3,[[.bool ee.neg,y1,y2]]⟩)) _ _ _ hw1;refine Y1 po (by (refine qj @hw2 ?_;try with_reducible exact True.intro)) ?_;intro r q2 os2 g;generalize nO _ _ _=R;have lr:=g.ow.leaf rfl;have gl2:2≤q2.length:=by have:=g.len;simp at this;omega
 have o1:jH q2 0=some ⟨3,[[.bool false,.jL,.jL]]⟩:=(g.old 0 (by simp;omega)).trans (by rw [jV (by decide),jV (by decide)];exact ho1);have o2:jH q2 1=some ⟨3,[[.bool ee.neg,y1,y2]]⟩:=(g.old 1 (by simp;omega)).trans (by rw [kT (by simp;omega)]);refine DF @LF @lr @o1 @o2 ?_;refine⟨?_,?_⟩
 ·refine uS (L':=2) gl ?_;unfold pz;rfl
 have C2:Cs q2 [.bool ee.neg,y1,y2] [.bool ee.neg,ints ee.mag,ints ee.den] os:=E.c.frame fun o ho=>by
  have h1:=hQ.lt o ho;have h2:=G.fresh o ho;simp at h2;rw [g.old o (by simpa using h1),jV (by omega),jV (by omega)]
 have n12:0∉os2:=fun hm=>by have:=g.fresh 0 hm;simp at this;subst this;simp at gl
 have hnd:(os2++os).Nodup:=by
  refine bg.2 ⟨g.nd,G.nd,fun a ha b hb e=>?_⟩;have h1:=hQ.lt b hb;have h2:=g.fresh a ha;simp at h2;omega
 refine rE (os:=os2++os) (IE (oC (g.ow.frame fun o ho=>jV fun e=>n12 (e▸ho)) ?_)) hnd;have:=oC (nN (C2.set (o:=0) (x:=some ⟨3,[[.bool ee.neg,y1,y2]]⟩) n1).ow) (nS (b:=true) nM)
 rwa [aQ]at this
def LnB(σ s:Store)(r:V)(M:List Lk):Prop :=
 ((r=.jL∧M=[])∨∃p,σ.length≤p∧r=.kP p 0 M.length∧jH s p=some ⟨11,M.map Lk.cells⟩)∧(∀o,o<σ.length→jH s o=jH σ o)∧σ.length≤s.length
theorem LnB.snoc{σ s:Store}{r:V}{M:List Lk}{x:Option Obj}(h:LnB σ s r M):LnB σ (s++[x]) r M:=by
 obtain⟨h1,h2,h3⟩:=h;refine⟨?_,fun o ho=>(kJ (by omega)).trans (h2 o ho),by simp;omega⟩;rcases h1 with h1|⟨p,a,b,c⟩
 ·exact .inl h1
 exact .inr ⟨p,a,b,(kJ (kK c)).trans c⟩
theorem LnB.new{σ s s':Store}{M:List Lk}{q n:Nat}(h2:∀o,o<σ.length→jH s o=jH σ o)(h3:σ.length≤s.length)(hq:σ.length≤q)(ho:∀o,o<σ.length→jH s' o=jH s o)(hl:s.length≤s'.length)(hn:n=M.length)
  (hm:jH s' q=some ⟨11,M.map Lk.cells⟩):LnB σ s' (.kP q 0 n) M :=
 ⟨.inr ⟨q,hq,by rw [hn],hm⟩,fun o h=>(ho o h).trans (h2 o h),by omega⟩
theorem ZI{T:Tb}(h:DK T){σ:Store}{l:List Lk}{v:Int}(hl:l.length≤1048576):∃r σ',Run T (.fn 241 [kY l,iv v] σ) (.fn r σ')∧LnB σ σ' r (l.filter (woP v)):=by
 rw [←am3];refine run_end nR h.hT ?_;simp only [xW,Lz,St.enter,aj,au,aN];refine ew ?_;refine kG (fun _ _=>false) (α:=Nat×Store×V) (fun q=>⟨kX [.any,iv v,.any,.any,.jL,q.2.2,.any,.any,.any,kY l,iv (l.length:Nat),iv (q.1:Nat)],q.2.1,σ.length,0,[],[]⟩) (fun q=>q.1≤l.length∧LnB σ q.2.1 q.2.2 (wo l v q.1)) (fun q=>l.length-q.1) rfl (0,σ++[none],.jL) ?_ ?_ ?_
 ·exact⟨by omega,.inl ⟨rfl,ayl l v⟩,fun o ho=>kJ ho,by simp⟩
 ·(refine jW ?_;exact qw)
 rintro⟨i,s,r⟩ ⟨hi,hL,hso,hsl⟩;dsimp only at hi hL hso hsl;have hx:(wo l v i).length≤1048576:=by have:=am4 l v i;omega
 by_cases hc:(i:Int)<(l.length:Nat)
 ·have hil:i<l.length:=by omega
  have es:=aym l v hil;generalize wo l v i=M at *;obtain⟨M',e'⟩:∃M',M'=wo l v (i+1):=⟨_,rfl⟩;rw [←e']at es;unfold woP at es;obtain⟨y,hy⟩:∃y,l.getD i default=y:=⟨_,rfl⟩;rw [hy]at es;by_cases ha:y.a=v
  ·rw [decide_eq_false (by simp [ha]),dG,if_neg (by simp),aQ]at es;subst es;refine DF @hc @mg @hy @ha ?_;exact⟨(i+1,s++[some ⟨11,[y.cells]⟩],r),by dsimp only;omega,⟨by dsimp only;omega,by dsimp only;rw [←e'];exact LnB.snoc ⟨hL,hso,hsl⟩⟩,by (refine jW ?_;exact qw)⟩
  by_cases hb:y.b=v
  ·rw [decide_eq_false (by simp [hb]:¬y.b≠v),ku,if_neg (by simp),aQ]at es;subst es;refine Df @hc @mg @hy @ha @hb ?_;exact⟨(i+1,s++[some ⟨11,[y.cells]⟩],r),by dsimp only;omega,⟨by dsimp only;omega,by dsimp only;rw [←e'];exact LnB.snoc ⟨hL,hso,hsl⟩⟩,by (refine jW ?_;exact qw)⟩
  rw [decide_eq_true ha,decide_eq_true hb,if_pos (by rfl)]at es;subst es;rcases hL with ⟨rfl,rfl⟩|⟨p,hp,rfl,hm⟩
  ·refine Df @hc @mg @hy @ha @hb ?_;refine⟨by omega,(i+1,?st,.kP (s.length+1+1) 0 1),by dsimp only;omega,⟨by dsimp only;omega,?lt⟩,?ft⟩
   case ft=>(refine jW ?_;exact qw)
   case lt =>
    dsimp only;rw [←e'];refine LnB.new (s:=s) hso hsl (by omega) (fun o ho=>?_) ?_ rfl ?_
    ·exact AV
    ·simp
    simp (disch:=first|omega|(simp only [aJ,aW,aj,au];omega)) only [LK];rfl
  have hpl:=kK hm;refine zK @hc @mg @hy @ha @hb @hm ?_;refine⟨⟨by omega,by omega⟩,(i+1,?ss,.kP (s.length+1+1) 0 (M.length+1)),by dsimp only;omega,⟨by dsimp only;omega,?ll⟩,?ff⟩
  case ff=>(refine jW ?_;exact qw)
  case ll =>
   dsimp only;rw [←e'];refine LnB.new (s:=s) hso hsl (by omega) (fun o ho=>?_) ?_ (by simp) ?_
   ·have hop:o≠p:=by omega
    exact AV
   ·simp;omega
   simp (disch:=first|omega|(simp only [aJ,aW,aj,au];omega)) only [LK];simp
 have hie:i=l.length:=by omega
 subst hie;refine qj @hc ?_;exact⟨hL,hso,hsl⟩
theorem Xo{T:Tb}(h:DJ T){σ:Store}{l:List Lk}{v:Int}(hb:lH l=true)(hw:Bg Lk.wf l)(hz:Dy Lk.sz l≤1048576):∃r σ',Run T (.fn 227 [kY l,iv v] σ) (.fn r σ')∧LnB σ σ' r (l.filter (woP v)):=by
 have hl:l.length≤1048576:=by have:=vY Lk.sz l;omega
 have ci:=vO h.lZ hw;rw [hb]at ci;clear hb;rw [←am3];refine run_end nR h.hT ?_;simp only [xU,Lz,St.enter,aj,au,aN];refine ew ?_;refine jy ci ?_;refine ew ?_;refine kG (fun _ _=>false) (α:=Nat×Store×V) (fun q=>⟨kX [.any,iv v,.any,.any,.jL,q.2.2,.any,.any,.any,.any,.any,.any,kY l,iv (l.length:Nat),iv (q.1:Nat)],q.2.1,σ.length,0,[],[]⟩) (fun q=>q.1≤l.length∧LnB σ q.2.1 q.2.2 (wo l v q.1)) (fun q=>l.length-q.1) rfl (0,σ++[none],.jL) ?_ ?_ ?_
 ·exact⟨by omega,.inl ⟨rfl,ayl l v⟩,fun o ho=>kJ ho,by simp⟩
 ·(refine jW ?_;exact qw)
 rintro⟨i,s,r⟩ ⟨hi,hL,hso,hsl⟩;dsimp only at hi hL hso hsl;have hx:(wo l v i).length≤1048576:=by have:=am4 l v i;omega
 by_cases hc:(i:Int)<(l.length:Nat)
 ·have hil:i<l.length:=by omega
  have es:=aym l v hil;generalize wo l v i=M at *;obtain⟨M',e'⟩:∃M',M'=wo l v (i+1):=⟨_,rfl⟩;rw [←e']at es;unfold woP at es;have hys:=KY (f:=Lk.sz) hz (getD_mem hil);obtain⟨y,hy⟩:∃y,l.getD i default=y:=⟨_,rfl⟩;rw [hy]at es hys;have cc:=Kw h.qJ hys;by_cases ha:y.a=v
  ·rw [decide_eq_false (by simp [ha]),dG,if_neg (by simp),aQ]at es;subst es;refine DF @hc @mg @hy @ha ?_;exact⟨(i+1,s++[some ⟨11,[y.cells]⟩],r),by dsimp only;omega,⟨by dsimp only;omega,by dsimp only;rw [←e'];exact LnB.snoc ⟨hL,hso,hsl⟩⟩,by (refine jW ?_;exact qw)⟩
  by_cases hb:y.b=v
  ·rw [decide_eq_false (by simp [hb]:¬y.b≠v),ku,if_neg (by simp),aQ]at es;subst es;refine Df @hc @mg @hy @ha @hb ?_;exact⟨(i+1,s++[some ⟨11,[y.cells]⟩],r),by dsimp only;omega,⟨by dsimp only;omega,by dsimp only;rw [←e'];exact LnB.snoc ⟨hL,hso,hsl⟩⟩,by (refine jW ?_;exact qw)⟩
  rw [decide_eq_true ha,decide_eq_true hb,if_pos (by rfl)]at es;subst es;rcases hL with ⟨rfl,rfl⟩|⟨p,hp,rfl,hm⟩
  ·refine Df @hc @mg @hy @ha @hb ?_;refine jy cc ?_;refine ew ?_;refine⟨by omega,(i+1,?st,.kP (s.length+1+1) 0 1),by dsimp only;omega,⟨by dsimp only;omega,?lt⟩,?ft⟩
   case ft=>(refine jW ?_;exact qw)
   case lt =>
    dsimp only;rw [←e'];refine LnB.new (s:=s) hso hsl (by omega) (fun o ho=>?_) ?_ rfl ?_
    ·exact AV
    ·simp
    simp (disch:=first|omega|(simp only [aJ,aW,aj,au];omega)) only [LK];rfl
  have hpl:=kK hm;refine zK @hc @mg @hy @ha @hb @hm ?_;refine jy cc ?_;refine qj @hm ?_;refine⟨⟨by omega,by omega⟩,(i+1,?ss,.kP (s.length+1+1) 0 (M.length+1)),by dsimp only;omega,⟨by dsimp only;omega,?ll⟩,?ff⟩
  case ff=>(refine jW ?_;exact qw)
  case ll =>
   dsimp only;rw [←e'];refine LnB.new (s:=s) hso hsl (by omega) (fun o ho=>?_) ?_ (by simp) ?_
   ·have hop:o≠p:=by omega
    exact AV
   ·simp;omega
   simp (disch:=first|omega|(simp only [aJ,aW,aj,au];omega)) only [LK];simp
 have hie:i=l.length:=by omega
 subst hie;refine qj @hc ?_;exact⟨hL,hso,hsl⟩
theorem aqY{n:Nat}{f:Nat→Option Nat}{rows:List (List V)}(h:l7 rows):qK f ⟨n,rows⟩=⟨n,rows⟩:=by
 unfold qK
 congr 1
 have:∀r∈rows,r.map (lD f)=r:=fun r hr=>by
  conv=>rhs;rw [←List.map_id r]
  apply fE
  intro v hv;exact Zm (h r hr v hv)
 conv=>rhs;rw [←List.map_id rows]
 apply fE
 intro r hr;exact this r hr
theorem afz{T:Tb}{f:Nat}{as:List Src}{dst:Option Nat}{env:Nat→V}{σ:Store}{kp bs:Nat}{rs ms:List Nat}{k:St→Prop}{as':List V}{M:List Lk}
  (h:∃r s1,Run T (.fn f as' []) (.fn r s1)∧LnB [] s1 r M) (ha:NM env σ as (· = as')) (hr:nO env σ as=[]) (hk:∀r σ2,LnB σ σ2 r M→k ⟨oL env dst r,σ2,kp,bs,rs,ms⟩):Ro T f as dst ⟨env,σ,kp,bs,rs,ms⟩ k:=by
 obtain⟨r,s1,h,hL,_,_⟩:=h;refine Rj h ha hr (hk _ _ ⟨?_,fun o ho=>by rw [pR,if_pos ho],by unfold zo;simp⟩);rcases hL with ⟨rfl,rfl⟩|⟨p,_,rfl,hm⟩
 ·exact .inl ⟨rfl,rfl⟩
 refine .inr ⟨σ.length+p,by omega,rfl,?_⟩;rw [pR,if_neg (by omega),show σ.length+p-σ.length=p by omega,hm];show some (qK _ _)=_;rw [aqY (DV M)]
theorem ac9{σ:Store}{c:Cd}{jv:List Lk}{je:R}{t:V}(jz:lW t (.nK [TQ c,kY jv,kN je,.bool true])):nY (resolve σ FD (tX [.agg c.cells,kY jv,.agg je.cells,.bool true])) (lW t):=by
 have e1:resolve σ 11 (.agg c.cells)=some (TQ c):=by
  show (c.cells.mapM (resolve σ (9+1))).map _=_;rw [zy (RG [c] _ (by simp))];rfl
 have e2:resolve σ 11 (kY jv)=some (kY jv):=rfl;have e3:=Zr σ je;show nY (Option.map V.nK (List.mapM (resolve σ 11) [.agg c.cells,kY jv,.agg je.cells,.bool true])) (lW t);rw [bD,e1,bD,e2,bD,e3];exact jz
def vT:Fn:=⟨2,42,[.cell 4 5 true,.tmp 5,.cell 6 3 true,.tmp 7],(.seq (rf 2 [oN 4 (.alloc QW),oK 5 2 mN,oK 6 1 (.alloc qL),oK 7 2 mF]) (.seq (rf 1 [oK 15 1 (oV 0),oK 16 1 (oV 1),oK 17 1 (cl 389 [15,16]),oK 14 1 (oV 17),oK 18 1 (ex 0 14),oK 19 1 (ex 1 14),oK 20 1 (ex 2 14),oN 8 (.alloc QW),⟨none,none,1,.store 5 (.t 8) (.t 18),[]⟩,oK 9 1 (oV 19),oK 10 1 (oV 20)]) (.seq (sr [oW 21 10,oN 22 (nt 21)] (cd 22 (sr [oN 23 (.build QW []),oN 24 (.build qL []),oS (.store 5 (.t 4) (.t 23)),oN 5 mN,oS (.store 3 (.t 6) (.t 24)),oN 7 mF] .ret) .skip)) (.seq (rf 2 [oK 26 2 (oV 0),oK 27 2 (oV 1),oK 28 2 (cl 227 [26,27]),oK 29 2 (oV 9),oN 30 (.app 11 184 (.t 28) (.t 29)),oK 31 2 (cl 179 [30]),oK 25 2 (oV 31),oK 32 2 (ex 0 25),oK 33 2 (ex 1 25),oK 34 2 (ex 2 25),oK 12 1 (.alloc qL),oK 11 2 (oV 32),⟨none,none,2,.store 3 (.t 12) (.t 33),[]⟩,oK 13 2 (oV 34)]) (.seq (sr [oW 35 13,oN 36 (nt 35)] (cd 36 (sr [oN 37 (.build QW []),oN 38 (.build qL []),oS (.store 5 (.t 4) (.t 37)),oN 5 mN,oS (.store 3 (.t 6) (.t 38)),oN 7 mF] .ret) .skip)) (.seq (rt 0 [oN 39 (lT 5 8),oW 40 11,oN 41 (lT 3 12),⟨none,none,0,.store 5 (.t 4) (.t 39),[0,0]⟩,oA 5 0 (oV 40) [1,3,0,1,3],⟨none,none,0,.store 3 (.t 6) (.t 41),[2,4,0,1,2,3,4]⟩,oA 7 0 mT [5,0,1,2,3,4,5]]) .ret))))))⟩
structure FK (T:Tb):Prop where
 hT:T 392=some vT
 GV:Aw T
 TJ:DJ T
 QG:zV T
def vU:Fn:=⟨2,41,[.cell 4 5 true,.tmp 5,.cell 6 3 true,.tmp 7],(.seq (rf 2 [oN 4 (.alloc QW),oK 5 2 mN,oK 6 1 (.alloc qL),oK 7 2 mF]) (.seq (rf 1 [oK 14 1 (oV 0),oK 15 1 (oV 1),oK 16 1 (cl 182 [14,15]),oK 13 1 (oV 16),oK 17 1 (ex 0 13),oK 18 1 (ex 1 13),oK 19 1 (ex 2 13),oN 8 (.alloc QW),⟨none,none,1,.store 5 (.t 8) (.t 17),[]⟩,oK 9 1 (oV 18),oK 10 1 (oV 19)]) (.seq (sr [oW 20 10,oN 21 (nt 20)] (cd 21 (sr [oN 22 (.build QW []),oN 23 (.build qL []),oS (.store 5 (.t 4) (.t 22)),oN 5 mN,oS (.store 3 (.t 6) (.t 23)),oN 7 mF] .ret) .skip)) (.seq (rf 2 [oK 25 2 (oV 0),oK 26 2 (oV 1),oK 27 2 (cl 241 [25,26]),oK 28 2 (oV 9),oN 29 (.app 11 184 (.t 27) (.t 28)),oK 30 2 (cl 109 [29]),oK 24 2 (oV 30),oK 31 2 (ex 0 24),oK 32 2 (ex 1 24),oK 33 2 (ex 2 24),oK 12 1 (.alloc qL),oK 11 2 (oV 31),⟨none,none,2,.store 3 (.t 12) (.t 32),[]⟩,oK 10 2 (oV 33)]) (.seq (sr [oW 34 10,oN 35 (nt 34)] (cd 35 (sr [oN 36 (.build QW []),oN 37 (.build qL []),oS (.store 5 (.t 4) (.t 36)),oN 5 mN,oS (.store 3 (.t 6) (.t 37)),oN 7 mF] .ret) .skip)) (.seq (rt 0 [oN 38 (lT 5 8),oW 39 11,oN 40 (lT 3 12),⟨none,none,0,.store 5 (.t 4) (.t 38),[0,0]⟩,oA 5 0 (oV 39) [1,3,0,1,3],⟨none,none,0,.store 3 (.t 6) (.t 40),[2,4,0,1,2,3,4]⟩,oA 7 0 mT [5,0,1,2,3,4,5]]) .ret))))))⟩
structure FM (T:Tb):Prop where
 hT:T 274=some vU
 GL:AA T
 QH:zU T
 TK:DK T
def Vh(S:List Lk)(v:Int):List Lk:=S.filter (woP v)++elM S v
def Vj(S:List Lk)(v:Int):Bool:=TS S v&&GN (Vh S v)
def rnC(S:List Lk)(v:Int):Cd:=if Vj S v=true then elC S v else⟨0,R0,[]⟩
def rnM(S:List Lk)(v:Int):List Lk:=if Vj S v=true then zn (Vh S v)else []
def rnE(S:List Lk)(v:Int):R:=if Vj S v=true then V8 (Vh S v)else R0
theorem akB{S:List Lk}{v:Int}(h:Vj S v=true):rnC S v=elC S v∧rnM S v=zn (Vh S v)∧rnE S v=V8 (Vh S v):=by
 unfold rnC rnM rnE;rw [h];exact⟨rfl,rfl,rfl⟩
theorem akC{S:List Lk}{v:Int}(h:Vj S v=false):rnC S v=⟨0,R0,[]⟩∧rnM S v=[]∧rnE S v=R0:=by
 unfold rnC rnM rnE;rw [h];exact⟨rfl,rfl,rfl⟩
theorem aqZ{α:Type}(f:α→Nat)(l m:List α):Dy f (l++m)=Dy f l+Dy f m:=by
 unfold Dy;simp;omega
theorem auJ(S:List Lk)(v:Int):Dy Lk.sz (Vh S v)≤Dy Lk.sz S+20000:=by
 unfold Vh;rw [aqZ];have:=ahe Lk.sz (woP v) S;have:=(Wq S v).1.2.2;omega
theorem anO{S:List Lk}(v:Int)(h:Bg Lk.wf S)(hl:S.length≤1048576):Bg Lk.wf (Vh S v):=by
 have h1:=(Wq S v).2.2;have h2:=jg (woP v) S;have h3:=(Wq S v).1.2.2;have h4:=vY Lk.sz (elM S v);refine⟨by unfold Vh;rw [aJ];omega,fun x hx=>?_⟩;rcases aO.1 hx with hx|hx
 ·exact h.2 x (iT.1 hx).1
 exact h1.2 x hx
theorem adb:lW (.nK [TQ ⟨0,R0,[]⟩,kY [],kN R0,.bool false]) (.nK [.agg [iv 0,.bool false,.jL,.jL,.jL],.jL,.agg [.bool false,.jL,.jL],.bool false]):=by
 simp only [lW,uG];exact⟨_,rfl,_,_,rfl,⟨_,rfl,_,_,rfl,rfl,_,_,rfl,rfl,_,_,rfl,.inl ⟨rfl,.inl rfl⟩,_,_,rfl,.inl ⟨rfl,.inl rfl⟩,_,_,rfl,.inl ⟨rfl,.inl rfl⟩,rfl⟩,_,_,rfl,.inl ⟨rfl,.inl rfl⟩,_,_,rfl,qN,_,_,rfl,rfl,rfl⟩
theorem aaC{T:Tb}(h:FK T){S:List Lk}{v:Int}(hw:Bg Lk.wf S)(hz:Dy Lk.sz S≤1048576):PF T 392 [kY S,iv v] (.nK [TQ (rnC S v),kY (rnM S v),kN (rnE S v),.bool (Vj S v)]):=by
 have ce:=Ws h.QG (v:=v) hw (by omega)
 cases hB:TS S v
 ·obtain⟨e1,e2,e3⟩:=akC (S:=S) (v:=v) (by unfold Vj;rw [hB];rfl);rw [e1,e2,e3,show Vj S v=false by unfold Vj;rw [hB];rfl];rw [hB]at ce;refine kH nR h.hT ?_;simp only [vT,Lz];refine ev ?_;refine jy ce ?_;refine ev ?_;exact adb
 have hok:lH S=true:=by
  unfold TS at hB;simp only [aG]at hB;exact hB.1.1.1
 have hl:S.length≤100:=Og hok;have zL:=auJ S v;have hzS:=Tz (s:=S) (fun x hx=>OV ((DZ.1 hok).1 x hx)) (by omega);have cj:=UW h.GV (l:=Vh S v) (anO v hw (by omega)) (by omega);rw [hB]at ce;have m1:(S.filter (woP v)).length≤1000000:=cZ (jg _ _) (by omega);have m2:(elM S v).length≤20000:=by have:=(Wq S v).1.2.2;have:=vY Lk.sz (elM S v);omega
 have m3:(Vh S v).length≤1048576:=by have:=vY Lk.sz (Vh S v);omega
 have hD:Vj S v=GN (Vh S v):=by unfold Vj;rw [hB];rfl
 have hT:=@akB S v;have hF:=@akC S v;rw [hD]at hT hF ⊢;have hR:Vh S v=S.filter (woP v)++elM S v:=rfl;have cr:=Xo h.TJ (v:=v) (σ:=[]) hok hw (by omega);clear hok hw hz hl hD hB zL hzS;generalize elC S v=c at *;generalize Vh S v=L at *;generalize elM S v=M at *;generalize S.filter (woP v)=F at *;refine kH (fun x d=>(x == 227&&d == 28)) h.hT ?_;simp only [vT,Lz];refine ew ?_;refine jy ce ?_;refine ew ?_;refine afz cr (by (refine ew ?_;try with_reducible exact True.intro)) (by (refine ew ?_;try with_reducible exact True.intro)) ?_;intro r s1 ⟨hL,hso,hsl⟩;simp only [aj,au]at hso hsl hL;have h0:=(hso 0 (by omega)).trans rfl;have h1:=(hso 1 (by omega)).trans rfl;have h2:=(hso 2 (by omega)).trans rfl;have hst:=DV M;have hFM:F.map Lk.cells++M.map Lk.cells=L.map Lk.cells:=by rw [hR,bK]
 have hLn:F.length+M.length=L.length:=by rw [hR,aJ]
 have jz:lW (.nK [TQ (rnC S v),kY (rnM S v),kN (rnE S v),.bool (GN L)]) (if GN L=true then .nK [TQ c,kY (zn L),kN (V8 L),.bool true]else .nK [.agg [iv 0,.bool false,.jL,.jL,.jL],.jL,.agg [.bool false,.jL,.jL],.bool false]):=by
  cases hJ:GN L
  ·obtain⟨e1,e2,e3⟩:=hF hJ;rw [e1,e2,e3];exact adb
  obtain⟨e1,e2,e3⟩:=hT hJ;rw [e1,e2,e3];exact kE _
 clear hT hF;generalize rnC S v=rc at *;generalize rnM S v=rm at *;generalize rnE S v=re at *;generalize zn L=jv at *;generalize V8 L=je at *;generalize GN L=jo at *;rcases hL with ⟨rfl,rfl⟩|⟨p,hp,rfl,hm⟩
 ·have hL0:L=M:=hR;refine vW @h0 @h1 @h2 ?_;refine⟨fun hM=>?_,fun hM=>⟨⟨by omega,by omega⟩,?_⟩⟩
  ·rw [hL0,fD.1 hM]at cj;refine ab1 cj ⟨_,_,rfl,of_eq_true (mX 11),rfl⟩ ?_
   cases jo
   ·refine vW @h0 @h1 @h2 ?_;exact jz
   refine vW @h0 @h1 @h2 ?_;exact⟨uS (L':=5) hsl (by unfold pz;rfl),ac9 jz⟩
  rw [show kY L=.sl 11 (M.map Lk.cells) by rw [hL0]]at cj;refine jy cj ?_
  cases jo
  ·refine vW @h0 @h1 @h2 ?_;exact jz
  refine vW @h0 @h1 @h2 ?_;exact⟨uS (L':=5) hsl (by unfold pz;rfl),ac9 jz⟩
 refine DF @h0 @h1 @h2 @hm ?_;refine⟨fun hM=>?_,fun hM=>⟨⟨by omega,by omega⟩,?_⟩⟩
 ·rw [show kY L=.sl 11 (F.map Lk.cells) by rw [hR,fD.1 hM,aQ]]at cj;refine jy cj ?_
  cases jo
  ·refine DF @h0 @h1 @h2 @hm ?_;exact jz
  refine DF @h0 @h1 @h2 @hm ?_;exact⟨uS (L':=5) hsl (by unfold pz;rfl),ac9 jz⟩
 refine uh @hFM @hLn ?_;refine jy cj ?_
 cases jo
 ·refine zK @h0 @h1 @h2 @hm @hFM @hLn ?_;exact jz
 refine zK @h0 @h1 @h2 @hm @hFM @hLn ?_;exact⟨uS (L':=5) hsl (by unfold pz;rfl),ac9 jz⟩
theorem Rl{T:Tb}{f:Nat}{as:List Src}{dst:Option Nat}{env:Nat→V}{σ:Store}{kp bs:Nat}{rs ms:List Nat}{k:St→Prop}{as':List V}{ts:List (Bool×V)}{p:Nat}(h:PX T f as' ts)
  (ha:NM env σ as (· = as')) (hr:∀o,o∈nO env σ as→o=p) (hk:∀vs σ2 os S,S.length=σ.length→(∀o,o≠p→jH S o=jH σ o)→aj1 S σ2 vs ts os→(∀S2:Store,(∀o,σ.length≤o→jH S2 o=jH σ2 o)→XL S2 vs ts os)→k ⟨oL env dst (.nK vs),σ2,kp,bs,rs,ms⟩):Ro T f as dst ⟨env,σ,kp,bs,rs,ms⟩ k:=by
 obtain⟨vs,σ',os,h1,h2,h3⟩:=h;obtain⟨as2,e,rfl⟩:=zZ ha;obtain⟨R,hR,hRs⟩:∃R,R=(if (nT (V.nK vs)&&Gg σ')=true then []else nO env σ as)∧∀o,o∉nO env σ as→o∉R:=by
  by_cases hc:(nT (V.nK vs)&&Gg σ')=true
  ·exact⟨[],by rw [if_pos hc],fun _ _=>by simp⟩
  exact⟨nO env σ as,by rw [if_neg hc],fun _ h=>h⟩
 refine⟨_,.own e h1 (R:=R) hR,?_⟩;have key:∀o,jH (zo (nH σ R) σ') (σ.length+o)=(jH σ' o).map (qK (mV σ.length)):=by
  intro o;rw [pR,KE,if_neg (by omega)]
  congr 2;omega
 have:=hk (vs.map (lD (mV σ.length))) (zo (nH σ R) σ') (os.map (σ.length + ·)) (nH σ R) (KE _ _) (fun o ho=>by rw [Gm,if_neg (hRs o fun hm=>ho (hr o hm))]) ⟨h2.shift key,?_,?_,?_,?_⟩ (fun S2 hS=>h2.shift fun o=>(hS _ (by omega)).trans (key o))
 ·simpa only [lD,Ux]using this
 ·exact iR.2 (h3.imp fun hne e=>hne (by omega))
 ·intro o ho;obtain⟨q,_,rfl⟩:=bM.1 ho;rw [KE];omega
 ·intro o ho;rw [pR,if_pos ho]
 simp [zo]
theorem PX.aDD{T:Tb}{f:Nat}{as as':List V}{ts:List (Bool×V)}(h:PX T f as ts)(ha:uG as as'):PX T f as' ts:=by
 obtain⟨vs,σ',os,h1,h2,h3⟩:=h;exact⟨vs,σ',os,.afV ha h1 (kE _),h2,h3⟩
def rnT(S:List Lk)(v:Int):List (Bool×V):=[(false,TQ (rnC S v)),(false,kY (rnM S v)),(true,kN (rnE S v)),(false,.bool (Vj S v))]
theorem ZJ{σ:Store}:agR σ (.nK [.agg [iv 0,.bool false,.jL,.jL,.jL],.jL,.agg [.bool false,.jL,.jL],.bool false]) [(false,TQ ⟨0,R0,[]⟩),(false,kY []),(true,kN R0),(false,.bool false)]:=by
 refine⟨[TQ ⟨0,R0,[]⟩,.sl 11 [],kN R0,.bool false],[],adb,?_,.nil⟩;simp only [XL,if_true,aX,if_false];refine⟨_,_,[],[],rfl,rfl,⟨rfl,rfl⟩,_,_,[],[],rfl,rfl,⟨rfl,rfl⟩,_,_,[],[],rfl,rfl,?_,_,[],[],[],rfl,rfl,⟨rfl,rfl⟩,rfl,rfl⟩;exact nN (nS (oC (o1:=[]) mQ (oC (o1:=[]) mQ nM)))
theorem ai1{σ:Store}{a w:V}{vs:List V}{ts:List (Bool×V)}{os:List Nat}(ha:resolve σ FD a=some w)(h:XL σ vs ts os)(hn:os.Nodup):agR σ (.nK (a::vs)) ((false,w)::ts):=by
 refine⟨a::vs,os,kE _,?_,hn⟩;unfold XL;exact⟨a,vs,[],os,rfl,rfl,by simpa using ha,h⟩
theorem aaD{T:Tb}(h:FM T){S:List Lk}{v:Int}(hok:lH S=true)(hw:Bg Lk.wf S):PX T 274 [kY S,iv v] (rnT S v):=by
 unfold rnT;have hl:S.length≤100:=Og hok;have ce:=Xm h.QH (v:=v) hok hw
 cases hB:TS S v
 ·obtain⟨e1,e2,e3⟩:=akC (S:=S) (v:=v) (by unfold Vj;rw [hB];rfl);rw [e1,e2,e3,show Vj S v=false by unfold Vj;rw [hB];rfl];rw [hB]at ce;refine Uz (fun x d=>(x == 109&&d == 30)||(x == 241&&d == 27)) h.hT ?_;simp only [vU,Lz,St.enter,aj,au,aN];refine ew ?_;refine jy ce ?_;refine ew ?_;exact .inl ZJ
 have hB0:=hB;rw [hB]at ce;have m1:(S.filter (woP v)).length≤1000000:=cZ (jg _ _) (by omega);have m2:(elM S v).length≤20000:=by have:=(Wq S v).1.2.2;have:=vY Lk.sz (elM S v);omega
 have m3:(Vh S v).length≤1048576:=by unfold Vh;rw [aJ];omega
 have hall:(Vh S v).all qm=true:=aZ.2 fun x hx=>by
  rcases aO.1 hx with hx|hx
  ·exact(DZ.1 hok).1 x (iT.1 hx).1
  rw [(ank hB).2]at hx;unfold TS at hB;simp only [aG]at hB;exact aZ.1 hB.2 x hx
 have px:=U4 h.GL (l:=Vh S v) (anO v hw (by omega)) hall m3;unfold joT at px;have hD:Vj S v=GN (Vh S v):=by unfold Vj;rw [hB];rfl
 have hT:=@akB S v;have hF:=@akC S v;rw [hD]at hT hF ⊢;have hR:Vh S v=S.filter (woP v)++elM S v:=rfl;have cr:=ZI h.TK (v:=v) (σ:=[]) (l:=S) (by omega);have hb:GN (Vh S v)=false→zn (Vh S v)=[]∧V8 (Vh S v)=R0:=fun hh=>by
  have:Z7 (Vh S v)=none:=by unfold GN at hh;cases hg:Z7 (Vh S v)with|none=>rfl|some p=>rw [hg]at hh;cases hh
  exact⟨(BX this).1,(BX this).2.1⟩
 have hcs:∀σ:Store,resolve σ FD (TQ (elC S v))=some (TQ (elC S v)):=fun σ=>BM (RG [elC S v] _ (by simp));clear hok hw hl hD hB hB0 hall;generalize elC S v=c at *;generalize Vh S v=L at *;generalize elM S v=M at *;generalize S.filter (woP v)=F at *;generalize rnC S v=rc at *;generalize rnM S v=rm at *;generalize rnE S v=re at *;generalize zn L=jv at *;generalize V8 L=je at *;generalize GN L=jo at *;refine Uz (fun x d=>(x == 109&&d == 30)||(x == 241&&d == 27)) h.hT ?_;simp only [vU,Lz,St.enter,aj,au,aN];refine ew ?_;refine jy ce ?_;refine ew ?_;refine afz cr (by (refine ew ?_;try with_reducible exact True.intro)) (by (refine ew ?_;try with_reducible exact True.intro)) ?_;intro r s1 ⟨hL,hso,hsl⟩;simp only [aj,au]at hso hsl hL;have h0:=(hso 0 (by omega)).trans rfl;have h1:=(hso 1 (by omega)).trans rfl;have h2:=(hso 2 (by omega)).trans rfl;rcases hL with ⟨rfl,rfl⟩|⟨p,hp,rfl,hm⟩
 ·have hL0:L=M:=hR;refine vW @h0 @h1 @h2 ?_;refine⟨fun hM=>?_,fun hM=>⟨⟨by omega,by omega⟩,?_⟩⟩
  ·rw [hL0,fD.1 hM]at px;refine Rl (p:=3) (px.aDD (as':=[.jL]) ⟨_,_,rfl,of_eq_true (mX 11),rfl⟩) (by (refine vW @h0 @h1 @h2 ?_;try with_reducible exact True.intro)) (fun o ho=>?_) ?_
   ·have ho:o∈reach s1 FD .jL:=by simpa [nO,Src.ev,upd]using ho
    have:reach s1 FD .jL=[]:=rfl;rw [this]at ho;cases ho
   intro vs q os S' hS1 hS2 g gX;obtain⟨w,e,z,rfl,hw1,hz1,G⟩:=g.fo;obtain rfl:=ED hz1;obtain⟨_,rfl,hQ⟩:=G.ow.kV;obtain⟨y1,y2,rfl⟩:=hQ.rat
   have lw:=Ji hw1;have gl:=G.len;have k0:=(G.old 0 (by omega)).trans ((hS2 0 (by omega)).trans h0);have k1:=(G.old 1 (by omega)).trans ((hS2 1 (by omega)).trans h1);have k2:=(G.old 2 (by omega)).trans ((hS2 2 (by omega)).trans h2);have E:Ep q [.bool je.neg,y1,y2] [.bool je.neg,ints je.mag,ints je.den] os []:=⟨⟨hQ,G.nd⟩,by simp⟩;have n4:∀o∈os,5≤o:=fun o ho=>by have:=G.fresh o ho;omega
   have LF:=ah lw (ah (E.leaf 1 rfl rfl) (E.leaf 2 rfl rfl));have gl5:5≤q.length:=by omega
   cases jo
   ·obtain⟨rfl,rfl,rfl⟩:=hF rfl;refine DF @LF @k0 @k1 @k2 ?_;exact .inl ZJ
   obtain⟨rfl,rfl,rfl⟩:=hT rfl;refine DF @LF @k0 @k1 @k2 ?_;refine⟨uS (L':=5) (by omega) (by unfold pz;rfl),.inl (ai1 (hcs _) (gX _ fun o ho=>?_) G.nd)⟩
   try simp only [aW]at ho
   exact AV
  have m3':M.length≤1048576:=by omega
  rw [show kY L=.sl 11 (M.map Lk.cells) by rw [hL0]]at px;refine Rl (p:=3) px (by (refine vW @h0 @h1 @h2 ?_;try with_reducible exact True.intro)) (fun o ho=>?_) ?_
  ·have ho:o∈reach (s1.set 3 (some ⟨11,M.map Lk.cells⟩)) FD (.kP 3 0 M.length):=by simpa [nO,Src.ev,upd]using ho
   exact GU (kT (by omega)) (DV M) o ho
  intro vs q os S' hS1 hS2 g gX;obtain⟨w,e,z,rfl,hw1,hz1,G⟩:=g.fo;obtain rfl:=ED hz1;obtain⟨_,rfl,hQ⟩:=G.ow.kV;obtain⟨y1,y2,rfl⟩:=hQ.rat
  have lw:=Ji hw1;simp only [aW]at hS1;have gl:=G.len;have k0:=(G.old 0 (by omega)).trans ((hS2 0 (by omega)).trans ((jV (by omega)).trans h0));have k1:=(G.old 1 (by omega)).trans ((hS2 1 (by omega)).trans ((jV (by omega)).trans h1));have k2:=(G.old 2 (by omega)).trans ((hS2 2 (by omega)).trans ((jV (by omega)).trans h2));have E:Ep q [.bool je.neg,y1,y2] [.bool je.neg,ints je.mag,ints je.den] os []:=⟨⟨hQ,G.nd⟩,by simp⟩;have n4:∀o∈os,5≤o:=fun o ho=>by have:=G.fresh o ho;omega
  have LF:=ah lw (ah (E.leaf 1 rfl rfl) (E.leaf 2 rfl rfl));have gl5:5≤q.length:=by omega
  cases jo
  ·obtain⟨rfl,rfl,rfl⟩:=hF rfl;refine DF @LF @k0 @k1 @k2 ?_;exact .inl ZJ
  obtain⟨rfl,rfl,rfl⟩:=hT rfl;refine DF @LF @k0 @k1 @k2 ?_;refine⟨uS (L':=5) (by omega) (by unfold pz;rfl),.inl (ai1 (hcs _) (gX _ fun o ho=>?_) G.nd)⟩
  try simp only [aW]at ho
  exact AV
 have hFM:F.map Lk.cells++M.map Lk.cells=L.map Lk.cells:=by rw [hR,bK]
 have hLn:F.length+M.length=L.length:=by rw [hR,aJ]
 refine DF @h0 @h1 @h2 @hm ?_;refine⟨fun hM=>?_,fun hM=>⟨⟨by omega,by omega⟩,?_⟩⟩
 ·rw [show kY L=.sl 11 (F.map Lk.cells) by rw [hR,fD.1 hM,aQ]]at px;refine Rl (p:=p) px (by (refine DF @h0 @h1 @h2 @hm ?_;try with_reducible exact True.intro)) (fun o ho=>?_) ?_
  ·have ho:o∈reach s1 FD (.kP p 0 F.length):=by simpa [nO,Src.ev,upd]using ho
   exact GU hm (DV F) o ho
  intro vs q os S' hS1 hS2 g gX;obtain⟨w,e,z,rfl,hw1,hz1,G⟩:=g.fo;obtain rfl:=ED hz1;obtain⟨_,rfl,hQ⟩:=G.ow.kV;obtain⟨y1,y2,rfl⟩:=hQ.rat
  have lw:=Ji hw1;have gl:=G.len;have k0:=(G.old 0 (by omega)).trans ((hS2 0 (by omega)).trans h0);have k1:=(G.old 1 (by omega)).trans ((hS2 1 (by omega)).trans h1);have k2:=(G.old 2 (by omega)).trans ((hS2 2 (by omega)).trans h2);have E:Ep q [.bool je.neg,y1,y2] [.bool je.neg,ints je.mag,ints je.den] os []:=⟨⟨hQ,G.nd⟩,by simp⟩;have n4:∀o∈os,5≤o:=fun o ho=>by have:=G.fresh o ho;omega
  have LF:=ah lw (ah (E.leaf 1 rfl rfl) (E.leaf 2 rfl rfl));have gl5:5≤q.length:=by omega
  cases jo
  ·obtain⟨rfl,rfl,rfl⟩:=hF rfl;refine DF @LF @k0 @k1 @k2 ?_;exact .inl ZJ
  obtain⟨rfl,rfl,rfl⟩:=hT rfl;refine DF @LF @k0 @k1 @k2 ?_;refine⟨uS (L':=5) (by omega) (by unfold pz;rfl),.inl (ai1 (hcs _) (gX _ fun o ho=>?_) G.nd)⟩
  try simp only [aW]at ho
  exact AV
 rw [hFM]
 try simp only [aV]
 rw [hLn];refine Rl (p:=3) px (by (refine DF @h0 @h1 @h2 @hm ?_;try with_reducible exact True.intro)) (fun o ho=>?_) ?_
 ·have ho:o∈reach ((s1.set p none).set 3 (some ⟨11,L.map Lk.cells⟩)) FD (.kP 3 0 L.length):=by simpa [nO,Src.ev,upd]using ho
  exact GU (kT (by simp;omega)) (DV L) o ho
 intro vs q os S' hS1 hS2 g gX;obtain⟨w,e,z,rfl,hw1,hz1,G⟩:=g.fo;obtain rfl:=ED hz1;obtain⟨_,rfl,hQ⟩:=G.ow.kV;obtain⟨y1,y2,rfl⟩:=hQ.rat
 have lw:=Ji hw1;simp only [aW]at hS1;have gl:=G.len;have k0:=(G.old 0 (by omega)).trans ((hS2 0 (by omega)).trans ((jV (by omega)).trans ((jV (by omega)).trans h0)));have k1:=(G.old 1 (by omega)).trans ((hS2 1 (by omega)).trans ((jV (by omega)).trans ((jV (by omega)).trans h1)));have k2:=(G.old 2 (by omega)).trans ((hS2 2 (by omega)).trans ((jV (by omega)).trans ((jV (by omega)).trans h2)));have E:Ep q [.bool je.neg,y1,y2] [.bool je.neg,ints je.mag,ints je.den] os []:=⟨⟨hQ,G.nd⟩,by simp⟩;have n4:∀o∈os,5≤o:=fun o ho=>by have:=G.fresh o ho;omega
 have LF:=ah lw (ah (E.leaf 1 rfl rfl) (E.leaf 2 rfl rfl));have gl5:5≤q.length:=by omega
 cases jo
 ·obtain⟨rfl,rfl,rfl⟩:=hF rfl;refine DF @LF @k0 @k1 @k2 ?_;exact .inl ZJ
 obtain⟨rfl,rfl,rfl⟩:=hT rfl;refine DF @LF @k0 @k1 @k2 ?_;refine⟨uS (L':=5) (by omega) (by unfold pz;rfl),.inl (ai1 (hcs _) (gX _ fun o ho=>?_) G.nd)⟩
 try simp only [aW]at ho
 exact AV
theorem anP{S:List Lk}{v:Int}(h:Vj S v=true):ayx (rnC S v) (elM S v):=by
 have h1:TS S v=true:=by unfold Vj at h;simp only [aG]at h;exact h.1
 rw [(akB h).1];exact arY h1
theorem ahG(S:List Lk)(v:Int):((rnC S v).sz≤40000∧(rnC S v).ps.length≤10∧Dy Lk.sz (rnM S v)≤20000∧(rnE S v).sz≤1000)∧(rnC S v).wf∧Bg Lk.wf (rnM S v)∧(rnE S v).wf:=by
 have hcn:=V9 (l:=Vh S v);have he:=Wq S v
 cases hB:Vj S v
 ·obtain⟨e1,e2,e3⟩:=akC hB;rw [e1,e2,e3];exact⟨⟨by decide,by decide,by decide,by decide⟩,⟨⟨by decide,by decide⟩,by decide,by simp⟩,⟨by decide,by simp⟩,by decide,by decide⟩
 obtain⟨e1,e2,e3⟩:=akB hB;rw [e1,e2,e3];exact⟨⟨he.1.1,he.1.2.1,Tz hcn.1 hcn.2.2.1,LD hcn.2.1⟩,he.2.1,Wh hcn.1 hcn.2.2.1,mP hcn.2.1⟩
def Ja:Fn:=⟨1,26,[.cell 2 100 true],(.seq (rf 1 [oN 2 (.alloc zz7)]) (.seq (rf 1 [oN 3 (.alloc zz7)]) (.seq (sr [oW 6 0,oN 7 (ln 6),oN 8 (.mM (cI 0))] (.block 0 (.loop (sr [oN 9 (bt .lss 8 7)] (.seq (cd 9 .skip (.exit 0)) (.seq (.block 1 (.seq (rf 1 [oK 10 1 (ix 11 6 8),oK 11 1 (lT 11 10),oN 5 (.alloc D6),⟨none,none,1,.store 11 (.t 5) (.t 11),[]⟩]) (.seq (rt 0 [oN 12 (fd 0 5),oA 13 0 (lF 1 12) [0],oN 14 (fd 1 5),oA 15 0 (lF 1 14) [2],oA 16 0 (.FY 10 10 (.t 3) (.t 13)) [1],oA 17 0 (.FY 10 1 (.t 16) (.t 15)) [4,3,0,1,2,3],⟨none,none,0,.store 1 (.t 17) (.c (.bool true)),[5,0,1,2,3]⟩]) (rt 0 [oN 18 (fd 1 5),oA 19 0 (lF 1 18) [0],oN 20 (fd 0 5),oA 21 0 (lF 1 20) [2],oA 22 0 (.FY 10 10 (.t 3) (.t 19)) [1],oA 23 0 (.FY 10 1 (.t 22) (.t 21)) [4,3,0,1,2,3],⟨none,none,0,.store 1 (.t 23) (.c (.bool true)),[5,0,1,2,3]⟩])))) (rg [oN 24 (bc .add 8 1),oW 8 24]))))))) (sr [oN 25 (lT 100 3),oS (.store 100 (.t 2) (.t 25))] .ret))))⟩
structure NC (T:Tb):Prop where
 hT:T 316=some Ja
def AP:Fn:=⟨2,64,[.cell 4 100 true,.tmp 5],(.seq (rf 2 [oN 2 (.box (.t 0)),oK 4 1 (.alloc zz7),oK 5 2 (.mM (cI 0))]) (sr [oN 6 (.mM (cI 0))] (.seq (sr [oN 7 (.mM (cI 0))] (.block 0 (.loop (.seq (sr [oW 10 7,oN 11 (bc .lss 10 10)] (cd 11 .skip (.exit 0))) (.seq (.block 1 (sr [oW 14 7,oN 15 (bc .add 14 1),oW 8 15] (.block 2 (.loop (.seq (sr [oW 16 8,oN 17 (bc .lss 16 10)] (cd 17 .skip (.exit 2))) (.seq (.block 3 (sr [oW 20 1,oW 21 7,oN 22 (.FY 10 10 (.t 2) (.t 20)),oN 23 (.FY 10 1 (.t 22) (.t 21)),oN 24 (lF 1 23),oW 25 24,oG 25 true 26 (oV 1),oG 25 true 27 (oV 8),oG 25 true 28 (.FY 10 10 (.t 2) (.t 26)),oG 25 true 29 (.FY 10 1 (.t 28) (.t 27)),oG 25 true 30 (lF 1 29),oN 31 (.pick (.t 25) (.t 30) (.c (.bool false))),oW 32 31,oG 32 true 33 (oV 7),oG 32 true 34 (oV 8),oG 32 true 35 (.FY 10 10 (.t 2) (.t 33)),oG 32 true 36 (.FY 10 1 (.t 35) (.t 34)),oG 32 true 37 (lF 1 36),oG 32 true 38 (nt 37),oN 39 (.pick (.t 32) (.t 38) (.c (.bool false)))] (cd 39 (sr [oW 40 7,oW 41 8,oN 42 (.FY 10 10 (.t 2) (.t 40)),oN 43 (.FY 10 1 (.t 42) (.t 41)),oS (.store 1 (.t 43) (.c (.bool true)))] (sr [oW 44 8,oW 45 7,oN 46 (.FY 10 10 (.t 2) (.t 44)),oN 47 (.FY 10 1 (.t 46) (.t 45)),oS (.store 1 (.t 47) (.c (.bool true)))] (rg [oW 48 6,oN 49 (bc .add 48 1),oW 6 49]))) .skip))) (rg [oW 18 8,oN 19 (bc .add 18 1),oW 8 19]))))))) (rg [oW 12 7,oN 13 (bc .add 12 1),oW 7 13])))))) (.seq (sr [oN 9 (.mM (cI 0))] (.block 4 (.loop (.seq (sr [oW 50 9,oN 51 (bc .lss 50 10)] (cd 51 .skip (.exit 4))) (.seq (.block 5 (sr [oW 54 1,oW 55 9,oN 56 (.FY 10 10 (.t 2) (.t 54)),oN 57 (.FY 10 1 (.t 56) (.t 55)),oS (.store 1 (.t 57) (.c (.bool false)))] (rg [oW 58 9,oW 59 1,oN 60 (.FY 10 10 (.t 2) (.t 58)),oN 61 (.FY 10 1 (.t 60) (.t 59)),oS (.store 1 (.t 61) (.c (.bool false)))]))) (rg [oW 52 9,oN 53 (bc .add 52 1),oW 9 53])))))) (sr [oN 62 (lT 100 2),oW 63 6,oS (.store 100 (.t 4) (.t 62)),oW 5 63] .ret)))))⟩
structure GX (T:Tb):Prop where
 hT:T 317=some AP
def wJ:Fn:=⟨2,19,[.tmp 4],(.seq (rf 1 [oN 2 (.box (.t 0)),oK 4 1 (.mM (cI 0))]) (sr [oN 5 (.mM (cI 0))] (.seq (sr [oW 8 1,oN 9 (.FY 10 10 (.t 2) (.t 8)),oN 10 (lT 10 9),oN 11 (.mM (cI 0))] (.block 0 (.loop (sr [oN 12 (bc .lss 11 10)] (.seq (cd 12 .skip (.exit 0)) (.seq (.block 1 (sr [oN 13 (.abK 10 (.t 10) (.t 11)),oW 7 13] (sr [oW 14 7] (cd 14 (rg [oW 15 5,oN 16 (bc .add 15 1),oW 5 16]) .skip)))) (rg [oN 17 (bc .add 11 1),oW 11 17]))))))) (sr [oW 18 5,oW 4 18] .ret))))⟩
structure AZ (T:Tb):Prop where
 hT:T 322=some wJ
def zf:Fn:=⟨2,24,[.tmp 4],(sr [oN 4 mN] (.seq (rf 1 [oN 8 (.ny 1 F8 0 []),oK 5 1 (oV 8)]) (.seq (sr [oW 9 0,oN 10 (ln 9),oN 11 (.mM (cI 0))] (.block 0 (.loop (sr [oN 12 (bt .lss 11 10)] (.seq (cd 12 .skip (.exit 0)) (.seq (.block 1 (sr [oN 13 (ix 1 9 11),oN 14 (lF 1 13),oW 7 14] (sr [oW 15 7,oW 16 1,oN 17 (bt .neq 15 16)] (cd 17 (rf 2 [oK 18 2 (oV 5),oK 19 2 (oV 7),oN 20 (.ny 1 F8 1 [(0,(.t 19))]),oK 21 1 (.app 1 8 (.t 18) (.t 20)),oK 5 2 (oV 21)]) .skip)))) (rg [oN 22 (bc .add 11 1),oW 11 22]))))))) (sr [oW 23 5,oW 4 23] .ret))))⟩
structure FN (T:Tb):Prop where
 hT:T 323=some zf
def qY:Fn:=⟨2,77,[.tmp 4],(sr [oN 4 mN] (.seq (sr [oW 14 0,oN 15 (cl 89 [14]),oN 16 (nt 15)] (cd 16 (sr [oN 4 mN] .ret) .skip)) (.seq (rf 1 [oK 17 1 (oV 0),oK 18 1 (cl 316 [17]),oN 5 (.alloc zz7),⟨none,none,1,.store 100 (.t 5) (.t 18),[]⟩]) (sr [oW 19 0,oN 20 (cl 180 [19]),oW 6 20] (.seq (rf 1 [oN 21 (.ny 1 F8 0 []),oK 7 1 (oV 21)]) (.seq (.block 0 (.loop (.seq (sr [oW 22 6,oN 23 (ln 22),oN 24 (bc .gtr 23 0)] (cd 24 .skip (.exit 0))) (.block 1 (.seq (rf 1 [oN 25 (.ny 1 F8 0 []),oK 8 1 (oV 25)]) (.seq (sr [oW 26 6,oN 27 (ln 26),oN 28 (.mM (cI 0))] (.block 2 (.loop (sr [oN 29 (bt .lss 28 27)] (.seq (cd 29 .skip (.exit 2)) (.seq (.block 3 (sr [oN 30 (ix 1 26 28),oN 31 (lF 1 30),oW 10 31] (sr [oW 32 1,oW 33 10,oN 34 (cl 236 [32,33]),oN 35 (nt 34)] (cd 35 (rf 2 [oK 36 2 (oV 8),oK 37 2 (oV 10),oN 38 (.ny 1 F8 1 [(0,(.t 37))]),oK 39 1 (.app 1 8 (.t 36) (.t 38)),oK 8 2 (oV 39)]) .skip)))) (rg [oN 40 (bc .add 28 1),oW 28 40]))))))) (.seq (sr [oW 41 8,oN 42 (ln 41),oN 43 (bc .eql 42 0)] (cd 43 (rg [oW 44 6,oW 8 44]) .skip)) (sr [oW 45 8,oN 46 (.idx 1 (.t 45) (cI 0)),oN 47 (lF 1 46),oW 11 47] (.seq (sr [oW 48 8,oN 49 (ln 48),oN 50 (.mM (cI 0))] (.block 4 (.loop (sr [oN 51 (bt .lss 50 49)] (.seq (cd 51 .skip (.exit 4)) (.seq (.block 5 (sr [oN 52 (ix 1 48 50),oN 53 (lF 1 52),oW 13 53] (.seq (rt 0 [oN 54 (lT 100 5),oW 55 13,oA 56 0 (cl 322 [54,55]) [0,1],oN 57 (lT 100 5),oW 58 11,oA 59 0 (cl 322 [57,58]) [3,4,2],oA 60 0 (bt .lss 56 59) [2,5]]) (cd 60 (rg [oW 61 13,oW 11 61]) .skip)))) (rg [oN 62 (bc .add 50 1),oW 50 62]))))))) (.seq (rf 2 [oK 63 2 (oV 7),oK 64 2 (oV 11),oN 65 (.ny 1 F8 1 [(0,(.t 64))]),oK 66 1 (.app 1 8 (.t 63) (.t 65)),oK 7 2 (oV 66)]) (sr [oN 68 (lT 100 5),oW 69 11,oN 70 (cl 317 [68,69]),oW 67 70,oN 71 (ex 0 67),oN 72 (ex 1 67),oS (.store 100 (.t 5) (.t 71))] (rg [oW 73 6,oW 74 11,oN 75 (cl 323 [73,74]),oW 6 75])))))))))))) (sr [oW 76 7,oW 4 76] .ret)))))))⟩
structure yV (T:Tb):Prop where
 hT:T 300=some qY
 Gz:Ai T
 Le:EY T
 wC:BP T
 aaE:NC T
 Wu:GX T
 Rt:AZ T
 U5:FN T
def gOf(l:List Lk):Nat→Gd
 |0=>gz
 |k+1=>DL (DL (gOf l k) (l.getD k default).a.toNat (l.getD k default).b.toNat true) (l.getD k default).b.toNat (l.getD k default).a.toNat true
theorem akD{a b:St}(h:Fg a b:=by
 (refine KH [(0,_),(1,_)] (by simp) (by intro p hp;simp only [aH,bV,or_false]at hp;rcases hp with rfl|rfl<;>refine⟨rfl,?_⟩<;>first|exact sJ _|exact pF _|simp [l7,V.still]) rfl ?_)<;>(try (refine ev ?_;try with_reducible exact True.intro))<;>(repeat' (first|exact True.intro|omega|exact nP rfl (by simp)|refine⟨?_,?_⟩|exact of_eq_true (tH _ _ _)|exact lY rfl (by simp;done)|exact lY rfl rfl|(refine mW rfl ?_ rfl;simp [kF];done)|(refine mW rfl ?_ rfl;simp [kF];omega)|(refine tJ ?_ ?_;(focus ((refine ev ?_;try with_reducible exact True.intro);done));(intro q hq k s0 l0;simp;done))))):Fg a b:=h
theorem anQ{T:Tb}(h:NC T){l:List Lk}(hw:Bg Lk.wf l:=by exact lX)(hok:lH l=true:=by assumption):PF T 316 [kY l] (.agg (lS (gOf l l.length))):=by
 have hlen:=hw.1;have hz:lS gz=List.replicate 100 (.bool false):=acE;simp only [List.replicate]at hz;refine kH nR h.hT ?_;simp only [Ja,Lz];refine ev ?_;rw [←hz];refine kG (fun _ _=>false) (α:=Nat) (fun i=>⟨kX [.any,.any,.ptr 0 0 0,.ptr 1 0 0,.any,.any,kY l,iv (l.length:Nat),iv (i:Nat)],[some ⟨100,[lS gz]⟩,some ⟨100,[lS (gOf l i)]⟩],0,0,[],[]⟩) (fun i=>i≤l.length) (fun i=>l.length-i) rfl 0 ?_ ?_ ?_
 ·omega
 ·(refine jW ?_;exact zX)
 intro i hi;refine ev ?_;refine kD (fun hc=>?_) fun hc=>?_<;>(refine qW @hc @mg ?_;try with_reducible exact True.intro)
 ·have hil:i<l.length:=by omega
  obtain⟨n1,n2,n3⟩:=uY (tK hok hil);have en:gOf l (i+1)=DL (DL (gOf l i) (l.getD i default).a.toNat (l.getD i default).b.toNat true) (l.getD i default).b.toNat (l.getD i default).a.toNat true:=rfl;generalize hx:l.getD i default=x at n1 n2 n3 en ⊢;have ha:x.a.toNat<10:=by omega
  have hb:x.b.toNat<10:=by omega
  refine ev ?_;rw [Oc ha hb,Oc hb ha,←en,vF,vF];refine⟨by omega,?_⟩;refine⟨by unfold pz;decide +kernel,?_⟩;refine⟨by omega,?_⟩;refine⟨by unfold pz;decide +kernel,?_⟩;exact⟨i+1,by omega,by omega,by exact akD⟩
 have:i=l.length:=by omega
 subst this;have t1:=MK (gOf l l.length);have t2:=MK gz;generalize lS (gOf l l.length)=c at t1 ⊢;generalize lS gz=d at t2 ⊢;refine qW @t1 @t2 ?_;exact kE _
def stp(v i j:Nat)(s:Gd×Nat):Gd×Nat:=if s.1 v i=true∧s.1 v j=true∧s.1 i j=false then(DL (DL s.1 i j true) j i true,s.2+1)else s
def cj(v i:Nat)(s:Gd×Nat):Nat→Gd×Nat
 |0=>s
 |n+1=>if i<n then stp v i n (cj v i s n)else s
def ci(v:Nat)(g:Gd):Nat→Gd×Nat
 |0=>(g,0)
 |n+1=>cj v n (ci v g n) 10
def cz(v:Nat)(g:Gd):Nat→Gd
 |0=>g
 |n+1=>DL (DL (cz v g n) v n false) n v false
def Xp(g:Gd)(v:Nat):Gd:=cz v (ci v g 10).1 10
def anR(g:Gd)(v:Nat):Nat:=(ci v g 10).2
theorem anS(v i:Nat)(s:Gd×Nat):∀n,(cj v i s n).2≤s.2+n
 |0=>aP _
 |
  n+1=>by
  have:=anS v i s n;unfold cj;split
  ·unfold stp;split<;>(try dsimp only)<;>omega
  omega
theorem ar2(v:Nat)(g:Gd):∀n,(ci v g n).2≤10*n
 |0=>aP _
 |
  n+1=>by
  have:=ar2 v g n;have:=anS v n (ci v g n) 10;unfold ci;omega
theorem ayC{v i j:Nat}{s:Gd×Nat}(h:i<j):cj v i s (j+1)=stp v i j (cj v i s j):=by
 conv=>lhs;unfold cj
 rw [if_pos h]
theorem ayD{v i:Nat}{s:Gd×Nat}:cj v i s (i+1)=s:=by
 conv=>lhs;unfold cj
 rw [if_neg (jZ _)]
theorem ayE{T:Tb}(h:GX T){g:Gd}{v:Int}(hv:0≤v∧v≤9:=by exact lX):PF T 317 [.agg (lS g),iv v] (.nK [.agg (lS (Xp g v.toNat)),iv (anR g v.toNat:Nat)]):=by
 have hvn:v.toNat<10:=by omega
 have hz:lS gz=List.replicate 100 (.bool false):=acE;simp only [List.replicate]at hz;obtain⟨cs,hx⟩:∃cs,lS g=.bool (g 0 0)::cs:=⟨_,rfl⟩;have hl:=Tq g;have hn:=vF g;rw [hx]at hl hn ⊢;rw [aj]at hn;have hl2:cs.all V.leaf=true:=by rw [dh,aG]at hl;exact hl.2
 refine kH nR h.hT ?_;simp only [AP,Lz];refine ev ?_;refine qW @hl2 @hn ?_;rw [hn,←hx,←hz];clear hx hl hn hl2 hz;refine kG (fun _ _=>false) (α:=Nat) (fun i=>⟨kX [.any,iv v,.ptr 0 0 0,.any,.ptr 1 0 0,.any,iv ((ci v.toNat g i).2:Nat),iv (i:Nat)],[some ⟨100,[lS (ci v.toNat g i).1]⟩,some ⟨100,[lS gz]⟩],0,0,[],[]⟩) (fun i=>i≤10) (fun i=>10-i) rfl 0 ?_ ?_ ?_
 ·omega
 ·rw [show ci v.toNat g 0=(g,0)from rfl];(refine jW ?_;exact zX)
 intro i hi;have hle:=ar2 v.toNat g i;generalize hs:ci v.toNat g i=s at hle;refine ev ?_;refine kD (fun hc=>?_) fun hc=>?_<;>(refine ev1 @hc ?_;try with_reducible exact True.intro)
 ·refine kG (fun _ _=>false) (α:=Nat) (fun j=>⟨kX [.any,iv v,.ptr 0 0 0,.any,.ptr 1 0 0,.any,iv ((cj v.toNat i s j).2:Nat),iv (i:Nat),iv (j:Nat)],[some ⟨100,[lS (cj v.toNat i s j).1]⟩,some ⟨100,[lS gz]⟩],0,0,[],[]⟩) (fun j=>i+1≤j∧j≤10) (fun j=>10-j) rfl (i+1) ?_ ?_ ?_
  ·omega
  ·rw [ayD];(refine jW ?_;exact zX)
  intro j hj;have hle2:=anS v.toNat i s j;have es:=ayC (v:=v.toNat) (i:=i) (j:=j) (s:=s) (by omega);generalize hp:cj v.toNat i s j=p at hle2 es ⊢;unfold stp at es;refine ev ?_;refine kD (fun hd=>?_) fun hd=>?_<;>(refine ev1 @hd ?_;try with_reducible exact True.intro)
  ·have g1:=@V3 p.1 v.toNat i hvn (by omega)
   cases h1:p.1 v.toNat i
   ·rw [h1]at g1;rw [if_neg (by rw [h1];simp)]at es;refine ev1 @g1 ?_;rw [←es];exact⟨j+1,by omega,by omega,by exact akD⟩
   rw [h1]at g1;have g2:=@V3 p.1 v.toNat j hvn (by omega)
   cases h2:p.1 v.toNat j
   ·rw [h2]at g2;rw [if_neg (by rw [h2];simp)]at es;refine qW @g1 @g2 ?_;rw [←es];exact⟨j+1,by omega,by omega,by exact akD⟩
   rw [h2]at g2;have g3:=@V3 p.1 i j (by omega) (by omega)
   cases h3:p.1 i j
   ·rw [h3]at g3;rw [if_pos ⟨h1,h2,h3⟩]at es;refine zl @g1 @g2 @g3 ?_;rw [Oc (by omega) (by omega),Oc (by omega) (by omega),vF,vF];refine⟨by omega,by omega,j+1,by omega,by omega,?_⟩;rw [es];exact akD
   rw [h3]at g3;rw [if_neg (by rw [h3];simp)]at es;refine zl @g1 @g2 @g3 ?_;rw [←es];exact⟨j+1,by omega,by omega,by exact akD⟩
  have:j=10:=by omega
  subst this;have e1:ci v.toNat g (i+1)=p:=by unfold ci;rw [hs];exact hp
  refine⟨i+1,by omega,by omega,?_⟩;rw [e1]
  (refine jW ?_;exact zX)
 have:i=10:=by omega
 subst this;have e2:anR g v.toNat=s.2:=by unfold anR;rw [hs]
 have e3:Xp g v.toNat=cz v.toNat s.1 10:=by unfold Xp;rw [hs]
 rw [e2,e3];clear e2 e3;refine kG (fun _ _=>false) (α:=Nat) (fun k=>⟨kX [.any,iv v,.ptr 0 0 0,.any,.ptr 1 0 0,.any,iv (s.2:Nat),.any,.any,iv (k:Nat)],[some ⟨100,[lS (cz v.toNat s.1 k)]⟩,some ⟨100,[lS gz]⟩],0,0,[],[]⟩) (fun k=>k≤10) (fun k=>10-k) rfl 0 ?_ ?_ ?_
 ·omega
 ·(refine jW ?_;exact zX)
 intro k hk;refine ev ?_;refine kD (fun he=>?_) fun he=>?_<;>(refine ev1 @he ?_;try with_reducible exact True.intro)
 ·rw [Oc (by omega) (by omega),Oc (by omega) (by omega),vF,vF];exact⟨by omega,by omega,k+1,by omega,by omega,by exact akD⟩
 have:k=10:=by omega
 subst this;have t1:=MK (cz v.toNat s.1 10);have t2:=MK gz;generalize lS (cz v.toNat s.1 10)=c at t1 ⊢;generalize lS gz=d at t2 ⊢;refine qW @t1 @t2 ?_;exact kE _
def dg(g:Gd)(v:Nat):Nat→Nat
 |0=>0
 |n+1=>dg g v n+if g v n=true then 1 else 0
theorem ar4(g:Gd)(v:Nat):∀n,dg g v n≤n
 |0=>aP _
 |
  n+1=>by
  have:=ar4 g v n;unfold dg;split<;>omega
theorem akF(g:Gd){v:Nat}(hv:v<10):List.take 10 (List.drop (v*10) (lS g))=(List.range 10).map fun j=>.bool (g v j):=by
 apply fF
 intro n;by_cases hn:n<10
 ·rw [iy hn,dA,Zl hv hn,bG,dw hn];rfl
 rw [bn (by simp;omega),bn (by simp;omega)]
theorem anT{T:Tb}(h:AZ T){g:Gd}{v:Int}(hv:0≤v∧v≤9:=by exact lX):PF T 322 [.agg (lS g),iv v] (iv (dg g v.toNat 10:Nat)):=by
 have hvn:v.toNat<10:=by omega
 obtain⟨cs,hx⟩:∃cs,lS g=.bool (g 0 0)::cs:=⟨_,rfl⟩;have hl:=Tq g;have hn:=vF g;have hr:=akF g hvn;rw [hx]at hl hn ⊢;rw [aj]at hn;have hl2:cs.all V.leaf=true:=by rw [dh,aG]at hl;exact hl.2
 refine kH nR h.hT ?_;simp only [wJ,Lz];refine ev ?_;refine qW @hl2 @hn ?_;rw [hn,←hx,hr];clear hx hl hr hl2;refine⟨by omega,?_⟩;refine kG (fun _ _=>false) (α:=Nat) (fun k=>⟨kX [.any,.any,.any,.any,.any,iv (dg g v.toNat k:Nat),.any,.any,.any,.any,.agg ((List.range 10).map fun j=>.bool (g v.toNat j)),iv (k:Nat)],[some ⟨100,[lS g]⟩],0,0,[],[]⟩) (fun k=>k≤10) (fun k=>10-k) rfl 0 ?_ ?_ ?_
 ·omega
 ·rw [show dg g v.toNat 0=0 from rfl];(refine jW ?_;exact zX)
 intro k hk;have hle:=ar4 g v.toNat k;have es:dg g v.toNat (k+1)=dg g v.toNat k+if g v.toNat k=true then 1 else 0:=rfl
 refine ev ?_;refine kD (fun hc=>?_) fun hc=>?_<;>(refine ev1 @hc ?_;try with_reducible exact True.intro)
 ·have e1:((List.range 10).map fun j=>V.bool (g v.toNat j))[k]? = some (.bool (g v.toNat k)):=by rw [bG,dw (by omega)];rfl
  generalize hR:((List.range 10).map fun j=>V.bool (g v.toNat j))=R at e1 ⊢
  cases hb:g v.toNat k
  ·rw [hb]at e1;rw [hb,if_neg (by simp),gy]at es;refine ev1 @e1 ?_;refine⟨k+1,by omega,by omega,?_⟩;rw [es]
   (refine jW ?_;exact zX)
  rw [hb]at e1;rw [hb,if_pos rfl]at es;refine ev1 @e1 ?_;refine⟨k+1,by omega,by omega,?_⟩;rw [es]
  (refine jW ?_;exact zX)
 have:k=10:=by omega
 subst this;exact kE _
theorem adf{l:List Lk}{o:List Int}(h:RP l o=true):o.length≤10:=by
 have h2:=(of_decide_eq_true h:Xk l o).2.1;have:=GH l;omega
theorem ahH{l:List Lk}{o:List Int}(h:RP l o=true):lH l=true:=(of_decide_eq_true h:Xk l o).1
def tN:Fn:=⟨2,56,[.tmp 4,.cell 5 3 true,.tmp 6],(.seq (rf 1 [oK 4 1 mN,oN 5 (.alloc qL),oK 6 1 mF]) (.seq (sr [oW 16 0,oW 17 1,oN 18 (cl 220 [16,17]),oN 19 (nt 18)] (cd 19 (sr [oN 20 (.build qL []),oN 4 mN,oS (.store 3 (.t 5) (.t 20)),oN 6 mF] .ret) .skip)) (.seq (rf 1 [oN 21 (.ny 5 QW 0 []),oK 7 1 (oV 21)]) (.seq (rf 1 [oK 22 1 (.call 36 [(cI 0)]),oN 8 (.alloc qL),⟨none,none,1,.store 3 (.t 8) (.t 22),[]⟩]) (sr [oW 23 0,oW 9 23] (.seq (sr [oW 24 1,oN 25 (ln 24),oN 26 (.mM (cI 0))] (.block 0 (.loop (sr [oN 27 (bt .lss 26 25)] (.seq (cd 27 .skip (.exit 0)) (.seq (.block 1 (sr [oN 28 (ix 1 24 26),oN 29 (lF 1 28),oW 11 29] (.seq (rf 2 [oK 31 2 (oV 9),oK 32 2 (oV 11),oK 33 2 (cl 392 [31,32]),oK 30 2 (oV 33),oK 34 2 (ex 0 30),oK 35 2 (ex 1 30),oK 36 2 (ex 2 30),oK 37 2 (ex 3 30),oN 12 (.alloc QW),oK 14 1 (.alloc qL),⟨none,none,2,.store 5 (.t 12) (.t 34),[]⟩,oK 13 2 (oV 35),⟨none,none,2,.store 3 (.t 14) (.t 36),[]⟩,oK 15 2 (oV 37)]) (.seq (sr [oW 38 15,oN 39 (nt 38)] (cd 39 (sr [oN 40 (.build qL []),oN 4 mN,oS (.store 3 (.t 5) (.t 40)),oN 6 mF] .ret) .skip)) (.seq (rf 2 [oK 41 2 (oV 7),oK 42 2 (lT 5 12),oN 43 (.ny 5 QW 1 [(0,(.t 42))]),oK 44 1 (.app 5 88 (.t 41) (.t 43)),oK 7 2 (oV 44)]) (sr [oW 45 13,oW 9 45] (rg [oN 46 (lT 3 8),oN 47 (lT 3 14),oN 48 (cl 189 [46,47]),oS (.store 3 (.t 8) (.t 48))]))))))) (rg [oN 49 (bc .add 26 1),oW 26 49]))))))) (.seq (sr [oN 50 (lT 3 8),oN 51 (cl 100 [50]),oN 52 (nt 51)] (cd 52 (sr [oN 53 (.build qL []),oN 4 mN,oS (.store 3 (.t 5) (.t 53)),oN 6 mF] .ret) .skip)) (.seq (rt 0 [oW 54 7,oN 55 (lT 3 8),oA 4 0 (oV 54) [0,0],⟨none,none,0,.store 3 (.t 5) (.t 55),[1,2,0,1,2]⟩,oA 6 0 mT [3,0,1,2,3]]) .ret))))))))⟩
structure Ba (T:Tb):Prop where
 hT:T 393=some tN
 kZ:nU T
 kS:oz T
 lJ:pY T
 ZK:La T
 U6:FK T
def tV:Fn:=⟨2,56,[.tmp 4,.cell 5 3 true,.tmp 6],(.seq (rf 1 [oK 4 1 mN,oN 5 (.alloc qL),oK 6 1 mF]) (.seq (sr [oW 15 0,oW 16 1,oN 17 (cl 221 [15,16]),oN 18 (nt 17)] (cd 18 (sr [oN 19 (.build qL []),oN 4 mN,oS (.store 3 (.t 5) (.t 19)),oN 6 mF] .ret) .skip)) (.seq (rf 1 [oN 20 (.ny 5 QW 0 []),oK 7 1 (oV 20)]) (.seq (rf 1 [oK 21 1 (.call 39 [(cI 0)]),oN 8 (.alloc qL),⟨none,none,1,.store 3 (.t 8) (.t 21),[]⟩]) (.seq (sr [oW 22 1,oN 23 (ln 22),oN 24 (.mM (cI 0))] (.block 0 (.loop (sr [oN 25 (bt .lss 24 23)] (.seq (cd 25 .skip (.exit 0)) (.seq (.block 1 (sr [oN 26 (ix 1 22 24),oN 27 (lF 1 26),oW 10 27] (.seq (rf 2 [oK 29 2 (oV 0),oK 30 2 (oV 10),oK 31 2 (cl 274 [29,30]),oK 28 2 (oV 31),oK 32 2 (ex 0 28),oK 33 2 (ex 1 28),oK 34 2 (ex 2 28),oK 35 2 (ex 3 28),oN 11 (.alloc QW),oK 13 1 (.alloc qL),⟨none,none,2,.store 5 (.t 11) (.t 32),[]⟩,oK 12 2 (oV 33),⟨none,none,2,.store 3 (.t 13) (.t 34),[]⟩,oK 14 2 (oV 35)]) (sr [oN 36 (lT 3 8),oN 37 (lT 3 13),oN 38 (cl 131 [36,37]),oS (.store 3 (.t 8) (.t 38))] (.seq (sr [oW 39 14,oN 40 (nt 39),oW 41 40,oG 41 false 42 (lT 3 8),oG 41 false 43 (cl 132 [42]),oG 41 false 44 (nt 43),oN 45 (.pick (.t 41) (.c (.bool true)) (.t 44))] (cd 45 (sr [oN 46 (.build qL []),oN 4 mN,oS (.store 3 (.t 5) (.t 46)),oN 6 mF] .ret) .skip)) (.seq (rf 2 [oK 47 2 (oV 7),oK 48 2 (lT 5 11),oK 49 2 (cl 183 [48]),oN 50 (.ny 5 QW 1 [(0,(.t 49))]),oK 51 1 (.app 5 88 (.t 47) (.t 50)),oK 7 2 (oV 51)]) (rg [oW 52 12,oW 0 52]))))))) (rg [oN 53 (bc .add 24 1),oW 24 53]))))))) (.seq (rt 0 [oW 54 7,oN 55 (lT 3 8),oA 4 0 (oV 54) [0,0],⟨none,none,0,.store 3 (.t 5) (.t 55),[1,2,0,1,2]⟩,oA 6 0 mT [3,0,1,2,3]]) .ret))))))⟩
structure Bc (T:Tb):Prop where
 hT:T 270=some tV
 lG:oP T
 lC:nJ T
 kL:oJ T
 O7:xR T
 ZL:Ld T
 U7:FM T
def U8(S:List Lk)(o:List Int):Nat→Option (List Lk×List Cd×R)
 |0=>some (S,[],kR 0)
 |
  k+1=>match U8 S o k with
  |none=>none
  |some p=>if Vj p.1 (o.getD k 0)=true then some (rnM p.1 (o.getD k 0),p.2.1++[rnC p.1 (o.getD k 0)],pI p.2.2 (rnE p.1 (o.getD k 0)))else none
def
  X7 (S:List Lk) (o:List Int):Option (List Lk×List Cd×R):=if RP S o=true then
  match U8 S o o.length with
  |none=>none
  |some p=>if p.2.2.ok=true then some p else none
 else none
def ZM(S:List Lk)(o:List Int):Bool:=(X7 S o).isSome
def eaN(S:List Lk)(o:List Int):List Cd:=((X7 S o).map (·.2.1)).getD []
def eaE(S:List Lk)(o:List Int):R:=((X7 S o).map (·.2.2)).getD R0
theorem Jj{S:List Lk}{o:List Int}(h:X7 S o=none):eaN S o=[]∧eaE S o=R0∧ZM S o=false:=by
 unfold eaN eaE ZM;rw [h];exact⟨rfl,rfl,rfl⟩
theorem U9{S:List Lk}{o:List Int}{p:List Lk×List Cd×R}(h:X7 S o=some p):eaN S o=p.2.1∧eaE S o=p.2.2∧ZM S o=true:=by
 unfold eaN eaE ZM;rw [h];exact⟨rfl,rfl,rfl⟩
theorem afB{S:List Lk}{o:List Int}{k:Nat}(h:U8 S o k=none):∀n,k≤n→U8 S o n=none
 |0,hn=>by rw [Nat.le_zero.1 hn]at h;exact h
 |
  n+1,hn=>by
  rcases fG k (n+1)with hk|hk
  ·simp only [U8,afB h n (by omega)]
  rw [show n+1=k by omega];exact h
theorem ai2{S:List Lk}{o:List Int}{k:Nat}{p:List Lk×List Cd×R}(h:U8 S o k=some p)(hb:p.2.2.ok=false):∀n,k≤n→∀q,U8 S o n=some q→q.2.2.ok=false
 |0,hn,q,hq=>by rw [Nat.le_zero.1 hn]at h;rw [h]at hq;cases hq;exact hb
 |
  n+1,hn,q,hq=>by
  rcases fG k (n+1)with hk|hk
  ·simp only [U8]at hq
   cases hf:U8 S o n with
   |none=>rw [hf]at hq;cases hq
   |
    some r =>
    rw [hf]at hq;dsimp only at hq;split at hq
    ·cases hq
     exact afd (ai2 h hb n (by omega) r hf)
    cases hq
  rw [show n+1=k by omega]at hq;rw [h]at hq;cases hq;exact hb
theorem Xb{S:List Lk}{o:List Int}{k:Nat}(h:U8 S o k=none)(hk:k≤o.length):X7 S o=none:=by
 unfold X7;rw [afB h o.length hk];split<;>rfl
theorem ahI{S:List Lk}{o:List Int}{k:Nat}{p:List Lk×List Cd×R}(h:U8 S o k=some p)(hb:p.2.2.ok=false)(hk:k≤o.length):X7 S o=none:=by
 unfold X7
 cases hf:U8 S o o.length with
 |none=>split<;>rfl
 |some q=>dsimp only;rw [if_neg (c:=q.2.2.ok=true) (by rw [ai2 h hb _ hk q hf];simp)];split<;>rfl
structure CdG (c:Cd):Prop where
 ne:0<c.ps.length
 len:c.ps.length≤10
 cn:c.total.cn∧∀a∈c.ps,a.share.cn∧a.dx.cn∧a.dy.cn
 sz:c.sz≤40000
 wf:c.wf
theorem ahJ{S:List Lk}{v:Int}(h:Vj S v=true):CdG (rnC S v) :=
 ⟨(anP h).ne,(anP h).len,(anP h).cn,(ahG S v).1.1,(ahG S v).2.1⟩
theorem auK{S:List Lk}{v:Int}(h:Vj S v=true):lH (rnM S v)=true:=by
 rw [(akB h).2.1];exact V9.2.2.2
theorem anU(S:List Lk)(v:Int):(rnE S v).cn:=by
 cases h:Vj S v
 ·rw [(akC h).2.2];exact YT
 rw [(akB h).2.2];exact V9.2.1
theorem X8{S:List Lk}{o:List Int}(hok:lH S=true)(hw:Bg Lk.wf S)(hz:Dy Lk.sz S≤1048576):∀{k:Nat} {p:List Lk×List Cd×R},U8 S o k=some p→(lH p.1=true∧Bg Lk.wf p.1∧Dy Lk.sz p.1≤1048576)∧p.2.2.cn∧(∀c∈p.2.1,CdG c)∧p.2.1.length=k
 |0,p,h=>by cases h;exact⟨⟨hok,hw,hz⟩,Ef (by decide),by simp,rfl⟩
 |
  k+1,p,h=>by
  simp only [U8]at h
  cases hf:U8 S o k with
  |none=>rw [hf]at h;cases h
  |
   some r =>
   rw [hf]at h;dsimp only at h;split at h
   ·rename_i hk
    cases h
    obtain⟨_,_,i3,i4⟩:=X8 hok hw hz hf;have R:=ahG r.1 (o.getD k 0);refine⟨⟨auK hk,R.2.2.1,by have:=R.1.2.2.1;dsimp only;omega⟩,vK _ _,fun c hc=>?_,by simp [i4]⟩;rcases aO.1 hc with hc|hc
    ·exact i3 c hc
    rw [aT.1 hc];exact ahJ hk
   cases h
theorem auL{N:List Cd}(h:∀c∈N,CdG c)(hl:N.length≤10):Dy Cd.sz N≤500000:=by
 have:=Zn (f:=Cd.sz) (k:=40000) fun c hc=>(h c hc).sz;have:N.length*(40000+1)≤10*(40000+1):=dM _ hl;omega
theorem anV{S:List Lk}(o:List Int)(hw:Bg Lk.wf S)(hz:Dy Lk.sz S≤1048576):(Dy Cd.sz (eaN S o)≤500000∧(eaE S o).sz≤1000)∧Bg Cd.wf (eaN S o)∧(eaE S o).wf:=by
 cases hg:X7 S o with
 |
  none =>
  obtain⟨e1,e2,_⟩:=Jj hg;rw [e1,e2];exact⟨⟨by decide,by decide⟩,⟨by decide,by simp⟩,by decide,by decide⟩
 |
  some p =>
  obtain⟨e1,e2,_⟩:=U9 hg;rw [e1,e2];unfold X7 at hg;split at hg
  ·rename_i ho
   cases hf:U8 S o o.length with
   |none=>rw [hf]at hg;cases hg
   |
    some q =>
    rw [hf]at hg;dsimp only at hg;split at hg
    ·cases hg
     obtain⟨_,i2,i3,i4⟩:=X8 (ahH ho) hw hz hf;have:=adf ho;exact⟨⟨auL i3 (by omega),LD i2⟩,⟨by omega,fun c hc=>(i3 c hc).wf⟩,mP i2⟩
    cases hg
  cases hg
theorem X9:lW (.nK [Dx [],kN R0,.bool false]) (.nK [.jL,.agg [.bool false,.jL,.jL],.bool false]):=by
 simp only [lW,uG];exact⟨_,rfl,_,_,rfl,.inl ⟨rfl,.inl rfl⟩,_,_,rfl,qN,_,_,rfl,rfl,rfl⟩
theorem aq0{e:R}:lW (.nK [Dx [],kN e,.bool true]) (.nK [.jL,kN e,.bool true]):=by
 have h:=kE (kN e);simp only [lW,uG]at h ⊢;exact⟨_,rfl,_,_,rfl,.inl ⟨rfl,.inl rfl⟩,_,_,rfl,h,_,_,rfl,rfl,rfl⟩
def LnC(s:Store)(v:V)(N:List Cd):Prop:=(N=[]∧v=.jL)∨∃p,v=.kP p 0 N.length∧jH s p=some ⟨5,N.map Cd.cells⟩∧3≤p
theorem Xq{T:Tb}(h:Ba T){S:List Lk}{o:List Int}(hw:Bg Lk.wf S)(hz:Dy Lk.sz S≤1048576)(ho:o.length≤1048576):PF T 393 [kY S,ints o] (.nK [Dx (eaN S o),kN (eaE S o),.bool (ZM S o)]):=by
 have hl:S.length≤1048576:=by have:=vY Lk.sz S;omega
 have cio:=ag9 h.ZK hw (by omega) ho
 cases hb:RP S o
 ·rw [hb]at cio;have hg:X7 S o=none:=by unfold X7;rw [hb];rfl
  obtain⟨e1,e2,e3⟩:=Jj hg;rw [e1,e2,e3];refine kH (fun x d=>(x == 36&&d == 999)) h.hT ?_;simp only [tN,Lz];refine ew ?_;refine jy cio ?_;refine ew ?_;exact X9
 rw [hb]at cio;have hok:=ahH hb;have hol:=adf hb;have aGZ:o.length≤10:=hol;refine kH (fun x d=>(x == 36&&d == 999)) h.hT ?_;simp only [tN,Lz];refine ew ?_;refine jy cio ?_;refine ew ?_;refine jy (uw h.kZ (n:=0)) ?_;refine ew ?_;refine kG (fun x d=>(x == 36&&d == 999)) (α:=Nat×Store×V×List Lk×List Cd×R) (fun q=>⟨kX [.any,.any,.any,.any,.any,.ptr 0 0 0,.any,q.2.2.1,.ptr 2 0 0,kY q.2.2.2.1,.any,.any,.any,.any,.any,.any,.any,.any,.any,.any,.any,.any,.any,.any,ints o,iv (o.length:Nat),iv (q.1:Nat)],q.2.1,0,0,[],[]⟩) (fun q=>(q.1≤o.length∧U8 S o q.1=some (q.2.2.2.1,q.2.2.2.2.1,q.2.2.2.2.2))∧jH q.2.1 0=some ⟨3,[[.bool false,.jL,.jL]]⟩∧jH q.2.1 2=some ⟨3,[q.2.2.2.2.2.cells]⟩∧LnC q.2.1 q.2.2.1 q.2.2.2.2.1) (fun q=>o.length-q.1) rfl (0,[some ⟨3,[[.bool false,.jL,.jL]]⟩,none,some ⟨3,[(kR 0).cells]⟩],.jL,S,[],kR 0) ?_ ?_ ?_
 ·exact⟨⟨dY _,rfl⟩,rfl,rfl,.inl ⟨rfl,rfl⟩⟩
 ·(refine jW ?_;exact qw)
 rintro⟨k,s,r,L,N,e⟩ ⟨⟨hk,hf⟩,I0,I2,hN⟩;dsimp only at hk hf I0 I2 hN;obtain⟨⟨i1,i2,i3⟩,i4,i5,i6⟩:=X8 hok hw hz hf;dsimp only at i1 i2 i3 i4 i5 i6;have l2:=kK I2;by_cases hc:(k:Int)<(o.length:Nat)
 ·have hkl:k<o.length:=by omega
  have hs:U8 S o (k+1)=if Vj L (o.getD k 0)=true then some (rnM L (o.getD k 0),N++[rnC L (o.getD k 0)],pI e (rnE L (o.getD k 0)))else none:=by simp only [U8,hf]
  have hbad:U8 S o (k+1)=none→X7 S o=none:=fun h=>Xb h (by omega);obtain⟨v,hv⟩:∃v,o.getD k 0=v:=⟨_,rfl⟩;rw [hv]at hs;have cr:=aaC h.U6 (v:=v) i2 i3;have hen:=anU L v;have Qu:=vw h.lJ (r:=e) (s:=rnE L v) (mP i4) (mP hen);have hgd:=@ahJ L v;have hNl:N.length≤10:=by omega
  generalize rnM L v=M at *;generalize rnC L v=c at *;generalize rnE L v=e' at *;generalize pI e e'=e2 at *;generalize Vj L v=b at *;refine vW @hc @hkl @hv ?_;refine jy cr ?_
  cases b
  ·obtain⟨e1,e2,e3⟩:=Jj (hbad hs);rw [e1,e2,e3];refine qj (ah I0 I2) ?_;exact X9
  have hs:U8 S o (k+1)=some (M,N++[c],e2):=hs;rcases hN with ⟨rfl,rfl⟩|⟨p,rfl,hp,hp3⟩
  ·refine qj (ah I0 I2) ?_;refine⟨by omega,?_⟩;refine jy Qu ?_;refine qj (ah I0 I2) ?_;refine⟨(k+1,?s1,.kP (s.length+1+1+1) 0 1,M,[]++[c],e2),?m1,⟨⟨?a1,hs⟩,?b1,?c1,?d1⟩,?e1⟩
   case e1=>dsimp only;(refine jW ?_;exact qw)
   case m1=>dsimp only;omega
   case a1=>dsimp only;omega
   case b1=>exact(show jH _ 0=jH s 0 by exact AV).trans I0
   case c1=>dsimp only;simp (disch:=first|omega|(simp only [List.length_append,List.length_set,List.length_cons,List.length_nil];omega)) only [LK]
   case d1=>refine .inr ⟨s.length+1+1+1,rfl,?_,by omega⟩;simp (disch:=first|omega|(simp only [aJ,aW,aj,au];omega)) only [LK];rfl
  have hpl:=kK hp;refine uh (ah I0 I2) @hp ?_;refine⟨by omega,?_⟩;refine jy Qu ?_;refine uh (ah I0 I2) @hp ?_;refine⟨(k+1,?s2,.kP (s.length+1+1+1) 0 (N.length+1),M,N++[c],e2),?m2,⟨⟨?a2,hs⟩,?b2,?c2,?d2⟩,?e2⟩
  case e2=>dsimp only;(refine jW ?_;exact qw)
  case m2=>dsimp only;omega
  case a2=>dsimp only;omega
  case b2=>exact(show jH _ 0=jH s 0 by exact AV).trans I0
  case c2=>dsimp only;simp (disch:=first|omega|(simp only [List.length_append,List.length_set,List.length_cons,List.length_nil];omega)) only [LK]
  case d2=>refine .inr ⟨s.length+1+1+1,by simp,?_,by omega⟩;simp (disch:=first|omega|(simp only [aJ,aW,aj,au];omega)) only [LK];simp
 have hie:k=o.length:=by omega
 have co:=pG h.kS (mP i4);have hg:X7 S o=if e.ok=true then some (L,N,e)else none:=by unfold X7;rw [if_pos hb,←hie,hf]
 cases hbe:e.ok
 ·rw [hbe]at co hg;obtain⟨e1,e2,e3⟩:=Jj hg;rw [e1,e2,e3];refine uh @hc (ah I0 I2) ?_;refine jy co ?_;refine qj (ah I0 I2) ?_;exact X9
 rw [hbe,if_pos rfl]at hg;rw [hbe]at co;obtain⟨e1,e2,e3⟩:=U9 hg;rw [e1,e2,e3];rcases hN with ⟨rfl,rfl⟩|⟨p,rfl,hp,hp3⟩
 ·refine uh @hc (ah I0 I2) ?_;refine jy co ?_;refine qj (ah I0 I2) ?_;refine⟨uS (L':=3) (by omega) (by unfold pz;rfl),?_⟩;rw [Zr];exact aq0
 refine vW @hc (ah I0 I2) @hp ?_;refine jy co ?_;refine uh (ah I0 I2) @hp ?_;refine⟨uS (L':=3) (by omega) (by unfold pz;rfl),?_⟩;rw [Zr,Ug (RG N) (by simp),bZ,aY (by simp)];exact kE _
theorem auM(n:Nat)(l:List Pa):zW (n+3) (xJ l):=by
 simp only [zW];intro r hr c hc;obtain⟨x,_,rfl⟩:=bM.1 hr
 revert c
 simp only [eH];exact⟨ac6 _ _ _,I9 _ _,wH _ _,wH _ _,I9 _ _,wH _ _,wH _ _,I9 _ _,wH _ _,wH _ _,by simp⟩
theorem ayF(n:Nat)(x:Cd):zW (n+4) (TQ x):=by
 refine anK ?_;simp only [eH];exact⟨ac6 _ _ _,I9 _ _,wH _ _,wH _ _,auM _ _,by simp⟩
theorem adg{σ:Store}:Fin σ (.nK [.jL,.agg [.bool false,.jL,.jL],.bool false]) (.nK [Dx [],kN R0,.bool false]) :=
 ⟨.nK [Dx [],kN R0,.bool false],[],X9,IE (oC (o1:=[]) (by simp [lM]) (oC (o1:=[]) agY (nS nM))),.nil⟩
theorem Wv{T:Tb}(h:Bc T){S:List Lk}{o:List Int}(hw:Bg Lk.wf S)(hz:Dy Lk.sz S≤1048576)(ho:o.length≤1048576):PO T 270 [kY S,ints o] (.nK [Dx (eaN S o),kN (eaE S o),.bool (ZM S o)]):=by
 have ci:=ag8 h.ZL (l:=S) (o:=o) hw ho
 cases hb:RP S o
 ·rw [hb]at ci;have hg:X7 S o=none:=by unfold X7;rw [hb];rfl
  obtain⟨e1,e2,e3⟩:=Jj hg;rw [e1,e2,e3];refine kW nR h.hT ?_;simp only [tV,Lz,St.enter,aj,au,aN];refine ew ?_;refine jy ci ?_;refine ew ?_;exact adg
 rw [hb]at ci;have hok:=ahH hb;have hol:=adf hb;refine kW (fun x d=>(x == 39&&d == 21)||(x == 131&&d == 38)||(x == 183&&d == 49)) h.hT ?_;simp only [tV,Lz,St.enter,aj,au,aN];refine ew ?_;refine jy ci ?_;refine ew ?_;refine kU (uy h.lG (n:=0)) (by (refine ew ?_;try with_reducible exact True.intro)) ?_;intro r q1 o1 G;obtain⟨_,rfl,Zk⟩:=G.ow.kV;obtain⟨x1,x2,rfl⟩:=Zk.rat
 have E:Ep [some ⟨3,[[.bool false,.jL,.jL]]⟩] [] [] [] [(0,⟨3,[[.bool false,.jL,.jL]]⟩)]:=⟨Np,by simp [jH]⟩;have E2:=E.got (s1:=[some ⟨3,[[.bool false,.jL,.jL]]⟩]++[none,none]) (fun q hq=>by first|exact lQ hq|(simp only [bJ];exact lQ hq)) (by simp) Zk G.nd G.fresh G.old;have F0:=E.free (s1:=[some ⟨3,[[.bool false,.jL,.jL]]⟩]++[none,none]) (p:=2) G.fresh (by simp) (by simp);have hq:3≤q1.length:=by simpa using G.len
 clear E G;have E:Ep q1 [.bool (kR 0).neg,x1,x2] [.bool (kR 0).neg,ints (kR 0).mag,ints (kR 0).den] _ [(0,⟨3,[[.bool false,.jL,.jL]]⟩)]:=E2;clear E2
 replace E:=E.EF (p:=2) (ob:=⟨3,[[.bool (kR 0).neg,x1,x2]]⟩) (L':=[(0,⟨3,[[.bool false,.jL,.jL]]⟩),(2,⟨3,[[.bool (kR 0).neg,x1,x2]]⟩)]) F0 (by omega) (by simp)
 have LF:=ah (E.leaf 1 rfl rfl) (E.leaf 2 rfl rfl);refine DF @LF @jT @kM @List.set_set.{0} ?_;clear LF;refine kG (fun x d=>(x == 39&&d == 21)||(x == 131&&d == 38)||(x == 183&&d == 49)) (α:=Nat×Store×List Lk×List Cd×R×V×List (List V)×V×V×List Nat) (fun q=>⟨kX [kY q.2.2.1,.any,.any,.any,.any,.ptr 0 0 0,.any,q.2.2.2.2.2.1,.ptr 2 0 0,.any,.any,.any,.any,.any,.any,.any,.any,.any,.any,.any,.any,.any,ints o,iv (o.length:Nat),iv (q.1:Nat)],q.2.1,0,0,[],[]⟩) (fun q=>((q.1≤o.length∧U8 S o q.1=some (q.2.2.1,q.2.2.2.1,q.2.2.2.2.1)∧q.2.2.2.2.1.ok=true)∧q.2.2.2.2.2.2.1.length=q.1∧∀r∈q.2.2.2.2.2.2.1,r.length=5)∧∃M,LAt 5 q.2.2.2.2.2.1 q.2.2.2.2.2.2.1 M∧Ep q.2.1 ([.bool q.2.2.2.2.1.neg,q.2.2.2.2.2.2.2.1,q.2.2.2.2.2.2.2.2.1]++q.2.2.2.2.2.2.1.flatten) ([.bool q.2.2.2.2.1.neg,ints q.2.2.2.2.1.mag,ints q.2.2.2.2.1.den]++(q.2.2.2.1.map Cd.cells).flatten) q.2.2.2.2.2.2.2.2.2 ([(0,⟨3,[[.bool false,.jL,.jL]]⟩),(2,⟨3,[[.bool q.2.2.2.2.1.neg,q.2.2.2.2.2.2.2.1,q.2.2.2.2.2.2.2.2.1]]⟩)]++M)) (fun q=>o.length-q.1) rfl (0,(q1.set 2 (some ⟨3,[[.bool (kR 0).neg,x1,x2]]⟩)),S,[],kR 0,.jL,[],x1,x2,[]++o1) ?_ ?_ ?_
 ·exact⟨⟨⟨dY _,rfl,show (kR 0).ok=true by decide +kernel⟩,rfl,fun r hr=>by cases hr⟩,[],.inl ⟨rfl,rfl,rfl⟩,by simpa using E⟩
 ·(refine jW ?_;exact qw)
 clear E;rintro⟨k,s,L,N,e,pv,A,x1,x2,os⟩ ⟨⟨⟨hk,hf,he⟩,hAl,hA5⟩,M,hLA,E⟩;dsimp only at hk hf he hAl hA5 hLA E;obtain⟨⟨i1,i2,i3⟩,i4,i5,i6⟩:=X8 hok hw hz hf;dsimp only at i1 i2 i3 i4 i5 i6;have L0:=E.at0 (p:=0) (ob:=⟨3,[[.bool false,.jL,.jL]]⟩) (by simp);have L1:=E.at0 (p:=2) (ob:=⟨3,[[.bool e.neg,x1,x2]]⟩) (by simp);have LFx:=ah (E.leaf 1 rfl rfl) (E.leaf 2 rfl rfl);by_cases hc:(k:Int)<(o.length:Nat)
 ·have hkl:k<o.length:=by omega
  have hs:U8 S o (k+1)=if Vj L (o.getD k 0)=true then some (rnM L (o.getD k 0),N++[rnC L (o.getD k 0)],pI e (rnE L (o.getD k 0)))else none:=by simp only [U8,hf]
  have hbad:U8 S o (k+1)=none→X7 S o=none:=fun h=>Xb h (by omega);have hbd2:∀p,U8 S o (k+1)=some p→p.2.2.ok=false→X7 S o=none:=fun p h h2=>ahI h h2 (by omega);obtain⟨v,hv⟩:∃v,o.getD k 0=v:=⟨_,rfl⟩;rw [hv]at hs;have ca:=(aaD h.U7 (S:=L) (v:=v) i1 i2).frz (by
   intro p hp;simp only [rnT,aH,bV,or_false]at hp;rcases hp with rfl|rfl|rfl|rfl
   ·exact ayF _ _
   ·exact anM _ _
   ·exact anL _ _
   exact I9 _ _)
  simp only [rnT,bC,fZ]at ca;have hen:=anU L v;have hgd:=@ahJ L v;have hNl:N.length≤10:=by omega
  generalize rnM L v=S' at *;generalize rnC L v=c at *;generalize rnE L v=e' at *;generalize Vj L v=b at *;refine vW @hc @hkl @hv ?_;refine jy ca ?_;have hp2:¬(s.length+1=s.length):=by omega
  refine Df @L0 @L1 @LFx @jT @kM ?_;obtain⟨S1,hS1⟩:∃S1:Store,(((s++[some (⟨5,[[.int .i64 0,.bool false,.jL,.jL,.jL]]⟩:Obj)]++[none]).set (s.length+1) (some ⟨3,[[.bool false,.jL,.jL]]⟩)).set s.length (some ⟨5,[c.cells]⟩)).set (s.length+1) (some ⟨3,[e'.cells]⟩)=S1:=⟨_,rfl⟩;have h1:∀o,o<s.length→jH S1 o=jH s o:=fun o ho=>by
   rw [←hS1,jV (by omega),jV (by omega),jV (by omega),bJ,lQ ho]
  have hl1:S1.length=s.length+2:=by rw [←hS1];simp
  have hcd:jH S1 s.length=some ⟨5,[c.cells]⟩:=by rw [←hS1,jV (by omega),kT (by simp)]
  rw [hS1];clear hS1;have E1:=E.fr h1;have R:=ah (E1.res1 1 rfl rfl (jS _ _)) (E1.res1 2 rfl rfl (jS _ _));refine kU (Gv h.lC i4 hen) (by (refine vW @R @jT @kM ?_;try with_reducible exact True.intro)) ?_;intro r q2 o2 G;have gl:s.length+2≤q2.length:=by have:=G.len;omega
  obtain⟨_,rfl,hQ⟩:=G.ow.kV;obtain⟨y1,y2,rfl⟩:=hQ.rat
  have F1:2∉os:=(E.l (2,⟨3,[[.bool e.neg,x1,x2]]⟩) (by simp)).2;obtain⟨os2,E2,aDG⟩:=Ep.ahz (a:=[.bool e.neg,x1,x2]) (b:=A.flatten) (ta:=[.bool e.neg,ints e.mag,ints e.den]) (tb:=(N.map Cd.cells).flatten) E1 rfl (s1:=S1) (fun q hq=>rfl) (aP _) hQ G.nd G.fresh G.old;have F2:2∉os2:=fun hm=>by
   rcases aDG _ hm with h|h
   ·exact F1 h
   have:=L1.2;omega
  have hM:∀q∈M,q.1≠0∧q.1≠2:=fun q hq=>by
   rcases hLA with ⟨_,_,rfl⟩|⟨p,rfl,rfl⟩
   ·cases hq
   have L3:=E.at0 (p:=p) (ob:=⟨5,A⟩) (by simp);rw [aT.1 hq];refine⟨fun e=>?_,fun e=>?_⟩
   ·have e:p=0:=e;have:=L3.1;rw [e,L0.1]at this;cases this
   have e:p=2:=e;have:=L3.1;rw [e,L1.1]at this;cases this
  have hbd2:=fun (hs:U8 S o (k+1)=some (S',N++[c],pI e e'))=>hbd2 (S',N++[c],pI e e') hs;dsimp only at hbd2;have auI:=vK e e';generalize pI e e'=e2 at *;have LF:=ah (E2.leaf 1 rfl rfl) (E2.leaf 2 rfl rfl);have M0:=E2.at0 (p:=0) (ob:=⟨3,[[.bool false,.jL,.jL]]⟩) (by simp);have M1:=E2.at0 (p:=2) (ob:=⟨3,[[.bool e.neg,x1,x2]]⟩) (by simp);refine Df @LF @M0 @M1 @jT @kM ?_;have E3:=E2.EF (p:=2) (ob:=⟨3,[[.bool e2.neg,y1,y2]]⟩) (L':=[(0,⟨3,[[.bool false,.jL,.jL]]⟩),(2,⟨3,[[.bool e2.neg,y1,y2]]⟩)]++M) F2 M1.2 (fun q hq=>by
   simp only [bP,dL,aH]at hq;rcases hq with rfl|rfl|hq
   ·exact .inl ⟨by decide,by simp⟩
   ·exact .inr rfl
   exact .inl ⟨(hM q hq).2,by simp [hq]⟩)
  have hcd2:jH q2 s.length=some ⟨5,[c.cells]⟩:=(G.old _ (by omega)).trans hcd;have ayH:jH (q2.set 2 (some ⟨3,[[.bool e2.neg,y1,y2]]⟩)) s.length=some ⟨5,[c.cells]⟩:=(jV (by have:=L1.2;omega)).trans hcd2;have aG0:(q2.set 2 (some (⟨3,[[.bool e2.neg,y1,y2]]⟩:Obj))).length=q2.length:=aW;generalize hq3:q2.set 2 (some ⟨3,[[.bool e2.neg,y1,y2]]⟩)=q3 at *;have N0:=E3.at0 (p:=0) (ob:=⟨3,[[.bool false,.jL,.jL]]⟩) (by simp);have N1:=E3.at0 (p:=2) (ob:=⟨3,[[.bool e2.neg,y1,y2]]⟩) (by simp);have R3:=ah (E3.res1 1 rfl rfl (jS _ _)) (E3.res1 2 rfl rfl (jS _ _));have hsl:=L1.2;clear E E1 E2 hcd hcd2 G hQ
  cases b
  ·obtain⟨e1,e2,e3⟩:=Jj (hbad (by rw [hs];rfl));rw [e1,e2,e3];refine Df @N0 @N1 @LF @jT @kM ?_;exact adg
  have cg:=J3 h.kL auI;have hs:U8 S o (k+1)=some (S',N++[c],e2):=hs;have O:=hgd rfl;refine zK @N0 @N1 @LF @R3 @jT @kM ?_;refine jy cg ?_
  cases hb2:e2.ok
  ·obtain⟨e1,e2,e3⟩:=Jj (hbd2 hs hb2);rw [e1,e2,e3];refine Df @N0 @N1 @LF @jT @kM ?_;exact adg
  refine zK @N0 @N1 @LF @ayH @jT @kM ?_;have e4:∀σ:Store,resolve σ FD (TQ c)=some (TQ c):=fun σ=>BM (RG [c] _ (by simp));refine kU (TI h.O7 (c:=c) O.ne ⟨by have:=LD O.cn.1;omega,fun a ha=>by have h1:=O.cn.2 a ha;have:=LD h1.1;have:=LD h1.2.1;have:=LD h1.2.2;unfold Pa.sz;omega⟩ (by have:=O.len;omega)) (by (refine DF @e4 @ayH @jT @kM ?_;try with_reducible exact True.intro)) ?_;intro r q4 o4 G;obtain⟨_,rfl,hQ⟩:=G.ow.kV;obtain⟨z2,z3,z4,rfl⟩:=hQ.cd;have lz:=hQ.leaf rfl;simp only [dh,fB,aG,dK]at lz;have hq5:∀o,o<q3.length→jH (q3++[none,none]) o=jH q3 o:=fun o ho=>lQ ho;have E4:=E3.got (s1:=q3++[none,none]) hq5 (by simp) hQ G.nd (by simpa using G.fresh) (by simpa using G.old);have gl4:q3.length+2≤q4.length:=by have:=G.len;simpa using this
  have fr4:∀o∈o4,q3.length+2≤o:=fun o ho=>by have:=G.fresh o ho;simpa using this
  have P0:=E4.at0 (p:=0) (ob:=⟨3,[[.bool false,.jL,.jL]]⟩) (by simp);have P1:=E4.at0 (p:=2) (ob:=⟨3,[[.bool e2.neg,y1,y2]]⟩) (by simp);rcases hLA with ⟨rfl,rfl,rfl⟩|⟨p,rfl,rfl⟩
  ·refine zK @P0 @P1 @lz @gl4 @jT @kM ?_;refine⟨by omega,(k+1,?s1,S',N++[c],e2,.kP (q3.length+1) 0 1,[]++[[iv c.node,.bool c.total.neg,z2,z3,z4]],y1,y2,os2++o4),?m1,⟨⟨⟨?a1,hs,hb2⟩,?b1,?c1⟩,[(q3.length+1,⟨5,[]++[[iv c.node,.bool c.total.neg,z2,z3,z4]]⟩)],.inr ⟨q3.length+1,?d1,rfl⟩,?f1⟩,?e1⟩
   case e1=>dsimp only;(refine jW ?_;exact qw)
   case m1=>dsimp only;omega
   case a1=>dsimp only;omega
   case b1=>dsimp only;simp at hAl ⊢;omega
   case c1 =>
    intro r hr;rcases aO.1 hr with hr|hr
    ·exact hA5 r hr
    rw [aT.1 hr];rfl
   case d1=>dsimp only;simp
   case f1 =>
    dsimp only;refine Ep.ahE (E4.to ?_ ?_) ?_ ?_
    ·intro o ho;have a1:o<q3.length∨q3.length+2≤o:=by
      rcases aO.1 ho with ho|ho
      ·exact .inl (E3.aax o ho)
      exact .inr (fr4 o ho)
     exact AV
    ·intro q hq;simp only [aH,bV,or_false]at hq;rcases hq with rfl|rfl|rfl
     ·refine .inl ⟨by simp,?_⟩;show jH _ 0=jH q4 0;exact AV
     ·refine .inl ⟨by simp,?_⟩;show jH _ 2=jH q4 2;exact AV
     refine .inr ⟨?_,fun hm=>?_⟩
     ·show jH _ (q3.length+1)=_;simp (disch:=first|omega|(simp only [aJ,aW,aj,au];omega)) only [LK];rfl
     rcases aO.1 hm with hm|hm
     ·have:=E3.aax _ hm;omega
     have:=fr4 _ hm;omega
    ·simp
    simp
  have P3:=E4.at0 (p:=p) (ob:=⟨5,A⟩) (by simp);have hpq:=(E3.at0 (p:=p) (ob:=⟨5,A⟩) (by simp)).2;have hpn:=(E4.l (p,⟨5,A⟩) (by simp)).2;refine ew8 @P0 @P1 @lz @gl4 @P3 @hpq @jT @kM ?_;refine⟨by omega,(k+1,?s2,S',N++[c],e2,.kP (q3.length+1) 0 (A.length+1),A++[[iv c.node,.bool c.total.neg,z2,z3,z4]],y1,y2,os2++o4),?m2,⟨⟨⟨?a2,hs,hb2⟩,?b2,?c2⟩,[(q3.length+1,⟨5,A++[[iv c.node,.bool c.total.neg,z2,z3,z4]]⟩)],.inr ⟨q3.length+1,?d2,rfl⟩,?f2⟩,?e2⟩
  case e2=>dsimp only;(refine jW ?_;exact qw)
  case m2=>dsimp only;omega
  case a2=>dsimp only;omega
  case b2=>dsimp only;simp;omega
  case c2 =>
   intro r hr;rcases aO.1 hr with hr|hr
   ·exact hA5 r hr
   rw [aT.1 hr];rfl
  case d2=>dsimp only;simp
  case f2 =>
   dsimp only;refine Ep.ahE (E4.to ?_ ?_) ?_ ?_
   ·intro o ho;have a1:o<q3.length∨q3.length+2≤o:=by
     rcases aO.1 ho with ho|ho
     ·exact .inl (E3.aax o ho)
     exact .inr (fr4 o ho)
    have a2:o≠p:=fun e=>hpn (e▸ho);exact AV
   ·intro q hq;simp only [aH,bV,or_false]at hq;rcases hq with rfl|rfl|rfl
    ·refine .inl ⟨by simp,?_⟩;have:=(hM (p,⟨5,A⟩) (by simp)).1;dsimp only at this;show jH _ 0=jH q4 0;exact AV
    ·refine .inl ⟨by simp,?_⟩;have:=(hM (p,⟨5,A⟩) (by simp)).2;dsimp only at this;show jH _ 2=jH q4 2;exact AV
    refine .inr ⟨?_,fun hm=>?_⟩
    ·show jH _ (q3.length+1)=_;exact AV
    rcases aO.1 hm with hm|hm
    ·have:=E3.aax _ hm;omega
    have:=fr4 _ hm;omega
   ·simp
   simp
 have hie:k=o.length:=by omega
 have hg:X7 S o=some (L,N,e):=by unfold X7;rw [if_pos hb,←hie,hf];exact if_pos he
 obtain⟨e1,e2,e3⟩:=U9 hg;rw [e1,e2,e3];have n0:=(E.l (0,⟨3,[[.bool false,.jL,.jL]]⟩) (by simp)).2;rcases hLA with ⟨rfl,rfl,rfl⟩|⟨p,rfl,rfl⟩
 ·have hN0:N=[]:=bf (by simp at hAl;omega);subst hN0;refine zK @hc @L0 @L1 @LFx @jT @kM ?_;refine⟨uS (L':=3) (by have:=L1.2;omega) (by unfold pz;rfl),?_⟩;have W:=(E.c.set (o:=0) (x:=some ⟨3,[[.bool e.neg,x1,x2]]⟩) n0);have W1:nI (s.set 0 (some ⟨3,[[.bool e.neg,x1,x2]]⟩)) [.bool e.neg,x1,x2] e.cells os:=by simpa using W.ow
  refine⟨.nK [Dx [],.agg [.bool e.neg,x1,x2],.bool true],_,?_,IE (oC (o1:=[]) (by simp [lM]) (oC (nN W1) (nS nM))),by simpa using W.nd⟩;have h1:=kE (.agg [.bool e.neg,x1,x2]);simp only [lW,uG]at h1 ⊢;exact⟨_,rfl,_,_,rfl,.inl ⟨rfl,.inl rfl⟩,_,_,rfl,h1,_,_,rfl,rfl,rfl⟩
 have L3:=E.at0 (p:=p) (ob:=⟨5,A⟩) (by simp);have hp0:p≠0:=fun e=>by have:=L3.1;rw [e,L0.1]at this;cases this
 refine zK @hc @L0 @L1 @LFx @jT @kM ?_;refine⟨uS (L':=3) (by have:=L1.2;omega) (by unfold pz;rfl),?_⟩;have Es:=E.EF (p:=0) (ob:=⟨3,[[.bool e.neg,x1,x2]]⟩) (L':=[(p,⟨5,A⟩)]) n0 L0.2 (fun q hq=>.inl (by rw [aT.1 hq];exact⟨hp0,by simp⟩));have hA':A.length=(N.map Cd.cells).length:=by rw [aV];omega
 have ht5:∀r∈N.map Cd.cells,r.length=5:=fun r hr=>by obtain⟨x,_,rfl⟩:=bM.1 hr;rfl
 have hfl:A.flatten.length=(N.map Cd.cells).flatten.length:=by
  have e1:∀(X:List (List V)),(∀r∈X,r.length=5)→X.flatten.length=X.length*5:=fun X=>by
   induction X with
   |nil=>intro _;rfl
   |cons r X ih=>intro h;rw [dI,aJ,ih fun r hr=>h r (by simp [hr]),h r (by simp),aj];omega
  rw [e1 A hA5,e1 _ ht5,hA']
 obtain⟨os1,E2,_⟩:=(Ep.ahE (cs':=[.bool e.neg,x1,x2]++(A.flatten++[])) (ts':=[.bool e.neg,ints e.mag,ints e.den]++((N.map Cd.cells).flatten++[])) Es (by simp) (by simp)).swap rfl hfl;obtain⟨os2,E3⟩:=E2.close (p:=p) (n:=5) (k:=5) (by simp) hA5 ht5 hA';have W:nI _ ([V.kP p 0 A.length]++([.bool e.neg,x1,x2]++[])) ([Dx N]++(e.cells++[])) os2:=E3.c.ow;obtain⟨a1,a2,p1,p2,ea,rfl,w1,w2⟩:=pq W;obtain⟨rfl,rfl⟩:=dZ ea (by exact w1.len.symm);rw [aQ,aQ]at w2;have W9:=mD w1 (mD (abj (nN w2)) (nS (b:=true) nM));refine rE (IE W9) ?_;simpa using E3.c.nd
def Jb:Fn:=⟨1,53,[.tmp 2],(sr [oN 2 (.mM (.c (.one)))] (.seq (rf 1 [oK 7 1 (.build [.jL] []),oN 8 (.box (.t 7)),oK 3 1 (oV 8)]) (.seq (sr [oN 4 (.mM (cI 0))] (.block 0 (.loop (.seq (sr [oW 9 4,oN 10 (bc .lss 9 10)] (cd 10 .skip (.exit 0))) (.seq (.block 1 (rt 3 [oK 13 3 (oV 3),oK 14 3 (oV 3),oA 15 3 (.chk (.t 14)) [1],oA 16 3 (fd 0 15) [2],oA 17 3 (lF 1 16) [3],oN 18 (.make [.bool false] 1 (cI 10)),oA 19 1 (.ny 1 [.jL] 1 [(0,(.t 18))]) [5],oA 20 2 (.app 1 24 (.t 17) (.t 19)) [4,6],oA 21 3 (.chk (.t 13)) [0,0,1,2,3,4,5,6,7],oA 22 3 (fd 0 21) [8,0,1,2,3,4,5,6,7],⟨none,none,3,.store 1 (.t 22) (.t 20),[9,7,7,0,1,2,3,4,5,6,7]⟩])) (rg [oW 11 4,oN 12 (bc .add 11 1),oW 4 12])))))) (.seq (sr [oW 23 0,oN 24 (ln 23),oN 25 (.mM (cI 0))] (.block 2 (.loop (sr [oN 26 (bt .lss 25 24)] (.seq (cd 26 .skip (.exit 2)) (.seq (.block 3 (.seq (rf 1 [oK 27 1 (ix 11 23 25),oK 28 1 (lT 11 27),oN 6 (.alloc D6),⟨none,none,1,.store 11 (.t 6) (.t 28),[]⟩]) (.seq (rt 0 [oW 29 3,oA 30 0 (.chk (.t 29)) [0],oA 31 0 (fd 0 30) [1],oA 32 0 (lF 1 31) [2],oN 33 (fd 0 6),oA 34 0 (lF 1 33) [4],oA 35 0 (ix 1 32 34) [3,5],oA 36 0 (lF 1 35) [6],oN 37 (fd 1 6),oA 38 0 (lF 1 37) [8],oA 39 0 (ix 1 36 38) [7,9,0,1,2,3,4,5,6,7,8,9],⟨none,none,0,.store 1 (.t 39) (.c (.bool true)),[10,0,1,2,3,4,5,6,7,8,9]⟩]) (rt 0 [oW 40 3,oA 41 0 (.chk (.t 40)) [0],oA 42 0 (fd 0 41) [1],oA 43 0 (lF 1 42) [2],oN 44 (fd 1 6),oA 45 0 (lF 1 44) [4],oA 46 0 (ix 1 43 45) [3,5],oA 47 0 (lF 1 46) [6],oN 48 (fd 0 6),oA 49 0 (lF 1 48) [8],oA 50 0 (ix 1 47 49) [7,9,0,1,2,3,4,5,6,7,8,9],⟨none,none,0,.store 1 (.t 50) (.c (.bool true)),[10,0,1,2,3,4,5,6,7,8,9]⟩])))) (rg [oN 51 (bc .add 25 1),oW 25 51]))))))) (sr [oW 52 3,oW 2 52] .ret)))))⟩
structure ND (T:Tb):Prop where
 hT:T 314=some Jb
def FP:Fn:=⟨2,29,[.tmp 4],(sr [oN 4 mN] (.seq (rf 1 [oN 8 (.ny 1 F8 0 []),oK 5 1 (oV 8)]) (.seq (sr [oW 9 0,oN 10 (.chk (.t 9)),oN 11 (fd 0 10),oN 12 (lF 1 11),oW 13 1,oN 14 (ix 1 12 13),oN 15 (lF 1 14),oN 16 (ln 15),oN 17 (.mM (cI 0))] (.block 0 (.loop (sr [oN 18 (bt .lss 17 16)] (.seq (cd 18 .skip (.exit 0)) (.seq (.block 1 (sr [oW 19 17,oN 20 (ix 1 15 17),oN 21 (lF 1 20),oW 6 19,oW 7 21] (sr [oW 22 7] (cd 22 (rf 2 [oK 23 2 (oV 5),oK 24 2 (oV 6),oN 25 (.ny 1 F8 1 [(0,(.t 24))]),oK 26 1 (.app 1 8 (.t 23) (.t 25)),oK 5 2 (oV 26)]) .skip)))) (rg [oN 27 (bc .add 17 1),oW 17 27]))))))) (sr [oW 28 5,oW 4 28] .ret))))⟩
structure FQ (T:Tb):Prop where
 hT:T 321=some FP
def wK:Fn:=⟨2,82,[.tmp 4],(sr [oN 4 (.mM (cI 0))] (sr [oN 5 (.mM (cI 0))] (sr [oW 11 0,oW 12 1,oN 13 (cl 321 [11,12]),oW 6 13] (.seq (sr [oW 14 6,oN 15 (ln 14),oN 16 (.mM (cI 0))] (.block 0 (.loop (sr [oN 17 (bt .lss 16 15)] (.seq (cd 17 .skip (.exit 0)) (.seq (.block 1 (sr [oW 18 16,oN 19 (ix 1 14 16),oN 20 (lF 1 19),oW 7 18,oW 8 20] (.seq (sr [oW 21 6,oW 22 7,oN 23 (bc .add 22 1),oN 24 (.slice 1 (.t 21) (some (.t 23)) none),oN 25 (ln 24),oN 26 (.mM (cI 0))] (.block 2 (.loop (sr [oN 27 (bt .lss 26 25)] (.seq (cd 27 .skip (.exit 2)) (.seq (.block 3 (sr [oN 28 (ix 1 24 26),oN 29 (lF 1 28),oW 10 29] (.seq (sr [oW 30 0,oN 31 (.chk (.t 30)),oN 32 (fd 0 31),oN 33 (lF 1 32),oW 34 8,oN 35 (ix 1 33 34),oN 36 (lF 1 35),oW 37 10,oN 38 (ix 1 36 37),oN 39 (lF 1 38),oN 40 (nt 39)] (cd 40 (rg [oW 41 5,oN 42 (bc .add 41 1),oW 5 42]) .skip)) (sr [oW 43 0,oN 44 (.chk (.t 43)),oN 45 (fd 0 44),oN 46 (lF 1 45),oW 47 8,oN 48 (ix 1 46 47),oN 49 (lF 1 48),oW 50 10,oN 51 (ix 1 49 50),oS (.store 1 (.t 51) (.c (.bool true)))] (rg [oW 52 0,oN 53 (.chk (.t 52)),oN 54 (fd 0 53),oN 55 (lF 1 54),oW 56 10,oN 57 (ix 1 55 56),oN 58 (lF 1 57),oW 59 8,oN 60 (ix 1 58 59),oS (.store 1 (.t 60) (.c (.bool true)))]))))) (rg [oN 61 (bc .add 26 1),oW 26 61]))))))) (sr [oW 62 0,oN 63 (.chk (.t 62)),oN 64 (fd 0 63),oN 65 (lF 1 64),oW 66 8,oN 67 (ix 1 65 66),oN 68 (lF 1 67),oW 69 1,oN 70 (ix 1 68 69),oS (.store 1 (.t 70) (.c (.bool false)))] (rg [oW 71 0,oN 72 (.chk (.t 71)),oN 73 (fd 0 72),oN 74 (lF 1 73),oW 75 1,oN 76 (ix 1 74 75),oN 77 (lF 1 76),oW 78 8,oN 79 (ix 1 77 78),oS (.store 1 (.t 79) (.c (.bool false)))]))))) (rg [oN 80 (bc .add 16 1),oW 16 80]))))))) (sr [oW 81 5,oW 4 81] .ret)))))⟩
structure wL (T:Tb):Prop where
 hT:T 315=some wK
 LH:FQ T
theorem anW{T:Tb}(h:ND T){l:List Lk}(hw:Bg Lk.wf l:=by exact lX)(hok:lH l=true:=by assumption):Run T (.fn 314 [kY l] []) (.fn (.ptr 0 0 0) (UN (gOf l l.length))):=by
 have hlen:=hw.1;have:∃r σ',Run T (.fn 314 [kY l] []) (.fn r σ')∧(r=.ptr 0 0 0∧oM σ' 0 (gOf l l.length)):=by
  refine run_end nR h.hT ?_;simp only [Jb,Lz,St.enter,aj,au,aN];refine ew ?_;refine vG (fun _ _=>false) rfl ?_;refine ew ?_;refine kD (fun _=>?_) fun hh=>absurd (by decide) hh;refine ew ?_;refine⟨by decide,?_⟩;refine⟨by decide,?_⟩;refine⟨by unfold pz;decide +kernel,?_⟩;refine I4 (st2:=⟨kX [kY l,.any,.any,.ptr 0 0 0,iv 1],[some ⟨1,[[.kP 3 0 1]]⟩,some ⟨1,grow gz 0⟩,some ⟨1,[[.kP 1 0 10]]⟩,some ⟨1,[[.kP 1 0 10]]⟩],0,0,[],[]⟩) (by (refine jW ?_;exact qw)) ?_;refine vG (fun _ _=>false) rfl ?_;refine ew ?_;refine kD (fun _=>?_) fun hh=>absurd (by decide) hh;refine ew ?_;refine⟨by decide,?_⟩;refine⟨by decide,?_⟩;refine⟨by unfold pz;decide +kernel,?_⟩;refine I4 (st2:=⟨kX [kY l,.any,.any,.ptr 0 0 0,iv 2],[some ⟨1,[[.kP 6 0 2]]⟩,some ⟨1,grow gz 0⟩,some ⟨1,[[.kP 1 0 10]]⟩,none,some ⟨1,grow gz 1⟩,some ⟨1,[[.kP 4 0 10]]⟩,some ⟨1,[[.kP 1 0 10],[.kP 4 0 10]]⟩],0,0,[],[]⟩) (by (refine jW ?_;exact qw)) ?_;refine vG (fun _ _=>false) rfl ?_;refine ew ?_;refine kD (fun _=>?_) fun hh=>absurd (by decide) hh;refine ew ?_;refine⟨by decide,?_⟩;refine⟨by decide,?_⟩;refine⟨by unfold pz;decide +kernel,?_⟩;refine I4 (st2:=⟨kX [kY l,.any,.any,.ptr 0 0 0,iv 3],[some ⟨1,[[.kP 9 0 3]]⟩,some ⟨1,grow gz 0⟩,some ⟨1,[[.kP 1 0 10]]⟩,none,some ⟨1,grow gz 1⟩,some ⟨1,[[.kP 4 0 10]]⟩,none,some ⟨1,grow gz 2⟩,some ⟨1,[[.kP 7 0 10]]⟩,some ⟨1,[[.kP 1 0 10],[.kP 4 0 10],[.kP 7 0 10]]⟩],0,0,[],[]⟩) (by (refine jW ?_;exact qw)) ?_
  refine vG (fun _ _=>false) rfl ?_;refine ew ?_;refine kD (fun _=>?_) fun hh=>absurd (by decide) hh;refine ew ?_;refine⟨by decide,?_⟩;refine⟨by decide,?_⟩;refine⟨by unfold pz;decide +kernel,?_⟩;refine I4 (st2:=⟨kX [kY l,.any,.any,.ptr 0 0 0,iv 4],[some ⟨1,[[.kP 12 0 4]]⟩,some ⟨1,grow gz 0⟩,some ⟨1,[[.kP 1 0 10]]⟩,none,some ⟨1,grow gz 1⟩,some ⟨1,[[.kP 4 0 10]]⟩,none,some ⟨1,grow gz 2⟩,some ⟨1,[[.kP 7 0 10]]⟩,none,some ⟨1,grow gz 3⟩,some ⟨1,[[.kP 10 0 10]]⟩,some ⟨1,[[.kP 1 0 10],[.kP 4 0 10],[.kP 7 0 10],[.kP 10 0 10]]⟩],0,0,[],[]⟩) (by (refine jW ?_;exact qw)) ?_;refine vG (fun _ _=>false) rfl ?_;refine ew ?_;refine kD (fun _=>?_) fun hh=>absurd (by decide) hh;refine ew ?_;refine⟨by decide,?_⟩;refine⟨by decide,?_⟩;refine⟨by unfold pz;decide +kernel,?_⟩;refine I4 (st2:=⟨kX [kY l,.any,.any,.ptr 0 0 0,iv 5],[some ⟨1,[[.kP 15 0 5]]⟩,some ⟨1,grow gz 0⟩,some ⟨1,[[.kP 1 0 10]]⟩,none,some ⟨1,grow gz 1⟩,some ⟨1,[[.kP 4 0 10]]⟩,none,some ⟨1,grow gz 2⟩,some ⟨1,[[.kP 7 0 10]]⟩,none,some ⟨1,grow gz 3⟩,some ⟨1,[[.kP 10 0 10]]⟩,none,some ⟨1,grow gz 4⟩,some ⟨1,[[.kP 13 0 10]]⟩,some ⟨1,[[.kP 1 0 10],[.kP 4 0 10],[.kP 7 0 10],[.kP 10 0 10],[.kP 13 0 10]]⟩],0,0,[],[]⟩) (by (refine jW ?_;exact qw)) ?_;refine vG (fun _ _=>false) rfl ?_;refine ew ?_;refine kD (fun _=>?_) fun hh=>absurd (by decide) hh;refine ew ?_;refine⟨by decide,?_⟩;refine⟨by decide,?_⟩
  refine⟨by unfold pz;decide +kernel,?_⟩;refine I4 (st2:=⟨kX [kY l,.any,.any,.ptr 0 0 0,iv 6],[some ⟨1,[[.kP 18 0 6]]⟩,some ⟨1,grow gz 0⟩,some ⟨1,[[.kP 1 0 10]]⟩,none,some ⟨1,grow gz 1⟩,some ⟨1,[[.kP 4 0 10]]⟩,none,some ⟨1,grow gz 2⟩,some ⟨1,[[.kP 7 0 10]]⟩,none,some ⟨1,grow gz 3⟩,some ⟨1,[[.kP 10 0 10]]⟩,none,some ⟨1,grow gz 4⟩,some ⟨1,[[.kP 13 0 10]]⟩,none,some ⟨1,grow gz 5⟩,some ⟨1,[[.kP 16 0 10]]⟩,some ⟨1,[[.kP 1 0 10],[.kP 4 0 10],[.kP 7 0 10],[.kP 10 0 10],[.kP 13 0 10],[.kP 16 0 10]]⟩],0,0,[],[]⟩) (by (refine jW ?_;exact qw)) ?_;refine vG (fun _ _=>false) rfl ?_;refine ew ?_;refine kD (fun _=>?_) fun hh=>absurd (by decide) hh;refine ew ?_;refine⟨by decide,?_⟩;refine⟨by decide,?_⟩;refine⟨by unfold pz;decide +kernel,?_⟩;refine I4 (st2:=⟨kX [kY l,.any,.any,.ptr 0 0 0,iv 7],[some ⟨1,[[.kP 21 0 7]]⟩,some ⟨1,grow gz 0⟩,some ⟨1,[[.kP 1 0 10]]⟩,none,some ⟨1,grow gz 1⟩,some ⟨1,[[.kP 4 0 10]]⟩,none,some ⟨1,grow gz 2⟩,some ⟨1,[[.kP 7 0 10]]⟩,none,some ⟨1,grow gz 3⟩,some ⟨1,[[.kP 10 0 10]]⟩,none,some ⟨1,grow gz 4⟩,some ⟨1,[[.kP 13 0 10]]⟩,none,some ⟨1,grow gz 5⟩,some ⟨1,[[.kP 16 0 10]]⟩,none,some ⟨1,grow gz 6⟩,some ⟨1,[[.kP 19 0 10]]⟩,some ⟨1,[[.kP 1 0 10],[.kP 4 0 10],[.kP 7 0 10],[.kP 10 0 10],[.kP 13 0 10],[.kP 16 0 10],[.kP 19 0 10]]⟩],0,0,[],[]⟩) (by (refine jW ?_;exact qw)) ?_;refine vG (fun _ _=>false) rfl ?_;refine ew ?_
  refine kD (fun _=>?_) fun hh=>absurd (by decide) hh;refine ew ?_;refine⟨by decide,?_⟩;refine⟨by decide,?_⟩;refine⟨by unfold pz;decide +kernel,?_⟩;refine I4 (st2:=⟨kX [kY l,.any,.any,.ptr 0 0 0,iv 8],[some ⟨1,[[.kP 24 0 8]]⟩,some ⟨1,grow gz 0⟩,some ⟨1,[[.kP 1 0 10]]⟩,none,some ⟨1,grow gz 1⟩,some ⟨1,[[.kP 4 0 10]]⟩,none,some ⟨1,grow gz 2⟩,some ⟨1,[[.kP 7 0 10]]⟩,none,some ⟨1,grow gz 3⟩,some ⟨1,[[.kP 10 0 10]]⟩,none,some ⟨1,grow gz 4⟩,some ⟨1,[[.kP 13 0 10]]⟩,none,some ⟨1,grow gz 5⟩,some ⟨1,[[.kP 16 0 10]]⟩,none,some ⟨1,grow gz 6⟩,some ⟨1,[[.kP 19 0 10]]⟩,none,some ⟨1,grow gz 7⟩,some ⟨1,[[.kP 22 0 10]]⟩,some ⟨1,[[.kP 1 0 10],[.kP 4 0 10],[.kP 7 0 10],[.kP 10 0 10],[.kP 13 0 10],[.kP 16 0 10],[.kP 19 0 10],[.kP 22 0 10]]⟩],0,0,[],[]⟩) (by (refine jW ?_;exact qw)) ?_;refine vG (fun _ _=>false) rfl ?_;refine ew ?_;refine kD (fun _=>?_) fun hh=>absurd (by decide) hh;refine ew ?_;refine⟨by decide,?_⟩;refine⟨by decide,?_⟩;refine⟨by unfold pz;decide +kernel,?_⟩
  refine I4 (st2:=⟨kX [kY l,.any,.any,.ptr 0 0 0,iv 9],[some ⟨1,[[.kP 27 0 9]]⟩,some ⟨1,grow gz 0⟩,some ⟨1,[[.kP 1 0 10]]⟩,none,some ⟨1,grow gz 1⟩,some ⟨1,[[.kP 4 0 10]]⟩,none,some ⟨1,grow gz 2⟩,some ⟨1,[[.kP 7 0 10]]⟩,none,some ⟨1,grow gz 3⟩,some ⟨1,[[.kP 10 0 10]]⟩,none,some ⟨1,grow gz 4⟩,some ⟨1,[[.kP 13 0 10]]⟩,none,some ⟨1,grow gz 5⟩,some ⟨1,[[.kP 16 0 10]]⟩,none,some ⟨1,grow gz 6⟩,some ⟨1,[[.kP 19 0 10]]⟩,none,some ⟨1,grow gz 7⟩,some ⟨1,[[.kP 22 0 10]]⟩,none,some ⟨1,grow gz 8⟩,some ⟨1,[[.kP 25 0 10]]⟩,some ⟨1,[[.kP 1 0 10],[.kP 4 0 10],[.kP 7 0 10],[.kP 10 0 10],[.kP 13 0 10],[.kP 16 0 10],[.kP 19 0 10],[.kP 22 0 10],[.kP 25 0 10]]⟩],0,0,[],[]⟩) (by (refine jW ?_;exact qw)) ?_;refine vG (fun _ _=>false) rfl ?_;refine ew ?_;refine kD (fun _=>?_) fun hh=>absurd (by decide) hh;refine ew ?_;refine⟨by decide,?_⟩;refine⟨by decide,?_⟩;refine⟨by unfold pz;decide +kernel,?_⟩
  refine I4 (st2:=⟨kX [kY l,.any,.any,.ptr 0 0 0,iv 10],[some ⟨1,[[.kP 30 0 10]]⟩,some ⟨1,grow gz 0⟩,some ⟨1,[[.kP 1 0 10]]⟩,none,some ⟨1,grow gz 1⟩,some ⟨1,[[.kP 4 0 10]]⟩,none,some ⟨1,grow gz 2⟩,some ⟨1,[[.kP 7 0 10]]⟩,none,some ⟨1,grow gz 3⟩,some ⟨1,[[.kP 10 0 10]]⟩,none,some ⟨1,grow gz 4⟩,some ⟨1,[[.kP 13 0 10]]⟩,none,some ⟨1,grow gz 5⟩,some ⟨1,[[.kP 16 0 10]]⟩,none,some ⟨1,grow gz 6⟩,some ⟨1,[[.kP 19 0 10]]⟩,none,some ⟨1,grow gz 7⟩,some ⟨1,[[.kP 22 0 10]]⟩,none,some ⟨1,grow gz 8⟩,some ⟨1,[[.kP 25 0 10]]⟩,none,some ⟨1,grow gz 9⟩,some ⟨1,[[.kP 28 0 10]]⟩,some ⟨1,[[.kP 1 0 10],[.kP 4 0 10],[.kP 7 0 10],[.kP 10 0 10],[.kP 13 0 10],[.kP 16 0 10],[.kP 19 0 10],[.kP 22 0 10],[.kP 25 0 10],[.kP 28 0 10]]⟩],0,0,[],[]⟩) (by (refine jW ?_;exact qw)) ?_;refine vG (fun _ _=>false) rfl ?_;refine ew ?_;refine kD (fun hh=>absurd hh (by decide)) fun _=>?_;refine ew ?_;refine aqy [0,30,1,4,7,10,13,16,19,22,25,28] (by decide) ?_;refine kG (fun _ _=>false) (α:=Nat×Store) (fun q=>⟨kX [.any,.any,.any,.ptr 0 0 0,.any,.any,.any,.any,.any,.any,.any,.any,.any,.any,.any,.any,.any,.any,.any,.any,.any,.any,.any,kY l,iv (l.length:Nat),iv (q.1:Nat)],q.2,0,0,[],[]⟩) (fun q=>q.1≤l.length∧oM q.2 0 (gOf l q.1)) (fun q=>l.length-q.1) rfl (0,UN gz) ?_ ?_ ?_
  ·exact⟨by omega,am7 _⟩
  ·refine ah8 ?_ rfl
   repeat' (first|exact True.intro|exact of_eq_true (ah7 _)|exact xH rfl|refine⟨?_,?_⟩)
  rintro⟨i,s⟩ ⟨hi,hG⟩;dsimp only at hi hG;refine ew ?_;refine kD (fun hc=>?_) fun hc=>?_<;>(refine uh @hc @mg ?_;try with_reducible exact True.intro)
  ·have hil:i<l.length:=by omega
   obtain⟨n1,n2,n3⟩:=uY (tK hok hil);have en:gOf l (i+1)=DL (DL (gOf l i) (l.getD i default).a.toNat (l.getD i default).b.toNat true) (l.getD i default).b.toNat (l.getD i default).a.toNat true:=rfl;generalize hx:l.getD i default=x at n1 n2 n3 en ⊢;have A0:=hG.p;have A1:=hG.on;have A2:=hG.row x.a.toNat (by omega);have A3:=hG.row x.b.toNat (by omega);simp only [aN]at A0 A1 A2 A3;have hlt:=hG.lt;have B1:=@Ri 2 x.a.toNat (by omega);have B2:=@Ri 2 x.b.toNat (by omega);have B3:=UM 2;have G1:=@Lm (gOf l i) x.a.toNat x.b.toNat (by omega);refine zK @A0 @A1 @A2 @A3 (ah B1 (ah B2 B3)) @G1 ?_;refine⟨by unfold pz;rfl,?_⟩;have hG1:=hG.set (i:=x.a.toNat) (j:=x.b.toNat) (x:=true) (by omega) (by omega);simp only [aN]at hG1;clear A0 A1 A2 A3 G1;generalize hs1:s.set (2+x.a.toNat) (some ⟨1,(grow (gOf l i) x.a.toNat).set x.b.toNat [.bool true]⟩)=s1 at hG1 ⊢;have hl1:s.length=s1.length:=by rw [←hs1];simp
   rw [hl1]at hlt ⊢;clear hs1 hl1;have A0:=hG1.p;have A1:=hG1.on;have A2:=hG1.row x.a.toNat (by omega);have A3:=hG1.row x.b.toNat (by omega);simp only [aN]at A0 A1 A2 A3;generalize DL (gOf l i) x.a.toNat x.b.toNat true=g1 at en hG1 A2 A3;have G1:=@Lm g1 x.b.toNat x.a.toNat (by omega);refine zK @A0 @A1 @A2 @A3 (ah B1 (ah B2 B3)) @G1 ?_;refine⟨by unfold pz;rfl,?_⟩;have hG2:=hG1.set (i:=x.b.toNat) (j:=x.a.toNat) (x:=true) (by omega) (by omega);simp only [aN]at hG2;rw [←en]at hG2;clear A0 A1 A2 A3 G1 hG hG1 en;generalize hs2:s1.set (2+x.b.toNat) (some ⟨1,(grow g1 x.b.toNat).set x.a.toNat [.bool true]⟩)=s2 at hG2 ⊢;have hl2:=hG2.lt;exact⟨(i+1,s2++[some ⟨11,[x.cells]⟩]),by dsimp only;omega,⟨by dsimp only;omega,hG2.frame fun q h1 h2=>lQ (by omega)⟩,by (refine jW ?_;exact qw)⟩
  have:i=l.length:=by omega
  subst this;exact hG
 obtain⟨r,σ',h1,rfl,h2⟩:=this;exact aiB h1 (by simp) h2
def nrG(g:Gd)(v:Nat):Nat→List Int
 |0=>[]
 |n+1=>nrG g v n++if g v n=true then [((n:Nat):Int)]else []
theorem Ya(g:Gd)(v:Nat):∀n,(nrG g v n).length≤n
 |0=>aP _
 |
  n+1=>by
  have:=Ya g v n;unfold nrG;split<;>simp<;>omega
theorem akH{g:Gd}{a j:Nat}(hj:j<10):(grow g a).getD j []=[.bool (g a j)]:=by
 rw [ak,Lm hj];rfl
theorem ZN{T:Tb}(h:FQ T){g:Gd}{v:Int}(hv:0≤v∧v≤9:=by exact lX):PO T 321 [gfz g,iv v] (ints (nrG g v.toNat 10)):=by
 have hvn:v.toNat<10:=by omega
 unfold gfz;obtain⟨L,hL⟩:∃L,((List.range 10).map fun a=>[V.sl 1 (grow g a)])=L:=⟨_,rfl⟩;have L1:L.length=10:=by rw [←hL];simp
 have L2:L.getD v.toNat []=[.sl 1 (grow g v.toNat)]:=by
  rw [←hL,ak,bG,dw hvn];rfl
 have L3:=Oe g v.toNat
 rw [hL];clear hL;refine kW nR h.hT ?_;simp only [FP,Lz,St.enter,aj,au,aN];refine ew ?_;refine vW @L1 @L2 @L3 ?_;refine kG (fun _ _=>false) (α:=Nat×List Int) (fun q=>⟨kX [.any,.any,.any,.any,.any,slV q.2.length,.any,.any,.any,.any,.any,.any,.any,.any,.any,.sl 1 (grow g v.toNat),iv 10,iv (q.1:Nat)],VH 1 (kF q.2),0,0,[],[]⟩) (fun q=>q.1≤10∧q.2=nrG g v.toNat q.1) (fun q=>10-q.1) rfl (0,[]) ?_ ?_ ?_
 ·exact⟨by omega,rfl⟩
 ·exact ais
 rintro⟨i,xs⟩ ⟨hi,hx0⟩;dsimp only at hi hx0;have hx:xs.length≤10:=by rw [hx0];have:=Ya g v.toNat i;omega
 by_cases hc:(i:Int)<10
 ·have es:nrG g v.toNat (i+1)=nrG g v.toNat i++if g v.toNat i=true then [((i:Nat):Int)]else []:=rfl
  have G1:=@akH g v.toNat i (by omega);rw [←hx0]at es
  cases hb:g v.toNat i
  ·rw [hb]at G1;rw [hb,if_neg (by simp),aQ]at es
   (rcases xs with _|⟨x,xs⟩<;>simp only [au,aj,qX,qH,mO,lI]at hx ⊢)
   ·refine vW @hc @L3 @G1 ?_;exact⟨(i+1,[]),by dsimp only;omega,⟨by dsimp only;omega,es.symm⟩,by exact ais⟩
   refine vW @hc @L3 @G1 ?_;exact⟨(i+1,x::xs),by dsimp only;omega,⟨by dsimp only;omega,es.symm⟩,by exact ait⟩
  rw [hb]at G1;rw [hb,if_pos rfl]at es
  (rcases xs with _|⟨x,xs⟩<;>simp only [au,aj,qX,qH,mO,lI]at hx ⊢)
  ·refine vW @hc @L3 @G1 ?_;exact⟨by omega,(i+1,([])++[((i:Nat):Int)]),by dsimp only;omega,⟨by dsimp only;omega,es.symm⟩,by exact arN⟩
  refine vW @hc @L3 @G1 ?_;exact⟨by omega,(i+1,(x::xs)++[((i:Nat):Int)]),by dsimp only;omega,⟨by dsimp only;omega,es.symm⟩,by exact arO⟩
 have:i=10:=by omega
 subst this;rw [←hx0]
 (rcases xs with _|⟨x,xs⟩<;>simp only [au,aj,qX,qH,mO,lI]at hx ⊢)
 ·refine qj @hc ?_;exact CZ
 refine qj @hc ?_;exact N8 (o:=0) (l:=x::xs) rfl
def stE(a b:Nat)(s:Gd×Nat):Gd×Nat:=(DL (DL s.1 a b true) b a true,if s.1 a b=true then s.2 else s.2+1)
def ej(L:List Int)(i:Nat)(s:Gd×Nat):Nat→Gd×Nat
 |0=>s
 |k+1=>stE (L.getD i 0).toNat (L.getD (i+1+k) 0).toNat (ej L i s k)
def ez(a v:Nat)(s:Gd×Nat):Gd×Nat:=(DL (DL s.1 a v false) v a false,s.2)
def ei(L:List Int)(v:Nat)(g:Gd):Nat→Gd×Nat
 |0=>(g,0)
 |i+1=>ez (L.getD i 0).toNat v (ej L i (ei L v g i) (L.length-(i+1)))
def elS(g:Gd)(v:Nat):Gd×Nat:=ei (nrG g v 10) v g (nrG g v 10).length
theorem anX(L:List Int)(i:Nat)(s:Gd×Nat):∀k,(ej L i s k).2≤s.2+k
 |0=>aP _
 |
  k+1=>by
  have:=anX L i s k;unfold ej stE;dsimp only;split<;>omega
theorem ar5(L:List Int)(v:Nat)(g:Gd):∀i,(ei L v g i).2≤L.length*i
 |0=>aP _
 |
  i+1=>by
  have:=ar5 L v g i;have:=anX L i (ei L v g i) (L.length-(i+1));unfold ei ez;dsimp only;rw [Nat.mul_succ];omega
theorem adh{g:Gd}{v:Nat}{x:Int}:∀{n:Nat},x∈nrG g v n→0≤x∧x<n∧g v x.toNat=true
 |0,h=>by cases h
 |
  n+1,h=>by
  unfold nrG at h;rcases aO.1 h with h|h
  ·obtain⟨h1,h2,h3⟩:=adh h;exact⟨h1,by omega,h3⟩
  split at h
  ·rw [aT.1 h];rename_i hb;exact⟨by omega,by omega,by simpa using hb⟩
  cases h
theorem ai3(g:Gd)(v:Nat):∀n,(nrG g v n).Pairwise (· < ·)
 |0=>List.Pairwise.nil
 |
  n+1=>by
  unfold nrG;rw [iK];refine⟨ai3 g v n,?_,fun x hx y hy=>?_⟩
  ·split<;>simp
  split at hy
  ·rw [aT.1 hy];have:=adh hx;omega
  cases hy
theorem ZO{T:Tb}(h:wL T){g:Gd}{v:Int}(hv:0≤v∧v≤9:=by exact lX)(hI:g v.toNat v.toNat=false):Run T (.fn 315 [.ptr 0 0 0,iv v] (UN g)) (.fn (iv ((elS g v.toNat).2:Nat)) (UN (elS g v.toNat).1)):=by
 have hvn:v.toNat<10:=by omega
 have hG0:=am7 g;have hl0:=XU g;generalize UN g=s0 at hG0 hl0 ⊢;have:∃r σ',Run T (.fn 315 [.ptr 0 0 0,iv v] s0) (.fn r σ')∧(r=iv ((elS g v.toNat).2:Nat)∧oM σ' 0 (elS g v.toNat).1):=by
  unfold elS;have hA:=ai3 g v.toNat 10;have hM:∀x∈nrG g v.toNat 10,0≤x∧x<10∧x≠v:=fun x hx=>by
   obtain⟨h1,h2,h3⟩:=adh hx;refine⟨h1,h2,fun e=>?_⟩;rw [e,hI]at h3;cases h3
  have po:=ZN h.LH (g:=g) hv;have hln:=Ya g v.toNat 10;generalize nrG g v.toNat 10=L at hA hM po hln ⊢;have gr:=Fq hG0;refine run_end (fun x d=>x == 321) h.hT ?_;simp only [wK,Lz,St.enter,aj,au,aN];refine ew ?_;refine kU po (by (refine qj @gr ?_;try with_reducible exact True.intro)) ?_;intro r s1 os G;have hG1:oM s1 0 g:=hG0.frame fun q h1 h2=>G.old q (by omega);have hq:∀q∈os,12≤q:=fun q hq=>by have:=G.fresh q hq;omega
  have ho:=G.ow;clear gr hG0 G po;rcases ho.wX with ⟨rfl,rfl,_⟩|⟨o,rfl,hob,rfl⟩
  ·refine ew ?_;refine kG (fun x d=>x == 321) (α:=Nat) (fun i=>⟨kX [.any,.any,.any,.any,.any,iv 0,.any,.any,.any,.any,.any,.any,.any,.any,.any,iv 0,iv 0],s1,s0.length,0,[],[]⟩) (fun i=>i=0) (fun i=>i) rfl 0 ?_ ?_ ?_
   ·rfl
   ·(refine jW ?_;exact qw)
   rintro i rfl;refine ew ?_;refine kD (fun hc=>absurd hc (by omega)) fun hc=>?_;refine ew ?_;exact⟨rfl,hG1⟩
  have aG1:=hq o (by simp);clear ho hq;refine qj @hob ?_;have hgd:∀j,j<L.length→0≤L.getD j 0∧L.getD j 0<10∧L.getD j 0≠v:=fun j hj=>hM _ (by rw [ak,aB hj];exact dP hj);have hgl:∀i j,i<j→j<L.length→L.getD i 0<L.getD j 0:=fun i j h1 h2=>by
   have:=(gV.1 hA) i j (by omega) h2 h1;simpa [ak,h2,(show i<L.length by omega)]using this
  have hrow:∀j,j<L.length→(kF L)[j]? = some [iv (L.getD j 0)]:=fun j hj=>by
   rw [kF,bG,aB hj,ak,aB hj];rfl
  have hll:L.length≤10:=hln;clear hA hM hln;refine kG (fun x d=>x == 321) (α:=Nat×Store) (fun q=>⟨kX [.ptr 0 0 0,iv v,.any,.any,.any,iv ((ei L v.toNat g q.1).2:Nat),.kP o 0 L.length,.any,.any,.any,.any,.any,.any,.any,.kP o 0 L.length,iv (L.length:Nat),iv (q.1:Nat)],q.2,s0.length,0,[],[]⟩) (fun q=>q.1≤L.length∧oM q.2 0 (ei L v.toNat g q.1).1∧jH q.2 o=some ⟨1,kF L⟩) (fun q=>L.length-q.1) rfl (0,s1) ?_ ?_ ?_
  ·exact⟨by omega,hG1,hob⟩
  ·rw [show ei L v.toNat g 0=(g,0)from rfl];(refine jW ?_;exact qw)
  clear hG1 hob;rintro⟨i,s⟩ ⟨hi,hG,hob⟩;dsimp only at hi hG hob;have hle:=ar5 L v.toNat g i;have hmul:L.length*i≤100:=by
   have:L.length*i≤10*10:=jK (by omega) (by omega);omega
  have es:i<L.length→ei L v.toNat g (i+1)=ez (L.getD i 0).toNat v.toNat (ej L i (ei L v.toNat g i) (L.length-(i+1))):=fun _=>rfl;generalize hp:ei L v.toNat g i=p at hle es hG ⊢;have irl:(kF L).length=L.length:=zB L;refine qj @hob ?_;refine kD (fun hc=>?_) fun hc=>?_<;>(refine qj @hc ?_;try with_reducible exact True.intro)
  ·have hil:i<L.length:=by omega
   have es:=es hil;have ha:=hgd i hil;have R1:=hrow i hil;refine vW @hob @R1 @irl ?_;have h11:((i:Int)+1).toNat=i+1:=by omega
   rw [h11];have hgk:∀k,k<L.length-(i+1)→L.getD i 0<L.getD (i+1+k) 0:=fun k hk=>hgl _ _ (by omega) (by omega);have ayI:∀k,ej L i p (k+1)=stE (L.getD i 0).toNat (L.getD (i+1+k) 0).toNat (ej L i p k):=fun _=>rfl;generalize L.getD i 0=A at es ha R1 hgk ayI ⊢;refine kG (fun x d=>x == 321) (α:=Nat×Store) (fun q=>⟨kX [.ptr 0 0 0,iv v,.any,.any,.any,iv ((ej L i p q.1).2:Nat),.kP o 0 L.length,.any,iv A,.any,.any,.any,.any,.any,.kP o 0 L.length,iv (L.length:Nat),iv (i:Nat),.any,.any,.any,.any,.any,.any,.any,.kP o (i+1) (L.length-(i+1)),iv ((L.length-(i+1):Nat):Int),iv (q.1:Nat)],q.2,s0.length,0,[],[]⟩) (fun q=>q.1≤L.length-(i+1)∧oM q.2 0 (ej L i p q.1).1∧jH q.2 o=some ⟨1,kF L⟩) (fun q=>L.length-(i+1)-q.1) rfl (0,s) ?_ ?_ ?_
   ·exact⟨by omega,hG,hob⟩
   ·rw [show ej L i p 0=p from rfl];(refine jW ?_;exact qw)
   clear hG hob;rintro⟨k,s⟩ ⟨hk,hG,hob⟩;dsimp only at hk hG hob;have hle2:=anX L i p k;have ekk:=ayI k;have hgk:=hgk k;have hrw:=hrow (i+1+k);have hgd:=hgd (i+1+k);have hfin:k=L.length-(i+1)→ej L i p (L.length-(i+1))=ej L i p k:=fun e=>by rw [e]
   generalize ej L i p k=p2 at hle2 ekk hG hfin ⊢;refine qj @hob ?_;refine kD (fun hd=>?_) fun hd=>?_<;>(refine qj @hd ?_;try with_reducible exact True.intro)
   ·have hkl:k<L.length-(i+1):=by omega
    have hAB:=hgk hkl;have R2:=hrw (by omega);have hb:=hgd (by omega);generalize L.getD (i+1+k) 0=B at ekk hAB R2 hb;unfold stE at ekk;have A0:=hG.p;have A1:=hG.on;have A2:=hG.row A.toNat (by omega);have A3:=hG.row B.toNat (by omega);simp only [aN]at A0 A1 A2 A3;have hlt:=hG.lt;have B1:=@Ri 2 A.toNat (by omega);have B2:=@Ri 2 B.toNat (by omega);have B3:=UM 2;have G1:=@Lm p2.1 A.toNat B.toNat (by omega);have G2:=@Lm p2.1 B.toNat A.toNat (by omega);have G3:=Oe p2.1 A.toNat
    have G4:=Oe p2.1 B.toNat
    have H1:=hG.set (i:=A.toNat) (j:=B.toNat) (x:=true) (by omega) (by omega);have H2:=H1.set (i:=B.toNat) (j:=A.toNat) (x:=true) (by omega) (by omega);rw [acH (by omega)]at H2;simp only [aN]at H2;clear H1
    cases hx:p2.1 A.toNat B.toNat
    ·rw [hx]at G1;rw [hx,if_neg (by simp)]at ekk;refine ew8 @hob @irl @R2 (ah A0 A1) (ah A2 A3) (ah B1 (ah B2 B3)) (ah G1 G2) (ah G3 G4) ?_;generalize hs2:(s.set (2+A.toNat) (some ⟨1,(grow p2.1 A.toNat).set B.toNat [.bool true]⟩)).set (2+B.toNat) (some ⟨1,(grow p2.1 B.toNat).set A.toNat [.bool true]⟩)=s2 at H2 ⊢;have adi:jH s2 o=some ⟨1,kF L⟩:=by rw [←hs2,jV (by omega),jV (by omega)];exact hob
     refine⟨(k+1,s2),by dsimp only;omega,⟨by dsimp only;omega,by dsimp only;rw [ekk];exact H2,adi⟩,?_⟩;dsimp only;rw [ekk]
     (refine jW ?_;exact qw)
    rw [hx]at G1;rw [hx,if_pos rfl]at ekk;refine ew8 @hob @irl @R2 (ah A0 A1) (ah A2 A3) (ah B1 (ah B2 B3)) (ah G1 G2) (ah G3 G4) ?_;generalize hs2:(s.set (2+A.toNat) (some ⟨1,(grow p2.1 A.toNat).set B.toNat [.bool true]⟩)).set (2+B.toNat) (some ⟨1,(grow p2.1 B.toNat).set A.toNat [.bool true]⟩)=s2 at H2 ⊢;have adi:jH s2 o=some ⟨1,kF L⟩:=by rw [←hs2,jV (by omega),jV (by omega)];exact hob
    refine⟨(k+1,s2),by dsimp only;omega,⟨by dsimp only;omega,by dsimp only;rw [ekk];exact H2,adi⟩,?_⟩;dsimp only;rw [ekk]
    (refine jW ?_;exact qw)
   have hke:k=L.length-(i+1):=by omega
   rw [hfin hke]at es;unfold ez at es;have A0:=hG.p;have A1:=hG.on;have A2:=hG.row A.toNat (by omega);have A3:=hG.row v.toNat (by omega);simp only [aN]at A0 A1 A2 A3;have hlt:=hG.lt;have B1:=@Ri 2 A.toNat (by omega);have B2:=@Ri 2 v.toNat (by omega);have B3:=UM 2;have G1:=@Lm p2.1 A.toNat v.toNat (by omega);have G2:=@Lm p2.1 v.toNat A.toNat (by omega);have G3:=Oe p2.1 A.toNat
   have G4:=Oe p2.1 v.toNat
   have H1:=hG.set (i:=A.toNat) (j:=v.toNat) (x:=false) (by omega) (by omega);have H2:=H1.set (i:=v.toNat) (j:=A.toNat) (x:=false) (by omega) (by omega);rw [acH (by omega)]at H2;simp only [aN]at H2;clear H1;refine ew7 @hob @irl (ah A0 A1) (ah A2 A3) (ah B1 (ah B2 B3)) (ah G1 G2) (ah G3 G4) ?_;generalize hs2:(s.set (2+A.toNat) (some ⟨1,(grow p2.1 A.toNat).set v.toNat [.bool false]⟩)).set (2+v.toNat) (some ⟨1,(grow p2.1 v.toNat).set A.toNat [.bool false]⟩)=s2 at H2 ⊢;have adi:jH s2 o=some ⟨1,kF L⟩:=by rw [←hs2,jV (by omega),jV (by omega)];exact hob
   refine⟨(i+1,s2),by dsimp only;omega,⟨by dsimp only;omega,by dsimp only;rw [es];exact H2,adi⟩,?_⟩;dsimp only;rw [es]
   (refine jW ?_;exact qw)
  have:i=L.length:=by omega
  subst this;rw [hp];exact⟨rfl,hG⟩
 obtain⟨r,σ',h1,rfl,h2⟩:=this;exact aiB h1 (by omega) h2
structure Gok (g:Gd):Prop where
 irr:∀x,g x x=false
 sym:∀x y,g x y=g y x
theorem ai4(g:Gd)(i j x y:Nat)(b:Bool):DL g i j b x y=if x=i∧y=j then b else g x y:=rfl
theorem uU(g:Gd)(i j x y:Nat)(b:Bool):DL (DL g i j b) j i b x y=if (x=i∧y=j)∨(x=j∧y=i)then b else g x y:=by
 rw [ai4,ai4];by_cases h1:x=j∧y=i
 ·rw [if_pos h1,if_pos (.inr h1)]
 rw [if_neg h1];by_cases h2:x=i∧y=j
 ·rw [if_pos h2,if_pos (.inl h2)]
 rw [if_neg h2,if_neg (by rintro(h|h);exact h2 h;exact h1 h)]
theorem Gok.set2{g:Gd}(h:Gok g){i j:Nat}(b:Bool)(hij:i≠j∨b=false):Gok (DL (DL g i j b) j i b):=by
 refine⟨fun x=>?_,fun x y=>?_⟩
 ·rw [uU];by_cases h1:(x=i∧x=j)∨(x=j∧x=i)
  ·rw [if_pos h1];rcases hij with hij|hij
   ·exfalso;rcases h1 with ⟨h1,h2⟩|⟨h1,h2⟩
    ·exact hij (h1.symm.trans h2)
    exact hij (h2.symm.trans h1)
   exact hij
  rw [if_neg h1];exact h.irr x
 rw [uU,uU,h.sym x y];by_cases h1:(x=i∧y=j)∨(x=j∧y=i)
 ·rw [if_pos h1,if_pos (by rcases h1 with ⟨h1,h2⟩|⟨h1,h2⟩;exact .inr ⟨h2,h1⟩;exact .inl ⟨h2,h1⟩)]
 rw [if_neg h1,if_neg (by rintro(⟨h2,h3⟩|⟨h2,h3⟩);exact h1 (.inr ⟨h3,h2⟩);exact h1 (.inl ⟨h3,h2⟩))]
theorem auO:Gok gz:=⟨fun _=>rfl,fun _ _=>rfl⟩
theorem Yb{l:List Lk}(hok:lH l=true):∀k,k≤l.length→Gok (gOf l k)
 |0,_=>auO
 |
  k+1,hk=>by
  have h:=uY (tK hok (k:=k) (by omega));exact(Yb hok k (by omega)).set2 true (.inl (by omega))
def adk(v i:Nat)(s:Gd×Nat)(js:List Nat):Gd×Nat:=js.foldl (fun s j=>stp v i j s) s
def akI(v:Nat):List Nat→Gd×Nat→Gd×Nat
 | [],s=>s
 |i::rest,s=>akI v rest (adk v i s rest)
theorem ai5{v i:Nat}{s:Gd×Nat}:∀m,cj v i s (i+1+m)=adk v i s ((List.range m).map (i+1 + ·))
 |0=>ayD
 |
  m+1=>by
  rw [←gu,ayC (by omega),ai5 m,iZ,bK];unfold adk;rw [iP];rfl
theorem ar6{v:Nat}{g:Gd}:∀n,n≤10→akI v ((List.range (10-n)).map (n + ·)) (ci v g n)=ci v g 10
 |
  n,hn=>by
  by_cases h:n=10
  ·subst h;rfl
  have ih:=ar6 (v:=v) (g:=g) (n+1) (by omega);rw [←ih];obtain⟨m,hm⟩:∃m,10-n=m+1:=⟨9-n,by omega⟩;have e:(List.range (10-n)).map (n + ·)=n::(List.range (10-(n+1))).map (n+1 + ·):=by
   rw [hm,List.range_succ_eq_map,bC,fK,show 10-(n+1)=m by omega]
   congr 1
   apply fE
   intro k _;simp only [Function.comp];omega
  rw [e];show akI v _ (adk v n (ci v g n) _)=_
  congr 1
  rw [←ai5 (10-(n+1)),show n+1+(10-(n+1))=10 by omega];rfl
 termination_by n=>10-n
def elI(a:Nat)(s:Gd×Nat)(bs:List Int):Gd×Nat:=bs.foldl (fun s b=>stE a b.toNat s) s
def elL(v:Nat):List Int→Gd×Nat→Gd×Nat
 | [],s=>s
 |a::rest,s=>elL v rest (ez a.toNat v (elI a.toNat s rest))
theorem ar8{L:List Int}{i:Nat}{s:Gd×Nat}:∀k,i+1+k≤L.length→ej L i s k=elI (L.getD i 0).toNat s ((L.drop (i+1)).take k)
 |0,_=>by simp [ej,elI]
 |
  k+1,h=>by
  have h2:(L.drop (i+1)).take (k+1)=(L.drop (i+1)).take k++[L.getD (i+1+k) 0]:=by
   rw [dD,dA,ak,aB (by omega)];rfl
  unfold ej;rw [ar8 k (by omega),h2];unfold elI;rw [iP];rfl
theorem ar9{L:List Int}{v:Nat}{g:Gd}:∀i,i≤L.length→elL v (L.drop i) (ei L v g i)=ei L v g L.length
 |
  i,hi=>by
  by_cases h:i=L.length
  ·subst h;rw [fO];rfl
  have ih:=ar9 (L:=L) (v:=v) (g:=g) (i+1) (by omega);rw [←ih];have e:L.drop i=L.getD i 0::L.drop (i+1):=by
   rw [bT (by omega),ak,aB (by omega)];rfl
  conv=>lhs;rw [e]
  show elL v (L.drop (i+1)) (ez (L.getD i 0).toNat v (elI (L.getD i 0).toNat (ei L v g i) (L.drop (i+1))))=_
  congr 1
  conv=>rhs;unfold ei
  rw [ar8 _ (by omega),aY (by rw [iL];omega)]
 termination_by i=>L.length-i
theorem ZP(g:Gd)(v:Nat):∀n,nrG g v n=((List.range n).filter fun k=>g v k).map fun (k:Nat)=>(k:Int)
 |0=>rfl
 |
  n+1=>by
  unfold nrG;rw [ZP g v n,iZ,jf,bK]
  congr 1
  cases h:g v n<;>simp [h]
structure anY (g:Gd) (v:Nat) (xs:List Nat) (sI sS:Gd×Nat):Prop where
 n:sS.2=sI.2
 eq:∀x y,x≠v→y≠v→sS.1 x y=sI.1 x y
 ok:Gok sI.1
 row:∀y,sI.1 v y=g v y
 rs:∀y,sS.1 v y=(g v y&&decide (y∈xs∨10≤y))
 cs:∀y,sS.1 y v=(g v y&&decide (y∈xs∨10≤y))
structure aq2 (g:Gd) (v:Nat) (f:Nat→Bool) (sI sS:Gd×Nat):Prop where
 n:sS.2=sI.2
 eq:∀x y,x≠v→y≠v→sS.1 x y=sI.1 x y
 ok:Gok sI.1
 row:∀y,sI.1 v y=g v y
 rs:∀y,sS.1 v y=f y
 cs:∀y,sS.1 y v=f y
theorem ahK{g:Gd}{v i:Nat}{f:Nat→Bool}(hg:Gok g)(hi:g v i=true):∀(js:List Nat) (sI sS:Gd×Nat),i∉js→aq2 g v f sI sS →
  aq2 g v f (adk v i sI js) (elI i sS ((js.filter fun k=>g v k).map fun (k:Nat)=>(k:Int)))
 | [],sI,sS,_,h=>h
 |
  j::js,sI,sS,hij,h=>by
  have hne:i≠j:=fun e=>hij (by simp [e]);have hij':i∉js:=fun e=>hij (by simp [e]);have hiv:i≠v:=fun e=>by rw [e,hg.irr]at hi;cases hi
  show aq2 g v f (adk v i (stp v i j sI) js) _;rw [ig]
  cases hj:g v j
  ·have e:stp v i j sI=sI:=by
    unfold stp;rw [if_neg (by rw [h.row j,hj];simp)]
   rw [e];simp only [aX,if_false];exact ahK hg hi js sI sS hij' h
  simp only [if_true,bC];have hjv:j≠v:=fun e=>by rw [e,hg.irr]at hj;cases hj
  show aq2 g v f _ (elI i (stE i (j:Int).toNat sS) _);rw [fU];refine ahK hg hi js _ _ hij' ?_;have e1:sS.1 i j=sI.1 i j:=h.eq i j hiv hjv;unfold stp stE
  cases hx:sI.1 i j
  ·rw [if_pos ⟨(h.row i).trans hi,(h.row j).trans hj,rfl⟩];refine⟨?_,fun x y hx' hy'=>?_,h.ok.set2 true (.inl hne),fun y=>?_,fun y=>?_,fun y=>?_⟩
   ·dsimp only;rw [e1,hx,h.n];simp
   ·dsimp only;rw [uU,uU,h.eq x y hx' hy']
   ·dsimp only;rw [uU,if_neg (by rintro(⟨h1,h2⟩|⟨h1,h2⟩);exact hiv h1.symm;exact hjv h1.symm)];exact h.row y
   ·dsimp only;rw [uU,if_neg (by rintro(⟨h1,h2⟩|⟨h1,h2⟩);exact hiv h1.symm;exact hjv h1.symm)];exact h.rs y
   dsimp only;rw [uU,if_neg (by rintro(⟨h1,h2⟩|⟨h1,h2⟩);exact hjv h2.symm;exact hiv h2.symm)];exact h.cs y
  rw [if_neg (by simp)];refine⟨?_,fun x y hx' hy'=>?_,h.ok,h.row,fun y=>?_,fun y=>?_⟩
  ·dsimp only;rw [e1,hx,h.n];simp
  ·dsimp only;rw [uU];split
   ·rename_i hc;rcases hc with ⟨rfl,rfl⟩|⟨rfl,rfl⟩
    ·exact hx.symm
    rw [h.ok.sym];exact hx.symm
   exact h.eq x y hx' hy'
  ·dsimp only;rw [uU,if_neg (by rintro(⟨h1,h2⟩|⟨h1,h2⟩);exact hiv h1.symm;exact hjv h1.symm)];exact h.rs y
  dsimp only;rw [uU,if_neg (by rintro(⟨h1,h2⟩|⟨h1,h2⟩);exact hjv h2.symm;exact hiv h2.symm)];exact h.cs y
theorem adl{g:Gd}{v:Nat}(hg:Gok g):∀(xs:List Nat) (sI sS:Gd×Nat),xs.Nodup→(∀x∈xs,x<10)→anY g v xs sI sS →
  anY g v [] (akI v xs sI) (elL v ((xs.filter fun k=>g v k).map fun (k:Nat)=>(k:Int)) sS)
 | [],sI,sS,_,_,h=>h
 |
  i::xs,sI,sS,hn,hl,h=>by
  have hix:i∉xs:=(fC.1 hn).1;have aG2:=hl i (by simp);show anY g v [] (akI v xs (adk v i sI xs)) _;rw [ig]
  cases hi:g v i
  ·simp only [aX,if_false];have e:∀(js:List Nat),adk v i sI js=sI:=by
    intro js
    induction js with
    |nil=>rfl
    |
     cons j js ih =>
     show adk v i (stp v i j sI) js=sI;have:stp v i j sI=sI:=by unfold stp;rw [if_neg (by rw [h.row i,hi];simp)]
     rw [this];exact ih
   rw [e];refine adl hg xs sI sS (fC.1 hn).2 (fun x hx=>hl x (by simp [hx])) ⟨h.n,h.eq,h.ok,h.row,fun y=>?_,fun y=>?_⟩
   ·rw [h.rs y];by_cases e:y=i
    ·subst e;rw [hi];rfl
    simp [e]
   rw [h.cs y];by_cases e:y=i
   ·subst e;rw [hi];rfl
   simp [e]
  simp only [if_true,bC];show anY g v [] _ (elL v _ (ez (i:Int).toNat v (elI (i:Int).toNat sS _)));rw [fU];have hiv:i≠v:=fun e=>by rw [e,hg.irr]at hi;cases hi
  have h0:=ahK hg hi xs sI sS hix ⟨h.n,h.eq,h.ok,h.row,h.rs,h.cs⟩;refine adl hg xs _ _ (fC.1 hn).2 (fun x hx=>hl x (by simp [hx])) ⟨h0.n,fun x y hx hy=>?_,h0.ok,h0.row,fun y=>?_,fun y=>?_⟩
  ·unfold ez;dsimp only;rw [uU,if_neg (by rintro(⟨h1,h2⟩|⟨h1,h2⟩);exact hy h2;exact hx h1)];exact h0.eq x y hx hy
  ·unfold ez;dsimp only;rw [uU];by_cases e:y=i
   ·subst e;rw [if_pos (.inr ⟨rfl,rfl⟩)];simp [hix];omega
   rw [if_neg (by rintro(⟨h1,h2⟩|⟨h1,h2⟩);exact hiv h1.symm;exact e h2),h0.rs y];simp [e]
  unfold ez;dsimp only;rw [uU];by_cases e:y=i
  ·subst e;rw [if_pos (.inl ⟨rfl,rfl⟩)];simp [hix];omega
  rw [if_neg (by rintro(⟨h1,h2⟩|⟨h1,h2⟩);exact e h1;exact hiv h2.symm),h0.cs y];simp [e]
theorem asa(v:Nat)(g:Gd)(x y:Nat):∀n,cz v g n x y=if (x=v∧y<n)∨(y=v∧x<n)then false else g x y
 |0=>by rw [if_neg (by omega)];rfl
 |
  n+1=>by
  unfold cz;rw [uU,asa v g x y n];by_cases h1:(x=v∧y=n)∨(x=n∧y=v)
  ·rw [if_pos h1,if_pos (by omega)]
  rw [if_neg h1];by_cases h2:(x=v∧y<n)∨(y=v∧x<n)
  ·rw [if_pos h2,if_pos (by omega)]
  rw [if_neg h2,if_neg (by omega)]
theorem auP{g:Gd}{v:Nat}(hg:Gok g):elS g v=(Xp g v,anR g v):=by
 have h0:anY g v (List.range 10) (g,0) (g,0):=⟨rfl,fun _ _ _ _=>rfl,hg,fun _=>rfl,fun y=>by
   have:decide (y∈List.range 10∨10≤y)=true:=by simp;omega
   rw [this,dK],fun y=>by
   have:decide (y∈List.range 10∨10≤y)=true:=by simp;omega
   rw [this,dK];exact hg.sym y v⟩
 have h1:=adl hg (List.range 10) _ _ List.nodup_range (fun x hx=>eF.1 hx) h0;have e1:akI v (List.range 10) (g,0)=ci v g 10:=by
  have:=ar6 (v:=v) (g:=g) 0 (by omega);rw [←this]
  congr 1
 have e2:elL v (((List.range 10).filter fun k=>g v k).map fun (k:Nat)=>(k:Int)) (g,0)=elS g v:=by
  rw [←ZP];exact ar9 (L:=nrG g v 10) (v:=v) (g:=g) 0 (by omega)
 rw [e1,e2]at h1;refine Prod.ext ?_ h1.n
 funext x y
 show (elS g v).1 x y=cz v (ci v g 10).1 10 x y;rw [asa];by_cases hx:x=v
 ·subst hx;rw [h1.rs y];by_cases hy:y<10
  ·rw [if_pos (.inl ⟨rfl,hy⟩)];simp;omega
  rw [if_neg (by rintro(⟨_,h⟩|⟨h,h2⟩);exact hy h;omega),h1.row y];simp;omega
 by_cases hy:y=v
 ·subst hy;rw [h1.cs x];by_cases hx':x<10
  ·rw [if_pos (.inr ⟨rfl,hx'⟩)];simp;omega
  rw [if_neg (by rintro(⟨h,_⟩|⟨_,h⟩);exact hx h;exact hx' h),h1.ok.sym,h1.row x];simp;omega
 rw [if_neg (by rintro(⟨h,_⟩|⟨h,_⟩);exact hx h;exact hy h)];exact h1.eq x y hx hy
theorem anZ{v:Nat}{g:Gd}(h:Gok g):∀n,Gok (cz v g n)
 |0=>h
 |n+1=>(anZ h n).set2 false (.inr rfl)
theorem an0{v i:Nat}{s:Gd×Nat}(h:Gok s.1):∀n,Gok (cj v i s n).1
 |0=>h
 |
  n+1=>by
  have ih:=an0 (v:=v) (i:=i) h n;unfold cj;split
  ·unfold stp;split
   ·exact ih.set2 true (.inl (by omega))
   exact ih
  exact h
theorem an1{v:Nat}{g:Gd}(h:Gok g):∀n,Gok (ci v g n).1
 |0=>h
 |n+1=>an0 (an1 h n) 10
theorem aq3{g:Gd}(h:Gok g)(v:Nat):Gok (Xp g v):=anZ (an1 h 10) 10
theorem auQ{T:Tb}(h:wL T){g:Gd}{v:Int}(hg:Gok g)(hv:0≤v∧v≤9:=by exact lX):Run T (.fn 315 [.ptr 0 0 0,iv v] (UN g)) (.fn (iv (anR g v.toNat:Nat)) (UN (Xp g v.toNat))):=by
 have:=ZO h hv (hg.irr v.toNat);rw [auP hg]at this;exact this
def wI(l:List Int)(n:Int):Nat→List Int
 |0=>[]
 |k+1=>wI l n k++if l.getD k 0=n then []else [l.getD k 0]
theorem an2(l:List Int)(n:Int):∀k,(wI l n k).length≤k
 |0=>aP _
 |
  k+1=>by
  have:=an2 l n k;unfold wI;split<;>simp<;>omega
theorem asb(l:List Int)(n:Int):∀k,k≤l.length→wI l n k=(l.take k).filter fun x=>decide (x≠n)
 |0,_=>by simp [wI]
 |
  k+1,h=>by
  have e:l.take (k+1)=l.take k++[l.getD k 0]:=by
   rw [dD,ak,aB (by omega)];rfl
  unfold wI;rw [asb l n k (by omega),e,jf]
  congr 1
  generalize l.getD k 0=y;by_cases hx:y=n
  ·rw [if_pos hx];simp [hx]
  rw [if_neg hx];simp [hx]
def woI(l:List Int)(n:Int):List Int:=l.filter fun x=>decide (x≠n)
theorem adn{T:Tb}(h:FN T){l:List Int}{n:Int}(hl:l.length≤1048576:=by exact lX):PF T 323 [ints l,iv n] (ints (woI l n)):=by
 have e:woI l n=wI l n l.length:=by rw [asb l n _ (aP _),bQ];rfl
 rw [e];refine kH nR h.hT ?_;simp only [zf,Lz];refine ev ?_;refine kG (fun _ _=>false) (α:=Nat×List Int) (fun q=>⟨kX [.any,iv n,.any,.any,.any,slV q.2.length,.any,.any,.any,ints l,iv (l.length:Nat),iv (q.1:Nat)],VH 1 (kF q.2),0,0,[],[]⟩) (fun q=>q.1≤l.length∧q.2=wI l n q.1) (fun q=>l.length-q.1) rfl (0,[]) ?_ ?_ ?_
 ·exact⟨by omega,rfl⟩
 ·exact PV
 rintro⟨i,xs⟩ ⟨hi,hx0⟩;dsimp only at hi hx0;have hx:xs.length≤1048576:=by rw [hx0];have:=an2 l n i;omega
 by_cases hc:(i:Int)<(l.length:Nat)
 ·have es:wI l n (i+1)=wI l n i++if l.getD i 0=n then []else [l.getD i 0]:=rfl
  rw [←hx0]at es;by_cases hb:l.getD i 0=n
  ·rw [if_pos hb,aQ]at es;have hb':=eq_true hb
   (rcases xs with _|⟨x,xs⟩<;>simp only [au,aj,qX,qH,mO,lI]at hx ⊢)
   ·refine zl @hc @mg @hb' ?_;exact⟨(i+1,[]),by dsimp only;omega,⟨by dsimp only;omega,es.symm⟩,by exact PV⟩
   refine zl @hc @mg @hb' ?_;exact⟨(i+1,x::xs),by dsimp only;omega,⟨by dsimp only;omega,es.symm⟩,by exact VI⟩
  rw [if_neg hb]at es
  (rcases xs with _|⟨x,xs⟩<;>simp only [au,aj,qX,qH,mO,lI]at hx ⊢)
  ·refine zl @hc @mg @hb ?_;exact⟨by omega,(i+1,([])++[l.getD i 0]),by dsimp only;omega,⟨by dsimp only;omega,es.symm⟩,by exact LU⟩
  refine zl @hc @mg @hb ?_;exact⟨by omega,(i+1,(x::xs)++[l.getD i 0]),by dsimp only;omega,⟨by dsimp only;omega,es.symm⟩,by exact JV⟩
 have:i=l.length:=by omega
 subst this;rw [←hx0]
 (rcases xs with _|⟨x,xs⟩<;>simp only [au,aj,qX,qH,mO,lI]at hx ⊢)
 ·refine ev1 @hc ?_;exact of_eq_true (mX 1)
 refine ev1 @hc ?_;exact kE _
theorem aq4{l:List Int}{x:Int}(hn:l.Nodup)(hx:x∈l):(woI l x).length+1=l.length:=by
 have h1:woI l x=l.erase x:=by
  rw [List.Nodup.erase_eq_filter hn];unfold woI
  congr 1
  funext y
  simp [bne];rw [jk];simp
 rw [h1,List.length_erase_of_mem hx];have:=List.length_pos_of_mem hx;omega
theorem ahL(l o:List Int)(v:Int):woI (l.filter fun x=>decide (x∉o)) v=l.filter fun x=>decide (x∉o++[v]):=by
 unfold woI;rw [List.filter_filter]
 congr 1
 funext x
 rw [jk];simp;constructor<;>intro h<;>exact⟨h.2,h.1⟩
def slW(n:Nat):V:=if n=0 then .jL else .kP 1 0 n
theorem abD:slW 0=.jL:=rfl
theorem abE(n:Nat):slW (n+1)=.kP 1 0 (n+1):=rfl
def slP(p n:Nat):V:=if n=0 then .jL else .kP p 0 n
theorem ase(p:Nat):slP p 0=.jL:=rfl
theorem asf(p n:Nat):slP p (n+1)=.kP p 0 (n+1):=rfl
def qZ:Fn:=⟨2,76,[.tmp 4],(sr [oN 4 mN] (.seq (rf 1 [oN 12 (.ny 1 F8 0 []),oK 5 1 (oV 12)]) (.seq (sr [oW 13 0,oN 14 (cl 193 [13]),oN 15 (nt 14)] (cd 15 (sr [oN 4 mN] .ret) .skip)) (sr [oW 16 0,oN 17 (cl 314 [16]),oW 6 17] (sr [oW 18 0,oN 19 (cl 222 [18]),oW 7 19] (.seq (.block 0 (.loop (.seq (sr [oW 20 5,oN 21 (ln 20),oW 22 7,oN 23 (ln 22),oN 24 (bt .lss 21 23)] (cd 24 .skip (.exit 0))) (.block 1 (sr [oN 8 (.mM (cI (-1)))] (.seq (sr [oW 25 7,oN 26 (ln 25),oN 27 (.mM (cI 0))] (.block 2 (.loop (sr [oN 28 (bt .lss 27 26)] (.seq (cd 28 .skip (.exit 2)) (.seq (.block 3 (sr [oN 29 (ix 1 25 27),oN 30 (lF 1 29),oW 10 30] (.seq (sr [oW 31 5,oW 32 10,oN 33 (cl 235 [31,32])] (cd 33 (.exit 3) .skip)) (sr [oW 34 1,oW 35 10,oN 36 (cl 235 [34,35]),oW 11 36] (sr [oW 37 8,oN 38 (bc .lss 37 0),oW 39 38,oG 39 false 40 (oV 1),oG 39 false 41 (oV 8),oG 39 false 42 (cl 235 [40,41]),oG 39 false 43 (oV 42),oG 43 true 44 (oV 11),oG 43 true 45 (nt 44),oG 39 false 46 (.pick (.t 43) (.t 45) (.c (.bool false))),oN 47 (.pick (.t 39) (.c (.bool true)) (.t 46)),oW 48 47,oG 48 false 49 (oV 11),oG 48 false 50 (oV 1),oG 48 false 51 (oV 8),oG 48 false 52 (cl 235 [50,51]),oG 48 false 53 (.beq false (.t 49) (.t 52)),oG 48 false 54 (oV 53),oG 54 true 55 (oV 6),oG 54 true 56 (oV 10),oG 54 true 57 (cl 321 [55,56]),oG 54 true 58 (ln 57),oG 54 true 59 (oV 6),oG 54 true 60 (oV 8),oG 54 true 61 (cl 321 [59,60]),oG 54 true 62 (ln 61),oG 54 true 63 (bt .lss 58 62),oG 48 false 64 (.pick (.t 54) (.t 63) (.c (.bool false))),oN 65 (.pick (.t 48) (.c (.bool true)) (.t 64))] (cd 65 (rg [oW 66 10,oW 8 66]) .skip)))))) (rg [oN 67 (bc .add 27 1),oW 27 67]))))))) (sr [oW 68 6,oW 69 8,oN 70 (cl 315 [68,69])] (rf 2 [oK 71 2 (oV 5),oK 72 2 (oV 8),oN 73 (.ny 1 F8 1 [(0,(.t 72))]),oK 74 1 (.app 1 8 (.t 71) (.t 73)),oK 5 2 (oV 74)])))))))) (sr [oW 75 5,oW 4 75] .ret)))))))⟩
structure yX (T:Tb):Prop where
 hT:T 299=some qZ
 lZ:o8 T
 Lc:zO T
 rW:IZ T
 aaG:ND T
 Ru:wL T
 LH:FQ T
theorem O8(g:Gd)(v:Nat):∀n,dg g v n=(nrG g v n).length
 |0=>rfl
 |
  n+1=>by
  unfold dg nrG;rw [O8 g v n,aJ];split<;>rfl
def Dq(g:Gd)(v:Int):Nat:=dg g v.toNat 10
def pk(g:Gd):List Int→Int→Int
 | [],b=>b
 |v::l,b=>pk g l (if Dq g v<Dq g b then v else b)
theorem aaH(g:Gd)(v:Int)(l:List Int)(b:Int):pk g (v::l) b=pk g l (if Dq g v<Dq g b then v else b):=rfl
theorem an3(g:Gd):∀(l:List Int) (b:Int),pk g l b=b∨pk g l b∈l
 | [],b=>.inl rfl
 |
  v::l,b=>by
  rw [aaH];rcases an3 g l (if Dq g v<Dq g b then v else b)with h|h
  ·rw [h];split
   ·exact .inr (by simp)
   exact .inl rfl
  exact .inr (by simp [h])
def Xr(rest last:List Int):List Int:=rest.filter fun x=>decide (x∉last)
def ch2(rest last:List Int):List Int:=if Xr rest last=[]then rest else Xr rest last
def Va(g:Gd)(rest last:List Int):Int:=pk g (ch2 rest last) ((ch2 rest last).getD 0 0)
theorem ai6{rest last:List Int}{x:Int}(h:x∈ch2 rest last):x∈rest:=by
 unfold ch2 at h;split at h
 ·exact h
 exact(iT.1 h).1
theorem an4{rest last:List Int}(h:rest≠[]):ch2 rest last≠[]:=by
 unfold ch2;split
 ·exact h
 assumption
theorem ZQ{g:Gd}{rest last:List Int}(h:rest≠[]):Va g rest last∈rest:=by
 have h2:=an4 (last:=last) h;have h3:(ch2 rest last).getD 0 0∈ch2 rest last:=by
  cases e:ch2 rest last with
  |nil=>exact absurd e h2
  |cons x l=>simp
 refine ai6 (last:=last) ?_;unfold Va;rcases an3 g (ch2 rest last) ((ch2 rest last).getD 0 0)with e|e
 ·rw [e];exact h3
 exact e
def LP(last:List Int)(g0:Gd)(ns:List Int):Nat→Gd×List Int×List Int
 |0=>(g0,ns,[])
 |k+1=>(Xp (LP last g0 ns k).1 (Va (LP last g0 ns k).1 (LP last g0 ns k).2.1 last).toNat,woI (LP last g0 ns k).2.1 (Va (LP last g0 ns k).1 (LP last g0 ns k).2.1 last),(LP last g0 ns k).2.2++[Va (LP last g0 ns k).1 (LP last g0 ns k).2.1 last])
theorem aq5{l:List Int}{n x:Int}(h:x∈woI l n):x∈l:=(iT.1 h).1
structure aDH (last:List Int) (g0:Gd) (ns:List Int) (k:Nat):Prop where
 len:(LP last g0 ns k).2.1.length+k=ns.length
 out:(LP last g0 ns k).2.2.length=k
 nd:(LP last g0 ns k).2.1.Nodup
 sub:∀x∈(LP last g0 ns k).2.1,x∈ns
 rest:(LP last g0 ns k).2.1=ns.filter fun x=>decide (x∉(LP last g0 ns k).2.2)
 gok:Gok (LP last g0 ns k).1
theorem ai7{last:List Int}{g0:Gd}{ns:List Int}(hn:ns.Nodup)(hg:Gok g0):∀k,k≤ns.length→aDH last g0 ns k
 |0,_=>⟨rfl,rfl,hn,fun x h=>h,(List.filter_eq_self.2 (by intro x _;simp [LP])).symm,hg⟩
 |
  k+1,hk=>by
  have ih:=ai7 (last:=last) hn hg k (by omega);have hne:(LP last g0 ns k).2.1≠[]:=fun e=>by have:=ih.len;rw [e]at this;simp at this;omega
  have hm:=ZQ (g:=(LP last g0 ns k).1) (last:=last) hne;have hl:=aq4 ih.nd hm;have h1:=ih.len;have h2:=ih.out;refine⟨?_,?_,ih.nd.filter _,fun x hx=>ih.sub x (aq5 hx),?_,aq3 ih.gok _⟩
  ·show (woI (LP last g0 ns k).2.1 _).length+(k+1)=ns.length;omega
  ·show ((LP last g0 ns k).2.2++[_]).length=k+1;rw [aJ,h2];rfl
  show woI (LP last g0 ns k).2.1 _=ns.filter fun x=>decide (x∉(LP last g0 ns k).2.2++[_]);rw [←ahL,←ih.rest]
def TT(l:List Lk)(last:List Int):List Int:=if lH l=true then(LP last (gOf l l.length) (wZ l) (wZ l).length).2.2 else []
theorem ai8(l:List Lk)(last:List Int):(TT l last).length≤10:=by
 unfold TT;split
 ·rename_i h;rw [(ai7 (Kv (OY l)) (Yb h l.length (aP _)) _ (aP _)).out];exact GH l
 simp
def Ce(last:List Int)(v:Int):Bool:=decide (v∈last)
def LY(g:Gd)(last:List Int)(b v:Int):Int:=if b<0∨(Ce last b=true∧Ce last v=false)∨(Ce last v=Ce last b∧Dq g v<Dq g b)then v else b
def spk(g:Gd)(last out ns:List Int):Nat→Int
 |0=>-1
 |k+1=>if ns.getD k 0∈out then spk g last out ns k else LY g last (spk g last out ns k) (ns.getD k 0)
theorem afC(g:Gd)(last out ns:List Int):∀k,k≤ns.length→spk g last out ns k=((ns.take k).filter fun x=>decide (x∉out)).foldl (LY g last) (-1)
 |0,_=>by simp [spk]
 |
  k+1,hk=>by
  have e:ns.take (k+1)=ns.take k++[ns.getD k 0]:=by
   rw [dD,ak,aB (by omega)];rfl
  unfold spk;rw [e,jf,iP,afC g last out ns k (by omega)];generalize ns.getD k 0=v;by_cases hv:v∈out
  ·rw [if_pos hv];simp [hv]
  rw [if_neg hv];simp [hv]
theorem Vb{g:Gd}{last:List Int}:∀(l:List Int) (b:Int),0≤b→Ce last b=false→(∀x∈l,0≤x)→l.foldl (LY g last) b=pk g (Xr l last) b
 | [],_,_,_,_=>rfl
 |
  v::l,b,hb,hl,hp=>by
  rw [dX];have hv:=hp v (by simp);unfold Xr;rw [ig];by_cases hx:v∈last
  ·have e:LY g last b v=b:=by
    unfold LY;rw [if_neg];rintro(h|h|h)
    ·omega
    ·rw [hl]at h;cases h.1
    rw [hl]at h;have:=h.1;unfold Ce at this;simp [hx]at this
   rw [e];simp only [hx,not_true_eq_false,decide_false,aX,if_false];exact Vb l b hb hl fun x h=>hp x (by simp [h])
  have hlv:Ce last v=false:=by unfold Ce;simp [hx]
  have e:LY g last b v=if Dq g v<Dq g b then v else b:=by
   unfold LY;rw [hl,hlv];by_cases hd:Dq g v<Dq g b
   ·rw [if_pos (.inr (.inr ⟨rfl,hd⟩)),if_pos hd]
   rw [if_neg (by rintro(h|h|h);omega;cases h.1;exact hd h.2),if_neg hd]
  rw [e];simp only [hx,not_false_eq_true,decide_true,if_true];rw [aaH];refine Vb l _ ?_ ?_ fun x h=>hp x (by simp [h])
  ·split<;>assumption
  split<;>assumption
theorem aja{g:Gd}{last:List Int}:∀(l:List Int) (b:Int),0≤b→Ce last b=true→(∀x∈l,0≤x) →
  l.foldl (LY g last) b=if Xr l last=[]then pk g l b else pk g (Xr l last) ((Xr l last).getD 0 0)
 | [],_,_,_,_=>rfl
 |
  v::l,b,hb,hl,hp=>by
  rw [dX];have hv:=hp v (by simp);by_cases hx:v∈last
  ·have hlv:Ce last v=true:=by unfold Ce;simp [hx]
   have e:LY g last b v=if Dq g v<Dq g b then v else b:=by
    unfold LY;rw [hl,hlv];by_cases hd:Dq g v<Dq g b
    ·rw [if_pos (.inr (.inr ⟨rfl,hd⟩)),if_pos hd]
    rw [if_neg (by rintro(h|h|h);omega;cases h.2;exact hd h.2),if_neg hd]
   have ec:Xr (v::l) last=Xr l last:=by unfold Xr;rw [ig];simp [hx]
   rw [e,ec,aaH];refine aja l _ ?_ ?_ fun x h=>hp x (by simp [h])
   ·split<;>assumption
   split<;>assumption
  have hlv:Ce last v=false:=by unfold Ce;simp [hx]
  have e:LY g last b v=v:=by
   unfold LY;rw [if_pos (.inr (.inl ⟨hl,hlv⟩))]
  have ec:Xr (v::l) last=v::Xr l last:=by unfold Xr;rw [ig];simp [hx]
  rw [e,ec,if_neg (by simp),Vb l v hv hlv fun x h=>hp x (by simp [h])];show _=pk g (v::Xr l last) v;rw [aaH,if_neg (by omega)]
theorem auR{g:Gd}{last rest:List Int}(hne:rest≠[])(hp:∀x∈rest,0≤x):rest.foldl (LY g last) (-1)=Va g rest last:=by
 cases rest with
 |nil=>exact absurd rfl hne
 |
  cons v l =>
  have hv:=hp v (by simp);have e:LY g last (-1) v=v:=by unfold LY;rw [if_pos (.inl (by omega))]
  rw [dX,e];unfold Va ch2;by_cases hx:v∈last
  ·have hlv:Ce last v=true:=by unfold Ce;simp [hx]
   have ec:Xr (v::l) last=Xr l last:=by unfold Xr;rw [ig];simp [hx]
   rw [aja l v hv hlv fun x h=>hp x (by simp [h]),ec];split
   ·show _=pk g (v::l) v;rw [aaH,if_neg (by omega)]
   rfl
  have hlv:Ce last v=false:=by unfold Ce;simp [hx]
  have ec:Xr (v::l) last=v::Xr l last:=by unfold Xr;rw [ig];simp [hx]
  rw [Vb l v hv hlv fun x h=>hp x (by simp [h]),ec,if_neg (by simp)];show _=pk g (v::Xr l last) v;rw [aaH,if_neg (by omega)]
theorem aq6{g:Gd}{last out ns rest:List Int}(hr:rest=ns.filter fun x=>decide (x∉out))(hne:rest≠[])(hp:∀x∈rest,0≤x):spk g last out ns ns.length=Va g rest last:=by
 rw [afC g last out ns _ (aP _),bQ,←hr];exact auR hne hp
def slX(n:Nat):V:=if n=0 then .jL else .kP 2 0 n
theorem ajb:slX 0=.jL:=rfl
theorem ajc(n:Nat):slX (n+1)=.kP 2 0 (n+1):=rfl
theorem abG{W:P6}{σ:Store}{q n:Nat}{L:List Int}(h:jH σ q=some ⟨1,kF L⟩)(hq:∀(k s0 l0:Nat),W[k]? ≠ some (some (q,s0,l0)))(hn:n=L.length):OA W σ (ints L) (.kP q 0 n):=by
 subst hn;refine tJ ?_ fun p hp k s0 l0=>?_
 ·have:=Jh (n:=10) h (pF L);rw [zB]at this;exact this
 have:=Y4 (Ez h) FD p hp;rw [aT.1 this];exact hq k s0 l0
def chJ(R last:List Int):Nat→List Int
 |0=>[]
 |j+1=>chJ R last j++if R.getD j 0∈last then []else [R.getD j 0]
theorem an5(R last:List Int):∀k,k≤R.length→chJ R last k=Xr (R.take k) last
 |0,_=>by simp [chJ,Xr]
 |
  k+1,h=>by
  have e:R.take (k+1)=R.take k++[R.getD k 0]:=by
   rw [dD,ak,aB (by omega)];rfl
  unfold chJ;rw [an5 R last k (by omega),e];unfold Xr;rw [jf]
  congr 1
  generalize R.getD k 0=y;by_cases hx:y∈last
  ·rw [if_pos hx];simp [hx]
  rw [if_neg hx];simp [hx]
theorem ado(R last:List Int):∀k,(chJ R last k).length≤k
 |0=>aP _
 |
  k+1=>by
  have:=ado R last k;unfold chJ;split<;>simp<;>omega
theorem ayL(last:List Int)(g0:Gd)(ns:List Int)(k:Nat):LP last g0 ns (k+1)=(Xp (LP last g0 ns k).1 (Va (LP last g0 ns k).1 (LP last g0 ns k).2.1 last).toNat,woI (LP last g0 ns k).2.1 (Va (LP last g0 ns k).1 (LP last g0 ns k).2.1 last),(LP last g0 ns k).2.2++[Va (LP last g0 ns k).1 (LP last g0 ns k).2.1 last]):=rfl
theorem ajd{a b:St}(h:Fg a b:=by
 (refine KH [(0,_)] (by simp) (by intro p hp;simp only [aH,bV,or_false]at hp;rcases hp with rfl<;>refine⟨rfl,?_⟩<;>first|exact sJ _|exact pF _|simp [l7,V.still]) rfl ?_)<;>(try (refine ew ?_;try with_reducible exact True.intro))<;>(repeat' (first|exact True.intro|omega|exact nP rfl (by simp)|refine⟨?_,?_⟩|exact of_eq_true (tH _ _ _)|exact lY rfl (by simp;done)|exact lY rfl rfl|(refine mW rfl ?_ rfl;simp [kF];done)|(refine mW rfl ?_ rfl;simp [kF];omega)|(refine tJ ?_ ?_;(focus ((refine ew ?_;try with_reducible exact True.intro);done));(intro q hq k s0 l0;simp;done))))):Fg a b:=h
theorem an6{a b:St}(h:Fg a b:=by
 (refine KH [(0,_),(1,_)] (by simp) (by intro p hp;simp only [aH,bV,or_false]at hp;rcases hp with rfl|rfl<;>refine⟨rfl,?_⟩<;>first|exact sJ _|exact pF _|simp [l7,V.still]) rfl ?_)<;>(try (refine ew ?_;try with_reducible exact True.intro))<;>(repeat' (first|exact True.intro|omega|exact nP rfl (by simp)|refine⟨?_,?_⟩|exact of_eq_true (tH _ _ _)|exact lY rfl (by simp;done)|exact lY rfl rfl|(refine mW rfl ?_ rfl;simp [kF];done)|(refine mW rfl ?_ rfl;simp [kF];omega)|(refine tJ ?_ ?_;(focus ((refine ew ?_;try with_reducible exact True.intro);done));(intro q hq k s0 l0;simp;done))))):Fg a b:=h
theorem an7{a b:St}(h:Fg a b:=by
 (refine KH [(0,_),(2,_)] (by simp) (by intro p hp;simp only [aH,bV,or_false]at hp;rcases hp with rfl|rfl<;>refine⟨rfl,?_⟩<;>first|exact sJ _|exact pF _|simp [l7,V.still]) rfl ?_)<;>(try (refine ew ?_;try with_reducible exact True.intro))<;>(repeat' (first|exact True.intro|omega|exact nP rfl (by simp)|refine⟨?_,?_⟩|exact of_eq_true (tH _ _ _)|exact lY rfl (by simp;done)|exact lY rfl rfl|(refine mW rfl ?_ rfl;simp [kF];done)|(refine mW rfl ?_ rfl;simp [kF];omega)|(refine tJ ?_ ?_;(focus ((refine ew ?_;try with_reducible exact True.intro);done));(intro q hq k s0 l0;simp;done))))):Fg a b:=h
theorem an8{a b:St}(h:Fg a b:=by
 (refine KH [(0,_),(3,_)] (by simp) (by intro p hp;simp only [aH,bV,or_false]at hp;rcases hp with rfl|rfl<;>refine⟨rfl,?_⟩<;>first|exact sJ _|exact pF _|simp [l7,V.still]) rfl ?_)<;>(try (refine ew ?_;try with_reducible exact True.intro))<;>(repeat' (first|exact True.intro|omega|exact nP rfl (by simp)|refine⟨?_,?_⟩|exact of_eq_true (tH _ _ _)|exact lY rfl (by simp;done)|exact lY rfl rfl|(refine mW rfl ?_ rfl;simp [kF];done)|(refine mW rfl ?_ rfl;simp [kF];omega)|(refine tJ ?_ ?_;(focus ((refine ew ?_;try with_reducible exact True.intro);done));(intro q hq k s0 l0;simp;done))))):Fg a b:=h
theorem TL{T:Tb}(h:yV T){l:List Lk}{last:List Int}(hw:Bg Lk.wf l:=by exact lX)(ho:last.length≤1048576:=by exact lX):PO T 300 [kY l,ints last] (ints (TT l last)):=by
 have ci:=Uu h.Gz hw;unfold TT
 cases hb:lH l
 ·rw [hb]at ci;rw [if_neg (by simp)];refine kW nR h.hT ?_;simp only [qY,Lz,St.enter,aj,au,aN];refine ew ?_;refine jy ci ?_;refine ew ?_;exact CZ
 rw [hb]at ci;rw [if_pos rfl];have hz:lS gz=List.replicate 100 (.bool false):=acE;simp only [List.replicate]at hz;have cg:=anQ h.aaE hw hb;have cn:=Zd h.Le hw;rw [←ae0 hb]at cn;have hnl:=GH l;have hrg:=fun a=>@Zi l a;have hmd:=fun k hk=>ai7 (last:=last) (Kv (OY l)) (Yb hb l.length (aP _)) k hk;generalize wZ l=ns at cn hnl hrg hmd ⊢;generalize hg0:gOf l l.length=g0 at cg hmd ⊢;have t1:=MK g0;have t2:=MK gz;refine kW nR h.hT ?_;simp only [qY,Lz,St.enter,aj,au,aN];refine ew ?_;rw [←hz];clear hz;refine jy ci ?_;generalize hc:lS g0=c at t1 cg ⊢;generalize hd:lS gz=d at t2 ⊢;refine uh @t1 @t2 ?_;refine jy cg ?_;refine uh @t1 @t2 ?_;refine jy cn ?_;refine ew ?_;rw [←hc];clear t1 hc;refine kG (fun _ _=>false) (α:=Nat×List Int) (fun q=>⟨kX [.any,ints last,.any,.any,.any,.ptr 0 0 0,ints (LP last g0 ns q.1).2.1,slW q.2.length],some ⟨100,[lS (LP last g0 ns q.1).1]⟩::VH 1 (kF q.2),0,0,[],[]⟩) (fun q=>q.1≤ns.length∧q.2=(LP last g0 ns q.1).2.2) (fun q=>ns.length-q.1) rfl (0,[]) ?_ ?_ ?_
 ·exact⟨by omega,rfl⟩
 ·dsimp only;rw [show LP last g0 ns 0=(g0,ns,[])from rfl];exact ajd
 rintro⟨k,xs⟩ ⟨hk,hx0⟩;dsimp only at hk hx0;have hm:=hmd k hk;have hx:xs.length≤10:=by rw [hx0,hm.out];omega
 have es:=ayL last g0 ns k;rw [←hx0]at es;have hml:=hm.len;have hmo:=hm.out;have hms:=hm.sub;have hfin:k=ns.length→LP last g0 ns ns.length=LP last g0 ns k:=fun e=>by rw [e]
 generalize hS:LP last g0 ns k=S at es hml hms hmo hfin hx0 ⊢;obtain⟨G,R,X⟩:=S;dsimp only at es hml hms hmo hx0 ⊢;subst hx0;clear hm;by_cases hkc:k<ns.length
 ·have hR0:(R.length:Int)>0:=by omega
  have hRr:∀x∈R,1≤x∧x≤9:=fun x hx=>hrg x (hms x hx);have hRl:R.length≤10:=by omega
  have hRn:R≠[]:=fun e=>by rw [e]at hR0;simp at hR0
  have hbm:=ZQ (g:=G) (last:=last) hRn;have hcs:∀x∈ch2 R last,1≤x∧x≤9:=fun x hx=>hRr x (ai6 hx);have hC0:=an4 (last:=last) hRn;have hbd:Va G R last=pk G (ch2 R last) ((ch2 R last).getD 0 0):=rfl;have ayM:Xr R last=chJ R last R.length:=by rw [an5 R last _ (aP _),bQ]
  have hv:=hRr _ hbm;generalize hB:Va G R last=B at es hbm hbd hv;have cc:=ayE h.Wu (g:=G) (v:=B) (by omega);have cw:=adn h.U5 (l:=R) (n:=B) (by omega);have cdg:=fun v (hv:0≤v∧v≤9)=>anT h.Rt (g:=G) (v:=v) hv;have t1:=MK G;have t3:=MK (Xp G B.toNat);generalize hC:lS G=C at t1 cc cdg ⊢;generalize hE:lS (Xp G B.toNat)=E at t3 cc
  (rcases xs with _|⟨x,xs⟩<;>simp only [au,aj,abD,abE,mO,lI]at hx hmo es ⊢)
  ·refine qj @hR0 ?_;rw [←hC];refine kG (fun _ _=>false) (α:=Nat×List Int) (fun q=>⟨kX [.any,ints last,.any,.any,.any,.ptr 0 0 0,ints R,.jL,slW q.2.length,.any,.any,.any,.any,.any,.any,.any,.any,.any,.any,.any,.any,.any,.any,.any,.any,.any,ints R,iv (R.length:Nat),iv (q.1:Nat)],[some ⟨100,[lS G]⟩]++VH 1 (kF q.2),0,0,[],[]⟩) (fun q=>q.1≤R.length∧q.2=chJ R last q.1) (fun q=>R.length-q.1) rfl (0,[]) ?_ ?_ ?_
   ·exact⟨by omega,rfl⟩
   ·exact ajd
   rintro⟨j,ys⟩ ⟨hj,hy0⟩;dsimp only at hj hy0;have hyl:ys.length≤10:=by rw [hy0];have:=ado R last j;omega
   have ej:chJ R last (j+1)=chJ R last j++if R.getD j 0∈last then []else [R.getD j 0]:=rfl
   rw [←hy0]at ej;by_cases hjc:(j:Int)<(R.length:Nat)
   ·have hjl:j<R.length:=by omega
    generalize hvv:R.getD j 0=v at ej;have ch:=Qy h.wC (l:=last) (n:=v) (by omega);by_cases hvl:v∈last
    ·rw [decide_eq_true hvl]at ch;rw [if_pos hvl,aQ]at ej
     (rcases ys with _|⟨y,ys⟩<;>simp only [au,aj,abD,abE,mO,lI,aQ,bP,dL]at hyl ⊢)
     ·refine vW @hjc @mg @hvv ?_;refine jy ch ?_;refine ew ?_;refine⟨(j+1,[]),by dsimp only;omega,⟨by dsimp only;omega,ej.symm⟩,?_⟩;simp only [au,abD]
      (refine jW ?_;exact qw)
     refine vW @hjc @mg @hvv ?_;refine jy ch ?_;refine ew ?_;refine⟨(j+1,y::ys),by dsimp only;omega,⟨by dsimp only;omega,ej.symm⟩,?_⟩;simp only [aj,abE]
     (refine jW ?_;exact qw)
    rw [decide_eq_false hvl]at ch;rw [if_neg hvl]at ej
    (rcases ys with _|⟨y,ys⟩<;>simp only [au,aj,abD,abE,mO,lI,aQ,bP,dL]at hyl ⊢)
    ·refine vW @hjc @mg @hvv ?_;refine jy ch ?_;refine ew ?_;exact⟨by omega,(j+1,[v]),by dsimp only;omega,⟨by dsimp only;omega,ej.symm⟩,by exact an7⟩
    refine vW @hjc @mg @hvv ?_;refine jy ch ?_;refine ew ?_;refine⟨by omega,(j+1,(y::ys)++[v]),by dsimp only;omega,⟨by dsimp only;omega,ej.symm⟩,?_⟩;dsimp only;rw [sO,show VH 1 (kF (y::ys++[v]))=[some ⟨1,kF (y::ys++[v])⟩]from rfl,show slW (y::ys++[v]).length=.kP 1 0 (ys.length+1+1) by simp [slW]];simp only [bP,dL];exact an8
   have hje:j=R.length:=by omega
   subst hje;rw [←ayM]at hy0;have adp:ch2 R last=if ys=[]then R else ys:=by rw [hy0];rfl
   rw [hC]
   (rcases ys with _|⟨y,ys⟩<;>simp only [au,aj,abD,abE,mO,lI,aQ,bP,dL]at hyl ⊢)
   ·rw [if_pos rfl]at adp;rw [adp]at hbd hcs hC0;have hR1:0<R.length:=by omega
    refine qj @hjc ?_;refine kD (fun _=>?_) fun hh=>absurd (by simp) hh;refine ew ?_;rw [←hC];have hCl:R.length≤10:=by omega
    have hget:∀m,m<R.length→1≤R.getD m 0∧R.getD m 0≤9:=fun m hm=>hcs _ (by rw [ak,aB hm];exact dP hm);have hdr:∀m,m<R.length→R.drop m=R.getD m 0::R.drop (m+1):=fun m hm=>by
     rw [bT hm,ak,aB hm];rfl
    have h00:=hget 0 (by omega)
    skip
    refine kG (fun _ _=>false) (α:=Nat×Int) (fun q=>⟨kX [.any,ints last,.any,.any,.any,.ptr 0 0 0,ints R,.jL,.any,.any,.any,iv q.2,.any,.any,.any,.any,.any,.any,.any,.any,.any,.any,.any,.any,.any,.any,.any,.any,.any,.any,.any,.any,.any,.any,.any,.any,.any,.any,.any,.any,.any,.any,.any,.any,.any,.any,.any,.any,ints R,iv (R.length:Nat),iv (q.1:Nat)],[some ⟨100,[lS G]⟩],0,0,[],[]⟩) (fun q=>q.1≤R.length∧(1≤q.2∧q.2≤9)∧B=pk G (R.drop q.1) q.2) (fun q=>R.length-q.1) rfl (0,R.getD 0 0) ?_ ?_ ?_
    ·exact⟨by dsimp only;omega,h00,hbd⟩
    ·exact ajd
    rw [hC];rintro⟨m,b⟩ ⟨hm,hb2,hpk⟩;dsimp only at hm hb2 hpk;have hget:=hget m;have hdr:=hdr m;refine ew ?_;refine kD (fun he=>?_) fun he=>?_<;>(refine qj @he ?_;try with_reducible exact True.intro)
    ·have Xn:m<R.length:=by first|omega|(simp only [aj];omega)
     have hv9:=hget Xn;rw [hdr Xn,aaH]at hpk;generalize R.getD m 0=v at hv9 hpk ⊢;refine qj @t1 ?_;refine jy (cdg v (by omega)) ?_;refine qj @t1 ?_;refine jy (cdg b (by omega)) ?_;refine qj @t1 ?_;refine kD (fun hf=>?_) fun hf=>?_<;>(refine qj @hf ?_;try with_reducible exact True.intro)
     ·have hf':Dq G v<Dq G b:=by unfold Dq;omega
      rw [if_pos hf']at hpk;exact⟨(m+1,v),by first|(dsimp only;omega)|(simp only [List.length_cons]at *;omega),⟨by first|(dsimp only;omega)|(simp only [List.length_cons]at *;omega),by dsimp only;omega,hpk⟩,by (refine jW ?_;exact qw)⟩
     have hf':¬Dq G v<Dq G b:=by unfold Dq;omega
     rw [if_neg hf']at hpk;exact⟨(m+1,b),by first|(dsimp only;omega)|(simp only [List.length_cons]at *;omega),⟨by first|(dsimp only;omega)|(simp only [List.length_cons]at *;omega),by dsimp only;omega,hpk⟩,by (refine jW ?_;exact qw)⟩
    have hme:m=R.length:=by first|omega|(simp only [aj]at hm ⊢;omega)
    rw [hme,fO]at hpk;have hpk:B=b:=hpk;subst hpk;refine uh @t1 @t3 ?_;refine⟨by omega,?_⟩;refine jy cc ?_;refine uh @t1 @t3 ?_;refine jy cw ?_;refine uh @t1 @t3 ?_;refine⟨(k+1,([])++[B]),by dsimp only;omega,⟨by dsimp only;omega,by rw [es]⟩,?_⟩;dsimp only;rw [es,←hE];dsimp only;exact an7
   rw [if_neg (by simp)]at adp;rw [adp]at hbd hcs hC0
   skip
   refine qj @hjc ?_;refine kD (fun hh=>absurd hh (by omega)) fun _=>?_;refine ew ?_;rw [←hC];have hCl:(y::ys).length≤10:=by simp only [aj];omega
   have hget:∀m,m<(y::ys).length→1≤(y::ys).getD m 0∧(y::ys).getD m 0≤9:=fun m hm=>hcs _ (by rw [ak,aB hm];exact dP hm);have hdr:∀m,m<(y::ys).length→(y::ys).drop m=(y::ys).getD m 0::(y::ys).drop (m+1):=fun m hm=>by
    rw [bT hm,ak,aB hm];rfl
   have h00:=hget 0 (by simp)
   skip
   refine kG (fun _ _=>false) (α:=Nat×Int) (fun q=>⟨kX [.any,ints last,.any,.any,.any,.ptr 0 0 0,ints R,.jL,.any,.any,.any,iv q.2,.any,.any,.any,.any,.any,.any,.any,.any,.any,.any,.any,.any,.any,.any,.any,.any,.any,.any,.any,.any,.any,.any,.any,.any,.any,.any,.any,.any,.any,.any,.any,.any,.any,.any,.any,.any,ints (y::ys),iv ((y::ys).length:Nat),iv (q.1:Nat)],[some ⟨100,[lS G]⟩],0,0,[],[]⟩) (fun q=>q.1≤(y::ys).length∧(1≤q.2∧q.2≤9)∧B=pk G ((y::ys).drop q.1) q.2) (fun q=>(y::ys).length-q.1) rfl (0,(y::ys).getD 0 0) ?_ ?_ ?_
   ·exact⟨by dsimp only;omega,h00,hbd⟩
   ·((refine KH [(0,_)] (by simp) (by intro p hp;simp only [aH,bV,or_false]at hp;rcases hp with rfl<;>refine⟨rfl,?_⟩<;>first|exact sJ _|exact pF _|simp [l7,V.still]) rfl ?_)<;>(try (refine ew ?_;try with_reducible exact True.intro))<;>(repeat' (first|exact True.intro|omega|exact nP rfl (by simp)|refine⟨?_,?_⟩|exact of_eq_true (tH _ _ _)|exact lY rfl (by simp;done)|exact lY rfl rfl|(refine mW rfl ?_ rfl;simp [kF];done)|(refine mW rfl ?_ rfl;simp [kF];omega)|(refine tJ ?_ ?_;(focus ((refine ew ?_;try with_reducible exact True.intro);done));(intro q hq k s0 l0;simp;done)))));exact abG rfl (by rintro(_|_|_) s0 l0 hh<;>simp at hh) rfl
   rw [hC];rintro⟨m,b⟩ ⟨hm,hb2,hpk⟩;dsimp only at hm hb2 hpk;have hget:=hget m;have hdr:=hdr m;refine ew ?_;refine kD (fun he=>?_) fun he=>?_<;>(refine qj @he ?_;try with_reducible exact True.intro)
   ·have Xn:m<(y::ys).length:=by first|omega|(simp only [aj];omega)
    have hv9:=hget Xn;rw [hdr Xn,aaH]at hpk;generalize (y::ys).getD m 0=v at hv9 hpk ⊢;refine qj @t1 ?_;refine jy (cdg v (by omega)) ?_;refine qj @t1 ?_;refine jy (cdg b (by omega)) ?_;refine qj @t1 ?_;refine kD (fun hf=>?_) fun hf=>?_<;>(refine qj @hf ?_;try with_reducible exact True.intro)
    ·have hf':Dq G v<Dq G b:=by unfold Dq;omega
     rw [if_pos hf']at hpk;exact⟨(m+1,v),by first|(dsimp only;omega)|(simp only [List.length_cons]at *;omega),⟨by first|(dsimp only;omega)|(simp only [List.length_cons]at *;omega),by dsimp only;omega,hpk⟩,by (refine jW ?_;exact qw)⟩
    have hf':¬Dq G v<Dq G b:=by unfold Dq;omega
    rw [if_neg hf']at hpk;exact⟨(m+1,b),by first|(dsimp only;omega)|(simp only [List.length_cons]at *;omega),⟨by first|(dsimp only;omega)|(simp only [List.length_cons]at *;omega),by dsimp only;omega,hpk⟩,by (refine jW ?_;exact qw)⟩
   have hme:m=(y::ys).length:=by first|omega|(simp only [aj]at hm ⊢;omega)
   rw [hme,fO]at hpk;have hpk:B=b:=hpk;subst hpk;refine uh @t1 @t3 ?_;refine⟨by omega,?_⟩;refine jy cc ?_;refine uh @t1 @t3 ?_;refine jy cw ?_;refine uh @t1 @t3 ?_;refine⟨(k+1,([])++[B]),by dsimp only;omega,⟨by dsimp only;omega,by rw [es]⟩,?_⟩;dsimp only;rw [es,←hE];dsimp only;exact an7
  refine qj @hR0 ?_;rw [←hC];refine kG (fun _ _=>false) (α:=Nat×List Int) (fun q=>⟨kX [.any,ints last,.any,.any,.any,.ptr 0 0 0,ints R,.kP 1 0 (xs.length+1),slX q.2.length,.any,.any,.any,.any,.any,.any,.any,.any,.any,.any,.any,.any,.any,.any,.any,.any,.any,ints R,iv (R.length:Nat),iv (q.1:Nat)],[some ⟨100,[lS G]⟩,some ⟨1,kF (x::xs)⟩]++VH 1 (kF q.2),0,0,[],[]⟩) (fun q=>q.1≤R.length∧q.2=chJ R last q.1) (fun q=>R.length-q.1) rfl (0,[]) ?_ ?_ ?_
  ·exact⟨by omega,rfl⟩
  ·exact an6
  rintro⟨j,ys⟩ ⟨hj,hy0⟩;dsimp only at hj hy0;have hyl:ys.length≤10:=by rw [hy0];have:=ado R last j;omega
  have ej:chJ R last (j+1)=chJ R last j++if R.getD j 0∈last then []else [R.getD j 0]:=rfl
  rw [←hy0]at ej;by_cases hjc:(j:Int)<(R.length:Nat)
  ·have hjl:j<R.length:=by omega
   generalize hvv:R.getD j 0=v at ej;have ch:=Qy h.wC (l:=last) (n:=v) (by omega);by_cases hvl:v∈last
   ·rw [decide_eq_true hvl]at ch;rw [if_pos hvl,aQ]at ej
    (rcases ys with _|⟨y,ys⟩<;>simp only [au,aj,ajb,ajc,mO,lI,aQ,bP,dL]at hyl ⊢)
    ·refine vW @hjc @mg @hvv ?_;refine jy ch ?_;refine ew ?_;refine⟨(j+1,[]),by dsimp only;omega,⟨by dsimp only;omega,ej.symm⟩,?_⟩;simp only [au,ajb]
     (refine jW ?_;exact qw)
    refine vW @hjc @mg @hvv ?_;refine jy ch ?_;refine ew ?_;refine⟨(j+1,y::ys),by dsimp only;omega,⟨by dsimp only;omega,ej.symm⟩,?_⟩;simp only [aj,ajc]
    (refine jW ?_;exact qw)
   rw [decide_eq_false hvl]at ch;rw [if_neg hvl]at ej
   (rcases ys with _|⟨y,ys⟩<;>simp only [au,aj,ajb,ajc,mO,lI,aQ,bP,dL]at hyl ⊢)
   ·refine vW @hjc @mg @hvv ?_;refine jy ch ?_;refine ew ?_;exact⟨by omega,(j+1,[v]),by dsimp only;omega,⟨by dsimp only;omega,ej.symm⟩,by (refine KH [(0,_),(1,_),(3,_)] (by simp) (by intro p hp;simp only [List.mem_cons,List.not_mem_nil,or_false]at hp;rcases hp with rfl|rfl|rfl<;>refine⟨rfl,?_⟩<;>first|exact sJ _|exact pF _|simp [l7,V.still]) rfl ?_)<;>(try (refine ew ?_;try with_reducible exact True.intro))<;>(repeat' (first|exact True.intro|omega|exact nP rfl (by simp)|refine⟨?_,?_⟩|exact of_eq_true (tH _ _ _)|exact lY rfl (by simp;done)|exact lY rfl rfl|(refine mW rfl ?_ rfl;simp [kF];done)|(refine mW rfl ?_ rfl;simp [kF];omega)|(refine tJ ?_ ?_;(focus ((refine ew ?_;try with_reducible exact True.intro);done));(intro q hq k s0 l0;simp;done))))⟩
   refine vW @hjc @mg @hvv ?_;refine jy ch ?_;refine ew ?_;refine⟨by omega,(j+1,(y::ys)++[v]),by dsimp only;omega,⟨by dsimp only;omega,ej.symm⟩,?_⟩;dsimp only;rw [sO,show VH 1 (kF (y::ys++[v]))=[some ⟨1,kF (y::ys++[v])⟩]from rfl,show slX (y::ys++[v]).length=.kP 2 0 (ys.length+1+1) by simp [slX]];simp only [bP,dL]
   (refine KH [(0,_),(1,_),(4,_)] (by simp) (by intro p hp;simp only [aH,bV,or_false]at hp;rcases hp with rfl|rfl|rfl<;>refine⟨rfl,?_⟩<;>first|exact sJ _|exact pF _|simp [l7,V.still]) rfl ?_)<;>(try (refine ew ?_;try with_reducible exact True.intro))<;>(repeat' (first|exact True.intro|omega|exact nP rfl (by simp)|refine⟨?_,?_⟩|exact of_eq_true (tH _ _ _)|exact lY rfl (by simp;done)|exact lY rfl rfl|(refine mW rfl ?_ rfl;simp [kF];done)|(refine mW rfl ?_ rfl;simp [kF];omega)|(refine tJ ?_ ?_;(focus ((refine ew ?_;try with_reducible exact True.intro);done));(intro q hq k s0 l0;simp;done))))
  have hje:j=R.length:=by omega
  subst hje;rw [←ayM]at hy0;have adp:ch2 R last=if ys=[]then R else ys:=by rw [hy0];rfl
  rw [hC]
  (rcases ys with _|⟨y,ys⟩<;>simp only [au,aj,ajb,ajc,mO,lI,aQ,bP,dL]at hyl ⊢)
  ·rw [if_pos rfl]at adp;rw [adp]at hbd hcs hC0;have hR1:0<R.length:=by omega
   refine qj @hjc ?_;refine kD (fun _=>?_) fun hh=>absurd (by simp) hh;refine ew ?_;rw [←hC];have hCl:R.length≤10:=by omega
   have hget:∀m,m<R.length→1≤R.getD m 0∧R.getD m 0≤9:=fun m hm=>hcs _ (by rw [ak,aB hm];exact dP hm);have hdr:∀m,m<R.length→R.drop m=R.getD m 0::R.drop (m+1):=fun m hm=>by
    rw [bT hm,ak,aB hm];rfl
   have h00:=hget 0 (by omega)
   skip
   refine kG (fun _ _=>false) (α:=Nat×Int) (fun q=>⟨kX [.any,ints last,.any,.any,.any,.ptr 0 0 0,ints R,.kP 1 0 (xs.length+1),.any,.any,.any,iv q.2,.any,.any,.any,.any,.any,.any,.any,.any,.any,.any,.any,.any,.any,.any,.any,.any,.any,.any,.any,.any,.any,.any,.any,.any,.any,.any,.any,.any,.any,.any,.any,.any,.any,.any,.any,.any,ints R,iv (R.length:Nat),iv (q.1:Nat)],[some ⟨100,[lS G]⟩,some ⟨1,kF (x::xs)⟩],0,0,[],[]⟩) (fun q=>q.1≤R.length∧(1≤q.2∧q.2≤9)∧B=pk G (R.drop q.1) q.2) (fun q=>R.length-q.1) rfl (0,R.getD 0 0) ?_ ?_ ?_
   ·exact⟨by dsimp only;omega,h00,hbd⟩
   ·exact an6
   rw [hC];rintro⟨m,b⟩ ⟨hm,hb2,hpk⟩;dsimp only at hm hb2 hpk;have hget:=hget m;have hdr:=hdr m;refine ew ?_;refine kD (fun he=>?_) fun he=>?_<;>(refine qj @he ?_;try with_reducible exact True.intro)
   ·have Xn:m<R.length:=by first|omega|(simp only [aj];omega)
    have hv9:=hget Xn;rw [hdr Xn,aaH]at hpk;generalize R.getD m 0=v at hv9 hpk ⊢;refine qj @t1 ?_;refine jy (cdg v (by omega)) ?_;refine qj @t1 ?_;refine jy (cdg b (by omega)) ?_;refine qj @t1 ?_;refine kD (fun hf=>?_) fun hf=>?_<;>(refine qj @hf ?_;try with_reducible exact True.intro)
    ·have hf':Dq G v<Dq G b:=by unfold Dq;omega
     rw [if_pos hf']at hpk;exact⟨(m+1,v),by first|(dsimp only;omega)|(simp only [List.length_cons]at *;omega),⟨by first|(dsimp only;omega)|(simp only [List.length_cons]at *;omega),by dsimp only;omega,hpk⟩,by (refine jW ?_;exact qw)⟩
    have hf':¬Dq G v<Dq G b:=by unfold Dq;omega
    rw [if_neg hf']at hpk;exact⟨(m+1,b),by first|(dsimp only;omega)|(simp only [List.length_cons]at *;omega),⟨by first|(dsimp only;omega)|(simp only [List.length_cons]at *;omega),by dsimp only;omega,hpk⟩,by (refine jW ?_;exact qw)⟩
   have hme:m=R.length:=by first|omega|(simp only [aj]at hm ⊢;omega)
   rw [hme,fO]at hpk;have hpk:B=b:=hpk;subst hpk;refine uh @t1 @t3 ?_;refine⟨by omega,?_⟩;refine jy cc ?_;refine uh @t1 @t3 ?_;refine jy cw ?_;refine uh @t1 @t3 ?_;refine⟨(k+1,(x::xs)++[B]),by dsimp only;omega,⟨by dsimp only;omega,by rw [es]⟩,?_⟩;dsimp only;rw [es,←hE];rw [sO,show VH 1 (kF (x::xs++[B]))=[some ⟨1,kF (x::xs++[B])⟩]from rfl,show slW (x::xs++[B]).length=.kP 1 0 (xs.length+1+1) by simp [slW]];dsimp only;exact an8
  rw [if_neg (by simp)]at adp;rw [adp]at hbd hcs hC0
  skip
  refine qj @hjc ?_;refine kD (fun hh=>absurd hh (by omega)) fun _=>?_;refine ew ?_;rw [←hC];have hCl:(y::ys).length≤10:=by simp only [aj];omega
  have hget:∀m,m<(y::ys).length→1≤(y::ys).getD m 0∧(y::ys).getD m 0≤9:=fun m hm=>hcs _ (by rw [ak,aB hm];exact dP hm);have hdr:∀m,m<(y::ys).length→(y::ys).drop m=(y::ys).getD m 0::(y::ys).drop (m+1):=fun m hm=>by
   rw [bT hm,ak,aB hm];rfl
  have h00:=hget 0 (by simp)
  skip
  refine kG (fun _ _=>false) (α:=Nat×Int) (fun q=>⟨kX [.any,ints last,.any,.any,.any,.ptr 0 0 0,ints R,.kP 1 0 (xs.length+1),.any,.any,.any,iv q.2,.any,.any,.any,.any,.any,.any,.any,.any,.any,.any,.any,.any,.any,.any,.any,.any,.any,.any,.any,.any,.any,.any,.any,.any,.any,.any,.any,.any,.any,.any,.any,.any,.any,.any,.any,.any,ints (y::ys),iv ((y::ys).length:Nat),iv (q.1:Nat)],[some ⟨100,[lS G]⟩,some ⟨1,kF (x::xs)⟩],0,0,[],[]⟩) (fun q=>q.1≤(y::ys).length∧(1≤q.2∧q.2≤9)∧B=pk G ((y::ys).drop q.1) q.2) (fun q=>(y::ys).length-q.1) rfl (0,(y::ys).getD 0 0) ?_ ?_ ?_
  ·exact⟨by dsimp only;omega,h00,hbd⟩
  ·((refine KH [(0,_),(1,_)] (by simp) (by intro p hp;simp only [aH,bV,or_false]at hp;rcases hp with rfl|rfl<;>refine⟨rfl,?_⟩<;>first|exact sJ _|exact pF _|simp [l7,V.still]) rfl ?_)<;>(try (refine ew ?_;try with_reducible exact True.intro))<;>(repeat' (first|exact True.intro|omega|exact nP rfl (by simp)|refine⟨?_,?_⟩|exact of_eq_true (tH _ _ _)|exact lY rfl (by simp;done)|exact lY rfl rfl|(refine mW rfl ?_ rfl;simp [kF];done)|(refine mW rfl ?_ rfl;simp [kF];omega)|(refine tJ ?_ ?_;(focus ((refine ew ?_;try with_reducible exact True.intro);done));(intro q hq k s0 l0;simp;done)))));exact abG rfl (by rintro(_|_|_) s0 l0 hh<;>simp at hh) rfl
  rw [hC];rintro⟨m,b⟩ ⟨hm,hb2,hpk⟩;dsimp only at hm hb2 hpk;have hget:=hget m;have hdr:=hdr m;refine ew ?_;refine kD (fun he=>?_) fun he=>?_<;>(refine qj @he ?_;try with_reducible exact True.intro)
  ·have Xn:m<(y::ys).length:=by first|omega|(simp only [aj];omega)
   have hv9:=hget Xn;rw [hdr Xn,aaH]at hpk;generalize (y::ys).getD m 0=v at hv9 hpk ⊢;refine qj @t1 ?_;refine jy (cdg v (by omega)) ?_;refine qj @t1 ?_;refine jy (cdg b (by omega)) ?_;refine qj @t1 ?_;refine kD (fun hf=>?_) fun hf=>?_<;>(refine qj @hf ?_;try with_reducible exact True.intro)
   ·have hf':Dq G v<Dq G b:=by unfold Dq;omega
    rw [if_pos hf']at hpk;exact⟨(m+1,v),by first|(dsimp only;omega)|(simp only [List.length_cons]at *;omega),⟨by first|(dsimp only;omega)|(simp only [List.length_cons]at *;omega),by dsimp only;omega,hpk⟩,by (refine jW ?_;exact qw)⟩
   have hf':¬Dq G v<Dq G b:=by unfold Dq;omega
   rw [if_neg hf']at hpk;exact⟨(m+1,b),by first|(dsimp only;omega)|(simp only [List.length_cons]at *;omega),⟨by first|(dsimp only;omega)|(simp only [List.length_cons]at *;omega),by dsimp only;omega,hpk⟩,by (refine jW ?_;exact qw)⟩
  have hme:m=(y::ys).length:=by first|omega|(simp only [aj]at hm ⊢;omega)
  rw [hme,fO]at hpk;have hpk:B=b:=hpk;subst hpk;refine uh @t1 @t3 ?_;refine⟨by omega,?_⟩;refine jy cc ?_;refine uh @t1 @t3 ?_;refine jy cw ?_;refine uh @t1 @t3 ?_;refine⟨(k+1,(x::xs)++[B]),by dsimp only;omega,⟨by dsimp only;omega,by rw [es]⟩,?_⟩;dsimp only;rw [es,←hE];rw [sO,show VH 1 (kF (x::xs++[B]))=[some ⟨1,kF (x::xs++[B])⟩]from rfl,show slW (x::xs++[B]).length=.kP 1 0 (xs.length+1+1) by simp [slW]];dsimp only;exact an8
 have hke:k=ns.length:=by omega
 rw [hfin hke];have hR0:¬((R.length:Int)>0):=by omega
 (rcases xs with _|⟨x,xs⟩<;>simp only [au,aj,abD,abE,mO,lI]at hx ⊢)
 ·refine qj @hR0 ?_;exact CZ
 refine qj @hR0 ?_;exact N8 (o:=1) (l:=x::xs) rfl
end Go.Ml
end
