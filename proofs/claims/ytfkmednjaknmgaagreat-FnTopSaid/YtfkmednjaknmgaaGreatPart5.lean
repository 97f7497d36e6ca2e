/- Contracts of functions. -/
import Derived.Test.YtfkmednjaknmgaaGreatPart4
set_option linter.unusedSimpArgs false
set_option linter.unusedVariables false
set_option maxRecDepth 100000
set_option maxHeartbeats 16000000
section
namespace Go.Ml
def uq:Fn:=⟨2,167,[.cell 4 5 true,.tmp 5,.tmp 6],(.seq (rf 1 [oN 4 (.alloc zz4),oK 5 1 mN,oK 6 1 mF]) (.seq (sr [oW 18 1,oN 19 (bc .lss 18 1),oW 20 19,oG 20 false 21 (oV 1),oG 20 false 22 (bc .geq 21 10),oN 23 (.pick (.t 20) (.c (.bool true)) (.t 22))] (cd 23 (sr [oN 24 (.build zz4 []),oS (.store 5 (.t 4) (.t 24)),oN 5 mN,oN 6 mF] .ret) .skip)) (.seq (rf 1 [oK 25 1 (oV 1),oK 26 1 (.call 39 [(cI 0)]),oK 27 1 (.build zz4 [(0,1,(.t 25)),(1,3,(.t 26))]),oN 7 (.alloc zz4),⟨none,none,1,.store 5 (.t 7) (.t 27),[]⟩]) (.seq (rf 1 [oN 28 (.nO 3 uJ 0 []),oK 8 1 (oV 28)]) (.seq (sr [oW 29 0,oN 30 (ln 29),oN 31 (.qC (cI 0))] (.block 0 (.loop (sr [oN 32 (bt .lss 31 30)] (.seq (cd 32 .skip (.exit 0)) (.seq (.block 1 (.seq (rf 1 [oK 33 1 (ix 11 29 31),oK 34 1 (lT 11 33),oN 10 (.alloc I5),⟨none,none,1,.store 11 (.t 10) (.t 34),[]⟩]) (.seq (sr [oN 35 (fd 0 10),oN 36 (lF 1 35),oW 37 1,oN 38 (bt .eql 36 37)] (cd 38 (rt 2 [oK 39 2 (fd 4 7),oA 40 2 (lF 1 39) [0],oK 41 2 (fd 1 10),oA 42 2 (lF 1 41) [2],oK 43 2 (fd 5 10),oA 44 2 (lT 3 43) [4],oA 45 2 (cl 161 [44]) [5],oK 46 2 (fd 8 10),oA 47 2 (lT 3 46) [7],oA 48 2 (cl 161 [47]) [8,6],oA 49 2 (.build zz5 [(0,1,(.t 42)),(4,3,(.t 45)),(7,3,(.t 48))]) [3,6,9],oA 50 0 (.nO 10 zz5 1 [(0,(.t 49))]) [10],oA 51 1 (.app 10 176 (.t 40) (.t 50)) [1,11,9],oA 52 2 (fd 4 7) [0,1,2,3,4,5,6,7,8,9,10,11,12],⟨none,none,2,.store 1 (.t 52) (.t 51),[13,12,12,0,1,2,3,4,5,6,7,8,9,10,11,12]⟩]) (sr [oN 53 (fd 1 10),oN 54 (lF 1 53),oW 55 1,oN 56 (bt .eql 54 55)] (cd 56 (rf 2 [oK 57 2 (fd 4 7),oK 58 2 (lF 1 57),oK 59 2 (fd 0 10),oK 60 2 (lF 1 59),oK 61 2 (fd 5 10),oK 62 2 (lT 3 61),oK 63 2 (fd 8 10),oK 64 2 (lT 3 63),oK 65 2 (.build zz5 [(0,1,(.t 60)),(4,3,(.t 62)),(7,3,(.t 64))]),oN 66 (.nO 10 zz5 1 [(0,(.t 65))]),oK 67 1 (.app 10 176 (.t 58) (.t 66)),oK 68 2 (fd 4 7),⟨none,none,2,.store 1 (.t 68) (.t 67),[]⟩]) (.exit 1))))) (.seq (rf 2 [oK 69 2 (oV 8),oK 70 2 (fd 2 10),oK 71 2 (lT 3 70),oN 72 (.nO 3 uJ 1 [(0,(.t 71))]),oK 73 1 (.app 3 56 (.t 69) (.t 72)),oK 8 2 (oV 73)]) (rg [oN 74 (fd 1 7),oN 75 (lT 3 74),oN 76 (fd 2 10),oN 77 (lT 3 76),oN 78 (cl 131 [75,77]),oN 79 (fd 1 7),oS (.store 3 (.t 79) (.t 78))]))))) (rg [oN 80 (bc .add 31 1),oW 31 80]))))))) (.seq (sr [oN 81 (fd 4 7),oN 82 (lF 1 81),oN 83 (ln 82),oN 84 (.qC (cI 0))] (.block 2 (.loop (sr [oN 85 (bt .lss 84 83)] (.seq (cd 85 .skip (.exit 2)) (.seq (.block 3 (sr [oW 86 84,oW 11 86] (rt 0 [oN 87 (fd 4 7),oA 88 0 (lF 1 87) [0],oW 89 11,oW 90 8,oW 91 11,oA 92 0 (ix 3 90 91) [3,4],oA 93 0 (lT 3 92) [5],oN 94 (fd 1 7),oA 95 0 (lT 3 94) [7],oA 96 0 (cl 156 [93,95]) [6,8],oA 97 0 (ix 10 88 89) [1,2,0,1,2,3,4,5,6,7,8,9],oA 98 0 (fd 1 97) [10,0,1,2,3,4,5,6,7,8,9],⟨none,none,0,.store 3 (.t 98) (.t 96),[11,9,9,0,1,2,3,4,5,6,7,8,9]⟩]))) (rg [oN 99 (bc .add 84 1),oW 84 99]))))))) (.seq (sr [oN 100 (lT 5 7),oN 101 (cl 185 [100]),oN 102 (nt 101)] (cd 102 (sr [oN 103 (.build zz4 []),oS (.store 5 (.t 4) (.t 103)),oN 5 mN,oN 6 mF] .ret) .skip)) (.seq (rf 1 [oN 104 (.nO 11 I5 0 []),oK 12 1 (oV 104)]) (.seq (sr [oN 105 (fd 4 7),oN 106 (lF 1 105),oN 107 (ln 106),oN 108 (.qC (cI 0))] (.block 4 (.loop (sr [oN 109 (bt .lss 108 107)] (.seq (cd 109 .skip (.exit 4)) (.seq (.block 5 (.seq (rf 1 [oK 110 1 (oV 108),oK 111 1 (ix 10 106 108),oK 112 1 (lT 10 111),oN 14 (.alloc zz5),oK 13 1 (oV 110),⟨none,none,1,.store 10 (.t 14) (.t 112),[]⟩]) (sr [oW 113 13,oN 114 (bc .add 113 1),oW 15 114] (.block 6 (.loop (.seq (sr [oW 115 15,oN 116 (fd 4 7),oN 117 (lF 1 116),oN 118 (ln 117),oN 119 (bt .lss 115 118)] (cd 119 .skip (.exit 6))) (.seq (.block 7 (.seq (rf 1 [oK 122 1 (fd 4 7),oK 123 1 (lF 1 122),oK 124 1 (oV 15),oK 125 1 (ix 10 123 124),oK 126 1 (lT 10 125),oN 16 (.alloc zz5),⟨none,none,1,.store 10 (.t 16) (.t 126),[]⟩]) (.seq (rt 1 [oK 127 1 (fd 0 14),oA 128 1 (lF 1 127) [0],oK 129 1 (fd 0 16),oA 130 1 (lF 1 129) [2],oK 131 1 (oV 8),oK 132 1 (oV 13),oA 133 1 (ix 3 131 132) [4,5],oA 134 1 (lT 3 133) [6],oK 135 1 (oV 8),oK 136 1 (oV 15),oA 137 1 (ix 3 135 136) [8,9],oA 138 1 (lT 3 137) [10],oA 139 1 (cl 157 [134,138]) [7,11],oK 140 1 (fd 1 7),oA 141 1 (lT 3 140) [13],oA 142 1 (cl 156 [139,141]) [12,14,12],oA 143 1 (.build I5 [(0,1,(.t 128)),(1,1,(.t 130)),(2,3,(.t 142))]) [1,3,15],oN 17 (.alloc I5),⟨none,none,1,.store 11 (.t 17) (.t 143),[17,16,15,0,1,2,3,4,5,6,7,8,9,10,11,12,13,14,15,16,17]⟩]) (sr [oN 144 (fd 4 14),oN 145 (lT 3 144),oN 146 (fd 4 16),oN 147 (lT 3 146),oN 148 (cl 159 [145,147]),oN 149 (fd 5 17),oS (.store 3 (.t 149) (.t 148))] (sr [oN 150 (fd 7 14),oN 151 (lT 3 150),oN 152 (fd 7 16),oN 153 (lT 3 152),oN 154 (cl 159 [151,153]),oN 155 (fd 8 17),oS (.store 3 (.t 155) (.t 154))] (.seq (sr [oN 156 (lT 11 17),oN 157 (cl 84 [156]),oN 158 (nt 157)] (cd 158 (sr [oN 159 (.build zz4 []),oS (.store 5 (.t 4) (.t 159)),oN 5 mN,oN 6 mF] .ret) .skip)) (rf 2 [oK 160 2 (oV 12),oK 161 2 (lT 11 17),oN 162 (.nO 11 I5 1 [(0,(.t 161))]),oK 163 1 (.app 11 184 (.t 160) (.t 162)),oK 12 2 (oV 163)]))))))) (rg [oW 120 15,oN 121 (bc .add 120 1),oW 15 121])))))))) (rg [oN 164 (bc .add 108 1),oW 108 164]))))))) (sr [oN 165 (lT 5 7),oW 166 12,oS (.store 5 (.t 4) (.t 165)),oW 5 166,oN 6 mT] .ret))))))))))⟩
structure AQ (T:Tb):Prop where
 hT:T 182=some uq
 lK:nV T
 Dz:yM T
 lJ:nM T
 uZ:uY T
 l7:qL T
 rH:tu T
 uX:uV T
 oJ:qA T
theorem Xe{T:Tb}(h:AQ T){S:List Lk}{v:Int}(hb:lN S=true)(hw:DR Lk.wf S):PF T 182 [nZ S,iv v] (.oU [cdV (elC S v),nZ (elM S v),.bool (XL S v)]):=by
 have hl:S.length<=100:=VN hb;have c0:=LU h.lK (n:=0);by_cases hv:1<=v/\v<=9
 ·have hv1:¬v<1:=by omega
  have hv2:¬v>=10:=by omega
  refine kX (fun x d=>(x == 39&&d == 999)) h.hT ?_;simp only [uq,Lz];refine ew ?_;refine AZ @hv1 @hv2 ?_;refine jK c0 ?_;refine ew ?_;refine kZ (fun x d=>(x == 39&&d == 999)) (α:=Nat×Store×V×V) (fun q=>⟨mJ [nZ S,iv v,.any,.any,.ptr 0 0 0,.kC,.bool false,.ptr 1 0 0,q.2.2.2,.any,.any,.any,.any,.any,.any,.any,.any,.any,.any,.any,.any,.any,.any,.any,.any,.any,.any,.any,.any,nZ S,iv (S.length:Nat),iv (q.1:Nat)],q.2.1,0,0,[],[]⟩) (fun q=>q.1<=S.length/\ElI q.2.1 v (rQ (MH S v q.1)) q.2.2.1 q.2.2.2 ((MH S v q.1).map paZ) ((MH S v q.1).map Pa.wc)) (fun q=>S.length-q.1) rfl (0,[some ⟨5,[[iv 0,.bool false,.kC,.kC,.kC]]⟩,some ⟨5,[[iv v,.bool (lC 0).neg,ints (lC 0).mag,ints (lC 0).den,.kC]]⟩,none],.kC,.kC) ?_ ?_ ?_
  ·exact⟨Nat.zero_le _,by dsimp only;rw [av7];exact⟨rfl,rfl,.inl ⟨rfl,rfl⟩,.inl ⟨rfl,rfl⟩⟩⟩
  ·(refine kS ?_;exact uw)
  rintro⟨i,s,pv,wv⟩ ⟨hi,I⟩;dsimp only at hi I;have hX:=ae8 (MH S v i);have hAl:=anP S v i;have I0:=I.a0;have I1:=I.a1;have hsl:=I.lt;by_cases hc:(i:Int)<(S.length:Nat)
  ·have hil:i<S.length:=by omega
   have hx:(S.map Lk.cells).getD i []=(S.getD i default).cells:=mg hil;have es:=av8 S v hil;have hlk:=oL hb (getD_mem hil);obtain⟨kw,kx,ky,kp⟩:=Bo hlk;generalize S.getD i default=l at *;unfold RD at es;by_cases ha:l.a=v
   ·have f0:(l.a=v)=True:=iy ha;rw [aQ ha]at es;have n1:=aaV h.uX (CG kx);have n2:=aaV h.uX (CG ky);have ca:=DZ h.lJ hX (CG kw);generalize hXe:rQ (MH S v i)=X at *;generalize MH S v i=A at *;rcases I.p with ⟨hp,rfl⟩|⟨p,rfl,hp,hp3,hpl⟩
    ·have hA:A=[]:=iJ.1 hp;subst hA;rcases I.w with ⟨_,rfl⟩|⟨w,_,hw,_,hwl⟩
     case inr=>exact absurd hwl (by simp)
     refine D5 @hc @hx @f0 (ah I0 I1) @kQ @lI ?_;refine jK n1 ?_;refine D5 @hc @hx @f0 (ah I0 I1) @kQ @lI ?_;refine jK n2 ?_;refine D5 @hc @hx @f0 (ah I0 I1) @kQ @lI ?_;refine⟨by omega,by
      have hn0:2<=List.length s:=hsl;generalize List.length s=m at hn0 ⊢
      revert m
      refine y7 _ _ 2 (fun n hn=>?_) (fun n hn=>?_) ?_
      ·simp only [sh];split<;>omega
      ·simp [Yy,sh];try omega
      unfold sF;decide +kernel,?_⟩
     refine⟨by omega,?_⟩;refine jK ca ?_;refine D5 @hc @hx @f0 (ah I0 I1) @kQ @lI ?_;refine⟨(i+1,?s1,.lQ (s.length+1+1) 0 1,.lQ (s.length+4) 0 1),?m1,⟨?a1,?b1⟩,?e1⟩
     case e1=>dsimp only;(refine kS ?_;exact uw)
     case m1=>dsimp only;omega
     case a1=>dsimp only;omega
     case b1 =>
      dsimp only;rw [es,OC,hXe];refine⟨(show jQ _ 0=jQ s 0 by exact DV).trans I0,?u1,.inr ⟨s.length+1+1,?p1,?q1,by omega,by simp⟩,.inr ⟨s.length+4,?r1,?t1,by omega,by simp⟩⟩
      case u1=>simp (disch:=first|omega|(simp only [aS,bV,au,aG];omega)) only [Sj]
      case p1=>simp
      case r1=>simp
      case q1=>simp (disch:=first|omega|(simp only [aS,bV,au,aG];omega)) only [Sj];simp [paZ]
      case t1=>simp (disch:=first|omega|(simp only [aS,bV,au,aG];omega)) only [Sj];simp [Pa.wc]

    rcases I.w with ⟨hwn,_⟩|⟨w,rfl,hw,hw3,hwl⟩
    case inl=>have:=iJ.1 hwn;subst this;exact absurd hpl (by simp)
    have hpq:=lH hp;have hwq:=lH hw;have hpw:p≠w:=fun e=>by rw [e,hw]at hp;cases hp
    simp only [aV]at hpl hwl ⊢;refine ew7 @hc @hx @f0 (ah I0 I1) @kQ @lI (ah hp hw) ?_;refine jK n1 ?_;refine ew7 @hc @hx @f0 (ah I0 I1) @kQ @lI (ah hp hw) ?_;refine jK n2 ?_;refine ew7 @hc @hx @f0 (ah I0 I1) @kQ @lI (ah hp hw) ?_;refine⟨by omega,XM [1,p,s.length,s.length+1,s.length+1+1] [⟨14,[0],[0],false⟩,⟨13,[0],[],false⟩,⟨12,[1,3],[1,4],false⟩,⟨11,[],[3],false⟩,⟨10,[],[],false⟩,⟨9,[],[],false⟩,⟨8,[2],[],false⟩,⟨7,[2],[],false⟩,⟨6,[],[],false⟩,⟨5,[2],[],false⟩,⟨4,[2],[],false⟩,⟨3,[2],[],false⟩,⟨2,[2],[],false⟩,⟨1,[0],[],false⟩,⟨0,[0],[],false⟩] ?_ ?_ rfl ?_,?_⟩
    ·generalize List.length s=m at hsl hpq ⊢;simp;omega
    ·intro o ho;simp at ho;omega
    ·show sF 5 _ _;unfold sF;rfl
    refine⟨by omega,?_⟩;refine jK ca ?_;refine ew7 @hc @hx @f0 (ah I0 I1) @kQ @lI (ah hp hw) ?_;refine⟨(i+1,?s2,.lQ (s.length+1+1) 0 (A.length+1),.lQ (s.length+4) 0 (A.length+1)),?m2,⟨?a2,?b2⟩,?e2⟩
    case e2=>dsimp only;(refine kS ?_;exact uw)
    case m2=>dsimp only;omega
    case a2=>dsimp only;omega
    case b2 =>
     dsimp only;rw [es,OC,hXe];refine⟨(show jQ _ 0=jQ s 0 by exact DV).trans I0,?u2,.inr ⟨s.length+1+1,?p2,?q2,by omega,by simp⟩,.inr ⟨s.length+4,?r2,?t2,by omega,by simp⟩⟩
     case u2=>simp (disch:=first|omega|(simp only [aS,bV,au,aG];omega)) only [Sj]
     case p2=>simp
     case r2=>simp
     case q2=>simp (disch:=first|omega|(simp only [aS,bV,au,aG];omega)) only [Sj];simp [paZ]
     case t2=>simp (disch:=first|omega|(simp only [aS,bV,au,aG];omega)) only [Sj];simp [Pa.wc]

   rw [aN ha]at es;by_cases hb2:l.b=v
   ·have f0:(l.a=v)=False:=iD ha;have f1:(l.b=v)=True:=iy hb2;rw [aQ hb2]at es;have ca:=DZ h.lJ hX (CG kw);generalize hXe:rQ (MH S v i)=X at *;generalize MH S v i=A at *;rcases I.p with ⟨hp,rfl⟩|⟨p,rfl,hp,hp3,hpl⟩
    ·have hA:A=[]:=iJ.1 hp;subst hA;rcases I.w with ⟨_,rfl⟩|⟨w,_,hw,_,hwl⟩
     case inr=>exact absurd hwl (by simp)
     refine ew7 @hc @hx @f0 @f1 (ah I0 I1) @kQ @lI ?_;refine⟨by omega,?_⟩;refine⟨by omega,?_⟩;refine jK ca ?_;refine ew7 @hc @hx @f0 @f1 (ah I0 I1) @kQ @lI ?_;refine⟨(i+1,?s3,.lQ (s.length+1+1) 0 1,.lQ (s.length+4) 0 1),?m3,⟨?a3,?b3⟩,?e3⟩
     case e3=>dsimp only;(refine kS ?_;exact uw)
     case m3=>dsimp only;omega
     case a3=>dsimp only;omega
     case b3 =>
      dsimp only;rw [es,OC,hXe];refine⟨(show jQ _ 0=jQ s 0 by exact DV).trans I0,?u3,.inr ⟨s.length+1+1,?p3,?q3,by omega,by simp⟩,.inr ⟨s.length+4,?r3,?t3,by omega,by simp⟩⟩
      case u3=>simp (disch:=first|omega|(simp only [aS,bV,au,aG];omega)) only [Sj]
      case p3=>simp
      case r3=>simp
      case q3=>simp (disch:=first|omega|(simp only [aS,bV,au,aG];omega)) only [Sj];simp [paZ]
      case t3=>simp (disch:=first|omega|(simp only [aS,bV,au,aG];omega)) only [Sj];simp [Pa.wc]

    rcases I.w with ⟨hwn,_⟩|⟨w,rfl,hw,hw3,hwl⟩
    case inl=>have:=iJ.1 hwn;subst this;exact absurd hpl (by simp)
    have hpq:=lH hp;have hwq:=lH hw;have hpw:p≠w:=fun e=>by rw [e,hw]at hp;cases hp
    simp only [aV]at hpl hwl ⊢;refine ew8 @hc @hx @f0 @f1 (ah I0 I1) @kQ @lI (ah hp hw) ?_;refine⟨by omega,?_⟩;refine⟨by omega,?_⟩;refine jK ca ?_;refine ew8 @hc @hx @f0 @f1 (ah I0 I1) @kQ @lI (ah hp hw) ?_;refine⟨(i+1,?s4,.lQ (s.length+1+1) 0 (A.length+1),.lQ (s.length+4) 0 (A.length+1)),?m4,⟨?a4,?b4⟩,?e4⟩
    case e4=>dsimp only;(refine kS ?_;exact uw)
    case m4=>dsimp only;omega
    case a4=>dsimp only;omega
    case b4 =>
     dsimp only;rw [es,OC,hXe];refine⟨(show jQ _ 0=jQ s 0 by exact DV).trans I0,?u4,.inr ⟨s.length+1+1,?p4,?q4,by omega,by simp⟩,.inr ⟨s.length+4,?r4,?t4,by omega,by simp⟩⟩
     case u4=>simp (disch:=first|omega|(simp only [aS,bV,au,aG];omega)) only [Sj]
     case p4=>simp
     case r4=>simp
     case q4=>simp (disch:=first|omega|(simp only [aS,bV,au,aG];omega)) only [Sj];simp [paZ]
     case t4=>simp (disch:=first|omega|(simp only [aS,bV,au,aG];omega)) only [Sj];simp [Pa.wc]

   have f0:(l.a=v)=False:=iD ha;have f1:(l.b=v)=False:=iD hb2;rw [aN hb2]at es;rw [aU]at es;refine D6 @hc @hx @f0 @f1 ?_;refine⟨(i+1,?s5,pv,wv),?m5,⟨?a5,?b5⟩,?e5⟩
   case e5=>dsimp only;(refine kS ?_;exact uw)
   case m5=>dsimp only;omega
   case a5=>dsimp only;omega
   case b5 =>
    dsimp only;rw [es];exact⟨(show jQ _ 0=jQ s 0 by exact DV).trans I0,(show jQ _ 1=jQ s 1 by exact DV).trans I1,I.p.fr fun q h1 h2=>by simp (disch:=first|omega|(simp only [aS,bV,au,aG];omega)) only [Sj],I.w.fr fun q h1 h2=>by simp (disch:=first|omega|(simp only [aS,bV,au,aG];omega)) only [Sj]⟩
  have hin:i=S.length:=by omega
  subst hin;have hAe:MH S v S.length=pO S v:=rfl;rw [hAe]at hX hAl I;have hok:∀a∈pO S v,a.share.ok=true/\a.dx.cn/\a.dy.cn/\0<=a.node/\a.node<=9:=fun a ha=>anR hb ha;have hB:XL S v=(xA (pI v (pO S v))&&(Oy (pO S v)).all ql):=by
   unfold XL inB;rw [hb,aT hv.1,aT hv.2];rfl
  have hC:(pI v (pO S v))=⟨v,rQ (pO S v),(pO S v).map (Ky (rQ (pO S v)))⟩:=rfl;have hT:=@afa S v;have hF:=@anQ S v;clear hw;generalize pO S v=A at *;generalize hXe:rQ A=X at hX I hC;have I1:=I.a1;rcases I.p with ⟨hp,rfl⟩|⟨p,rfl,hp,hp3,hpl⟩
  ·have hA0:A=[]:=iJ.1 hp;subst hA0;have hnc:xA (pI v [])=false:=by
    unfold xA;rw [hC];simp
   rw [hnc]at hB;have hB:XL S v=false:=hB;rw [(hF hB).1,(hF hB).2,hB];have wcd:(pI v []).wf:=by
    rw [hC];exact⟨uy hX,by simp,fun x hx=>by cases hx⟩
   have cv:=wz h.oJ (c:=pI v []) wcd;rw [hnc,hC]at cv;have I0:=I.a0;refine AZ @hc @I1 ?_;refine kZ (fun x d=>(x == 39&&d == 999)) (α:=Store) (fun s=>⟨mJ [.any,iv v,.any,.any,.ptr 0 0 0,.kC,.bool false,.ptr 1 0 0,.any,.any,.any,.any,.any,.any,.any,.any,.any,.any,.any,.any,.any,.any,.any,.any,.any,.any,.any,.any,.any,.any,.any,.any,.any,.any,.any,.any,.any,.any,.any,.any,.any,.any,.any,.any,.any,.any,.any,.any,.any,.any,.any,.any,.any,.any,.any,.any,.any,.any,.any,.any,.any,.any,.any,.any,.any,.any,.any,.any,.any,.any,.any,.any,.any,.any,.any,.any,.any,.any,.any,.any,.any,.any,.any,iv 0,iv 0],s,0,0,[],[]⟩) (fun s=>jQ s 0=some ⟨5,[[iv 0,.bool false,.kC,.kC,.kC]]⟩/\jQ s 1=some ⟨5,[[iv v,.bool X.neg,ints X.mag,ints X.den,.kC]]⟩) (fun s=>0) rfl s ?_ ?_ ?_
   ·exact⟨I0,I1⟩
   ·(refine kS ?_;exact uw)
   clear I I0 I1;rintro s ⟨I0,I1⟩;have hz:¬(0:Int)<0:=by decide
   have h0q:=lH I0;have cv2:PF T 185 [.agg [iv v,.bool X.neg,ints X.mag,ints X.den,.kC]] (.bool false):=by
    refine .abt (args:=[cdV ⟨v,X,[]⟩]) (r:=.bool false) ?_ cv (kR _);have k1:=kR (ints X.mag);have k2:=kR (ints X.den);simp only [wJ,nG]at k1 k2 ⊢;exact⟨_,_,rfl,⟨_,rfl,_,_,rfl,rfl,_,_,rfl,rfl,_,_,rfl,k1,_,_,rfl,k2,_,_,rfl,.inl ⟨rfl,.inl rfl⟩,rfl⟩,rfl⟩
   refine AZ @hz @I1 ?_;refine jK cv2 ?_;refine AZ @I0 @I1 ?_;exact QO (σ:=[])
  rcases I.w with ⟨hwn,_⟩|⟨w,rfl,hw,hw3,hwl⟩
  case inl=>have:=iJ.1 hwn;subst this;exact absurd hpl (by simp)
  simp only [aV]at hpl hwl I1 ⊢;have hpq:=lH hp;have hwq:=lH hw;refine Dy @hc @I1 @hp ?_;refine kZ (fun x d=>(x == 39&&d == 999)) (α:=Nat×Store) (fun q=>⟨mJ [.any,iv v,.any,.any,.ptr 0 0 0,.kC,.bool false,.ptr 1 0 0,.lQ w 0 A.length,.any,.any,.any,.any,.any,.any,.any,.any,.any,.any,.any,.any,.any,.any,.any,.any,.any,.any,.any,.any,.any,.any,.any,.any,.any,.any,.any,.any,.any,.any,.any,.any,.any,.any,.any,.any,.any,.any,.any,.any,.any,.any,.any,.any,.any,.any,.any,.any,.any,.any,.any,.any,.any,.any,.any,.any,.any,.any,.any,.any,.any,.any,.any,.any,.any,.any,.any,.any,.any,.any,.any,.any,.any,.any,iv (A.length:Nat),iv (q.1:Nat)],q.2,0,0,[],[]⟩) (fun q=>(q.1<=A.length/\jQ q.2 0=some ⟨5,[[iv 0,.bool false,.kC,.kC,.kC]]⟩/\jQ q.2 w=some ⟨3,A.map Pa.wc⟩)/\(q.1<A.length->jQ q.2 1=some ⟨5,[[iv v,.bool X.neg,ints X.mag,ints X.den,.lQ p 0 A.length]]⟩/\jQ q.2 p=some ⟨10,S9 (A.map fun a=>(Ky X a).cells) (A.map paZ) q.1⟩)/\(q.1=A.length->jQ q.2 1=some ⟨5,[(pI v A).cells]⟩)) (fun q=>A.length-q.1) rfl (0,s) ?_ ?_ ?_
  ·exact⟨⟨Nat.zero_le _,I.a0,hw⟩,fun _=>⟨I1,by dsimp only;rw [avJ];exact hp⟩,fun e=>by dsimp only at e;omega⟩
  ·(refine kS ?_;exact uw)
  clear I I1 I0 hp hw hpq hwq;rintro⟨j,s⟩ ⟨⟨hj,I0,hw⟩,hM,hE⟩;dsimp only at hj I0 hw hM hE;have hwq:=lH hw;by_cases hc2:(j:Int)<(A.length:Nat)
  ·have hjl:j<A.length:=by omega
   obtain⟨I1,hp⟩:=hM hjl;have hpq:=lH hp;have hpw:p≠w:=fun e=>by rw [e,hw]at hp;cases hp
   have hpA:=hok _ (getD_mem hjl);have hg:(A.map fun a=>(Ky X a).cells).getD j []=(Ky X (A.getD j default)).cells:=mg hjl;have hrow:(S9 (A.map fun a=>(Ky X a).cells) (A.map paZ) j)[j]? = some (paZ (A.getD j default)):=by
    unfold S9;rw [bW (by simp;omega)];simp only [eu,aV,dV];rw [show j+(j-min j A.length)=j by omega,mg? hjl]
   have hml:(S9 (A.map fun a=>(Ky X a).cells) (A.map paZ) j).length=A.length:=by rw [am6 (by simp)];simp
   have hst:=am7 (a:=A.map fun a=>(Ky X a).cells) (b:=A.map paZ) (j:=j) (d:=[]) (x:=(Ky X (A.getD j default)).cells) (by simp) (by simpa using hjl) hg;have hgw:(A.map Pa.wc)[j]? = some (A.getD j default).wc:=mg? hjl;have cd:=aaU h.uZ (r:=(A.getD j default).share) (s:=X) (CG hpA.1) hX;generalize A.getD j default=a at *;generalize S9 (A.map fun a=>(Ky X a).cells) (A.map paZ) j=M at *;have hgw:(A.map Pa.wc)[j]? = some [.bool a.share.neg,ints a.share.mag,ints a.share.den]:=hgw;have hrow:M[j]? = some [iv a.node,.bool false,.kC,.kC,.bool a.dx.neg,ints a.dx.mag,ints a.dx.den,.bool a.dy.neg,ints a.dy.mag,ints a.dy.den]:=hrow;refine ew7 @hc2 @I1 @hp @hw (ah hrow hml) @hgw (ah kQ lI) ?_;refine jK cd ?_;refine ew7 @hc2 @I1 @hp @hw (ah hrow hml) @hgw (ah kQ lI) ?_;refine⟨XM [1,w,p] [⟨12,[2],[2],false⟩,⟨11,[2],[],false⟩,⟨10,[2],[],false⟩,⟨9,[],[],false⟩,⟨8,[0],[],false⟩,⟨7,[0],[],false⟩,⟨6,[1],[],false⟩,⟨5,[1],[],false⟩,⟨4,[],[],false⟩,⟨3,[],[],false⟩,⟨2,[],[],false⟩,⟨1,[0],[],false⟩,⟨0,[0],[],false⟩] ?_ ?_ rfl ?_,?_⟩
   ·have:1≠w/\1≠p/\w≠p:=by omega
    simp [this]
   ·intro o ho;simp at ho;omega
   ·show sF 3 _ _;unfold sF;rfl
   by_cases hj1:j+1<A.length
   ·refine⟨(j+1,?s6),?m6,⟨⟨?a6,?b6,?c6⟩,fun _=>⟨?d6,?f6⟩,fun e=>absurd e (by dsimp only;omega)⟩,?e6⟩
    case e6=>dsimp only;(refine kS ?_;exact uw)
    case m6=>dsimp only;omega
    case a6=>dsimp only;omega
    case b6=>exact(show jQ _ 0=jQ s 0 by exact DV).trans I0
    case c6=>exact(show jQ _ w=jQ s w by exact DV).trans hw
    case d6=>exact(show jQ _ 1=jQ s 1 by exact DV).trans I1
    case f6=>dsimp only;rw [<-hst];exact kY hpq
   have hjn:j+1=A.length:=by omega
   have hrows:S9 (A.map fun a=>(Ky X a).cells) (A.map paZ) A.length=(pI v A).ps.map Pa.cells:=by
    have:=am5 (A.map fun a=>(Ky X a).cells) (A.map paZ) (by simp) (by simp);rw [aV]at this;rw [this,hC,fQ];rfl
   rw [hjn,hrows]at hst;obtain⟨s2,hs2⟩:∃s2,s.set p (some ⟨10,M.set j (Ky X a).cells⟩)=s2:=⟨_,rfl⟩;have k0:jQ s2 0=some ⟨5,[[iv 0,.bool false,.kC,.kC,.kC]]⟩:=by rw [<-hs2,kN (by omega)];exact I0
   have k1:jQ s2 1=some ⟨5,[[iv v,.bool X.neg,ints X.mag,ints X.den,.lQ p 0 A.length]]⟩:=by rw [<-hs2,kN (by omega)];exact I1
   have kw:jQ s2 w=some ⟨3,A.map Pa.wc⟩:=by rw [<-hs2,kN (by omega)];exact hw
   have kp:jQ s2 p=some ⟨10,(pI v A).ps.map Pa.cells⟩:=by rw [<-hs2,kY hpq,hst]
   have hl2:s2.length=s.length:=by rw [<-hs2];simp
   have hres:resolve s2 FD (.lQ p 0 A.length)=some (QX (pI v A).ps):=by
    have:=Ug (n:=10) kp (adW _);rw [aV,hC,aV]at this;rw [hC];exact this
   refine⟨(j+1,FN s2 1 ⟨5,[(pI v A).cells]⟩ [0,w]),?m7,⟨⟨?a7,?b7,?c7⟩,fun e=>absurd e (by dsimp only;omega),fun _=>?d7⟩,?e7⟩
   case e7 =>
    dsimp only;show Fg _ ⟨_,s.set p (some ⟨10,M.set j (Ky X a).cells⟩),_,_,_,_⟩;rw [hs2];refine anW (p:=1) (n:=5) (A:=[[iv v,.bool X.neg,ints X.mag,ints X.den,.lQ p 0 A.length]]) k1 rfl ?_ ?_ ?_
    ·intro o ho ob hob;rcases aI.1 ho with rfl|ho
     ·rw [k0]at hob;cases hob;simp [nU,V.still]
     rw [aW.1 ho,kw]at hob;cases hob;have:=agh (A.map (·.share));rw [fQ]at this;exact this
    ·intro i r r2 h1 h2
     cases i with
     |succ i=>cases h1
     |
      zero =>
      cases h1;cases h2
      rw [hC]at hres ⊢;simp only [yB,yA];refine⟨_,_,rfl,rfl,_,_,rfl,rfl,_,_,rfl,kR _,_,_,rfl,kR _,_,_,rfl,.inr (.inr ⟨hres,fun q hq k s0 l0 hk=>?_⟩),rfl⟩;have:=OB kp (adW _) q hq;have:=Gn hk;simp at this;omega
    refine ew ?_;refine⟨Ac (n:=1) ?_ (by omega),Ac (n:=1) ?_ (by omega),qK (n:=A.length) ?_ (aJ _) rfl,by omega⟩
    ·rw [Fe (by omega),aN (by omega),aQ (by simp),k0];rfl
    ·rw [Fe (by omega),aQ rfl]
    rw [Fe (by omega),aN (by omega),aQ (by simp),kw];simp
   case m7=>dsimp only;omega
   case a7=>dsimp only;omega
   case b7=>dsimp only;rw [yw (by omega),if_neg (by omega),if_pos (by simp)];exact k0
   case c7=>dsimp only;rw [yw (by omega),if_neg (by omega),if_pos (by simp)];exact kw
   case d7=>dsimp only;rw [yw (by omega),if_pos rfl]
  have hjn:j=A.length:=by omega
  have I1:=hE hjn;subst hjn;have wcd:(pI v A).wf:=by
   rw [hC];exact⟨uy hX,by simp;omega,fun x hx=>by
    obtain⟨a,ha,rfl⟩:=bF.1 hx;have:=hok a ha;exact⟨uy (N9 _ _),uy this.2.1,uy this.2.2.1⟩⟩
  have cv:=wz h.oJ (c:=pI v A) wcd;have hres:∀σ:Store,resolve σ FD (cdV (pI v A))=some (cdV (pI v A)):=fun σ=>GR (aaJ [pI v A] _ (by simp));clear hM hE;refine AZ @hc2 @I1 ?_;refine jK cv ?_
  cases hcd:xA (pI v A)
  ·rw [hcd]at hB;have hB:XL S v=false:=hB;rw [(hF hB).1,(hF hB).2,hB];refine AZ @I1 @I0 ?_
   first|exact QO|exact QO (σ:=[])
  rw [hcd,cZ]at hB;have hcc:(pI v A).cells=[iv v,.bool X.neg,ints X.mag,ints X.den,QX (pI v A).ps]:=by rw [hC]
  rw [hcc]at I1;have hpl2:(pI v A).ps.length=A.length:=by rw [hC];simp
  refine AZ @I1 @hpl2 ?_;refine kZ (fun x d=>(x == 39&&d == 999)) (α:=Nat×Store×V) (fun q=>⟨mJ [.any,iv v,.any,.any,.ptr 0 0 0,.kC,.bool false,.ptr 1 0 0,.lQ w 0 A.length,.any,.any,.any,q.2.2,.any,.any,.any,.any,.any,.any,.any,.any,.any,.any,.any,.any,.any,.any,.any,.any,.any,.any,.any,.any,.any,.any,.any,.any,.any,.any,.any,.any,.any,.any,.any,.any,.any,.any,.any,.any,.any,.any,.any,.any,.any,.any,.any,.any,.any,.any,.any,.any,.any,.any,.any,.any,.any,.any,.any,.any,.any,.any,.any,.any,.any,.any,.any,.any,.any,.any,.any,.any,.any,.any,.any,.any,.any,.any,.any,.any,.any,.any,.any,.any,.any,.any,.any,.any,.any,.any,.any,.any,.any,.any,.any,.any,.any,QX (pI v A).ps,iv (A.length:Nat),iv (q.1:Nat)],q.2.1,0,0,[],[]⟩) (fun q=>(q.1<=A.length/\jQ q.2.1 0=some ⟨5,[[iv 0,.bool false,.kC,.kC,.kC]]⟩/\jQ q.2.1 w=some ⟨3,A.map Pa.wc⟩/\jQ q.2.1 1=some ⟨5,[[iv v,.bool X.neg,ints X.mag,ints X.den,QX (pI v A).ps]]⟩)/\LnA q.2.1 q.2.2 (uo A q.1)/\∀x∈uo A q.1,ql x=true) (fun q=>A.length-q.1) rfl (0,s++[none],.kC) ?_ ?_ ?_
  ·exact⟨⟨eH _,(kV (by omega)).trans I0,(kV hwq).trans hw,(kV (by omega)).trans I1⟩,.inl ⟨rfl,rfl⟩,fun x hx=>by cases hx⟩
  ·(refine kS ?_;exact uw)
  clear I0 I1 hw hwq;rintro⟨i,s,mv⟩ ⟨⟨hi,I0,hw,I1⟩,hL,hall⟩;dsimp only at hi I0 hw I1 hL hall;have hwq:=lH hw;have h1q:=lH I1;have hLl:=Tq A i;by_cases hc3:(i:Int)<(A.length:Nat)
  ·have hil:i<A.length:=by omega
   have hg:((pI v A).ps.map Pa.cells).getD i []=(Ky X (A.getD i default)).cells:=by
    have:=mg (l:=(pI v A).ps) (f:=Pa.cells) (j:=i) (by rw [hpl2];exact hil);rw [Fb hil,hXe]at this;exact this
   have hiA:=hok _ (getD_mem hil);refine Dy @hc3 @hg @hpl2 ?_;obtain⟨qc,hqc⟩:∃qc,List.length s=qc:=⟨_,rfl⟩;have hq3:3<=qc:=by omega
   refine kZ (fun x d=>(x == 39&&d == 999)) (α:=Nat×Store×V) (fun q=>⟨mJ [.any,iv v,.any,.any,.ptr 0 0 0,.kC,.bool false,.ptr 1 0 0,.lQ w 0 A.length,.any,.any,.any,q.2.2,iv (i:Nat),.ptr qc 0 0,iv ((i:Nat)+1+(q.1:Nat)),.any,.any,.any,.any,.any,.any,.any,.any,.any,.any,.any,.any,.any,.any,.any,.any,.any,.any,.any,.any,.any,.any,.any,.any,.any,.any,.any,.any,.any,.any,.any,.any,.any,.any,.any,.any,.any,.any,.any,.any,.any,.any,.any,.any,.any,.any,.any,.any,.any,.any,.any,.any,.any,.any,.any,.any,.any,.any,.any,.any,.any,.any,.any,.any,.any,.any,.any,.any,.any,.any,.any,.any,.any,.any,.any,.any,.any,.any,.any,.any,.any,.any,.any,.any,.any,.any,.any,.any,.any,.any,QX (pI v A).ps,iv (A.length:Nat),iv (i:Nat)],q.2.1,0,0,[],[]⟩) (fun q=>(i+1+q.1<=A.length/\jQ q.2.1 0=some ⟨5,[[iv 0,.bool false,.kC,.kC,.kC]]⟩/\jQ q.2.1 w=some ⟨3,A.map Pa.wc⟩/\jQ q.2.1 1=some ⟨5,[[iv v,.bool X.neg,ints X.mag,ints X.den,QX (pI v A).ps]]⟩/\jQ q.2.1 qc=some ⟨10,[(Ky X (A.getD i default)).cells]⟩)/\LnA q.2.1 q.2.2 (uo A i++xH A i q.1)/\∀x∈uo A i++xH A i q.1,ql x=true) (fun q=>A.length-q.1) rfl (0,s++[some ⟨10,[(Ky X (A.getD i default)).cells]⟩],mv) ?_ ?_ ?_
   ·refine⟨⟨by dsimp only;omega,(kV (by omega)).trans I0,(kV hwq).trans hw,(kV h1q).trans I1,by dsimp only;rw [<-hqc];exact rP _ _⟩,?_,?_⟩
    ·dsimp only;rw [XK,aU];exact hL.fr fun p hp=>kV hp
    dsimp only;rw [XK,aU];exact hall
   ·subst hqc
    (refine kS ?_;exact uw)
   clear I0 I1 hw hwq h1q hL hall hqc;rintro⟨j,s,mv⟩ ⟨⟨hj,I0,hw,I1,Iq⟩,hL,hall⟩;dsimp only at hj I0 hw I1 Iq hL hall;have hwq:=lH hw;have h1q:=lH I1;have hqq:=lH Iq;have hRl:=abh A i j;by_cases hc4:(i:Int)+1+j<(A.length:Nat)
   ·have hkl:i+1+j<A.length:=by omega
    have hg2:((pI v A).ps.map Pa.cells).getD (i+1+j) []=(Ky X (A.getD (i+1+j) default)).cells:=by
     have:=mg (l:=(pI v A).ps) (f:=Pa.cells) (j:=i+1+j) (by rw [hpl2];exact hkl);rw [Fb hkl,hXe]at this;exact this
    have hkA:=hok _ (getD_mem hkl);have ht:((i:Int)+1+(j:Nat)).toNat=i+1+j:=by omega
    have hwi:(A.map Pa.wc)[i]? = some (A.getD i default).wc:=mg? hil;have hwk:(A.map Pa.wc)[i+1+j]? = some (A.getD (i+1+j) default).wc:=mg? hkl;have es:=acL A hkl;have hbad:=@an0 A i (i+1+j) (by omega) hkl;rw [hXe]at es hbad;obtain⟨a,ha⟩:∃a,A.getD i default=a:=⟨_,rfl⟩;obtain⟨b,hb'⟩:∃b,A.getD (i+1+j) default=b:=⟨_,rfl⟩;rw [ha]at hiA es hbad Iq hwi;rw [hb']at hkA es hbad hg2 hwk;have hwi:(A.map Pa.wc)[i]? = some [.bool a.share.neg,ints a.share.mag,ints a.share.den]:=hwi;have hwk:(A.map Pa.wc)[i+1+j]? = some [.bool b.share.neg,ints b.share.mag,ints b.share.den]:=hwk;have cm:=uz h.l7 (r:=a.share) (s:=b.share) (CG hiA.1) (CG hkA.1);have cd:=aaU h.uZ (r:=mulR a.share b.share) (s:=X) (Jf _ _) hX;have cx:=QF h.rH hiA.2.1 hkA.2.1;have cy:=QF h.rH hiA.2.2.1 hkA.2.2.1;have hcn:=aiX X a b;have civ:=Qd h.Dz (l:=MI X a b) ⟨uy hcn.1,uy hcn.2.1,uy hcn.2.2⟩;refine ew7 @hc4 (ah hg2 ht) @hpl2 (ah I1 Iq) @hw (ah hwi hwk) (ah kQ lI) ?_;refine jK cm ?_;refine Dy (ah I1 Iq) @hw (ah kQ lI) ?_;refine jK cd ?_;refine Dy (ah I1 Iq) @hw (ah kQ lI) ?_;have aJx:w≠qc:=fun e=>by rw [e,Iq]at hw;cases hw
    refine⟨XM [1,w,qc,s.length,s.length+1] [⟨18,[4],[4],false⟩,⟨17,[],[4],false⟩,⟨16,[],[],false⟩,⟨15,[],[],false⟩,⟨14,[0],[],false⟩,⟨13,[0],[],false⟩,⟨12,[],[],false⟩,⟨11,[1],[],false⟩,⟨10,[1],[],false⟩,⟨9,[],[],false⟩,⟨8,[],[],false⟩,⟨7,[1],[],false⟩,⟨6,[1],[],false⟩,⟨5,[],[],false⟩,⟨4,[],[],false⟩,⟨3,[3],[],false⟩,⟨2,[3],[],false⟩,⟨1,[2],[],false⟩,⟨0,[2],[],false⟩] ?_ ?_ rfl ?_,?_⟩
    ·clear I0 hw I1 Iq hL hall;generalize List.length s=m at hwq h1q hqq ⊢;have:1≠w/\1≠qc/\w≠qc/\1≠m/\1≠m+1/\w≠m/\w≠m+1/\qc≠m/\qc≠m+1:=by omega
     simp [this];omega
    ·intro o ho;simp at ho;omega
    ·show sF 5 _ _;unfold sF;rfl
    refine Dy (ah I1 Iq) @hw (ah kQ lI) ?_;refine jK cx ?_;refine Dy (ah I1 Iq) @hw (ah kQ lI) ?_;refine jK cy ?_;refine Dy (ah I1 Iq) @hw (ah kQ lI) ?_;refine jK civ ?_
    cases hlk:ql (MI X a b)
    ·have hB2:XL S v=false:=by rw [hB];exact hbad hlk
     rw [(hF hB2).1,(hF hB2).2,hB2];refine AZ @I0 (ah kQ lI) ?_;exact QO (σ:=[])
    have en:uo A i++xH A i (j+1)=(uo A i++xH A i j)++[MI X a b]:=by rw [es,cO]
    have ata:∀x∈uo A i++xH A i (j+1),ql x=true:=fun x hx=>by
     rw [en]at hx;rcases aK.1 hx with hx|hx
     ·exact hall x hx
     rw [aW.1 hx];exact hlk
    have hMl:(uo A i++xH A i j).length<=20000:=by
     rw [aS];have:i*A.length<=100*100:=iO (by omega) (by omega);omega
    generalize uo A i++xH A i j=Ms at *;rcases hL with ⟨rfl,rfl⟩|⟨m2,rfl,hm2⟩
    ·refine Ae (ah kQ lI) ?_;refine⟨by omega,(j+1,?s8,.lQ (s.length+1+1+1) 0 1),?m8,⟨⟨?a8,?b8,?c8,?d8,?f8⟩,.inr ⟨s.length+1+1+1,?g8,?h8⟩,ata⟩,?e8⟩
     case e8=>dsimp only;(refine kS ?_;exact uw)
     case m8=>dsimp only;omega
     case a8=>dsimp only;omega
     case b8=>exact(show jQ _ 0=jQ s 0 by exact DV).trans I0
     case c8=>exact(show jQ _ w=jQ s w by exact DV).trans hw
     case d8=>exact(show jQ _ 1=jQ s 1 by exact DV).trans I1
     case f8=>dsimp only;rw [ha];exact(show jQ _ qc=jQ s qc by exact DV).trans Iq
     case g8=>dsimp only;rw [en];simp
     case h8 =>
      dsimp only;rw [en];simp (disch:=first|omega|(simp only [aS,bV,au,aG];omega)) only [Sj];simp [MI,Ky]
    have aJy:=lH hm2;have n1:m2≠1:=fun e=>by rw [e,I1]at hm2;cases hm2
    have n2:m2≠w:=fun e=>by rw [e,hw]at hm2;cases hm2
    have n3:m2≠qc:=fun e=>by rw [e,Iq]at hm2;cases hm2
    have n0:m2≠0:=fun e=>by rw [e,I0]at hm2;cases hm2
    refine AZ (ah kQ lI) @hm2 ?_;refine⟨by omega,(j+1,?s9,.lQ (s.length+1+1+1) 0 (Ms.length+1)),?m9,⟨⟨?a9,?b9,?c9,?d9,?f9⟩,.inr ⟨s.length+1+1+1,?g9,?h9⟩,ata⟩,?e9⟩
    case e9=>dsimp only;(refine kS ?_;exact uw)
    case m9=>dsimp only;omega
    case a9=>dsimp only;omega
    case b9=>exact(show jQ _ 0=jQ s 0 by exact DV).trans I0
    case c9=>exact(show jQ _ w=jQ s w by exact DV).trans hw
    case d9=>exact(show jQ _ 1=jQ s 1 by exact DV).trans I1
    case f9=>dsimp only;rw [ha];exact(show jQ _ qc=jQ s qc by exact DV).trans Iq
    case g9=>dsimp only;rw [en];simp
    case h9 =>
     dsimp only;rw [en];simp (disch:=first|omega|(simp only [aS,bV,au,aG];omega)) only [Sj];simp [MI,Ky]
   have hjn:j=A.length-(i+1):=by omega
   refine Ku @hc4 @hpl2 (ah I1 Iq) @hw (ah kQ lI) ?_;refine⟨(i+1,s,mv),?mA,⟨⟨?aA,I0,hw,I1⟩,?bA,?cA⟩,?eA⟩
   case eA=>dsimp only;(refine kS ?_;exact uw)
   case mA=>dsimp only;omega
   case aA=>dsimp only;omega
   case bA=>dsimp only;rw [hjn]at hL;exact hL
   case cA=>dsimp only;rw [hjn]at hall;exact hall
  have hin:i=A.length:=by omega
  subst hin;have hB2:XL S v=true:=by rw [hB];exact bg.2 hall
  rw [(hT hB2).1,(hT hB2).2,hB2];refine AZ @hc3 (ah I1 I0) ?_;refine awf (s:=s) (c:=pI v A) hcc (aaJ [pI v A] _ (by simp)) hL ?_ I1 ?_ ⟨_,I0⟩
  ·exact DV
  intro q hq0;exact DV
 have hB:XL S v=false:=by
  unfold XL inB;rcases Int.lt_or_le v 1 with k|k
  ·rw [bH (show ¬1<=v by omega)];simp
  rw [bH (show ¬v<=9 by omega)];simp
 rw [(anQ hB).1,(anQ hB).2,hB];refine kX (fun x d=>(x == 39&&d == 999)) h.hT ?_;simp only [uq,Lz];refine ew ?_;by_cases hv1:v<1
 ·refine Ae @hv1 ?_;exact QO (σ:=[])
 have hv2:v>=10:=by omega
 refine AZ @hv1 @hv2 ?_;exact QO (σ:=[])
theorem Ep.ahn{s:Store}{cs cs' ts ts':List V}{os:List Nat}{L:List (Nat×Obj)}(E:Ep s cs ts os L)(h1:cs'=cs)(h2:ts'=ts):Ep s cs' ts' os L:=by
 subst h1;subst h2;exact E
theorem Tv{T:Tb}(h:yI T){c:Cd}(hn:0<c.ps.length)(hz:c.total.sz<=1048576/\∀a∈c.ps,a.sz<=1048576)(hl:c.ps.length<=1048576):PO T 183 [cdV c] (cdV c):=by
 refine mM (fun x d=>x == 145) h.hT ?_;simp only [uQ,Lz,St.enter,au,aG,aX];refine ew ?_;refine sK (NZ h.Ef (r:=c.total) hz.1) (by (refine ew ?_;try with_reducible exact aC)) (by (refine ew ?_;try with_reducible exact aC)) ?_;intro r q1 o1 G;obtain⟨_,rfl,hQ⟩:=G.ow.lU;obtain⟨x1,x2,rfl⟩:=hQ.rat
 have lx:=nC.leaf hQ rfl;simp only [dD,dU,dJ,aH]at lx;have gl:=G.len;simp only [au,aG,aS]at gl;have P0:jQ q1 0=some ⟨5,[c.cells]⟩:=G.old 0 (by simp);have P1:jQ q1 1=some ⟨5,[[iv 0,.bool false,.kC,.kC,.kC]]⟩:=G.old 1 (by simp);have hf:∀o∈o1,3<=o:=fun o ho=>by have:=G.fresh o ho;simpa using this
 refine D6 (ah P0 P1) @lx @gl @List.set_set.{0} ?_;refine⟨by unfold sF;decide +kernel,?_⟩;refine D6 (ah P0 P1) @lx @gl @List.set_set.{0} ?_;have E:Ep q1 [iv c.node,.bool c.total.neg,x1,x2] [iv c.node,.bool c.total.neg,ints c.total.mag,ints c.total.den] o1 [(1,⟨5,[[iv 0,.bool false,.kC,.kC,.kC]]⟩)]:=by
  have E0:Ep [some ⟨5,[c.cells]⟩,some ⟨5,[[iv 0,.bool false,.kC,.kC,.kC]]⟩,none] [] [] [] [(1,⟨5,[[iv 0,.bool false,.kC,.kC,.kC]]⟩)]:=⟨Sl,by simp [jQ]⟩;have:=E0.got (s1:=[some ⟨5,[c.cells]⟩,some ⟨5,[[iv 0,.bool false,.kC,.kC,.kC]]⟩,none]) (fun _ _=>rfl) (aJ _) (KI (q:=.i64) (n:=c.node) hQ) G.nd (by simpa using G.fresh) (by simpa using G.old);simpa using this
 have E1:=E.JG (p:=2) (ob:=⟨5,[[iv c.node,.bool c.total.neg,x1,x2,.kC]]⟩) (L':=[(1,⟨5,[[iv 0,.bool false,.kC,.kC,.kC]]⟩),(2,⟨5,[[iv c.node,.bool c.total.neg,x1,x2,.kC]]⟩)]) (fun hm=>by have:=hf 2 hm;omega) (by omega) (by simp);clear E G P0 P1 hQ hf gl;refine kZ (fun x d=>x == 145) (α:=Nat×Store×V×List (List V)×List Nat) (fun q=>⟨mJ [.any,.any,.ptr 1 0 0,.ptr 2 0 0,.any,.any,.any,.any,.any,.any,.any,.any,.any,.any,QX c.ps,iv (c.ps.length:Nat),iv (q.1:Nat)],q.2.1,0,0,[],[]⟩) (fun q=>(q.1<=c.ps.length/\q.2.2.2.1.length=q.1/\∀r∈q.2.2.2.1,r.length=10)/\∃M,LAt 10 q.2.2.1 q.2.2.2.1 M/\Ep q.2.1 ([iv c.node,.bool c.total.neg,x1,x2]++q.2.2.2.1.flatten) ([iv c.node,.bool c.total.neg,ints c.total.mag,ints c.total.den]++((c.ps.take q.1).map Pa.cells).flatten) q.2.2.2.2 ([(1,⟨5,[[iv 0,.bool false,.kC,.kC,.kC]]⟩),(2,⟨5,[[iv c.node,.bool c.total.neg,x1,x2,q.2.2.1]]⟩)]++M)) (fun q=>c.ps.length-q.1) rfl (0,q1.set 2 (some ⟨5,[[iv c.node,.bool c.total.neg,x1,x2,.kC]]⟩),.kC,[],o1) ?_ ?_ ?_
 ·exact⟨⟨eH _,rfl,fun r hr=>by cases hr⟩,[],.inl ⟨rfl,rfl,rfl⟩,by simpa using E1⟩
 ·(refine kS ?_;exact uw)
 clear E1;rintro⟨i,s,pv,A,os⟩ ⟨⟨hi,hAl,hA10⟩,M,hLA,E⟩;dsimp only at hi hAl hA10 hLA E;have L1:=E.at0 (p:=1) (ob:=⟨5,[[iv 0,.bool false,.kC,.kC,.kC]]⟩) (by simp);have L2:=E.at0 (p:=2) (ob:=⟨5,[[iv c.node,.bool c.total.neg,x1,x2,pv]]⟩) (by simp);by_cases hc:(i:Int)<(c.ps.length:Nat)
 ·have hil:i<c.ps.length:=by omega
  have hx:(c.ps.map Pa.cells).getD i []=(c.ps.getD i default).cells:=mg hil;have hza:=hz.2 _ (getD_mem hil);have ets:(c.ps.take (i+1)).map Pa.cells=(c.ps.take i).map Pa.cells++[(c.ps.getD i default).cells]:=by rw [take_snoc hil,bU];rfl
  generalize c.ps.getD i default=a at *;unfold Pa.sz at hza;refine AZ @hc @hx ?_;have hq0:∀o,o<s.length->jQ (s++[some ⟨10,[a.cells]⟩]++[none]) o=jQ s o:=fun o ho=>by simp only [cO];exact nX ho
  have hqe:jQ (s++[some ⟨10,[a.cells]⟩]++[none]) s.length=some ⟨10,[a.cells]⟩:=(kV (by simp)).trans (rP _ _);have hs1:(s++[some (⟨10,[a.cells]⟩:Obj)]++[none]).length=s.length+1+1:=by simp
  refine sK (NZ h.Ef (r:=a.share) (by omega)) (by (refine ew ?_;try with_reducible exact aC)) (by (refine ew ?_;try with_reducible exact aC)) ?_;intro r q2 o2 G;obtain⟨_,rfl,hQ⟩:=G.ow.lU;obtain⟨y1,y2,rfl⟩:=hQ.rat
  have lq:=nC.leaf hQ rfl;simp only [dD,dU,dJ,aH]at lq;have E2:=E.got (s1:=s++[some ⟨10,[a.cells]⟩]++[none]) hq0 (by omega) (KI (q:=.i64) (n:=a.node) hQ) G.nd G.fresh G.old;have he2:jQ q2 s.length=some ⟨10,[a.cells]⟩:=(G.old s.length (by omega)).trans hqe;have ll2:s.length+1+1<=q2.length:=by have:=G.len;omega
  have fr2:∀o∈o2,s.length+2<=o:=fun o ho=>by have:=G.fresh o ho;simp at this;omega
  have lf2:=lq;clear G hQ lq;refine AZ (ah he2 ll2) @lf2 ?_;refine sK (NZ h.Ef (r:=a.dx) (by omega)) (by (refine AZ (ah he2 ll2) @lf2 ?_;try with_reducible exact aC)) (by (refine AZ (ah he2 ll2) @lf2 ?_;try with_reducible exact aC)) ?_;intro r q3 o3 G;obtain⟨_,rfl,hQ⟩:=G.ow.lU;obtain⟨y3,y4,rfl⟩:=hQ.rat
  have lq:=nC.leaf hQ rfl;simp only [dD,dU,dJ,aH]at lq;have E3:=E2.got (s1:=q2) (fun _ _=>rfl) (aJ _) (hQ) G.nd G.fresh G.old;have he3:jQ q3 s.length=some ⟨10,[a.cells]⟩:=(G.old s.length (by omega)).trans he2;have ll3:s.length+1+1<=q3.length:=by have:=G.len;omega
  have fr3:∀o∈o3,s.length+2<=o:=fun o ho=>by have:=G.fresh o ho;omega
  have lf3:=ah lf2 lq;clear G hQ lq;refine AZ (ah he3 ll3) @lf3 ?_;refine sK (NZ h.Ef (r:=a.dy) (by omega)) (by (refine AZ (ah he3 ll3) @lf3 ?_;try with_reducible exact aC)) (by (refine AZ (ah he3 ll3) @lf3 ?_;try with_reducible exact aC)) ?_;intro r q4 o4 G;obtain⟨_,rfl,hQ⟩:=G.ow.lU;obtain⟨y5,y6,rfl⟩:=hQ.rat
  have lq:=nC.leaf hQ rfl;simp only [dD,dU,dJ,aH]at lq;have E4:=E3.got (s1:=q3) (fun _ _=>rfl) (aJ _) (hQ) G.nd G.fresh G.old;have he4:jQ q4 s.length=some ⟨10,[a.cells]⟩:=(G.old s.length (by omega)).trans he3;have ll4:s.length+1+1<=q4.length:=by have:=G.len;omega
  have fr4:∀o∈o4,s.length+2<=o:=fun o ho=>by have:=G.fresh o ho;omega
  have lf4:=ah lf3 lq;clear G hQ lq;refine AZ (ah he4 ll4) @lf4 ?_;refine⟨by
   have hn0:0<=List.length s:=eH _;generalize List.length s=m at hn0 ⊢
   revert m
   refine y7 _ _ 0 (fun n hn=>?_) (fun n hn=>?_) ?_
   ·simp only [sh];split<;>omega
   ·simp [Yy,sh];try omega
   unfold sF;decide +kernel,?_⟩
  have L22:=E4.at0 (p:=2) (ob:=⟨5,[[iv c.node,.bool c.total.neg,x1,x2,pv]]⟩) (by simp);have L11:=E4.at0 (p:=1) (ob:=⟨5,[[iv 0,.bool false,.kC,.kC,.kC]]⟩) (by simp);have hf5:s.length+1∉((os++o2)++o3)++o4:=by
   intro hm;simp only [aK]at hm;rcases hm with ((hm|hm)|hm)|hm
   ·have:=E.WY _ hm;omega
   ·have:=fr2 _ hm;omega
   ·have:=fr3 _ hm;omega
   have:=fr4 _ hm;omega
  have hf2:=(E4.l (2,⟨5,[[iv c.node,.bool c.total.neg,x1,x2,pv]]⟩) (by simp)).2;have hf1:=(E4.l (1,⟨5,[[iv 0,.bool false,.kC,.kC,.kC]]⟩) (by simp)).2;have hs3:2<s.length:=L2.2;rcases hLA with ⟨rfl,rfl,rfl⟩|⟨p,rfl,rfl⟩
  ·refine D6 @L22 (ah he4 ll4) @lf4 @List.set_set.{0} ?_;refine⟨by omega,(i+1,?s1,.lQ (q4.length+1) 0 1,[]++[[iv a.node,.bool a.share.neg,y1,y2,.bool a.dx.neg,y3,y4,.bool a.dy.neg,y5,y6]],((os++o2)++o3)++o4),?m1,⟨⟨?a1,?b1,?c1⟩,[(q4.length+1,⟨10,[]++[[iv a.node,.bool a.share.neg,y1,y2,.bool a.dx.neg,y3,y4,.bool a.dy.neg,y5,y6]]⟩)],.inr ⟨q4.length+1,?d1,rfl⟩,?f1⟩,?e1⟩
   case e1=>dsimp only;(refine kS ?_;exact uw)
   case m1=>dsimp only;omega
   case a1=>dsimp only;omega
   case b1=>dsimp only;simp at hAl ⊢;omega
   case c1 =>
    intro r hr;rcases aK.1 hr with hr|hr
    ·exact hA10 r hr
    rw [aW.1 hr];rfl
   case d1=>dsimp only;simp
   case f1 =>
    dsimp only;rw [ets];refine Ep.ahn (E4.to ?_ ?_) ?_ ?_
    ·intro o ho;have a1:=E4.WY o ho;have a2:o≠s.length+1:=fun e=>hf5 (e▸ho);have a3:o≠2:=fun e=>hf2 (e▸ho);exact DV
    ·intro q hq;simp only [dI,iU,aI,bY,or_false]at hq;rcases hq with rfl|rfl|rfl
     ·refine .inl ⟨by simp,?_⟩;show jQ _ 1=jQ q4 1;exact DV
     ·refine .inr ⟨?_,hf2⟩;show jQ _ 2=_;exact DV
     refine .inr ⟨?_,fun hm=>by have:=E4.WY _ hm;omega⟩;show jQ _ (q4.length+1)=_;exact DV
    ·simp
    simp
  have L33:=E4.at0 (p:=p) (ob:=⟨10,A⟩) (by simp);have hps:p<s.length:=(E.at0 (p:=p) (ob:=⟨10,A⟩) (by simp)).2;have hp2:p≠2:=fun e=>by have:=L33.1;rw [e,L22.1]at this;cases this
  refine Ku @L22 @L33 (ah he4 ll4) @lf4 @List.set_set.{0} ?_;have hfp:=(E4.l (p,⟨10,A⟩) (by simp)).2;have hp1:p≠1:=fun e=>by have:=L33.1;rw [e,L11.1]at this;cases this
  refine⟨by omega,(i+1,?s2,.lQ (q4.length+1) 0 (A.length+1),A++[[iv a.node,.bool a.share.neg,y1,y2,.bool a.dx.neg,y3,y4,.bool a.dy.neg,y5,y6]],((os++o2)++o3)++o4),?m2,⟨⟨?a2,?b2,?c2⟩,[(q4.length+1,⟨10,A++[[iv a.node,.bool a.share.neg,y1,y2,.bool a.dx.neg,y3,y4,.bool a.dy.neg,y5,y6]]⟩)],.inr ⟨q4.length+1,?d2,rfl⟩,?f2⟩,?e2⟩
  case e2=>dsimp only;(refine kS ?_;exact uw)
  case m2=>dsimp only;omega
  case a2=>dsimp only;omega
  case b2=>dsimp only;simp;omega
  case c2 =>
   intro r hr;rcases aK.1 hr with hr|hr
   ·exact hA10 r hr
   rw [aW.1 hr];rfl
  case d2=>dsimp only;simp
  case f2 =>
   dsimp only;rw [ets];refine Ep.ahn (E4.to ?_ ?_) ?_ ?_
   ·intro o ho;have a1:=E4.WY o ho;have a2:o≠s.length+1:=fun e=>hf5 (e▸ho);have a3:o≠2:=fun e=>hf2 (e▸ho);have a4:o≠p:=fun e=>hfp (e▸ho);exact DV
   ·intro q hq;simp only [dI,iU,aI,bY,or_false]at hq;rcases hq with rfl|rfl|rfl
    ·refine .inl ⟨by simp,?_⟩;show jQ _ 1=jQ q4 1;exact DV
    ·refine .inr ⟨?_,hf2⟩;show jQ _ 2=_;exact DV
    refine .inr ⟨?_,fun hm=>by have:=E4.WY _ hm;omega⟩;show jQ _ (q4.length+1)=_;exact DV
   ·simp
   simp
 have hin:i=c.ps.length:=by omega
 subst hin;rcases hLA with ⟨rfl,rfl,rfl⟩|⟨p,rfl,rfl⟩
 ·simp at hAl;omega
 have L33:=E.at0 (p:=p) (ob:=⟨10,A⟩) (by simp);rw [bI]at E;refine AZ @hc (ah L1 L2) ?_;rw [aQ (by rw [lx.2.1,lx.2.2];rfl)];have hf1:=(E.l (1,⟨5,[[iv 0,.bool false,.kC,.kC,.kC]]⟩) (by simp)).2;have hp1:p≠1:=fun e=>by have:=L33.1;rw [e,L1.1]at this;cases this
 have Es:=E.JG (p:=1) (ob:=⟨5,[[iv c.node,.bool c.total.neg,x1,x2,.lQ p 0 A.length]]⟩) (L':=[(p,⟨10,A⟩)]) hf1 L1.2 (fun q hq=>.inl (by rw [aW.1 hq];exact⟨hp1,by simp⟩));have hA':A.length=(c.ps.map Pa.cells).length:=by rw [aV];exact hAl
 have az6:∀r∈c.ps.map Pa.cells,r.length=10:=fun r hr=>by obtain⟨x,_,rfl⟩:=bF.1 hr;rfl
 have hfl:A.flatten.length=(c.ps.map Pa.cells).flatten.length:=by
  have e1:∀(X:List (List V)),(∀r∈X,r.length=10)->X.flatten.length=X.length*10:=fun X=>by
   induction X with
   |nil=>intro _;rfl
   |cons r X ih=>intro h;rw [dO,aS,ih fun r hr=>h r (by simp [hr]),h r (by simp),au];omega
  rw [e1 A hA10,e1 _ az6,hA']
 obtain⟨os1,E2,_⟩:=(Ep.ahn (cs':=[iv c.node,.bool c.total.neg,x1,x2]++(A.flatten++[])) (ts':=[iv c.node,.bool c.total.neg,ints c.total.mag,ints c.total.den]++((c.ps.map Pa.cells).flatten++[])) Es (by simp) (by simp)).swap rfl hfl;obtain⟨os2,E3⟩:=E2.close (p:=p) (n:=10) (k:=10) (by simp) hA10 az6 hA';obtain⟨os3,E4,_⟩:=(Ep.ahn (cs':=[V.lQ p 0 A.length]++([iv c.node,.bool c.total.neg,x1,x2]++[])) (ts':=[QX c.ps]++([iv c.node,.bool c.total.neg,ints c.total.mag,ints c.total.den]++[])) E3 (by simp) (by simp)).swap rfl rfl;refine xg (os:=os3) ?_ E4.c.nd;show mP _ (.agg ([iv c.node,.bool c.total.neg,x1,x2]++([V.lQ p 0 A.length]++[]))) (.agg ([iv c.node,.bool c.total.neg,ints c.total.mag,ints c.total.den]++([QX c.ps]++[]))) os3;simp only [mP];exact⟨_,rfl,E4.c.ow⟩
theorem arN{A:List Pa}(h:akG A)(hb:∀a∈A,0<=a.node/\a.node<=9):A.length<=10:=by
 have key:∀i,i<A.length->(i:Int)<=(A.getD i default).node:=fun i=>by
  induction i with
  |zero=>intro hi;exact(hb _ (getD_mem hi)).1
  |
   succ i ih =>
   intro hi;have h1:=ih (by omega);have h2:=h i (i+1) (by omega) hi;omega
 rcases dW 10 A.length with h1|h1
 ·have h2:=key 10 h1;have h3:=(hb _ (getD_mem (l:=A) (i:=10) h1)).2;omega
 exact h1
structure az7 (c:Cd) (M:List Lk):Prop where
 ne:0<c.ps.length
 len:c.ps.length<=10
 cn:c.total.cn/\∀a∈c.ps,a.share.cn/\a.dx.cn/\a.dy.cn
 ms:∀x∈M,x.w.cn/\x.dx.cn/\x.dy.cn
 ml:M.length<=101
theorem atb{S:List Lk}{v:Int}(h:XL S v=true):az7 (elC S v) (elM S v):=by
 rw [(afa h).1,(afa h).2];unfold XL at h;simp only [aH]at h;obtain⟨⟨⟨hb,_⟩,hc⟩,_⟩:=h;have hok:∀a∈pO S v,a.share.ok=true/\a.dx.cn/\a.dy.cn/\0<=a.node/\a.node<=9:=fun a ha=>anR hb ha;have hl:=arN (av9 hc) fun a ha=>⟨(hok a ha).2.2.2.1,(hok a ha).2.2.2.2⟩;have hpl:(pI v (pO S v)).ps.length=(pO S v).length:=aV ..;refine⟨?_,by omega,⟨ae8 _,fun x hx=>?_⟩,arJ,?_⟩
 ·rcases iw (pI v (pO S v)).ps.length with e|e
  ·exfalso;have:(pI v (pO S v)).ps=[]:=aY e;unfold xA at hc;rw [this]at hc;simp at hc
  exact e
 ·obtain⟨a,ha,rfl⟩:=bF.1 hx;exact⟨N9 _ _,(hok a ha).2.1,(hok a ha).2.2.1⟩
 have h1:=Tq (pO S v) (pO S v).length;have h2:(pO S v).length*(pO S v).length<=10*10:=iO hl hl;show (uo _ _).length<=_;omega
theorem MJ{r:R}(h:r.cn):r.sz<=1000:=by
 have:=Qc h;unfold R.sz;omega
theorem acQ(S:List Lk)(v:Int):((elC S v).sz<=40000/\(elC S v).ps.length<=10/\NS Lk.sz (elM S v)<=20000)/\(elC S v).wf/\DR Lk.wf (elM S v):=by
 cases hB:XL S v
 ·rw [(anQ hB).1,(anQ hB).2];exact⟨⟨by decide,by decide,by decide⟩,⟨⟨by decide,by decide⟩,by decide,by simp⟩,by decide,by simp⟩
 have O:=atb hB;have h1:=MJ O.cn.1;have h2:=Si (f:=Pa.sz) (k:=3000) (l:=(elC S v).ps) fun a ha=>by
  have h:=O.cn.2 a ha;have:=MJ h.1;have:=MJ h.2.1;have:=MJ h.2.2;unfold Pa.sz;omega
 have h3:=O.len;refine⟨⟨?_,h3,Y9 O.ms O.ml⟩,⟨uy O.cn.1,by omega,fun a ha=>?_⟩,VP O.ms O.ml⟩
 ·unfold Cd.sz;omega
 have h:=O.cn.2 a ha;exact⟨uy h.1,uy h.2.1,uy h.2.2⟩
theorem afc{n:Nat}{S:List Lk}(h:OX n S):∀x∈S,Jn 7 x:=by
 obtain⟨L,hL,rfl⟩:=h.L;have h1:=hL.rn;have h2:=hL.len;obtain⟨S',e,a,hf,hj,he⟩:=Zc (N:=(n:Int)+1) (by omega) (by omega) hL.sm L.length (aJ _);have hg:U5 L=some (S',e):=by unfold U5;rw [hf];exact aQ he.ok
 have e1:Pq L=S':=by unfold Pq;rw [hg];rfl
 rw [e1];intro x hx;exact(hj x hx).mono (by omega)
def stP(v:Int)(l:Lk):Bool:=decide (l.a=v)||decide (l.b=v)
def Zi(v:Int)(l:Lk):Pa:=if l.a=v then⟨l.b,l.w,negR l.dx,negR l.dy⟩else⟨l.a,l.w,l.dx,l.dy⟩
theorem an2{v:Int}{x:Lk}(h:stP v x=true):RD v x=some (Zi v x):=by
 unfold stP at h;simp only [dX,aZ]at h;unfold RD Zi;by_cases h1:x.a=v
 ·rw [aQ h1,aQ h1]
 rw [aN h1,aN h1,aQ (h.resolve_left h1)]
theorem an3{v:Int}{x:Lk}(h:stP v x=false):RD v x=none:=by
 unfold stP at h;simp only [Bool.or_eq_false_iff,decide_eq_false_iff_not]at h;unfold RD;rw [aN h.1,aN h.2]
theorem Ny(S:List Lk)(v:Int):pO S v=(S.filter (stP v)).map (Zi v):=by
 unfold pO MH;rw [bI]
 induction S with
 |nil=>rfl
 |
  cons x S ih =>
  cases h:stP v x
  ·rw [List.filterMap_cons_none (an3 h),List.filter_cons_of_neg (by rw [h];simp),ih]
  rw [List.filterMap_cons_some (an2 h),List.filter_cons_of_pos h,bT,ih]
structure Jm (v:Int) (a:Pa):Prop where
 nd:0<=a.node/\a.node<=5/\a.node≠v
 w:Rw a.share a.share.v 63 1
 n:∃n:Int,(1<=n/\n<=63)/\a.share.v=(n:Rat)
 x:∃n:Int,(-1260<=n/\n<=1260)/\a.share.v*a.dx.v=(n:Rat)
 y:∃n:Int,(-1260<=n/\n<=1260)/\a.share.v*a.dy.v=(n:Rat)
 dx:Rw a.dx a.dx.v 1260 63
 dy:Rw a.dy a.dy.v 1260 63
theorem afd(p n:Rat) : -(p / n)=(-p) / n:=by grind
def sm(f:Pa->Rat):List Pa->Rat
 | []=>0
 |a::l=>f a+sm f l
theorem an4(f:Pa->Rat):∀A B:List Pa,sm f (A++B)=sm f A+sm f B
 | [],B=>by simp only [iU,sm,iR]
 |a::A,B=>by simp only [dI,sm,an4 f A B,Rat.add_assoc]
theorem ai4(f:Pa->Rat){l:List Pa}{k:Nat}(h:k<l.length):sm f (l.take (k+1))=sm f (l.take k)+f (l.getD k default):=by
 rw [take_snoc h,an4];show _+(f _+0)=_;rw [dY]
theorem Zj{f g:Pa->Rat}:∀{A:List Pa},(∀a∈A,f a=g a)->sm f A=sm g A
 | [],_=>rfl
 |a::A,h=>by simp only [sm,h a (by simp),Zj (A:=A) fun x hx=>h x (by simp [hx])]
structure Star (v:Int) (A:List Pa):Prop where
 jm:∀a∈A,Jm v a
 asc:A.Pairwise fun a b=>a.node<b.node
 len:1<=A.length/\A.length<=5
 v:1<=v/\v<=5
structure PtF (p:Pt):Prop where
 x:Rw p.x p.x.v 10 3
 y:Rw p.y p.y.v 10 3
 x6:∃n:Int,(-60<=n/\n<=60)/\6*p.x.v=(n:Rat)
 y6:∃n:Int,(-60<=n/\n<=60)/\6*p.y.v=(n:Rat)
structure AtS (P:List Pt):Prop where
 len:P.length=10
 pt:∀p∈P,PtF p
theorem AtS.at{P:List Pt}(h:AtS P){k:Nat}(hk:k<10):PtF (P.getD k default):=h.pt _ (getD_mem (by rw [h.len];exact hk))
def qX(P:List Pt)(a:Pa):Rat:=(P.getD a.node.toNat default).x.v+a.dx.v
def qY(P:List Pt)(a:Pa):Rat:=(P.getD a.node.toNat default).y.v+a.dy.v
def sW(a:Pa):Rat:=a.share.v
theorem mD{t:Int}(h:1<=t):(t:Rat)≠0:=fun e=>by have:=Rat.intCast_eq_zero_iff.1 e;omega
theorem ai5{t:Int}(h:1<=t):(0:Rat)<(t:Rat):=Rat.intCast_pos.2 (by omega)
theorem WJ{n t:Int}(hn:1<=n)(ht:1<=t):(0:Rat)<(n:Rat) / (t:Rat):=by
 rw [eF];exact Rat.mul_pos (ai5 hn) (Rat.inv_pos.2 (ai5 ht))
theorem akI(t:Rat)(h:t≠0):t / t=1:=by grind
def pX(P:List Pt)(A:List Pa):Rat:=sm (fun a=>sW a*qX P a) A / sm sW A
def pY(P:List Pt)(A:List Pa):Rat:=sm (fun a=>sW a*qY P a) A / sm sW A
theorem q6(w x d:Rat):6*(w*(x+d))=w*(6*x)+6*(w*d):=by grind
structure AtV (P Q:List Pt) (v:Int) (p:Pt):Prop where
 len:Q.length=10
 atv:Q.getD v.toNat default=p
 o:∀k:Nat,k≠v.toNat->Q.getD k default=P.getD k default
def enA(P:List Pt)(px py:Rat)(a:Pa):Rat:=sW a*((qX P a-px)*(qX P a-px)+(qY P a-py)*(qY P a-py))
theorem ai6(f:Pa->Rat)(g:Lk->Pa):∀L:List Lk,tot (fun l=>f (g l)) L=sm f (L.map g)
 | []=>rfl
 |l::L=>by simp only [tot,bT,sm,ai6 f g L]
def w2(P:List Pt)(a b:Pa):Rat:=sW a*sW b*((qX P b-qX P a)*(qX P b-qX P a)+(qY P b-qY P a)*(qY P b-qY P a))
def pr(P:List Pt):List Pa->Rat
 | []=>0
 |a::l=>sm (w2 P a) l+pr P l
theorem atc(P:List Pt)(a:Pa):∀l:List Pa,sm (w2 P a) l=sW a*((qX P a*qX P a+qY P a*qY P a)*sm sW l-2*(qX P a*sm (fun b=>sW b*qX P b) l)-2*(qY P a*sm (fun b=>sW b*qY P b) l)+sm (fun b=>sW b*(qX P b*qX P b+qY P b*qY P b)) l)
 | []=>by simp only [sm];grind
 |
  b::l=>by
  simp only [sm];rw [atc P a l];unfold w2
  grind
theorem atd(P:List Pt):∀l:List Pa,pr P l=sm sW l*sm (fun b=>sW b*(qX P b*qX P b+qY P b*qY P b)) l-sm (fun b=>sW b*qX P b) l*sm (fun b=>sW b*qX P b) l-sm (fun b=>sW b*qY P b) l*sm (fun b=>sW b*qY P b) l
 | []=>by simp only [pr,sm];grind
 |
  a::l=>by
  simp only [pr,sm];rw [atd P l,atc]
  grind
theorem ai7(P:List Pt)(px py:Rat):∀l:List Pa,sm (enA P px py) l=sm (fun b=>sW b*(qX P b*qX P b+qY P b*qY P b)) l-2*(px*sm (fun b=>sW b*qX P b) l)-2*(py*sm (fun b=>sW b*qY P b) l)+(px*px+py*py)*sm sW l
 | []=>by simp only [sm];grind
 |
  a::l=>by
  simp only [sm];rw [ai7 P px py l];unfold enA
  grind
def TI(Q:List Pt)(l:Lk):Rat:=enV l (Q.getD l.a.toNat default) (Q.getD l.b.toNat default)
def eV(Q:List Pt)(x:Lk):Rat:=(azB x (Q.getD x.a.toNat default) (Q.getD x.b.toNat default)).v
theorem aho{A:List Pa}{i:Nat}(h:i<A.length):A.drop i=A.getD i default::A.drop (i+1):=by
 rw [dK h,aj,ak h];rfl
def LnB(σ s:Store)(r:V)(M:List Lk):Prop :=
 ((r=.kC/\M=[])\/∃p,σ.length<=p/\r=.lQ p 0 M.length/\jQ s p=some ⟨11,M.map Lk.cells⟩)/\(∀o,o<σ.length->jQ s o=jQ σ o)/\σ.length<=s.length
theorem LnB.snoc{σ s:Store}{r:V}{M:List Lk}{x:Option Obj}(h:LnB σ s r M):LnB σ (s++[x]) r M:=by
 obtain⟨h1,h2,h3⟩:=h;refine⟨?_,fun o ho=>(kV (by omega)).trans (h2 o ho),by simp;omega⟩;rcases h1 with h1|⟨p,a,b,c⟩
 ·exact .inl h1
 exact .inr ⟨p,a,b,(kV (lH c)).trans c⟩
theorem LnB.new{σ s s':Store}{M:List Lk}{q n:Nat}(h2:∀o,o<σ.length->jQ s o=jQ σ o)(h3:σ.length<=s.length)(hq:σ.length<=q)(ho:∀o,o<σ.length->jQ s' o=jQ s o)(hl:s.length<=s'.length)(hn:n=M.length)
  (hm:jQ s' q=some ⟨11,M.map Lk.cells⟩):LnB σ s' (.lQ q 0 n) M :=
 ⟨.inr ⟨q,hq,by rw [hn],hm⟩,fun o h=>(ho o h).trans (h2 o h),by omega⟩
theorem Zk{T:Tb}(h:DF T){σ:Store}{l:List Lk}{v:Int}(hl:l.length<=1048576):∃r σ',Run T (.fn 241 [nZ l,iv v] σ) (.fn r σ')/\LnB σ σ' r (l.filter (Xz v)):=by
 rw [<-avy];refine run_end nR h.hT ?_;simp only [yS,Lz,St.enter,au,aG,aX];refine ew ?_;refine kZ (fun _ _=>false) (α:=Nat×Store×V) (fun q=>⟨mJ [.any,iv v,.any,.any,.kC,q.2.2,.any,.any,.any,nZ l,iv (l.length:Nat),iv (q.1:Nat)],q.2.1,σ.length,0,[],[]⟩) (fun q=>q.1<=l.length/\LnB σ q.2.1 q.2.2 (wo l v q.1)) (fun q=>l.length-q.1) rfl (0,σ++[none],.kC) ?_ ?_ ?_
 ·exact⟨by omega,.inl ⟨rfl,aEx l v⟩,fun o ho=>kV ho,by simp⟩
 ·(refine kS ?_;exact uw)
 rintro⟨i,s,r⟩ ⟨hi,hL,hso,hsl⟩;dsimp only at hi hL hso hsl;have hx:(wo l v i).length<=1048576:=by have:=avz l v i;omega
 by_cases hc:(i:Int)<(l.length:Nat)
 ·have hil:i<l.length:=by omega
  have es:=aEy l v hil;generalize wo l v i=M at *;obtain⟨M',e'⟩:∃M',M'=wo l v (i+1):=⟨_,rfl⟩;rw [<-e']at es;unfold Xz at es;obtain⟨y,hy⟩:∃y,l.getD i default=y:=⟨_,rfl⟩;rw [hy]at es;by_cases ha:y.a=v
  ·rw [bH (by simp [ha]),dQ,aN (by simp),aU]at es;subst es;refine D6 @hc @mg @hy @ha ?_;exact⟨(i+1,s++[some ⟨11,[y.cells]⟩],r),by dsimp only;omega,⟨by dsimp only;omega,by dsimp only;rw [<-e'];exact LnB.snoc ⟨hL,hso,hsl⟩⟩,by (refine kS ?_;exact uw)⟩
  by_cases hb:y.b=v
  ·rw [bH (by simp [hb]:¬y.b≠v),jI,aN (by simp),aU]at es;subst es;refine Ku @hc @mg @hy @ha @hb ?_;exact⟨(i+1,s++[some ⟨11,[y.cells]⟩],r),by dsimp only;omega,⟨by dsimp only;omega,by dsimp only;rw [<-e'];exact LnB.snoc ⟨hL,hso,hsl⟩⟩,by (refine kS ?_;exact uw)⟩
  rw [aT ha,aT hb,aQ (by rfl)]at es;subst es;rcases hL with ⟨rfl,rfl⟩|⟨p,hp,rfl,hm⟩
  ·refine Ku @hc @mg @hy @ha @hb ?_;refine⟨by omega,(i+1,?st,.lQ (s.length+1+1) 0 1),by dsimp only;omega,⟨by dsimp only;omega,?lt⟩,?ft⟩
   case ft=>(refine kS ?_;exact uw)
   case lt =>
    dsimp only;rw [<-e'];refine LnB.new (s:=s) hso hsl (by omega) (fun o ho=>?_) ?_ rfl ?_
    ·exact DV
    ·simp
    simp (disch:=first|omega|(simp only [aS,bV,au,aG];omega)) only [Sj];rfl
  have hpl:=lH hm;refine D5 @hc @mg @hy @ha @hb @hm ?_;refine⟨⟨by omega,by omega⟩,(i+1,?ss,.lQ (s.length+1+1) 0 (M.length+1)),by dsimp only;omega,⟨by dsimp only;omega,?ll⟩,?ff⟩
  case ff=>(refine kS ?_;exact uw)
  case ll =>
   dsimp only;rw [<-e'];refine LnB.new (s:=s) hso hsl (by omega) (fun o ho=>?_) ?_ (by simp) ?_
   ·have hop:o≠p:=by omega
    exact DV
   ·simp;omega
   simp (disch:=first|omega|(simp only [aS,bV,au,aG];omega)) only [Sj];simp
 have hie:i=l.length:=by omega
 subst hie;refine Ae @hc ?_;exact⟨hL,hso,hsl⟩
theorem arO{n:Nat}{f:Nat->Option Nat}{rows:List (List V)}(h:nU rows):rD f ⟨n,rows⟩=⟨n,rows⟩:=by
 unfold rD
 congr 1
 have:∀r∈rows,r.map (lS f)=r:=fun r hr=>by
  conv=>rhs;rw [<-List.map_id r]
  apply gu
  intro v hv;exact Yz (h r hr v hv)
 conv=>rhs;rw [<-List.map_id rows]
 apply gu
 intro r hr;exact this r hr
theorem an5{T:Tb}{f:Nat}{as:List Src}{dst:Option Nat}{env:Nat->V}{σ:Store}{kp bs:Nat}{rs ms:List Nat}{k:St->Prop}{as':List V}{M:List Lk}
  (h:∃r s1,Run T (.fn f as' []) (.fn r s1)/\LnB [] s1 r M) (ha:MS env σ as (· = as')) (hr:nY env σ as=[]) (hk:∀r σ2,LnB σ σ2 r M->k ⟨oO env dst r,σ2,kp,bs,rs,ms⟩):QW T f as dst ⟨env,σ,kp,bs,rs,ms⟩ k:=by
 obtain⟨r,s1,h,hL,_,_⟩:=h;refine Jv h ha hr (hk _ _ ⟨?_,fun o ho=>by rw [rO,aQ ho],by unfold zW;simp⟩);rcases hL with ⟨rfl,rfl⟩|⟨p,_,rfl,hm⟩
 ·exact .inl ⟨rfl,rfl⟩
 refine .inr ⟨σ.length+p,by omega,rfl,?_⟩;rw [rO,aN (by omega),show σ.length+p-σ.length=p by omega,hm];show some (rD _ _)=_;rw [arO (IX M)]
def wU:Fn:=⟨2,41,[.cell 4 5 true,.tmp 5,.cell 6 3 true,.tmp 7],(.seq (rf 2 [oN 4 (.alloc zz4),oK 5 2 mN,oK 6 1 (.alloc uJ),oK 7 2 mF]) (.seq (rf 1 [oK 14 1 (oV 0),oK 15 1 (oV 1),oK 16 1 (cl 182 [14,15]),oK 13 1 (oV 16),oK 17 1 (ex 0 13),oK 18 1 (ex 1 13),oK 19 1 (ex 2 13),oN 8 (.alloc zz4),⟨none,none,1,.store 5 (.t 8) (.t 17),[]⟩,oK 9 1 (oV 18),oK 10 1 (oV 19)]) (.seq (sr [oW 20 10,oN 21 (nt 20)] (cd 21 (sr [oN 22 (.build zz4 []),oN 23 (.build uJ []),oS (.store 5 (.t 4) (.t 22)),oN 5 mN,oS (.store 3 (.t 6) (.t 23)),oN 7 mF] .ret) .skip)) (.seq (rf 2 [oK 25 2 (oV 0),oK 26 2 (oV 1),oK 27 2 (cl 241 [25,26]),oK 28 2 (oV 9),oN 29 (.app 11 184 (.t 27) (.t 28)),oK 30 2 (cl 109 [29]),oK 24 2 (oV 30),oK 31 2 (ex 0 24),oK 32 2 (ex 1 24),oK 33 2 (ex 2 24),oK 12 1 (.alloc uJ),oK 11 2 (oV 31),⟨none,none,2,.store 3 (.t 12) (.t 32),[]⟩,oK 10 2 (oV 33)]) (.seq (sr [oW 34 10,oN 35 (nt 34)] (cd 35 (sr [oN 36 (.build zz4 []),oN 37 (.build uJ []),oS (.store 5 (.t 4) (.t 36)),oN 5 mN,oS (.store 3 (.t 6) (.t 37)),oN 7 mF] .ret) .skip)) (.seq (rt 0 [oN 38 (lT 5 8),oW 39 11,oN 40 (lT 3 12),⟨none,none,0,.store 5 (.t 4) (.t 38),[0,0]⟩,oA 5 0 (oV 39) [1,3,0,1,3],⟨none,none,0,.store 3 (.t 6) (.t 40),[2,4,0,1,2,3,4]⟩,oA 7 0 mT [5,0,1,2,3,4,5]]) .ret))))))⟩
structure Fj (T:Tb):Prop where
 hT:T 274=some wU
 VT:Gj T
 Qp:AQ T
 Tz:DF T
def TJ(S:List Lk)(v:Int):List Lk:=S.filter (Xz v)++elM S v
def OZ(S:List Lk)(v:Int):Bool:=XL S v&&Gl (TJ S v)
def XQ(S:List Lk)(v:Int):Cd:=if OZ S v=true then elC S v else⟨0,R0,[]⟩
def XR(S:List Lk)(v:Int):List Lk:=if OZ S v=true then Pq (TJ S v)else []
def rnE(S:List Lk)(v:Int):R:=if OZ S v=true then VO (TJ S v)else R0
theorem aad{S:List Lk}{v:Int}(h:OZ S v=true):XQ S v=elC S v/\XR S v=Pq (TJ S v)/\rnE S v=VO (TJ S v):=by
 unfold XQ XR rnE;rw [h];exact⟨rfl,rfl,rfl⟩
theorem arP{S:List Lk}{v:Int}(h:OZ S v=false):XQ S v=⟨0,R0,[]⟩/\XR S v=[]/\rnE S v=R0:=by
 unfold XQ XR rnE;rw [h];exact⟨rfl,rfl,rfl⟩
theorem awg{S:List Lk}(v:Int)(h:DR Lk.wf S)(hl:S.length<=1048576):DR Lk.wf (TJ S v):=by
 have h1:=(acQ S v).2.2;have h2:=jY (Xz v) S;have h3:=(acQ S v).1.2.2;have h4:=P7 Lk.sz (elM S v);refine⟨by unfold TJ;rw [aS];omega,fun x hx=>?_⟩;rcases aK.1 hx with hx|hx
 ·exact h.2 x (fG.1 hx).1
 exact h1.2 x hx
theorem arQ:nG (.oU [cdV ⟨0,R0,[]⟩,nZ [],lD R0,.bool false]) (.oU [.agg [iv 0,.bool false,.kC,.kC,.kC],.kC,.agg [.bool false,.kC,.kC],.bool false]):=by
 simp only [nG,wJ];exact⟨_,rfl,_,_,rfl,⟨_,rfl,_,_,rfl,rfl,_,_,rfl,rfl,_,_,rfl,.inl ⟨rfl,.inl rfl⟩,_,_,rfl,.inl ⟨rfl,.inl rfl⟩,_,_,rfl,.inl ⟨rfl,.inl rfl⟩,rfl⟩,_,_,rfl,.inl ⟨rfl,.inl rfl⟩,_,_,rfl,sU,_,_,rfl,rfl,rfl⟩
theorem QS{T:Tb}{f:Nat}{as:List Src}{dst:Option Nat}{env:Nat->V}{σ:Store}{kp bs:Nat}{rs ms:List Nat}{k:St->Prop}{as':List V}{ts:List (Bool×V)}{p:Nat}(h:PX T f as' ts)
  (ha:MS env σ as (· = as')) (hr:∀o,o∈nY env σ as->o=p) (hk:∀vs σ2 os S,S.length=σ.length->(∀o,o≠p->jQ S o=jQ σ o)->aj6 S σ2 vs ts os->(∀S2:Store,(∀o,σ.length<=o->jQ S2 o=jQ σ2 o)->Xr S2 vs ts os)->k ⟨oO env dst (.oU vs),σ2,kp,bs,rs,ms⟩):QW T f as dst ⟨env,σ,kp,bs,rs,ms⟩ k:=by
 obtain⟨vs,σ',os,h1,h2,h3⟩:=h;obtain⟨as2,e,rfl⟩:=AY ha;obtain⟨R,hR,hRs⟩:∃R,R=(if (ou (V.oU vs)&&FP σ')=true then []else nY env σ as)/\∀o,o∉nY env σ as->o∉R:=by
  by_cases hc:(ou (V.oU vs)&&FP σ')=true
  ·exact⟨[],by rw [aQ hc],fun _ _=>by simp⟩
  exact⟨nY env σ as,by rw [aN hc],fun _ h=>h⟩
 refine⟨_,.own e h1 (R:=R) hR,?_⟩;have key:∀o,jQ (zW (nT σ R) σ') (σ.length+o)=(jQ σ' o).map (rD (mV σ.length)):=by
  intro o;rw [rO,JC,aN (by omega)]
  congr 2;omega
 have:=hk (vs.map (lS (mV σ.length))) (zW (nT σ R) σ') (os.map (σ.length + ·)) (nT σ R) (JC _ _) (fun o ho=>by rw [FW,aN (hRs o fun hm=>ho (hr o hm))]) ⟨h2.shift key,?_,?_,?_,?_⟩ (fun S2 hS=>h2.shift fun o=>(hS _ (by omega)).trans (key o))
 ·simpa only [lS,Ue]using this
 ·exact iM.2 (h3.imp fun hne e=>hne (by omega))
 ·intro o ho;obtain⟨q,_,rfl⟩:=bF.1 ho;rw [JC];omega
 ·intro o ho;rw [rO,aQ ho]
 simp [zW]
theorem PX.aFe{T:Tb}{f:Nat}{as as':List V}{ts:List (Bool×V)}(h:PX T f as ts)(ha:wJ as as'):PX T f as' ts:=by
 obtain⟨vs,σ',os,h1,h2,h3⟩:=h;exact⟨vs,σ',os,.abt ha h1 (kR _),h2,h3⟩
def rnT(S:List Lk)(v:Int):List (Bool×V):=[(false,cdV (XQ S v)),(false,nZ (XR S v)),(true,lD (rnE S v)),(false,.bool (OZ S v))]
theorem Zl{σ:Store}:agr σ (.oU [.agg [iv 0,.bool false,.kC,.kC,.kC],.kC,.agg [.bool false,.kC,.kC],.bool false]) [(false,cdV ⟨0,R0,[]⟩),(false,nZ []),(true,lD R0),(false,.bool false)]:=by
 refine⟨[cdV ⟨0,R0,[]⟩,.sl 11 [],lD R0,.bool false],[],arQ,?_,.nil⟩;simp only [Xr,if_true,bM,if_false];refine⟨_,_,[],[],rfl,rfl,⟨rfl,rfl⟩,_,_,[],[],rfl,rfl,⟨rfl,rfl⟩,_,_,[],[],rfl,rfl,?_,_,[],[],[],rfl,rfl,⟨rfl,rfl⟩,rfl,rfl⟩;exact ru (qV (qQ (o1:=[]) nP (qQ (o1:=[]) nP qm)))
theorem ai8{σ:Store}{a w:V}{vs:List V}{ts:List (Bool×V)}{os:List Nat}(ha:resolve σ FD a=some w)(h:Xr σ vs ts os)(hn:os.Nodup):agr σ (.oU (a::vs)) ((false,w)::ts):=by
 refine⟨a::vs,os,kR _,?_,hn⟩;unfold Xr;exact⟨a,vs,[],os,rfl,rfl,by simpa using ha,h⟩
theorem aae{T:Tb}(h:Fj T){S:List Lk}{v:Int}(hok:lN S=true)(hw:DR Lk.wf S):PX T 274 [nZ S,iv v] (rnT S v):=by
 unfold rnT;have hl:S.length<=100:=VN hok;have ce:=Xe h.Qp (v:=v) hok hw
 cases hB:XL S v
 ·obtain⟨e1,e2,e3⟩:=arP (S:=S) (v:=v) (by unfold OZ;rw [hB];rfl);rw [e1,e2,e3,show OZ S v=false by unfold OZ;rw [hB];rfl];rw [hB]at ce;refine Uf (fun x d=>(x == 109&&d == 30)||(x == 241&&d == 27)) h.hT ?_;simp only [wU,Lz,St.enter,au,aG,aX];refine ew ?_;refine jK ce ?_;refine ew ?_;exact .inl Zl
 have hB0:=hB;rw [hB]at ce;have m1:(S.filter (Xz v)).length<=1000000:=dw (jY _ _) (by omega);have m2:(elM S v).length<=20000:=by have:=(acQ S v).1.2.2;have:=P7 Lk.sz (elM S v);omega
 have m3:(TJ S v).length<=1048576:=by unfold TJ;rw [aS];omega
 have hall:(TJ S v).all ql=true:=bg.2 fun x hx=>by
  rcases aK.1 hx with hx|hx
  ·exact(rU.1 hok).1 x (fG.1 hx).1
  rw [(afa hB).2]at hx;unfold XL at hB;simp only [aH]at hB;exact bg.1 hB.2 x hx
 have px:=acC h.VT (l:=TJ S v) (awg v hw (by omega)) hall m3;unfold joT at px;have hD:OZ S v=Gl (TJ S v):=by unfold OZ;rw [hB];rfl
 have hT:=@aad S v;have hF:=@arP S v;rw [hD]at hT hF ⊢;have hR:TJ S v=S.filter (Xz v)++elM S v:=rfl;have cr:=Zk h.Tz (v:=v) (σ:=[]) (l:=S) (by omega);have hb:Gl (TJ S v)=false->Pq (TJ S v)=[]/\VO (TJ S v)=R0:=fun hh=>by
  have:U5 (TJ S v)=none:=by unfold Gl at hh;cases hg:U5 (TJ S v)with|none=>rfl|some p=>rw [hg]at hh;cases hh
  exact⟨(J7 this).1,(J7 this).2.1⟩
 have hcs:∀σ:Store,resolve σ FD (cdV (elC S v))=some (cdV (elC S v)):=fun σ=>GR (aaJ [elC S v] _ (by simp));clear hok hw hl hD hB hB0 hall;generalize elC S v=c at *;generalize TJ S v=L at *;generalize elM S v=M at *;generalize S.filter (Xz v)=F at *;generalize XQ S v=rc at *;generalize XR S v=rm at *;generalize rnE S v=re at *;generalize Pq L=jv at *;generalize VO L=je at *;generalize Gl L=jo at *;refine Uf (fun x d=>(x == 109&&d == 30)||(x == 241&&d == 27)) h.hT ?_;simp only [wU,Lz,St.enter,au,aG,aX];refine ew ?_;refine jK ce ?_;refine ew ?_;refine an5 cr (by (refine ew ?_;try with_reducible exact aC)) (by (refine ew ?_;try with_reducible exact aC)) ?_;intro r s1 ⟨hL,hso,hsl⟩;simp only [au,aG]at hso hsl hL;have h0:=(hso 0 (by omega)).trans rfl;have h1:=(hso 1 (by omega)).trans rfl;have h2:=(hso 2 (by omega)).trans rfl;rcases hL with ⟨rfl,rfl⟩|⟨p,hp,rfl,hm⟩
 ·have hL0:L=M:=hR;refine Dy @h0 @h1 @h2 ?_;refine⟨fun hM=>?_,fun hM=>⟨⟨by omega,by omega⟩,?_⟩⟩
  ·rw [hL0,iJ.1 hM]at px;refine QS (p:=3) (px.aFe (as':=[.kC]) ⟨_,_,rfl,gV (qg 11),rfl⟩) (by (refine Dy @h0 @h1 @h2 ?_;try with_reducible exact aC)) (fun o ho=>?_) ?_
   ·have ho:o∈reach s1 FD .kC:=by simpa [nY,Src.ev,upd]using ho
    have:reach s1 FD .kC=[]:=rfl;rw [this]at ho;cases ho
   intro vs q os S' hS1 hS2 g gX;obtain⟨w,e,z,rfl,hw1,hz1,G⟩:=g.fo;obtain rfl:=I8 hz1;obtain⟨_,rfl,hQ⟩:=G.ow.lU;obtain⟨y1,y2,rfl⟩:=hQ.rat
   have lw:=KY hw1;have gl:=G.len;have k0:=(G.old 0 (by omega)).trans ((hS2 0 (by omega)).trans h0);have k1:=(G.old 1 (by omega)).trans ((hS2 1 (by omega)).trans h1);have k2:=(G.old 2 (by omega)).trans ((hS2 2 (by omega)).trans h2);have E:Ep q [.bool je.neg,y1,y2] [.bool je.neg,ints je.mag,ints je.den] os []:=⟨⟨hQ,G.nd⟩,by simp⟩;have n4:∀o∈os,5<=o:=fun o ho=>by have:=G.fresh o ho;omega
   have LF:=ah lw (ah (E.leaf 1 rfl rfl) (E.leaf 2 rfl rfl));have gl5:5<=q.length:=by omega
   cases jo
   ·obtain⟨rfl,rfl,rfl⟩:=hF rfl;refine D6 @LF @k0 @k1 @k2 ?_;exact .inl Zl
   obtain⟨rfl,rfl,rfl⟩:=hT rfl;refine D6 @LF @k0 @k1 @k2 ?_;refine⟨Il (L':=5) (by omega) (by unfold sF;rfl),.inl (ai8 (hcs _) (gX _ fun o ho=>?_) G.nd)⟩
   try simp only [bV]at ho
   exact DV
  have m3':M.length<=1048576:=by omega
  rw [show nZ L=.sl 11 (M.map Lk.cells) by rw [hL0]]at px;refine QS (p:=3) px (by (refine Dy @h0 @h1 @h2 ?_;try with_reducible exact aC)) (fun o ho=>?_) ?_
  ·have ho:o∈reach (s1.set 3 (some ⟨11,M.map Lk.cells⟩)) FD (.lQ 3 0 M.length):=by simpa [nY,Src.ev,upd]using ho
   exact OB (kY (by omega)) (IX M) o ho
  intro vs q os S' hS1 hS2 g gX;obtain⟨w,e,z,rfl,hw1,hz1,G⟩:=g.fo;obtain rfl:=I8 hz1;obtain⟨_,rfl,hQ⟩:=G.ow.lU;obtain⟨y1,y2,rfl⟩:=hQ.rat
  have lw:=KY hw1;simp only [bV]at hS1;have gl:=G.len;have k0:=(G.old 0 (by omega)).trans ((hS2 0 (by omega)).trans ((kN (by omega)).trans h0));have k1:=(G.old 1 (by omega)).trans ((hS2 1 (by omega)).trans ((kN (by omega)).trans h1));have k2:=(G.old 2 (by omega)).trans ((hS2 2 (by omega)).trans ((kN (by omega)).trans h2));have E:Ep q [.bool je.neg,y1,y2] [.bool je.neg,ints je.mag,ints je.den] os []:=⟨⟨hQ,G.nd⟩,by simp⟩;have n4:∀o∈os,5<=o:=fun o ho=>by have:=G.fresh o ho;omega
  have LF:=ah lw (ah (E.leaf 1 rfl rfl) (E.leaf 2 rfl rfl));have gl5:5<=q.length:=by omega
  cases jo
  ·obtain⟨rfl,rfl,rfl⟩:=hF rfl;refine D6 @LF @k0 @k1 @k2 ?_;exact .inl Zl
  obtain⟨rfl,rfl,rfl⟩:=hT rfl;refine D6 @LF @k0 @k1 @k2 ?_;refine⟨Il (L':=5) (by omega) (by unfold sF;rfl),.inl (ai8 (hcs _) (gX _ fun o ho=>?_) G.nd)⟩
  try simp only [bV]at ho
  exact DV
 have hFM:F.map Lk.cells++M.map Lk.cells=L.map Lk.cells:=by rw [hR,bU]
 have hLn:F.length+M.length=L.length:=by rw [hR,aS]
 refine D6 @h0 @h1 @h2 @hm ?_;refine⟨fun hM=>?_,fun hM=>⟨⟨by omega,by omega⟩,?_⟩⟩
 ·rw [show nZ L=.sl 11 (F.map Lk.cells) by rw [hR,iJ.1 hM,aU]]at px;refine QS (p:=p) px (by (refine D6 @h0 @h1 @h2 @hm ?_;try with_reducible exact aC)) (fun o ho=>?_) ?_
  ·have ho:o∈reach s1 FD (.lQ p 0 F.length):=by simpa [nY,Src.ev,upd]using ho
   exact OB hm (IX F) o ho
  intro vs q os S' hS1 hS2 g gX;obtain⟨w,e,z,rfl,hw1,hz1,G⟩:=g.fo;obtain rfl:=I8 hz1;obtain⟨_,rfl,hQ⟩:=G.ow.lU;obtain⟨y1,y2,rfl⟩:=hQ.rat
  have lw:=KY hw1;have gl:=G.len;have k0:=(G.old 0 (by omega)).trans ((hS2 0 (by omega)).trans h0);have k1:=(G.old 1 (by omega)).trans ((hS2 1 (by omega)).trans h1);have k2:=(G.old 2 (by omega)).trans ((hS2 2 (by omega)).trans h2);have E:Ep q [.bool je.neg,y1,y2] [.bool je.neg,ints je.mag,ints je.den] os []:=⟨⟨hQ,G.nd⟩,by simp⟩;have n4:∀o∈os,5<=o:=fun o ho=>by have:=G.fresh o ho;omega
  have LF:=ah lw (ah (E.leaf 1 rfl rfl) (E.leaf 2 rfl rfl));have gl5:5<=q.length:=by omega
  cases jo
  ·obtain⟨rfl,rfl,rfl⟩:=hF rfl;refine D6 @LF @k0 @k1 @k2 ?_;exact .inl Zl
  obtain⟨rfl,rfl,rfl⟩:=hT rfl;refine D6 @LF @k0 @k1 @k2 ?_;refine⟨Il (L':=5) (by omega) (by unfold sF;rfl),.inl (ai8 (hcs _) (gX _ fun o ho=>?_) G.nd)⟩
  try simp only [bV]at ho
  exact DV
 rw [hFM]
 try simp only [aV]
 rw [hLn];refine QS (p:=3) px (by (refine D6 @h0 @h1 @h2 @hm ?_;try with_reducible exact aC)) (fun o ho=>?_) ?_
 ·have ho:o∈reach ((s1.set p none).set 3 (some ⟨11,L.map Lk.cells⟩)) FD (.lQ 3 0 L.length):=by simpa [nY,Src.ev,upd]using ho
  exact OB (kY (by simp;omega)) (IX L) o ho
 intro vs q os S' hS1 hS2 g gX;obtain⟨w,e,z,rfl,hw1,hz1,G⟩:=g.fo;obtain rfl:=I8 hz1;obtain⟨_,rfl,hQ⟩:=G.ow.lU;obtain⟨y1,y2,rfl⟩:=hQ.rat
 have lw:=KY hw1;simp only [bV]at hS1;have gl:=G.len;have k0:=(G.old 0 (by omega)).trans ((hS2 0 (by omega)).trans ((kN (by omega)).trans ((kN (by omega)).trans h0)));have k1:=(G.old 1 (by omega)).trans ((hS2 1 (by omega)).trans ((kN (by omega)).trans ((kN (by omega)).trans h1)));have k2:=(G.old 2 (by omega)).trans ((hS2 2 (by omega)).trans ((kN (by omega)).trans ((kN (by omega)).trans h2)));have E:Ep q [.bool je.neg,y1,y2] [.bool je.neg,ints je.mag,ints je.den] os []:=⟨⟨hQ,G.nd⟩,by simp⟩;have n4:∀o∈os,5<=o:=fun o ho=>by have:=G.fresh o ho;omega
 have LF:=ah lw (ah (E.leaf 1 rfl rfl) (E.leaf 2 rfl rfl));have gl5:5<=q.length:=by omega
 cases jo
 ·obtain⟨rfl,rfl,rfl⟩:=hF rfl;refine D6 @LF @k0 @k1 @k2 ?_;exact .inl Zl
 obtain⟨rfl,rfl,rfl⟩:=hT rfl;refine D6 @LF @k0 @k1 @k2 ?_;refine⟨Il (L':=5) (by omega) (by unfold sF;rfl),.inl (ai8 (hcs _) (gX _ fun o ho=>?_) G.nd)⟩
 try simp only [bV]at ho
 exact DV
theorem an6{S:List Lk}{v:Int}(h:OZ S v=true):az7 (XQ S v) (elM S v):=by
 have h1:XL S v=true:=by unfold OZ at h;simp only [aH]at h;exact h.1
 rw [(aad h).1];exact atb h1
theorem ahp(S:List Lk)(v:Int):((XQ S v).sz<=40000/\(XQ S v).ps.length<=10/\NS Lk.sz (XR S v)<=20000/\(rnE S v).sz<=1000)/\(XQ S v).wf/\DR Lk.wf (XR S v)/\(rnE S v).wf:=by
 have hcn:=Ti (l:=TJ S v);have he:=acQ S v
 cases hB:OZ S v
 ·obtain⟨e1,e2,e3⟩:=arP hB;rw [e1,e2,e3];exact⟨⟨by decide,by decide,by decide,by decide⟩,⟨⟨by decide,by decide⟩,by decide,by simp⟩,⟨by decide,by simp⟩,by decide,by decide⟩
 obtain⟨e1,e2,e3⟩:=aad hB;rw [e1,e2,e3];exact⟨⟨he.1.1,he.1.2.1,Y9 hcn.1 hcn.2.2.1,MJ hcn.2.1⟩,he.2.1,VP hcn.1 hcn.2.2.1,uy hcn.2.1⟩
def gOf(l:List Lk):Nat->Gd
 |0=>gz
 |k+1=>Le (Le (gOf l k) (l.getD k default).a.toNat (l.getD k default).b.toNat true) (l.getD k default).b.toNat (l.getD k default).a.toNat true
def stp(v i j:Nat)(s:Gd×Nat):Gd×Nat:=if s.1 v i=true/\s.1 v j=true/\s.1 i j=false then(Le (Le s.1 i j true) j i true,s.2+1)else s
def cj(v i:Nat)(s:Gd×Nat):Nat->Gd×Nat
 |0=>s
 |n+1=>if i<n then stp v i n (cj v i s n)else s
def ci(v:Nat)(g:Gd):Nat->Gd×Nat
 |0=>(g,0)
 |n+1=>cj v n (ci v g n) 10
def cz(v:Nat)(g:Gd):Nat->Gd
 |0=>g
 |n+1=>Le (Le (cz v g n) v n false) n v false
def az8(g:Gd)(v:Nat):Gd:=cz v (ci v g 10).1 10
def dg(g:Gd)(v:Nat):Nat->Nat
 |0=>0
 |n+1=>dg g v n+if g v n=true then 1 else 0
theorem acR{l:List Lk}{o:List Int}(h:JX l o=true):o.length<=10:=by
 have h2:=(of_decide_eq_true h:ace l o).2.1;have:=yR l;omega
theorem an7{l:List Lk}{o:List Int}(h:JX l o=true):lN l=true:=(of_decide_eq_true h:ace l o).1
def uN:Fn:=⟨2,56,[.tmp 4,.cell 5 3 true,.tmp 6],(.seq (rf 1 [oK 4 1 mN,oN 5 (.alloc uJ),oK 6 1 mF]) (.seq (sr [oW 15 0,oW 16 1,oN 17 (cl 221 [15,16]),oN 18 (nt 17)] (cd 18 (sr [oN 19 (.build uJ []),oN 4 mN,oS (.store 3 (.t 5) (.t 19)),oN 6 mF] .ret) .skip)) (.seq (rf 1 [oN 20 (.nO 5 zz4 0 []),oK 7 1 (oV 20)]) (.seq (rf 1 [oK 21 1 (.call 39 [(cI 0)]),oN 8 (.alloc uJ),⟨none,none,1,.store 3 (.t 8) (.t 21),[]⟩]) (.seq (sr [oW 22 1,oN 23 (ln 22),oN 24 (.qC (cI 0))] (.block 0 (.loop (sr [oN 25 (bt .lss 24 23)] (.seq (cd 25 .skip (.exit 0)) (.seq (.block 1 (sr [oN 26 (ix 1 22 24),oN 27 (lF 1 26),oW 10 27] (.seq (rf 2 [oK 29 2 (oV 0),oK 30 2 (oV 10),oK 31 2 (cl 274 [29,30]),oK 28 2 (oV 31),oK 32 2 (ex 0 28),oK 33 2 (ex 1 28),oK 34 2 (ex 2 28),oK 35 2 (ex 3 28),oN 11 (.alloc zz4),oK 13 1 (.alloc uJ),⟨none,none,2,.store 5 (.t 11) (.t 32),[]⟩,oK 12 2 (oV 33),⟨none,none,2,.store 3 (.t 13) (.t 34),[]⟩,oK 14 2 (oV 35)]) (sr [oN 36 (lT 3 8),oN 37 (lT 3 13),oN 38 (cl 131 [36,37]),oS (.store 3 (.t 8) (.t 38))] (.seq (sr [oW 39 14,oN 40 (nt 39),oW 41 40,oG 41 false 42 (lT 3 8),oG 41 false 43 (cl 132 [42]),oG 41 false 44 (nt 43),oN 45 (.pick (.t 41) (.c (.bool true)) (.t 44))] (cd 45 (sr [oN 46 (.build uJ []),oN 4 mN,oS (.store 3 (.t 5) (.t 46)),oN 6 mF] .ret) .skip)) (.seq (rf 2 [oK 47 2 (oV 7),oK 48 2 (lT 5 11),oK 49 2 (cl 183 [48]),oN 50 (.nO 5 zz4 1 [(0,(.t 49))]),oK 51 1 (.app 5 88 (.t 47) (.t 50)),oK 7 2 (oV 51)]) (rg [oW 52 12,oW 0 52]))))))) (rg [oN 53 (bc .add 24 1),oW 24 53]))))))) (.seq (rt 0 [oW 54 7,oN 55 (lT 3 8),oA 4 0 (oV 54) [0,0],⟨none,none,0,.store 3 (.t 5) (.t 55),[1,2,0,1,2]⟩,oA 6 0 mT [3,0,1,2,3]]) .ret))))))⟩
structure BM (T:Tb):Prop where
 hT:T 270=some uN
 lK:nV T
 lJ:nM T
 kW:pG T
 OD:yI T
 Zm:JU T
 UU:Fj T
def Xf(S:List Lk)(o:List Int):Nat->Option (List Lk×List Cd×R)
 |0=>some (S,[],lC 0)
 |
  k+1=>match Xf S o k with
  |none=>none
  |some p=>if OZ p.1 (o.getD k 0)=true then some (XR p.1 (o.getD k 0),p.2.1++[XQ p.1 (o.getD k 0)],oC p.2.2 (rnE p.1 (o.getD k 0)))else none
def
  eaG (S:List Lk) (o:List Int):Option (List Lk×List Cd×R):=if JX S o=true then
  match Xf S o o.length with
  |none=>none
  |some p=>if p.2.2.ok=true then some p else none
 else none
def akK(S:List Lk)(o:List Int):Bool:=(eaG S o).isSome
def eaN(S:List Lk)(o:List Int):List Cd:=((eaG S o).map (·.2.1)).getD []
def eaE(S:List Lk)(o:List Int):R:=((eaG S o).map (·.2.2)).getD R0
theorem UW{S:List Lk}{o:List Int}(h:eaG S o=none):eaN S o=[]/\eaE S o=R0/\akK S o=false:=by
 unfold eaN eaE akK;rw [h];exact⟨rfl,rfl,rfl⟩
theorem Zn{S:List Lk}{o:List Int}{p:List Lk×List Cd×R}(h:eaG S o=some p):eaN S o=p.2.1/\eaE S o=p.2.2/\akK S o=true:=by
 unfold eaN eaE akK;rw [h];exact⟨rfl,rfl,rfl⟩
theorem afe{S:List Lk}{o:List Int}{k:Nat}(h:Xf S o k=none):∀n,k<=n->Xf S o n=none
 |0,hn=>by rw [Nat.le_zero.1 hn]at h;exact h
 |
  n+1,hn=>by
  rcases dW k (n+1)with hk|hk
  ·simp only [Xf,afe h n (by omega)]
  rw [show n+1=k by omega];exact h
theorem ai9{S:List Lk}{o:List Int}{k:Nat}{p:List Lk×List Cd×R}(h:Xf S o k=some p)(hb:p.2.2.ok=false):∀n,k<=n->∀q,Xf S o n=some q->q.2.2.ok=false
 |0,hn,q,hq=>by rw [Nat.le_zero.1 hn]at h;rw [h]at hq;cases hq;exact hb
 |
  n+1,hn,q,hq=>by
  rcases dW k (n+1)with hk|hk
  ·simp only [Xf]at hq
   cases hf:Xf S o n with
   |none=>rw [hf]at hq;cases hq
   |
    some r =>
    rw [hf]at hq;dsimp only at hq;split at hq
    ·cases hq
     exact UK (ai9 h hb n (by omega) r hf)
    cases hq
  rw [show n+1=k by omega]at hq;rw [h]at hq;cases hq;exact hb
theorem aff{S:List Lk}{o:List Int}{k:Nat}(h:Xf S o k=none)(hk:k<=o.length):eaG S o=none:=by
 unfold eaG;rw [afe h o.length hk];split<;>rfl
theorem ahq{S:List Lk}{o:List Int}{k:Nat}{p:List Lk×List Cd×R}(h:Xf S o k=some p)(hb:p.2.2.ok=false)(hk:k<=o.length):eaG S o=none:=by
 unfold eaG
 cases hf:Xf S o o.length with
 |none=>split<;>rfl
 |some q=>dsimp only;rw [if_neg (c:=q.2.2.ok=true) (by rw [ai9 h hb _ hk q hf];simp)];split<;>rfl
structure CdG (c:Cd):Prop where
 ne:0<c.ps.length
 len:c.ps.length<=10
 cn:c.total.cn/\∀a∈c.ps,a.share.cn/\a.dx.cn/\a.dy.cn
 sz:c.sz<=40000
 wf:c.wf
theorem an8{S:List Lk}{v:Int}(h:OZ S v=true):CdG (XQ S v) :=
 ⟨(an6 h).ne,(an6 h).len,(an6 h).cn,(ahp S v).1.1,(ahp S v).2.1⟩
theorem an9{S:List Lk}{v:Int}(h:OZ S v=true):lN (XR S v)=true:=by
 rw [(aad h).2.1];exact Ti.2.2.2
theorem awh(S:List Lk)(v:Int):(rnE S v).cn:=by
 cases h:OZ S v
 ·rw [(arP h).2.2];exact ab6
 rw [(aad h).2.2];exact Ti.2.1
theorem acU{S:List Lk}{o:List Int}(hok:lN S=true)(hw:DR Lk.wf S)(hz:NS Lk.sz S<=1048576):∀{k:Nat} {p:List Lk×List Cd×R},Xf S o k=some p->(lN p.1=true/\DR Lk.wf p.1/\NS Lk.sz p.1<=1048576)/\p.2.2.cn/\(∀c∈p.2.1,CdG c)/\p.2.1.length=k
 |0,p,h=>by cases h;exact⟨⟨hok,hw,hz⟩,wO (by decide),by simp,rfl⟩
 |
  k+1,p,h=>by
  simp only [Xf]at h
  cases hf:Xf S o k with
  |none=>rw [hf]at h;cases h
  |
   some r =>
   rw [hf]at h;dsimp only at h;split at h
   ·rename_i hk
    cases h
    obtain⟨_,_,i3,i4⟩:=acU hok hw hz hf;have R:=ahp r.1 (o.getD k 0);refine⟨⟨an9 hk,R.2.2.1,by have:=R.1.2.2.1;dsimp only;omega⟩,wM _ _,fun c hc=>?_,by simp [i4]⟩;rcases aK.1 hc with hc|hc
    ·exact i3 c hc
    rw [aW.1 hc];exact an8 hk
   cases h
theorem awi{N:List Cd}(h:∀c∈N,CdG c)(hl:N.length<=10):NS Cd.sz N<=500000:=by
 have:=Si (f:=Cd.sz) (k:=40000) fun c hc=>(h c hc).sz;have:N.length*(40000+1)<=10*(40000+1):=dG _ hl;omega
theorem awj{S:List Lk}(o:List Int)(hw:DR Lk.wf S)(hz:NS Lk.sz S<=1048576):(NS Cd.sz (eaN S o)<=500000/\(eaE S o).sz<=1000)/\DR Cd.wf (eaN S o)/\(eaE S o).wf:=by
 cases hg:eaG S o with
 |
  none =>
  obtain⟨e1,e2,_⟩:=UW hg;rw [e1,e2];exact⟨⟨by decide,by decide⟩,⟨by decide,by simp⟩,by decide,by decide⟩
 |
  some p =>
  obtain⟨e1,e2,_⟩:=Zn hg;rw [e1,e2];unfold eaG at hg;split at hg
  ·rename_i ho
   cases hf:Xf S o o.length with
   |none=>rw [hf]at hg;cases hg
   |
    some q =>
    rw [hf]at hg;dsimp only at hg;split at hg
    ·cases hg
     obtain⟨_,i2,i3,i4⟩:=acU (an7 ho) hw hz hf;have:=acR ho;exact⟨⟨awi i3 (by omega),MJ i2⟩,⟨by omega,fun c hc=>(i3 c hc).wf⟩,uy i2⟩
    cases hg
  cases hg
theorem arR:nG (.oU [Uc [],lD R0,.bool false]) (.oU [.kC,.agg [.bool false,.kC,.kC],.bool false]):=by
 simp only [nG,wJ];exact⟨_,rfl,_,_,rfl,.inl ⟨rfl,.inl rfl⟩,_,_,rfl,sU,_,_,rfl,rfl,rfl⟩
theorem QT(l:Lk)(p q:Pt):enV l p q=mW l*((q.x.v-p.x.v)*(q.x.v-p.x.v)+(q.y.v-p.y.v)*(q.y.v-p.y.v))-2*((q.x.v-p.x.v)*mX l)-2*((q.y.v-p.y.v)*mY l)+mZ l:=by
 unfold enV mW mX mY mZ;grind
theorem az9{P:List Pt}{k l:Lk}(h1:ql k=true)(h2:ql l=true)(hg:Pj k l=true)(ea:k.a=l.a)(eb:k.b=l.b):TI P (Ry k l)+(Ph k l).v=TI P k+TI P l:=by
 obtain⟨m1,m2,m3,m4⟩:=anH h1 h2 hg;have e1:(Ry k l).a=l.a:=ea;have e2:(Ry k l).b=l.b:=eb;unfold TI;rw [QT,QT,QT,m1,m2,m3,ea,eb,e1,e2]
 grind
theorem awk{P:List Pt}{s:List Lk}{l:Lk}{t:List Lk}{e:R}(h:Ot s l=some (t,e))(h1:lN s=true)(h2:ql l=true):tot (TI P) t+e.v=tot (TI P) s+TI P l:=by
 obtain⟨hv,hp⟩:=rU.1 h1;have hpost:=QL (l:=l) hp;have hpl:=KW l s;unfold Ot at h;dsimp only at h;generalize FH l s=i at *;have hsp:s.take i++s.drop i=s:=gZ i s;split at h
 ·cases h
  have e0:(lC 0).v=0:=R.Jp (a:=((0:Int):Rat)) (JM (by decide));rw [e0]
  conv=>rhs;rw [<-hsp]
  simp only [Dt,tot]
  grind
 rename_i hc;split at h
 ·rename_i hg
  cases h
  have hi:i<s.length:=by
   rcases dW i s.length with k|k
   ·exact k
   exact absurd (.inl (by omega)) hc
  have hd:s.drop i=s.getD i default::s.drop (i+1):=by
   rw [dK hi,aj,ak hi];rfl
  have hx0:=hpost (s.getD i default) (by rw [hd];simp);have hxl:lW l (s.getD i default)=false:=by
   cases hq:lW l (s.getD i default)
   ·rfl
   exact absurd (.inr hq) hc
  have hsm:=getD_mem (l:=s) hi;generalize s.getD i default=x at *;obtain⟨ea,eb⟩:=Ou hx0 hxl;have m:=az9 (P:=P) (hv x hsm) h2 hg ea eb
  conv=>rhs;rw [<-hsp,hd]
  simp only [Dt,tot]
  grind
 cases h
theorem aoa{P:List Pt}{l:List Lk}:∀{k:Nat} {S:List Lk} {e:R},k<=l.length->OW l k=some (S,e)->e.ok=true->tot (TI P) S+e.v=tot (TI P) (l.take k)
 |
  0,S,e,_,h,_=>by
  cases h
  have e0:(lC 0).v=0:=R.Jp (a:=((0:Int):Rat)) (JM (by decide));rw [e0];simp [tot,iR]
 |
  k+1,S,e,hk,h,he=>by
  simp only [OW]at h
  cases hf:OW l k with
  |none=>rw [hf]at h;cases h
  |
   some p =>
   rw [hf]at h;dsimp only at h;split at h
   ·rename_i ho
    cases h
    obtain⟨o1,o2⟩:=Nu he;have m2:=aoa (P:=P) (k:=k) (S:=p.1) (e:=p.2) (by omega) hf o1;obtain⟨a1,a2,a3⟩:=ahc ho;obtain⟨g1,g2,g3⟩:=KX a2 a3;have es:=take_snoc (l:=l) (i:=k) (by omega);generalize l.getD k default=x at *
    cases hr:Ot p.1 x with
    |none=>rw [hr]at g3;rw [g3]at ho;cases ho
    |
     some t =>
     rw [hr]at g1 g2;have g1:adV p.1 x=t.1:=g1;have g2:adE p.1 x=t.2:=g2;have n2:=awk (P:=P) (t:=t.1) (e:=t.2) hr a2 a3;rw [g2]at o2 he ⊢;rw [g1,es];have ev:=R.Jp (Tj (R.IQ o1) (R.IQ o2) he);rw [ev,Dt,<-m2];simp only [tot,dY]
     grind
   cases h
theorem awl{P:List Pt}{l:List Lk}(h:Gl l=true):tot (TI P) (Pq l)+(VO l).v=tot (TI P) l:=by
 unfold Gl at h
 cases hg:U5 l with
 |none=>rw [hg]at h;cases h
 |
  some p =>
  have e1:Pq l=p.1:=by unfold Pq;rw [hg];rfl
  have e2:VO l=p.2:=by unfold VO;rw [hg];rfl
  rw [e1,e2];unfold U5 at hg
  cases hf:OW l l.length with
  |none=>rw [hf]at hg;cases hg
  |
   some q =>
   rw [hf]at hg;dsimp only at hg;split at hg
   ·rename_i ho
    cases hg
    have:=aoa (P:=P) (S:=p.1) (e:=p.2) (aJ _) hf ho;rw [bI]at this;exact this
   cases hg
theorem aob(v:Int)(x:Lk):Xz v x = !stP v x:=by
 unfold Xz stP;by_cases h1:x.a=v<;>by_cases h2:x.b=v<;>simp [h1,h2]
theorem abm(f:Lk->Rat)(v:Int):∀S:List Lk,tot f S=tot f (S.filter (Xz v))+tot f (S.filter (stP v))
 | []=>(dY 0).symm
 |
  x::S=>by
  have ih:=abm f v S;have hw:=aob v x
  cases h:stP v x
  ·rw [h]at hw;rw [List.filter_cons_of_pos hw,List.filter_cons_of_neg (by rw [h];simp)];simp only [tot];rw [ih,Rat.add_assoc]
  rw [h]at hw;rw [List.filter_cons_of_neg (by rw [hw];simp),List.filter_cons_of_pos h];simp only [tot];rw [ih];grind
theorem afg{r:R}(h:r.ok=true):(negR r).v = -r.v:=by
 have e:=R.IQ h;refine R.Jp ?_;rw [agA,e];rfl
theorem awm{P:List Pt}{v:Int}{l:Lk}(h:ql l=true)(hs:stP v l=true):TI P l=enA P (P.getD v.toNat default).x.v (P.getD v.toNat default).y.v (Zi v l):=by
 have hk:=Bo h;unfold stP at hs;simp only [dX,aZ]at hs;unfold Zi TI enV enA sW qX qY;by_cases ha:l.a=v
 ·rw [aQ ha];dsimp only;rw [afg hk.2.1,afg hk.2.2.1,ha];have k1:∀x p d:Rat,x-p-d=x + -d-p:=fun x p d=>by grind
  rw [k1,k1]
 have hb:l.b=v:=by omega
 rw [aN ha];dsimp only;rw [hb];have k1:∀x p d:Rat,x-p-d = -(p+d-x):=fun x p d=>by grind
 rw [k1,k1]
 grind
theorem BG{f g:Lk->Rat}:∀{L:List Lk},(∀x∈L,f x=g x)->tot f L=tot g L
 | [],_=>rfl
 |x::L,h=>by simp only [tot];rw [h x (by simp),BG (L:=L) fun y hy=>h y (by simp [hy])]
theorem aoc{P:List Pt}{v:Int}{S:List Lk}(h:lN S=true):tot (TI P) (S.filter (stP v))=sm (enA P (P.getD v.toNat default).x.v (P.getD v.toNat default).y.v) (pO S v):=by
 rw [Ny,<-ai6];refine BG fun x hx=>?_;obtain⟨h1,h2⟩:=fG.1 hx;exact awm (oL h h1) h2
theorem aAa(g:Lk->Rat){P:List Pt}{A:List Pa}{t:Rat}{i:Nat}(h:∀j,i<j->j<A.length->g (MI (rQ A) (A.getD i default) (A.getD j default))=w2 P (A.getD i default) (A.getD j default) / t):∀j,i+1+j<=A.length->tot g (xH A i j)=sm (w2 P (A.getD i default)) ((A.drop (i+1)).take j) / t
 |0,_=>by rw [XK,List.take_zero];simp only [tot,sm];rw [eF,iT]
 |
  j+1,hj=>by
  rw [acL A (by omega),Dt,aAa g h j (by omega),ai4 _ (by simp;omega)];have e:=h (i+1+j) (by omega) (by omega);have e2:(A.drop (i+1)).getD j default=A.getD (i+1+j) default:=by
   rw [aj,dV,aj]
  rw [e2];simp only [tot,dY];rw [e,eF,eF,eF,Rat.add_mul]
theorem atf(g:Lk->Rat){P:List Pt}{A:List Pa}{t:Rat}(h:∀i j,i<j->j<A.length->g (MI (rQ A) (A.getD i default) (A.getD j default))=w2 P (A.getD i default) (A.getD j default) / t):∀k,k<=A.length->tot g (uo A k)+pr P (A.drop k) / t=pr P A / t
 |0,_=>by rw [dA];simp only [uo,tot,iR]
 |
  k+1,hk=>by
  have ih:=atf g h k (by omega);rw [aho (by omega)]at ih;show tot g (uo A k++xH A k (A.length-(k+1)))+_=_;rw [Dt,aAa g (h k) _ (by omega),bG (by simp),<-ih];simp only [pr];rw [eF,eF,eF,Rat.add_mul,Rat.add_assoc]
theorem UY{A:List Pa}{i:Nat}:∀{n:Nat},i<n->∀{j:Nat},i<j->j<A.length->MI (rQ A) (A.getD i default) (A.getD j default)∈uo A n
 |0,h,_,_,_=>absurd h (dB _)
 |
  n+1,h,j,hij,hj=>by
  show _∈uo A n++xH A n (A.length-(n+1));rw [aK];by_cases e:i=n
  ·subst e;refine .inr ?_;unfold xH;refine bF.2 ⟨A.getD j default,?_,rfl⟩;rw [bG (by simp)];refine bJ.2 ⟨j-(i+1),?_⟩;rw [dV,show i+1+(j-(i+1))=j by omega,ak hj,aj,ak hj];rfl
  exact .inl (UY (by omega) hij hj)
theorem arS{P:List Pt}{t:R}{a b:Pa}(h:ql (MI t a b)=true):TI P (MI t a b)=w2 P a b / t.v:=by
 have hk:=Bo h;obtain⟨o1,o2⟩:=UO (r:=mulR a.share b.share) (s:=t) hk.1;obtain⟨o3,o4⟩:=UN o1;obtain⟨o5,o6⟩:=ae1 (r:=a.dx) (s:=b.dx) hk.2.1;obtain⟨o7,o8⟩:=ae1 (r:=a.dy) (s:=b.dy) hk.2.2.1;have vw:(vS (mulR a.share b.share) t).v=a.share.v*b.share.v / t.v:=R.Jp (acE (Ov (R.IQ o3) (R.IQ o4) o1) (R.IQ o2) hk.1).1;have vx:(wL a.dx b.dx).v=a.dx.v-b.dx.v:=R.Jp (acD (R.IQ o5) (R.IQ o6) hk.2.1);have vy:(wL a.dy b.dy).v=a.dy.v-b.dy.v:=R.Jp (acD (R.IQ o7) (R.IQ o8) hk.2.2.1);unfold TI enV w2 sW qX qY MI;dsimp only;rw [vw,vx,vy];have k1:∀x y d e:Rat,x-y-(d-e)=x+e-(y+d):=fun x y d e=>by grind
 rw [k1,k1];have k2:∀w t z:Rat,w / t*z=w*z / t:=fun w t z=>by rw [eF,eF];grind
 rw [k2]
theorem aod{P:List Pt}{A:List Pa}(h:(Oy A).all ql=true):tot (TI P) (Oy A)=pr P A / (rQ A).v:=by
 have hm:=atf (TI P) (P:=P) (A:=A) (t:=(rQ A).v) (fun i j hij hj=>arS (bg.1 h _ (UY (by omega) hij hj))) A.length (aJ _);rw [jA]at hm;have e:pr P [] / (rQ A).v=0:=by show (0:Rat) / _=0;rw [eF,iT]
 rw [e,dY]at hm;exact hm
theorem aoe{A:List Pa}:∀k,k<=A.length->(Ob A k).ok=true->(Ob A k).v=sm sW (A.take k)
 |0,_,_=>by rw [ab8,List.take_zero];exact R.Jp (a:=((0:Int):Rat)) (JM (by decide))
 |
  k+1,hk,ho=>by
  rw [ab9 A (by omega)]at ho ⊢;obtain⟨o1,o2⟩:=Nu ho;rw [R.Jp (Tj (R.IQ o1) (R.IQ o2) ho),aoe k (by omega) o1,ai4 _ (by omega)];rfl
theorem aof{c:Cd}(h:xA c=true):0<c.total.v:=by
 unfold xA at h;simp only [aH,aZ]at h;have hs:0<xI c.total:=by
  first
  |exact h.1.1.2
  |exact h.1.2
  |exact h.2
 have ho:=Uu hs;unfold xI at hs;rw [R.IQ ho]at hs;have:0<sgn c.total.v.num:=hs;rw [Rat.lt_iff,show (0:Rat).num=0 from rfl,show (0:Rat).den=1 from rfl,Int.zero_mul,Int.natCast_one,Int.mul_one];exact aiL this
def dsq(P:List Pt)(v:Int)(A:List Pa):Rat:=((P.getD v.toNat default).x.v-pX P A)*((P.getD v.toNat default).x.v-pX P A)+((P.getD v.toNat default).y.v-pY P A)*((P.getD v.toNat default).y.v-pY P A)
theorem aFh(t z x y a b:Rat)(h:t≠0):z-2*(a*x)-2*(b*y)+(a*a+b*b)*t=(t*z-x*x-y*y) / t+t*((a-x / t)*(a-x / t)+(b-y / t)*(b-y / t)):=by grind
theorem aog{P:List Pt}{A:List Pa}{v:Int}(h:sm sW A≠0):sm (enA P (P.getD v.toNat default).x.v (P.getD v.toNat default).y.v) A=pr P A / sm sW A+sm sW A*dsq P v A:=by
 unfold dsq;rw [ai7,atd];unfold pX pY;exact aFh _ _ _ _ _ _ h
theorem aoh{P:List Pt}{S:List Lk}{v:Int}(h:OZ S v=true):tot (TI P) S=tot (TI P) (XR S v)+(rnE S v).v+(XQ S v).total.v*dsq P v (pO S v)/\0<(XQ S v).total.v/\(XQ S v).total.v=sm sW (pO S v):=by
 obtain⟨e1,e2,e3⟩:=aad h;unfold OZ at h;rw [aH]at h;obtain⟨hB,hj⟩:=h;obtain⟨f1,f2⟩:=afa hB;have hB2:=hB;unfold XL at hB2;simp only [aH]at hB2;obtain⟨⟨⟨hS,_⟩,hC⟩,hM⟩:=hB2;have ht:=aof hC;have ev:(rQ (pO S v)).v=sm sW (pO S v):=by
  have ho:(rQ (pO S v)).ok=true:=by
   cases hq:(rQ (pO S v)).ok
   ·exfalso;have:(rQ (pO S v)).v=0:=by
     unfold R.v
     cases hz:(rQ (pO S v)).q with
     |none=>rfl
     |some a=>rw [xZ.2 (by rw [hz];simp)]at hq;cases hq
    have h2:0<(rQ (pO S v)).v:=ht;rw [this]at h2;exact absurd h2 Rat.lt_irrefl
   rfl
  have:=aoe (A:=pO S v) _ (aJ _) ho;rw [bI]at this;exact this
 have ht':0<(rQ (pO S v)).v:=ht;have hne:sm sW (pO S v)≠0:=fun e=>by rw [ev,e]at ht';exact absurd ht' Rat.lt_irrefl
 have et:(XQ S v).total=rQ (pO S v):=by rw [e1,f1];rfl
 have hJ:=awl (P:=P) hj;rw [e2,e3,et,hJ];refine⟨?_,ht',ev⟩;unfold TJ;rw [Dt,f2,aod hM,abm _ v S,aoc hS,aog hne,ev,Rat.add_assoc]
def Ab(p:Int)(P:Nat):Prop:=p.natAbs<=P
theorem lM{p q:Int}{P Q:Nat}(h:Ab p P)(k:Ab q Q):Ab (p*q) (P*Q):=by
 unfold Ab at *;rw [iW];exact iO h k
theorem yx{p q:Int}{P Q:Nat}(h:Ab p P)(k:Ab q Q):Ab (p+q) (P+Q):=by
 unfold Ab at *;omega
theorem IV{p q:Int}{P Q:Nat}(h:Ab p P)(k:Ab q Q):Ab (p-q) (P+Q):=by
 unfold Ab at *;omega
theorem ahs{p:Int}{P:Nat}(h:Ab p P):Ab (-p) P:=by
 unfold Ab at *;omega
theorem Ab.mono{p:Int}{P Q:Nat}(h:Ab p P)(k:P<=Q):Ab p Q:=dw h k
theorem uF{a b:Int}(ha:1<=a)(hb:1<=b):1<=a*b:=by
 have:0<a*b:=Int.mul_pos (by omega) (by omega);omega
theorem aAb{a b:Int}(ha:1<=a)(hb:1<=b):1<=a+b:=by omega
structure Fq (r:R) (p n:Int):Prop where
 q:r.q=some ((p:Rat) / (n:Rat))
 n:1<=n
theorem Fq.v{r:R}{p n:Int}(h:Fq r p n):r.v=(p:Rat) / (n:Rat):=R.Jp h.q
theorem Fq.ok{r:R}{p n:Int}(h:Fq r p n):r.ok=true:=by rw [xZ,h.q];simp
theorem QU{p n:Int}{P N:Nat}(hn:1<=n)(hp:Ab p P)(hd:Ab n N)(hF:Ft P N=true):norm ((p:Rat) / (n:Rat))=some ((p:Rat) / (n:Rat)) :=
 zn (XJ (arI hp hn (by unfold Ab at hd;omega)) (acK hF).1 (acK hF).2)
theorem ri{a b:Int}(e:a=b):(a:Rat)=(b:Rat):=by rw [e]
theorem aAc{p1 n1 p n:Int}(h1:1<=n1)(h:1<=n)(e:p1*n=p*n1):(p1:Rat) / n1=(p:Rat) / n:=by
 have a1:=mD h1;have a:=mD h;have e':=ri e;simp only [dZ]at e'
 grind
theorem VU{p1 n1 p2 n2 p n:Int}(h1:1<=n1)(h2:1<=n2)(h:1<=n)(e:(p1*n2+p2*n1)*n=p*(n1*n2)):(p1:Rat) / n1+(p2:Rat) / n2=(p:Rat) / n:=by
 have a1:=mD h1;have a2:=mD h2;have a:=mD h;have e':=ri e;simp only [dZ,Rat.intCast_add]at e'
 grind
theorem aht{p1 n1 p2 n2 p n:Int}(h1:1<=n1)(h2:1<=n2)(h:1<=n)(e:(p1*n2-p2*n1)*n=p*(n1*n2)):(p1:Rat) / n1-(p2:Rat) / n2=(p:Rat) / n:=by
 have a1:=mD h1;have a2:=mD h2;have a:=mD h;have e':=ri e;simp only [dZ,Rat.intCast_sub]at e'
 grind
theorem awn{p1 n1 p2 n2 p n:Int}(h1:1<=n1)(h2:1<=n2)(h:1<=n)(e:p1*p2*n=p*(n1*n2)):(p1:Rat) / n1*((p2:Rat) / n2)=(p:Rat) / n:=by
 have a1:=mD h1;have a2:=mD h2;have a:=mD h;have e':=ri e;simp only [dZ]at e'
 grind
theorem awo{p1 n1 p2 n2 p n:Int}(h1:1<=n1)(h2:1<=n2)(h3:1<=p2)(h:1<=n)(e:p1*n2*n=p*(n1*p2)):(p1:Rat) / n1 / ((p2:Rat) / n2)=(p:Rat) / n:=by
 have a1:=mD h1;have a2:=mD h2;have a3:=mD h3;have a:=mD h;have e':=ri e;simp only [dZ]at e'
 grind
theorem Fq.add{r s:R}{p1 n1 p2 n2:Int}(h1:Fq r p1 n1)(h2:Fq s p2 n2){p n:Int}{P N:Nat}(e:(p1*n2+p2*n1)*n=p*(n1*n2))(hn:1<=n)(hp:Ab p P)(hd:Ab n N)(hF:Ft P N=true):Fq (oC r s) p n:=by
 refine⟨?_,hn⟩;rw [SB,h1.q,h2.q];show norm (_+_)=_;rw [VU h1.n h2.n hn e];exact QU hn hp hd hF
theorem Fq.sub{r s:R}{p1 n1 p2 n2:Int}(h1:Fq r p1 n1)(h2:Fq s p2 n2){p n:Int}{P N:Nat}(e:(p1*n2-p2*n1)*n=p*(n1*n2))(hn:1<=n)(hp:Ab p P)(hd:Ab n N)(hF:Ft P N=true):Fq (wL r s) p n:=by
 refine⟨?_,hn⟩;rw [YL,h1.q,h2.q];show norm (_ + -_)=_;rw [<-Rat.sub_eq_add_neg,aht h1.n h2.n hn e];exact QU hn hp hd hF
theorem Fq.mul{r s:R}{p1 n1 p2 n2:Int}(h1:Fq r p1 n1)(h2:Fq s p2 n2){p n:Int}{P N:Nat}(e:p1*p2*n=p*(n1*n2))(hn:1<=n)(hp:Ab p P)(hd:Ab n N)(hF:Ft P N=true):Fq (mulR r s) p n:=by
 refine⟨?_,hn⟩;rw [YM,h1.q,h2.q];show norm (_*_)=_;rw [awn h1.n h2.n hn e];exact QU hn hp hd hF
theorem Fq.div{r s:R}{p1 n1 p2 n2:Int}(h1:Fq r p1 n1)(h2:Fq s p2 n2)(h3:1<=p2){p n:Int}{P N:Nat}(e:p1*n2*n=p*(n1*p2))(hn:1<=n)(hp:Ab p P)(hd:Ab n N)(hF:Ft P N=true):Fq (vS r s) p n:=by
 refine⟨?_,hn⟩;rw [YN,h1.q,h2.q];show (if _=0 then none else norm (_ / _))=_;have hp2:(p2:Rat) / (n2:Rat)≠0:=fun e0=>by
  have:=WJ h3 h2.n;rw [e0]at this;exact absurd this Rat.lt_irrefl
 rw [aN hp2,awo h1.n h2.n h3 hn e];exact QU hn hp hd hF
theorem Fq.neg{r:R}{p n:Int}(h:Fq r p n):Fq (negR r) (-p) n:=by
 refine⟨?_,h.n⟩;rw [agA,h.q,Rat.intCast_neg,<-afd];rfl
theorem Fq.to{r:R}{p1 n1 p n:Int}(h:Fq r p1 n1)(hn:1<=n)(e:p1*n=p*n1):Fq r p n:=⟨by rw [h.q,aAc h.n hn e],hn⟩
theorem aaf:Fq (lC 0) 0 1:=⟨by rw [eF,Rat.intCast_zero,iT];exact JM (n:=0) (by decide),by decide⟩
theorem Fq.pos{r:R}{p n:Int}(h:Fq r p n)(hp:1<=p):0<xI r:=by
 have hv:=WJ hp h.n;have ho:=xZ.1 h.ok;have hq:=h.q;unfold xI;rw [hq];show 0<sgn _;have:0<((p:Rat) / (n:Rat)).num:=by
  rw [Rat.lt_iff,show (0:Rat).num=0 from rfl,show (0:Rat).den=1 from rfl,Int.zero_mul,Int.natCast_one,Int.mul_one]at hv;exact hv
 unfold sgn;rw [aN (by omega),aN (by omega)]
 decide
structure Cm (M:Int) (N B:Nat) (x:Lk):Prop where
 ex:∃n p q:Int,(1<=n/\Ab n N)/\(Ab p B/\Ab q B)/\Fq x.w n M/\Fq x.dx p n/\Fq x.dy q n
theorem Cm.mono{M:Int}{N B N' B':Nat}{x:Lk}(h:Cm M N B x)(hN:N<=N')(hB:B<=B'):Cm M N' B' x:=by
 obtain⟨n,p,q,h1,h2,h3⟩:=h.ex;exact⟨n,p,q,⟨h1.1,h1.2.mono hN⟩,⟨h2.1.mono hB,h2.2.mono hB⟩,h3⟩
theorem Cm.up{M T:Int}{N B TB:Nat}{x:Lk}(h:Cm M N B x)(hT:1<=T)(hB:Ab T TB):Cm (M*T) (N*TB) (B*TB) x:=by
 obtain⟨n,p,q,h1,h2,h3,h4,h5⟩:=h.ex;have hn:=uF h1.1 hT;exact⟨n*T,p*T,q*T,⟨hn,lM h1.2 hB⟩,⟨lM h2.1 hB,lM h2.2 hB⟩,h3.to (uF h3.n hT) (by grind),h4.to hn (by grind),h5.to hn (by grind)⟩
theorem Cm.lk{M:Int}{N B:Nat}{x:Lk}(h:Cm M N B x)(hn:0<=x.a/\x.a<x.b/\x.b<=9):ql x=true:=by
 obtain⟨n,p,q,h1,h2,h3,h4,h5⟩:=h.ex;have hp:=h3.pos h1.1;unfold xI at hp;unfold ql nd;rw [h4.ok,h5.ok,aT hn.2.1,aT hp];simp;omega
def cmF(M N1 B1 N2 B2:Nat):Bool :=
 Ft (N1+N2) M&&Ft (B1+B2) M&&Ft (B1+B2) (N1+N2)&&Ft (N1*N2) (M*M)&&Ft (N1*N2) (M*(N1+N2))&&Ft (B1*N2+B2*N1) (N1*N2)&&Ft (2*((B1*N2+B2*N1)*(B1*N2+B2*N1))) (N1*N2*(N1*N2))&&Ft (2*((B1*N2+B2*N1)*(B1*N2+B2*N1))) (M*((N1+N2)*(N1*N2)))
theorem aoi{P N P' N':Nat}(h:Ft P N=true)(hP:P'<=P)(hN:N'<=N):Ft P' N'=true:=by
 have:=acK h;unfold Ft;rw [aT (iG hP this.1),aT (iG hN this.2)];rfl
theorem aoj{M:Int}{N1 B1 N2 B2 MB:Nat}{x y:Lk}(hx:Cm M N1 B1 x)(hy:Cm M N2 B2 y)(hM:Ab M MB)(hF:cmF MB N1 B1 N2 B2=true) :
  Pj x y=true/\Cm M (N1+N2) (B1+B2) (Ry x y)/\∃p q:Int,1<=q/\Ab q ((N1+N2)*(N1*N2))/\Ab p (2*((B1*N2+B2*N1)*(B1*N2+B2*N1)))/\Fq (Ph x y) p (M*q):=by
 obtain⟨n,p,q,hn,hp,en,ep,eq⟩:=hx.ex;obtain⟨m,a,b,hm,ha,em,ea,eb⟩:=hy.ex;unfold cmF at hF;simp only [aH]at hF;obtain⟨⟨⟨⟨⟨⟨⟨f1,f2⟩,f3⟩,f4⟩,f5⟩,f6⟩,f7⟩,f8⟩:=hF;have hM1:=en.n;have hnm:=uF hn.1 hm.1;have hs:=aAb hn.1 hm.1;have bs:=yx hn.2 hm.2;have bnm:=lM hn.2 hm.2;have eW:Fq (rZ x y) (n+m) M:=en.add em (by grind) hM1 bs hM f1;have c1:∀{r s:R} {u v:Int},Fq r u n->Fq s v m->Ab u B1->Ab v B2->Fq (vS (oC (mulR x.w r) (mulR y.w s)) (rZ x y)) (u+v) (n+m):=fun {r s u v} hr hs' hu hv =>
  Fq.div (Fq.add (Fq.mul en hr (p:=u) (n:=M) (by grind) hM1 hu hM (aoi f2 (by omega) (aJ _))) (Fq.mul em hs' (p:=v) (n:=M) (by grind) hM1 hv hM (aoi f2 (by omega) (aJ _))) (p:=u+v) (n:=M) (by grind) hM1 (yx hu hv) hM f2) eW hs (by grind) hs (yx hu hv) bs f3
 have eX:Fq (IY x y) (p+a) (n+m):=c1 ep ea hp.1 ha.1;have eY:Fq (OV x y) (q+b) (n+m):=c1 eq eb hp.2 ha.2;have sx:=ep.sub ea (p:=p*m-a*n) (n:=n*m) (by grind) hnm (IV (lM hp.1 hm.2) (lM ha.1 hn.2)) bnm f6;have sy:=eq.sub eb (p:=q*m-b*n) (n:=n*m) (by grind) hnm (IV (lM hp.2 hm.2) (lM ha.2 hn.2)) bnm f6;have bx:=IV (lM hp.1 hm.2) (lM ha.1 hn.2);have by':=IV (lM hp.2 hm.2) (lM ha.2 hn.2);have f7':∀{Z:Nat},Z=(B1*N2+B2*N1)*(B1*N2+B2*N1)->Ft Z (N1*N2*(N1*N2))=true:=fun e=>aoi f7 (by omega) (aJ _);have hnn:=uF hnm hnm;have qx:=sx.mul sx (p:=(p*m-a*n)*(p*m-a*n)) (n:=n*m*(n*m)) (by grind) hnn (lM bx bx) (lM bnm bnm) (f7' rfl);have qy:=sy.mul sy (p:=(q*m-b*n)*(q*m-b*n)) (n:=n*m*(n*m)) (by grind) hnn (lM by' by') (lM bnm bnm) (f7' rfl);have bS:Ab ((p*m-a*n)*(p*m-a*n)+(q*m-b*n)*(q*m-b*n)) (2*((B1*N2+B2*N1)*(B1*N2+B2*N1))):=(yx (lM bx bx) (lM by' by')).mono (by omega);have sq:=qx.add qy (p:=(p*m-a*n)*(p*m-a*n)+(q*m-b*n)*(q*m-b*n)) (n:=n*m*(n*m)) (by grind) hnn bS (lM bnm bnm) f7;have wm:=en.mul em (p:=n*m) (n:=M*M) (by grind) (uF hM1 hM1) bnm (lM hM hM) f4;have hMs:=uF hM1 hs;have wd:=wm.div eW hs (p:=n*m) (n:=M*(n+m)) (by grind) hMs bnm (lM hM bs) f5;have hq:=uF hs hnm;have eE:Fq (Ph x y) _ _:=wd.mul sq (p:=(p*m-a*n)*(p*m-a*n)+(q*m-b*n)*(q*m-b*n)) (n:=M*((n+m)*(n*m))) (by grind) (uF hM1 hq) bS (lM hM (lM bs bnm)) f8;refine⟨by unfold Pj;rw [eW.ok,eX.ok,eY.ok,eE.ok];rfl,⟨n+m,p+a,q+b,⟨hs,bs⟩,⟨yx hp.1 ha.1,yx hp.2 ha.2⟩,eW,eX,eY⟩,_,_,hq,lM bs bnm,bS,eE⟩
def jbF(M P N K:Nat):Bool:=(List.range (K+1)).all fun k=>Ft (hb P N k).1 (M*(hb P N k).2)
theorem aok{M P N K k:Nat}(h:jbF M P N K=true)(hk:k<=K):Ft (hb P N k).1 (M*(hb P N k).2)=true:=by
 unfold jbF at h;exact bg.1 h k (fF.2 (by omega))
theorem acW{P N:Nat}(hN:1<=N):∀k,(hb P N k).1<=(hb P N (k+1)).1/\(hb P N k).2<=(hb P N (k+1)).2:=fun k=>by
 have h1:(hb P N (k+1)).1=(hb P N k).1*N+P*(hb P N k).2:=rfl;have h2:(hb P N (k+1)).2=(hb P N k).2*N:=rfl;have h3:(hb P N k).1*1<=(hb P N k).1*N:=Nat.mul_le_mul_left _ hN;have h4:(hb P N k).2*1<=(hb P N k).2*N:=Nat.mul_le_mul_left _ hN;omega
structure JI (L:List Lk) (r:Nat) (M:Int) (N1 B1 N2 B2:Nat) (k:Nat) (S:List Lk) (e:R):Prop where
 pr:∀y∈S,∃j,j<k/\y.a=(L.getD j default).a/\y.b=(L.getD j default).b
 cm:∀y∈S,Cm M N1 B1 y\/(Cm M (N1+N2) (B1+B2) y/\∃j,r<=j/\j<k/\y.a=(L.getD j default).a/\y.b=(L.getD j default).b)
 e:∃p q:Int,1<=q/\Ab p (hb (2*((B1*N2+B2*N1)*(B1*N2+B2*N1))) ((N1+N2)*(N1*N2)) (k-r)).1/\Ab q (hb (2*((B1*N2+B2*N1)*(B1*N2+B2*N1))) ((N1+N2)*(N1*N2)) (k-r)).2/\Fq e p (M*q)
theorem atg{L:List Lk}{r:Nat}{M:Int}{N1 B1 N2 B2 MB K:Nat}(hM:Ab M MB)(hM1:1<=M)(hr:r<=L.length)(hl:L.length-r<=K)(h1:∀j,j<r->Cm M N1 B1 (L.getD j default))(h2:∀j,r<=j->j<L.length->Cm M N2 B2 (L.getD j default))
  (hn:∀x∈L,0<=x.a/\x.a<x.b/\x.b<=9) (hd:∀i j,i<j->j<L.length->(r<=i\/j<r)->¬((L.getD i default).a=(L.getD j default).a/\(L.getD i default).b=(L.getD j default).b))
  (hN:1<=N1/\1<=N2) (hF:r<L.length->cmF MB N1 B1 N2 B2=true) (hJ:jbF MB (2*((B1*N2+B2*N1)*(B1*N2+B2*N1))) ((N1+N2)*(N1*N2)) K=true) :
  ∀k,k<=L.length->∃S e,OW L k=some (S,e)/\JI L r M N1 B1 N2 B2 k S e
 |0,_=>⟨[],lC 0,rfl,by simp,by simp,0,1,by decide,by simp [Ab],by rw [Nat.zero_sub];exact aJ 1,aaf.to (by omega) (by omega)⟩
 |
  k+1,hk=>by
  obtain⟨S,e,hf,hJI⟩:=atg hM hM1 hr hl h1 h2 hn hd hN hF hJ k (by omega);have i1:=(UL hf).1;dsimp only at i1;have hmem:=getD_mem (l:=L) (i:=k) (by omega);have hnx:=hn _ hmem;generalize hxe:L.getD k default=x at hmem hnx;have hxo:ql x=true:=by
   rcases dW k r with hkr|hkr
   ·have:=h1 k hkr;rw [hxe]at this;exact this.lk hnx
   have:=h2 k hkr (by omega);rw [hxe]at this;exact this.lk hnx
  have hmg:∀y∈S,y.a=x.a->y.b=x.b->r<=k/\Cm M N1 B1 y/\Cm M N2 B2 x:=fun y hy ea eb=>by
   obtain⟨j,hj,ja,jb⟩:=hJI.pr y hy;have hkr:r<=k:=by
    rcases dW k r with hkr|hkr
    ·exact absurd ⟨by rw [hxe];omega,by rw [hxe];omega⟩ (hd j k hj (by omega) (.inr hkr))
    exact hkr
   have:=h2 k hkr (by omega);rw [hxe]at this;refine⟨hkr,?_,this⟩;rcases hJI.cm y hy with h|⟨_,j',hj1,hj2,ja',jb'⟩
   ·exact h
   exact absurd ⟨by rw [hxe];omega,by rw [hxe];omega⟩ (hd j' k hj2 (by omega) (.inl hj1))
  have hmm:=fun y hy ea eb=>aoj (hmg y hy ea eb).2.1 (hmg y hy ea eb).2.2 hM (hF (by have:=(hmg y hy ea eb).1;omega));obtain⟨t,e',hr',hc⟩:=aiQ i1 hxo fun y hy ea eb=>(hmm y hy ea eb).1;obtain⟨g1,g2,g3⟩:=KX i1 hxo;rw [hr']at g1 g2 g3;have g1:adV S x=t:=g1;have g2:adE S x=e':=g2;have g3:UJ S x=true:=g3;refine⟨t,oC e e',by simp only [OW,hf,hxe,g3,if_true,g1,g2],?_⟩;obtain⟨p,q,hq1,hp,hq,he⟩:=hJI.e;have hNN:1<=(N1+N2)*(N1*N2):=by
   have h3:0<(N1+N2)*(N1*N2):=Nat.mul_pos (by omega) (Nat.mul_pos (by omega) (by omega));omega
  rcases hc with ⟨h,rfl⟩|⟨y,hy,ea,eb,h,rfl⟩
  ·refine⟨fun z hz=>?_,fun z hz=>?_,p,q,hq1,?_,?_,?_⟩
   ·rcases h z hz with hz|rfl
    ·obtain⟨j,hj,ja⟩:=hJI.pr z hz;exact⟨j,by omega,ja⟩
    exact⟨k,by omega,by rw [hxe],by rw [hxe]⟩
   ·rcases h z hz with hz|rfl
    ·rcases hJI.cm z hz with h|⟨h,j,hj1,hj2,hj3⟩
     ·exact .inl h
     exact .inr ⟨h,j,hj1,by omega,hj3⟩
    rcases dW k r with hkr|hkr
    ·have:=h1 k hkr;rw [hxe]at this;exact .inl this
    have:=h2 k hkr (by omega);rw [hxe]at this;exact .inr ⟨this.mono (by omega) (by omega),k,hkr,by omega,by rw [hxe],by rw [hxe]⟩
   ·rcases dW k r with hkr|hkr
    ·rw [show k+1-r=k-r by omega];exact hp
    rw [show k+1-r=k-r+1 by omega];exact hp.mono (acW hNN _).1
   ·rcases dW k r with hkr|hkr
    ·rw [show k+1-r=k-r by omega];exact hq
    rw [show k+1-r=k-r+1 by omega];exact hq.mono (acW hNN _).2
   exact he.add aaf (by grind) (uF hM1 hq1) hp (lM hM hq) (aok hJ (by omega))
  obtain⟨hkr,cy,cx⟩:=hmg y hy ea eb;obtain⟨_,cm,p2,q2,hq2,bq2,bp2,hE⟩:=hmm y hy ea eb;have hma:(Ry y x).a=y.a:=rfl;have hmb:(Ry y x).b=y.b:=rfl;refine⟨fun z hz=>?_,fun z hz=>?_,p*q2+p2*q,q*q2,uF hq1 hq2,?_,?_,?_⟩
  ·rcases h z hz with hz|rfl
   ·obtain⟨j,hj,ja⟩:=hJI.pr z hz;exact⟨j,by omega,ja⟩
   exact⟨k,by omega,by rw [hxe,hma,ea],by rw [hxe,hmb,eb]⟩
  ·rcases h z hz with hz|rfl
   ·rcases hJI.cm z hz with h|⟨h,j,hj1,hj2,hj3⟩
    ·exact .inl h
    exact .inr ⟨h,j,hj1,by omega,hj3⟩
   exact .inr ⟨cm,k,hkr,by omega,by rw [hxe,hma,ea],by rw [hxe,hmb,eb]⟩
  ·rw [show k+1-r=k-r+1 by omega];exact yx (lM hp bq2) (lM bp2 hq)
  ·rw [show k+1-r=k-r+1 by omega];exact lM hq bq2
  have hF2:=aok (k:=k-r+1) hJ (by omega);exact he.add hE (by grind) (uF hM1 (uF hq1 hq2)) (yx (lM hp bq2) (lM bp2 hq)) (lM hM (lM hq bq2)) hF2
def wN(M:Int)(a:Pa):Int:=(a.share.v*(M:Rat)).num
def xN(M:Int)(a:Pa):Int:=(a.share.v*(M:Rat)*a.dx.v).num
def yN(M:Int)(a:Pa):Int:=(a.share.v*(M:Rat)*a.dy.v).num
structure Am (M:Int) (N B:Nat) (a:Pa):Prop where
 n:1<=wN M a/\Ab (wN M a) N
 p:Ab (xN M a) B/\Ab (yN M a) B
 w:Fq a.share (wN M a) M
 x:Fq a.dx (xN M a) (wN M a)
 y:Fq a.dy (yN M a) (wN M a)
theorem ath{M:Int}{N B:Nat}{a:Pa}{n p q:Int}(h1:1<=n/\Ab n N)(h2:Ab p B/\Ab q B)(hw:Fq a.share n M)(hx:Fq a.dx p n)(hy:Fq a.dy q n):Am M N B a:=by
 have hM:=mD hw.n;have hn:=mD h1.1;have k:∀n m:Rat,m≠0->n / m*m=n:=fun n m h=>by grind
 have k2:∀p n:Rat,n≠0->n*(p / n)=p:=fun n m h=>by grind
 have e1:wN M a=n:=by unfold wN;rw [hw.v,k _ _ hM,Rat.num_intCast]
 have e2:xN M a=p:=by unfold xN;rw [hw.v,k _ _ hM,hx.v,k2 _ _ hn,Rat.num_intCast]
 have e3:yN M a=q:=by unfold yN;rw [hw.v,k _ _ hM,hy.v,k2 _ _ hn,Rat.num_intCast]
 exact⟨by rw [e1];exact h1,by rw [e2,e3];exact h2,by rw [e1];exact hw,by rw [e1,e2];exact hx,by rw [e1,e3];exact hy⟩
theorem aAd{M:Int}{N B:Nat}{l:Lk}(h:Cm M N B l)(v:Int):Am M N B (Zi v l):=by
 obtain⟨n,p,q,h1,h2,h3,h4,h5⟩:=h.ex;unfold Zi;split
 ·exact ath h1 ⟨ahs h2.1,ahs h2.2⟩ h3 h4.neg h5.neg
 exact ath h1 h2 h3 h4 h5
def Qq(f:Pa->Int):List Pa->Int
 | []=>0
 |a::l=>f a+Qq f l
theorem aja(f:Pa->Int):∀A B:List Pa,Qq f (A++B)=Qq f A+Qq f B
 | [],B=>by simp only [iU,Qq,Int.zero_add]
 |a::A,B=>by simp only [dI,Qq,aja f A B,Int.add_assoc]
theorem Zo(f:Pa->Int){l:List Pa}{k:Nat}(h:k<l.length):Qq f (l.take (k+1))=Qq f (l.take k)+f (l.getD k default):=by
 rw [take_snoc h,aja];show _+(f _+0)=_;rw [Int.add_zero]
theorem aol{f:Pa->Int}{N:Nat}:∀{A:List Pa},(∀a∈A,Ab (f a) N)->Ab (Qq f A) (A.length*N)
 | [],_=>by simp [Qq,Ab]
 |
  a::A,h=>by
  have:=yx (h a (by simp)) (aol (A:=A) fun x hx=>h x (by simp [hx]));simp only [Qq,au];exact this.mono (by rw [fA];omega)
theorem KZ{f:Pa->Int}{N m:Nat}{A:List Pa}(h:∀a∈A,Ab (f a) N)(hm:A.length<=m)(k:Nat):Ab (Qq f (A.take k)) (m*N) :=
 (aol fun a ha=>h a (dH ha)).mono (dG _ (by simp;omega))
theorem ajb{f:Pa->Int}:∀{A:List Pa},(∀a∈A,1<=f a)->(A.length:Int)<=Qq f A
 | [],_=>by simp [Qq]
 |
  a::A,h=>by
  have:=ajb (A:=A) fun x hx=>h x (by simp [hx]);have:=h a (by simp);simp only [Qq,au];omega
theorem Qr{f:Pa->Rat}{g:Pa->Int}{M:Int}:∀{A:List Pa},(∀a∈A,f a=(g a:Rat) / (M:Rat))->sm f A=(Qq g A:Rat) / (M:Rat)
 | [],_=>by simp only [sm,Qq];rw [Rat.intCast_zero,eF,iT]
 |
  a::A,h=>by
  simp only [sm,Qq];rw [h a (by simp),Qr (A:=A) fun x hx=>h x (by simp [hx]),Rat.intCast_add,eF,eF,eF,Rat.add_mul]
structure Ar (v D:Int) (N B m:Nat) (A:List Pa):Prop where
 am:∀a∈A,Am D N B a
 nd:∀a∈A,0<=a.node/\a.node<=9/\a.node≠v
 asc:A.Pairwise fun a b=>a.node<b.node
 len:1<=A.length/\A.length<=m
 v:1<=v/\v<=9
 d:1<=D
def WL(D:Int)(A:List Pa):Int:=Qq (wN D) A
def arF(DB N B m:Nat):Bool:=Ft (m*N) DB&&Ft N (m*N)&&Ft (m*N) (m*N)&&Ft (N*N) (DB*DB)&&Ft (N*N) (DB*(m*N))&&Ft (B*N+B*N) (N*N)
theorem Ar.t{v D:Int}{N B m:Nat}{A:List Pa}(h:Ar v D N B m A):1<=WL D A/\Ab (WL D A) (m*N):=by
 have h1:=ajb (f:=wN D) (A:=A) fun a ha=>(h.am a ha).n.1;have h2:=h.len;have h3:=KZ (f:=wN D) (m:=m) (A:=A) (fun a ha=>(h.am a ha).n.2) h.len.2 A.length;rw [bI]at h3;unfold WL;exact⟨by omega,h3⟩
theorem aom{v D:Int}{N B m DB:Nat}{A:List Pa}(h:Ar v D N B m A)(hD:Ab D DB)(hF:Ft (m*N) DB=true):∀k,k<=A.length->Fq (Ob A k) (Qq (wN D) (A.take k)) D
 |0,_=>by rw [ab8,List.take_zero];exact aaf.to h.d (by simp [Qq])
 |
  k+1,hk=>by
  have ih:=aom h hD hF k (by omega);have hm:=h.am _ (getD_mem (l:=A) (i:=k) (by omega));have hb:=KZ (f:=wN D) (m:=m) (A:=A) (fun a ha=>(h.am a ha).n.2) h.len.2 (k+1);rw [ab9 A (by omega)];rw [Zo _ (by omega)]at hb ⊢;exact ih.add hm.w (by grind) h.d hb hD hF
theorem ahu{v D:Int}{N B m DB:Nat}{A:List Pa}(h:Ar v D N B m A)(hD:Ab D DB)(hF:Ft (m*N) DB=true):Fq (rQ A) (WL D A) D:=by
 have:=aom h hD hF A.length (aJ _);rw [bI]at this;exact this
theorem Zp{v D:Int}{N B m DB:Nat}{A:List Pa}(h:Ar v D N B m A)(hD:Ab D DB)(hF:arF DB N B m=true){a:Pa}(ha:a∈A):Fq (vS a.share (rQ A)) (wN D a) (WL D A):=by
 unfold arF at hF;simp only [aH]at hF;obtain⟨⟨⟨⟨⟨f1,f2⟩,_⟩,_⟩,_⟩,_⟩:=hF;have j:=h.am a ha;have ht:=h.t;exact j.w.div (ahu h hD f1) ht.1 (by grind) ht.1 j.n.2 ht.2 f2
theorem aon{v D:Int}{N B m DB:Nat}{A:List Pa}(h:Ar v D N B m A)(hD:Ab D DB)(hF:arF DB N B m=true):xA (pI v A)=true:=by
 have hF':=hF;unfold arF at hF;simp only [aH]at hF;obtain⟨⟨⟨⟨⟨f1,f2⟩,f3⟩,_⟩,_⟩,_⟩:=hF;have hT:=ahu h hD f1;have ht:=h.t;have hl:=h.len;have hv:=h.v;have hpl:(pI v A).ps.length=A.length:=aV ..;have hpa:aq2 (pI v A):=fun i hi=>by
  rw [hpl]at hi;have hm:=getD_mem (l:=A) (i:=i) hi;have j:=h.am _ hm;have hp:=(Zp h hD hF' hm).pos j.n.1;unfold O9;rw [Fb hi];have aAe:(decide (i=0)||decide (((pI v A).ps.getD (i-1) default).node<(Ky (rQ A) (A.getD i default)).node))=true:=by
   rcases iw i with h0|h0
   ·rw [aT h0];rfl
   rw [Fb (by omega)];have:=fU.1 h.asc (i-1) i (by omega) hi (by omega);rw [dX];refine .inr (aT ?_);show (A.getD (i-1) default).node<(A.getD i default).node;rw [aj,ak (by omega),aj,ak hi];exact this
  rw [aAe];have nd:=h.nd _ hm;show (inB (A.getD i default).node 0 9 && !decide ((A.getD i default).node=v)&&true&&decide (0<xI (vS (A.getD i default).share (rQ A)))&&(A.getD i default).dx.ok&&(A.getD i default).dy.ok)=true;rw [aT hp,j.x.ok,j.y.ok,bH nd.2.2];unfold inB;rw [aT nd.1,aT nd.2.1];rfl
 rw [amJ hpa];have h1:inB (pI v A).node 1 9=true:=by
  show inB v 1 9=true;unfold inB;rw [aT hv.1,aT hv.2];rfl
 have h2:0<xI (pI v A).total:=hT.pos ht.1;have h3:(pI v A).ps.isEmpty=false:=by
  cases he:(pI v A).ps with
  |nil=>rw [he]at hpl;simp at hpl;omega
  |cons _ _=>rfl
 have h4:Ob (pI v A).ps (pI v A).ps.length=lC 1:=by
  have key:∀k,k<=A.length->Fq (Ob (pI v A).ps k) (Qq (wN D) (A.take k)) (WL D A):=fun k=>by
   induction k with
   |zero=>intro _;rw [ab8,List.take_zero];exact aaf.to ht.1 (by simp [Qq])
   |
    succ k ih =>
    intro hk;have hb:=KZ (f:=wN D) (m:=m) (A:=A) (fun a ha=>(h.am a ha).n.2) h.len.2 (k+1);rw [ab9 _ (by omega),Fb (by omega)];rw [Zo _ (by omega)]at hb ⊢;exact(ih (by omega)).add (Zp h hD hF' (getD_mem (by omega))) (by grind) ht.1 hb ht.2 f3
  have hk:=key A.length (aJ _);rw [bI]at hk;rw [hpl];have h1:=hk.to (p:=1) (n:=1) (by decide) (by unfold WL;omega);have e:(lC 1).q=some (((1:Int):Rat) / ((1:Int):Rat)):=by
   rw [show ((1:Int):Rat) / ((1:Int):Rat)=((1:Int):Rat) by rw [Rat.intCast_one];exact akI 1 (by decide)];exact JM (n:=1) (by decide)
  rw [<-Uw (pI v A).ps A.length,<-wO (n:=1) (by decide),h1.q,e]
 rw [h1,aT h2,h3,aT h4];rfl
theorem aAf{v D:Int}{N B m DB:Nat}{A:List Pa}(h:Ar v D N B m A)(hD:Ab D DB)(hF:arF DB N B m=true){a b:Pa}(ha:a∈A)(hb:b∈A):Cm (D*WL D A) (N*N) (B*N+B*N) (MI (rQ A) a b):=by
 unfold arF at hF;simp only [aH]at hF;obtain⟨⟨⟨⟨⟨f1,f2⟩,f3⟩,f4⟩,f5⟩,f6⟩:=hF;have hT:=ahu h hD f1;have ht:=h.t;have hd:=h.d;have ja:=h.am a ha;have jb:=h.am b hb;have hnm:=uF ja.n.1 jb.n.1;have bnm:=lM ja.n.2 jb.n.2;have hw:=(ja.w.mul jb.w (p:=wN D a*wN D b) (n:=D*D) (by grind) (uF hd hd) bnm (lM hD hD) f4).div hT ht.1 (p:=wN D a*wN D b) (n:=D*WL D A) (by grind) (uF hd ht.1) bnm (lM hD ht.2) f5;have bx:=IV (lM ja.p.1 jb.n.2) (lM jb.p.1 ja.n.2);have by':=IV (lM ja.p.2 jb.n.2) (lM jb.p.2 ja.n.2);have hx:=ja.x.sub jb.x (p:=xN D a*wN D b-xN D b*wN D a) (n:=wN D a*wN D b) (by grind) hnm bx bnm f6;have hy:=ja.y.sub jb.y (p:=yN D a*wN D b-yN D b*wN D a) (n:=wN D a*wN D b) (by grind) hnm by' bnm f6;exact⟨_,_,_,⟨hnm,bnm⟩,⟨bx,by'⟩,hw,hx,hy⟩
theorem Ar.aAg{v D:Int}{N B m:Nat}{A:List Pa}(h:Ar v D N B m A):akG A:=fun i j hij hj=>by
 have:=fU.1 h.asc i j (by omega) hj hij;rw [aj,ak (by omega),aj,ak hj];exact this
theorem aoo{v D:Int}{N B m DB:Nat}{A:List Pa}(h:Ar v D N B m A)(hD:Ab D DB)(hF:arF DB N B m=true):∀x∈Oy A,Cm (D*WL D A) (N*N) (B*N+B*N) x/\0<=x.a/\x.a<x.b/\x.b<=9:=fun x hx=>by
 obtain⟨i,k,_,h2,h3,rfl⟩:=Ko hx;have m1:=getD_mem (l:=A) (i:=i) (by omega);have m2:=getD_mem (l:=A) (i:=k) h3;have n1:=h.nd _ m1;have n2:=h.nd _ m2;exact⟨aAf h hD hF m1 m2,n1.1,h.aAg i k h2 h3,n2.2.1⟩
theorem aAh{S:List Lk}{v D:Int}{N B m DB:Nat}(hS:lN S=true)(h:Ar v D N B m (pO S v))(hD:Ab D DB)(hF:arF DB N B m=true):XL S v=true:=by
 have hv:=h.v;unfold XL;rw [hS,aon h hD hF,bg.2 fun x hx=>(aoo h hD hF x hx).1.lk (aoo h hD hF x hx).2];unfold inB;rw [aT hv.1,aT hv.2];rfl
theorem aAi{S:List Lk}{v D:Int}{N B m:Nat}(hS:lN S=true)(hC:∀x∈S,Cm D N B x)(hD:1<=D)(hv:1<=v/\v<=9)(hl:1<=(pO S v).length/\(pO S v).length<=m):Ar v D N B m (pO S v):=by
 refine⟨?_,?_,?_,hl,hv,hD⟩
 ·rw [Ny];intro a ha;obtain⟨l,hl,rfl⟩:=bF.1 ha;exact aAd (hC l (fG.1 hl).1) v
 ·rw [Ny];intro a ha;obtain⟨l,hl,rfl⟩:=bF.1 ha;obtain⟨h1,h2⟩:=fG.1 hl;have n:=qp (oL hS h1);unfold stP at h2;simp only [dX,aZ]at h2;unfold Zi;split<;>(dsimp only;omega)
 have e:=(ai0 hS v).symm;have hn:Asc (nbI S v S.length):=by rw [<-asX hS v];exact Xx _ _ .nil
 rw [e,iM];refine List.Pairwise.imp ?_ hn;intro a b hab;unfold Zf;split<;>split<;>exact hab
def mK(m:Nat):Nat:=m*(m-1) / 2
theorem aop{A:List Pa}{m:Nat}(h:A.length<=m)(hm:m<=5):(Oy A).length<=mK m:=by
 have key:∀k,k<=A.length->(uo A k).length=(List.range k).foldl (fun s i=>s+(A.length-(i+1))) 0:=fun k=>by
  induction k with
  |zero=>intro _;rfl
  |
   succ k ih =>
   intro hk;rw [iV,jZ,iE,jf,<-ih (by omega)];show (uo A k++xH A k (A.length-(k+1))).length=_;rw [aS]
   congr 1
   unfold xH;simp
 unfold Oy;rw [key _ (aJ _)];generalize A.length=n at h;have k2:∀m,m<6->∀n,n<m+1->(List.range n).foldl (fun s i=>s+(n-(i+1))) 0<=mK m:=by decide
 exact k2 m (by omega) n (by omega)
def n1(N m:Nat):Nat:=N*(m*N)+N*N
def b1(N B m:Nat):Nat:=B*(m*N)+(B*N+B*N)
def stF(DB N B m:Nat):Bool:=arF DB N B m&&(decide (m<=1)||cmF (DB*(m*N)) (N*(m*N)) (B*(m*N)) (N*N) (B*N+B*N)) &&
 jbF (DB*(m*N)) (2*((B*(m*N)*(N*N)+(B*N+B*N)*(N*(m*N)))*(B*(m*N)*(N*N)+(B*N+B*N)*(N*(m*N))))) ((N*(m*N)+N*N)*(N*(m*N)*(N*N))) (mK m)
theorem UZ{α:Type}{A B:List α}{d:α}{j:Nat}:(A++B).getD j d=if j<A.length then A.getD j d else B.getD (j-A.length) d:=by
 rw [aj];split
 ·rename_i h;rw [bK h,aj]
 rename_i h;rw [bW (by omega),aj]
theorem aoq{S:List Lk}(h:S.Pairwise fun k l=>lW k l=true){i j:Nat}(hij:i<j)(hj:j<S.length):¬((S.getD i default).a=(S.getD j default).a/\(S.getD i default).b=(S.getD j default).b):=by
 have:=fU.1 h i j (by omega) hj hij;rw [aj,ak (by omega),aj,ak hj];rw [xB]at this;show ¬(S[i].a=S[j].a/\S[i].b=S[j].b);omega
theorem aAj{S:List Lk}{v D:Int}{N B m DB:Nat}(hS:lN S=true)(hC:∀x∈S,Cm D N B x)(hD1:1<=D)(hD:Ab D DB)(hv:1<=v/\v<=9)(hl:1<=(pO S v).length/\(pO S v).length<=m)(hm:m<=5)(hN:1<=N)(hF:stF DB N B m=true) :
  Ar v D N B m (pO S v)/\OZ S v=true/\∀x∈XR S v,Cm (D*WL D (pO S v)) (n1 N m) (b1 N B m) x:=by
 have hA:=aAi (B:=B) (N:=N) hS hC hD1 hv hl;unfold stF at hF;simp only [aH,dX,aZ]at hF;obtain⟨⟨f1,f2⟩,f3⟩:=hF;have hB:=aAh hS hA hD f1;obtain⟨eC,eM⟩:=afa hB;have ht:=hA.t;have hms:=aoo hA hD f1;have hml:=aop hl.2 hm;have hL:TJ S v=S.filter (Xz v)++Oy (pO S v):=by unfold TJ;rw [eM]
 have hpw:=(rU.1 hS).2.filter (Xz v);have hmw:=abk hA.aAg _ (aJ (pO S v).length);have hr:∀x∈S.filter (Xz v),x∈S:=fun x hx=>(fG.1 hx).1;generalize S.filter (Xz v)=W at hL hpw hr;have hm1:1<=m:=by omega
 have hT1:1<=m*N:=Nat.mul_pos hm1 hN;have hNN:1<=N*N:=Nat.mul_pos hN hN;have hlen:(TJ S v).length=W.length+(Oy (pO S v)).length:=by rw [hL,aS]
 obtain⟨S',e,hf,hj⟩:=atg (L:=TJ S v) (r:=W.length) (M:=D*WL D (pO S v)) (MB:=DB*(m*N)) (K:=mK m) (N1:=N*(m*N)) (B1:=B*(m*N)) (N2:=N*N) (B2:=B*N+B*N)
  (lM hD ht.2) (uF hD1 ht.1) (by omega) (by omega)
  (fun j hj=>by
   rw [hL,UZ,aQ hj];exact(hC _ (hr _ (getD_mem hj))).up ht.1 ht.2)
  (fun j hj hj2=>by
   rw [hL,UZ,aN (by omega)];exact(hms _ (getD_mem (by omega))).1)
  (fun x hx=>by
   rw [hL]at hx;rcases aK.1 hx with hx|hx
   ·exact qp (oL hS (hr x hx))
   exact(hms x hx).2)
  (fun i j hij hj hc=>by
   rw [hL,UZ,UZ];rcases hc with hc|hc
   ·rw [aN (by omega),aN (by omega)];exact aoq hmw (by omega) (by show j-W.length<(Oy (pO S v)).length;omega)
   rw [aQ (by omega),aQ hc];exact aoq hpw hij hc)
  ⟨Nat.mul_pos hN hT1,hNN⟩
  (fun h=>by
   rcases f2 with h1|h1
   ·exfalso;have:mK m=0:=by
               have:m=1:=by omega
               rw [this];rfl
    omega
   exact h1)
  f3 (TJ S v).length (aJ _)
 obtain⟨p,q,_,_,_,he⟩:=hj.e;have hg:U5 (TJ S v)=some (S',e):=by unfold U5;rw [hf];exact aQ he.ok
 have ho:Gl (TJ S v)=true:=by unfold Gl;rw [hg];rfl
 have hb:OZ S v=true:=by unfold OZ;rw [hB,ho];rfl
 have e1:XR S v=S':=by rw [(aad hb).2.1];unfold Pq;rw [hg];rfl
 refine⟨hA,hb,fun x hx=>?_⟩;rw [e1]at hx;rcases hj.cm x hx with h|⟨h,_⟩
 ·exact h.mono (by unfold n1;omega) (by unfold b1;omega)
 exact h
def stE(a b:Nat)(s:Gd×Nat):Gd×Nat:=(Le (Le s.1 a b true) b a true,if s.1 a b=true then s.2 else s.2+1)
def ej(L:List Int)(i:Nat)(s:Gd×Nat):Nat->Gd×Nat
 |0=>s
 |k+1=>stE (L.getD i 0).toNat (L.getD (i+1+k) 0).toNat (ej L i s k)
def ez(a v:Nat)(s:Gd×Nat):Gd×Nat:=(Le (Le s.1 a v false) v a false,s.2)
def ei(L:List Int)(v:Nat)(g:Gd):Nat->Gd×Nat
 |0=>(g,0)
 |i+1=>ez (L.getD i 0).toNat v (ej L i (ei L v g i) (L.length-(i+1)))
structure Gok (g:Gd):Prop where
 irr:∀x,g x x=false
 sym:∀x y,g x y=g y x
theorem ajc(g:Gd)(i j x y:Nat)(b:Bool):Le g i j b x y=if x=i/\y=j then b else g x y:=rfl
theorem Zq(g:Gd)(i j x y:Nat)(b:Bool):Le (Le g i j b) j i b x y=if (x=i/\y=j)\/(x=j/\y=i)then b else g x y:=by
 rw [ajc,ajc];by_cases h1:x=j/\y=i
 ·rw [aQ h1,aQ (.inr h1)]
 rw [aN h1];by_cases h2:x=i/\y=j
 ·rw [aQ h2,aQ (.inl h2)]
 rw [aN h2,aN (by rintro(h|h);exact h2 h;exact h1 h)]
theorem Gok.set2{g:Gd}(h:Gok g){i j:Nat}(b:Bool)(hij:i≠j\/b=false):Gok (Le (Le g i j b) j i b):=by
 refine⟨fun x=>?_,fun x y=>?_⟩
 ·rw [Zq];by_cases h1:(x=i/\x=j)\/(x=j/\x=i)
  ·rw [aQ h1];rcases hij with hij|hij
   ·exfalso;rcases h1 with ⟨h1,h2⟩|⟨h1,h2⟩
    ·exact hij (h1.symm.trans h2)
    exact hij (h2.symm.trans h1)
   exact hij
  rw [aN h1];exact h.irr x
 rw [Zq,Zq,h.sym x y];by_cases h1:(x=i/\y=j)\/(x=j/\y=i)
 ·rw [aQ h1,aQ (by rcases h1 with ⟨h1,h2⟩|⟨h1,h2⟩;exact .inr ⟨h2,h1⟩;exact .inl ⟨h2,h1⟩)]
 rw [aN h1,aN (by rintro(⟨h2,h3⟩|⟨h2,h3⟩);exact h1 (.inr ⟨h3,h2⟩);exact h1 (.inl ⟨h3,h2⟩))]
theorem awq:Gok gz:=⟨fun _=>rfl,fun _ _=>rfl⟩
theorem ajd{l:List Lk}(hok:lN l=true):∀k,k<=l.length->Gok (gOf l k)
 |0,_=>awq
 |
  k+1,hk=>by
  have h:=qp (wS hok (k:=k) (by omega));exact(ajd hok k (by omega)).set2 true (.inl (by omega))
structure aJD (g:Gd) (v:Nat) (xs:List Nat) (sI sS:Gd×Nat):Prop where
 n:sS.2=sI.2
 eq:∀x y,x≠v->y≠v->sS.1 x y=sI.1 x y
 ok:Gok sI.1
 row:∀y,sI.1 v y=g v y
 rs:∀y,sS.1 v y=(g v y&&decide (y∈xs\/10<=y))
 cs:∀y,sS.1 y v=(g v y&&decide (y∈xs\/10<=y))
structure aJE (g:Gd) (v:Nat) (f:Nat->Bool) (sI sS:Gd×Nat):Prop where
 n:sS.2=sI.2
 eq:∀x y,x≠v->y≠v->sS.1 x y=sI.1 x y
 ok:Gok sI.1
 row:∀y,sI.1 v y=g v y
 rs:∀y,sS.1 v y=f y
 cs:∀y,sS.1 y v=f y
theorem aor{v:Nat}{g:Gd}(h:Gok g):∀n,Gok (cz v g n)
 |0=>h
 |n+1=>(aor h n).set2 false (.inr rfl)
theorem aos{v i:Nat}{s:Gd×Nat}(h:Gok s.1):∀n,Gok (cj v i s n).1
 |0=>h
 |
  n+1=>by
  have ih:=aos (v:=v) (i:=i) h n;unfold cj;split
  ·unfold stp;split
   ·exact ih.set2 true (.inl (by omega))
   exact ih
  exact h
theorem aot{v:Nat}{g:Gd}(h:Gok g):∀n,Gok (ci v g n).1
 |0=>h
 |n+1=>aos (aot h n) 10
theorem arU{g:Gd}(h:Gok g)(v:Nat):Gok (az8 g v):=aor (aot h 10) 10
def woI(l:List Int)(n:Int):List Int:=l.filter fun x=>decide (x≠n)
theorem arW{l:List Int}{x:Int}(hn:l.Nodup)(hx:x∈l):(woI l x).length+1=l.length:=by
 have h1:woI l x=l.erase x:=by
  rw [List.Nodup.erase_eq_filter hn];unfold woI
  congr 1
  funext y
  simp [bne];rw [jV];simp
 rw [h1,List.length_erase_of_mem hx];have:=List.length_pos_of_mem hx;omega
theorem aou{l:List Lk}(hok:lN l=true){o:List Int}(hn:o.Nodup)(hm:∀x∈o,x∈kF l)(hl:o.length=(kF l).length):JX l o=true :=
 aT (Uy.2 ⟨⟨hok,hl⟩,hm,hn⟩)
theorem ahv(l o:List Int)(v:Int):woI (l.filter fun x=>decide (x∉o)) v=l.filter fun x=>decide (x∉o++[v]):=by
 unfold woI;rw [List.filter_filter]
 congr 1
 funext x
 rw [jV];simp;constructor<;>intro h<;>exact⟨h.2,h.1⟩
def dgI(g:Gd)(v:Int):Nat:=dg g v.toNat 10
def pk(g:Gd):List Int->Int->Int
 | [],b=>b
 |v::l,b=>pk g l (if dgI g v<dgI g b then v else b)
theorem aFj(g:Gd)(v:Int)(l:List Int)(b:Int):pk g (v::l) b=pk g l (if dgI g v<dgI g b then v else b):=rfl
theorem aov(g:Gd):∀(l:List Int) (b:Int),pk g l b=b\/pk g l b∈l
 | [],b=>.inl rfl
 |
  v::l,b=>by
  rw [aFj];rcases aov g l (if dgI g v<dgI g b then v else b)with h|h
  ·rw [h];split
   ·exact .inr (by simp)
   exact .inl rfl
  exact .inr (by simp [h])
def chI(rest last:List Int):List Int:=rest.filter fun x=>decide (x∉last)
def ch2(rest last:List Int):List Int:=if chI rest last=[]then rest else chI rest last
def aox(g:Gd)(rest last:List Int):Int:=pk g (ch2 rest last) ((ch2 rest last).getD 0 0)
theorem arX{rest last:List Int}{x:Int}(h:x∈ch2 rest last):x∈rest:=by
 unfold ch2 at h;split at h
 ·exact h
 exact(fG.1 h).1
theorem awr{rest last:List Int}(h:rest≠[]):ch2 rest last≠[]:=by
 unfold ch2;split
 ·exact h
 assumption
theorem aoy{g:Gd}{rest last:List Int}(h:rest≠[]):aox g rest last∈rest:=by
 have h2:=awr (last:=last) h;have h3:(ch2 rest last).getD 0 0∈ch2 rest last:=by
  cases e:ch2 rest last with
  |nil=>exact absurd e h2
  |cons x l=>simp
 refine arX (last:=last) ?_;unfold aox;rcases aov g (ch2 rest last) ((ch2 rest last).getD 0 0)with e|e
 ·rw [e];exact h3
 exact e
def Xg(last:List Int)(g0:Gd)(ns:List Int):Nat->Gd×List Int×List Int
 |0=>(g0,ns,[])
 |k+1=>(az8 (Xg last g0 ns k).1 (aox (Xg last g0 ns k).1 (Xg last g0 ns k).2.1 last).toNat,woI (Xg last g0 ns k).2.1 (aox (Xg last g0 ns k).1 (Xg last g0 ns k).2.1 last),(Xg last g0 ns k).2.2++[aox (Xg last g0 ns k).1 (Xg last g0 ns k).2.1 last])
theorem arY{l:List Int}{n x:Int}(h:x∈woI l n):x∈l:=(fG.1 h).1
structure aFk (last:List Int) (g0:Gd) (ns:List Int) (k:Nat):Prop where
 len:(Xg last g0 ns k).2.1.length+k=ns.length
 out:(Xg last g0 ns k).2.2.length=k
 nd:(Xg last g0 ns k).2.1.Nodup
 sub:∀x∈(Xg last g0 ns k).2.1,x∈ns
 rest:(Xg last g0 ns k).2.1=ns.filter fun x=>decide (x∉(Xg last g0 ns k).2.2)
 gok:Gok (Xg last g0 ns k).1
theorem ati{last:List Int}{g0:Gd}{ns:List Int}(hn:ns.Nodup)(hg:Gok g0):∀k,k<=ns.length->aFk last g0 ns k
 |0,_=>⟨rfl,rfl,hn,fun x h=>h,(List.filter_eq_self.2 (by intro x _;simp [Xg])).symm,hg⟩
 |
  k+1,hk=>by
  have ih:=ati (last:=last) hn hg k (by omega);have hne:(Xg last g0 ns k).2.1≠[]:=fun e=>by have:=ih.len;rw [e]at this;simp at this;omega
  have hm:=aoy (g:=(Xg last g0 ns k).1) (last:=last) hne;have hl:=arW ih.nd hm;have h1:=ih.len;have h2:=ih.out;refine⟨?_,?_,ih.nd.filter _,fun x hx=>ih.sub x (arY hx),?_,arU ih.gok _⟩
  ·show (woI (Xg last g0 ns k).2.1 _).length+(k+1)=ns.length;omega
  ·show ((Xg last g0 ns k).2.2++[_]).length=k+1;rw [aS,h2];rfl
  show woI (Xg last g0 ns k).2.1 _=ns.filter fun x=>decide (x∉(Xg last g0 ns k).2.2++[_]);rw [<-ahv,<-ih.rest]
def mdV(l:List Lk)(last:List Int):List Int:=if lN l=true then(Xg last (gOf l l.length) (kF l) (kF l).length).2.2 else []
theorem Fv{l:List Int}{i:Nat}(h:i<l.length):l.getD i 0∈l:=by
 rw [aj,ak h];exact jy h
theorem arZ{l:List Lk}{last:List Int}(hok:lN l=true):JX l (mdV l last)=true:=by
 have io:=ati (last:=last) (Jw (Gh l)) (ajd hok l.length (aJ _)) _ (aJ _);unfold mdV;rw [aQ hok];refine aT ⟨hok,io.out,fun x hx=>?_⟩;have h0:(Xg last (gOf l l.length) (kF l) (kF l).length).2.1=[]:=aY (by have:=io.len;omega);have hr:=io.rest;rw [h0]at hr;have:=List.filter_eq_nil_iff.1 hr.symm x hx;simpa using this
theorem TA{n:Nat}{S:List Lk}(h:OX n S):1<=(kF S).length:=by
 obtain⟨x,hx,h1,h2⟩:=h.base 0 (by have:=h.rn;omega);have hm:(1:Int)∈kF S:=by
  rw [JW h.ok,JV];refine⟨by decide,by decide,?_⟩;obtain⟨k,hk⟩:=bJ.1 hx;have hkl:=(aP.1 hk).1;refine Ux.2 ⟨k,hkl,.inr ?_⟩;rw [aj,hk];exact h2
 exact List.length_pos_of_mem hm
def tN:Nat->Nat
 |0=>63
 |i+1=>n1 (tN i) (5-i)
def tB:Nat->Nat
 |0=>1260
 |i+1=>b1 (tN i) (tB i) (5-i)
def tD:Nat->Nat
 |0=>1
 |i+1=>tD i*((5-i)*tN i)
theorem aAk:∀i,i<5->stF (tD i) (tN i) (tB i) (5-i)=true:=by decide +kernel
theorem awt:∀i,i<6->63<=tN i/\1260<=tB i/\1<=tD i:=by decide +kernel
inductive Cn (S:List Lk):Int->Prop
 |z:Cn S 0
 |s {u w:Int} {x:Lk}:x∈S->(x.a=u/\x.b=w\/x.a=w/\x.b=u)->Cn S w->Cn S u
def Adj(S:List Lk)(u w:Int):Prop:=∃x∈S,x.a=u/\x.b=w\/x.a=w/\x.b=u
theorem Cn.of{S:List Lk}{u w:Int}(h:Adj S u w)(hw:Cn S w):Cn S u:=by
 obtain⟨x,hx,h⟩:=h;exact .s hx h hw
theorem Adj.sym{S:List Lk}{u w:Int}(h:Adj S u w):Adj S w u:=by
 obtain⟨x,hx,h⟩:=h;exact⟨x,hx,h.symm⟩
theorem Cn.adj{S:List Lk}{u:Int}(h:Cn S u)(h0:u≠0):∃w,Adj S u w:=by
 cases h with
 |z=>exact absurd rfl h0
 |s hx h hw=>exact⟨_,_,hx,h⟩
theorem acZ{S:List Lk}{v w:Int}(h:Adj S v w):∃a∈pO S v,a.node=w:=by
 obtain⟨x,hx,h⟩:=h;have hs:stP v x=true:=by
  unfold stP;simp only [dX,aZ];omega
 refine⟨Zi v x,?_,?_⟩
 ·rw [Ny];exact bF.2 ⟨x,fG.2 ⟨hx,hs⟩,rfl⟩
 unfold Zi;split
 ·dsimp only;omega
 dsimp only;omega
theorem ar0{S:List Lk}{v:Int}{a:Pa}(h:a∈pO S v):Adj S v a.node:=by
 rw [Ny]at h;obtain⟨x,hx,rfl⟩:=bF.1 h;obtain⟨h1,h2⟩:=fG.1 hx;unfold stP at h2;simp only [dX,aZ]at h2;refine⟨x,h1,?_⟩;unfold Zi;split
 ·exact .inl ⟨by assumption,rfl⟩
 exact .inr ⟨rfl,by omega⟩
theorem aoz{A:List Pa}{a b:Pa}(ha:a∈A)(hb:b∈A)(hn:a.node≠b.node):Adj (Oy A) a.node b.node:=by
 obtain⟨i,hi,rfl⟩:=List.mem_iff_getElem.1 ha;obtain⟨j,hj,rfl⟩:=List.mem_iff_getElem.1 hb;have ei:A[i]=A.getD i default:=by rw [aj,ak hi];rfl
 have ej:A[j]=A.getD j default:=by rw [aj,ak hj];rfl
 rw [ei,ej]at *;rcases Nat.lt_trichotomy i j with h|h|h
 ·exact⟨_,UY hi h hj,.inl ⟨rfl,rfl⟩⟩
 ·subst h;exact absurd rfl hn
 exact⟨_,UY hj h hi,.inr ⟨rfl,rfl⟩⟩
theorem XT{S:List Lk}{v:Int}(h:OZ S v=true)(i j:Int):(∃x∈XR S v,x.a=i/\x.b=j)↔∃x∈S.filter (Xz v)++Oy (pO S v),x.a=i/\x.b=j:=by
 have e2:=(aad h).2.1;unfold OZ at h;rw [aH]at h;obtain⟨hB,hj⟩:=h;have eM:=(afa hB).2;unfold XL at hB;simp only [aH]at hB;obtain⟨⟨⟨hS,_⟩,_⟩,hM⟩:=hB;have hL:TJ S v=S.filter (Xz v)++Oy (pO S v):=by unfold TJ;rw [eM]
 rw [e2,<-hL];refine acJ hj (fun x hx=>?_) i j;rw [hL]at hx;rcases aK.1 hx with hx|hx
 ·exact oL hS (fG.1 hx).1
 exact bg.1 hM x hx
theorem aoA{S:List Lk}{v u w:Int}(h:OZ S v=true):Adj (XR S v) u w↔Adj (S.filter (Xz v)++Oy (pO S v)) u w:=by
 have k1:=XT h u w;have k2:=XT h w u;constructor
 ·rintro⟨x,hx,e|e⟩
  ·obtain⟨y,hy,e⟩:=k1.1 ⟨x,hx,e⟩;exact⟨y,hy,.inl e⟩
  obtain⟨y,hy,e⟩:=k2.1 ⟨x,hx,e⟩;exact⟨y,hy,.inr e⟩
 rintro⟨x,hx,e|e⟩
 ·obtain⟨y,hy,e⟩:=k1.2 ⟨x,hx,e⟩;exact⟨y,hy,.inl e⟩
 obtain⟨y,hy,e⟩:=k2.2 ⟨x,hx,e⟩;exact⟨y,hy,.inr e⟩
theorem ar1{S:List Lk}{v:Int}(hS:lN S=true)(h:OZ S v=true)(hv:v≠0):∀u,Cn S u->(u≠v->Cn (XR S v) u)/\(u=v->∃w,w≠v/\Adj S v w/\Cn (XR S v) w):=by
 intro u hu
 induction hu with
 |z=>exact⟨fun _=>.z,fun e=>absurd e.symm hv⟩
 |
  @s u w x hx hxe hw ih =>
  have hne:u≠w:=by
   have:=qp (oL hS hx);omega
  constructor
  ·intro huv;by_cases e:w=v
   ·obtain⟨w',h1,h2,h3⟩:=ih.2 e;subst e;by_cases e2:w'=u
    ·rw [<-e2];exact h3
    obtain⟨a,ha,rfl⟩:=acZ (Adj.sym ⟨x,hx,hxe⟩);obtain⟨b,hb,rfl⟩:=acZ h2;obtain⟨y,hy,hye⟩:=aoz ha hb fun e=>e2 e.symm;exact Cn.of (aoA h |>.2 ⟨y,aK.2 (.inr hy),hye⟩) h3
   refine Cn.of (aoA h |>.2 ⟨x,aK.2 (.inl (fG.2 ⟨hx,?_⟩)),hxe⟩) (ih.1 e);unfold Xz;simp only [aH,aZ];rcases hxe with ⟨e1,e2⟩|⟨e1,e2⟩
   ·rw [e1,e2];exact⟨huv,e⟩
   rw [e1,e2];exact⟨e,huv⟩
  rintro rfl;exact⟨w,fun e=>hne e.symm,⟨x,hx,hxe⟩,ih.1 fun e=>hne e.symm⟩
def cS(S:List Lk)(o:List Int):Nat->List Lk
 |0=>S
 |k+1=>XR (cS S o k) (o.getD k 0)
def cA(S:List Lk)(o:List Int)(k:Nat):List Pa:=pO (cS S o k) (o.getD k 0)
def cD(S:List Lk)(o:List Int):Nat->Int
 |0=>1
 |k+1=>cD S o k*WL (cD S o k) (cA S o k)
def cE(S:List Lk)(o:List Int):Nat->R
 |0=>lC 0
 |k+1=>oC (cE S o k) (rnE (cS S o k) (o.getD k 0))
def cN(S:List Lk)(o:List Int)(k:Nat):List Cd:=(List.range k).map fun j=>XQ (cS S o j) (o.getD j 0)
theorem aFl(S:List Lk)(o:List Int)(k:Nat):cN S o (k+1)=cN S o k++[XQ (cS S o k) (o.getD k 0)]:=by
 unfold cN;rw [iV,bU];rfl
theorem atj{S:List Lk}{o:List Int}:∀k,(∀j,j<k->OZ (cS S o j) (o.getD j 0)=true)->Xf S o k=some (cS S o k,cN S o k,cE S o k)
 |0,_=>rfl
 |
  k+1,h=>by
  simp only [Xf];rw [atj k fun j hj=>h j (by omega)];dsimp only;rw [aQ (h k (by omega)),aFl];rfl
structure Dr (S:List Lk) (o:List Int):Prop where
 ok:lN S=true
 cm:∀x∈S,Cm 1 63 1260 x
 len:o.length<=5
 nd:∀x∈S,(x.a=0\/x.a∈o)/\(x.b=0\/x.b∈o)
 cn:∀u∈o,Cn S u
 o:o.Nodup/\∀u∈o,1<=u/\u<=9
structure Ch (S:List Lk) (o:List Int) (k:Nat):Prop where
 ok:lN (cS S o k)=true
 cm:∀x∈cS S o k,Cm (cD S o k) (tN (5-o.length+k)) (tB (5-o.length+k)) x
 d:1<=cD S o k/\Ab (cD S o k) (tD (5-o.length+k))
 nd:∀x∈cS S o k,(x.a=0\/x.a∈o.drop k)/\(x.b=0\/x.b∈o.drop k)
 cn:∀u∈o.drop k,Cn (cS S o k) u
structure Cst (S:List Lk) (o:List Int) (k:Nat):Prop where
 ar:Ar (o.getD k 0) (cD S o k) (tN (5-o.length+k)) (tB (5-o.length+k)) (o.length-k) (cA S o k)
 b:OZ (cS S o k) (o.getD k 0)=true
 nd:∀a∈cA S o k,a.node=0\/a.node∈o.drop (k+1)
theorem afi{o:List Int}{k:Nat}(h:k<o.length):o.drop k=o.getD k 0::o.drop (k+1):=by
 rw [dK h,aj,ak h];rfl
theorem ar2{S:List Lk}{o:List Int}(h:Dr S o){k:Nat}(hk:k<o.length)(hc:Ch S o k):Cst S o k/\Ch S o (k+1):=by
 have hd:=afi hk;have hvo:o.getD k 0∈o:=Fv hk;have hv:=h.o.2 _ hvo;have hnd:(o.drop k).Nodup:=(List.drop_sublist k o).nodup h.o.1;have hl:=h.len;rw [hd]at hnd;have hvn:o.getD k 0∉o.drop (k+1):=(eU.1 hnd).1;have hcn:=hc.cn;have hcd:=hc.nd;rw [hd]at hcn hcd;generalize hve:o.getD k 0=v at *;have hA:cA S o k=pO (cS S o k) v:=by unfold cA;rw [hve]
 have hD:cD S o (k+1)=cD S o k*WL (cD S o k) (pO (cS S o k) v):=by rw [<-hA];rfl
 have hS':cS S o (k+1)=XR (cS S o k) v:=by rw [<-hve];rfl
 have hok:=hc.ok;have hcm:=hc.cm;have hdd:=hc.d;generalize hSk:cS S o k=Sk at *;generalize hDk:cD S o k=D at *;have harm:∀a∈pO Sk v,a.node=0\/a.node∈o.drop (k+1):=fun a ha=>by
  obtain⟨x,hx,e⟩:=ar0 ha;have n:=qp (oL hok hx);have m:=hcd x hx;rcases e with ⟨e1,e2⟩|⟨e1,e2⟩
  ·rcases m.2 with m|m
   ·exact .inl (by omega)
   rcases aI.1 m with m|m
   ·omega
   rw [<-e2];exact .inr m
  rcases m.1 with m|m
  ·exact .inl (by omega)
  rcases aI.1 m with m|m
  ·omega
  rw [<-e1];exact .inr m
 have hasc:(pO Sk v).Pairwise fun a b=>a.node<b.node:=by
  have e:=(ai0 hok v).symm;have hn:Asc (nbI Sk v Sk.length):=by rw [<-asX hok v];exact Xx _ _ .nil
  rw [e,iM];refine List.Pairwise.imp ?_ hn;intro a b hab;unfold Zf;split<;>split<;>exact hab
 have hlen:(pO Sk v).length<=o.length-k:=by
  have:=EC (a:=(pO Sk v).map (·.node)) (b:=0::o.drop (k+1)) (by
   unfold List.Nodup;rw [iM];exact hasc.imp fun h=>by omega) (fun x hx=>by
   obtain⟨a,ha,rfl⟩:=bF.1 hx;rcases harm a ha with e|e
   ·rw [e];simp
   exact gG _ e)
  simp at this;omega
 have hpos:1<=(pO Sk v).length:=by
  obtain⟨w,hw⟩:=(hcn v (by simp)).adj (by omega);obtain⟨a,ha,_⟩:=acZ hw;exact List.length_pos_of_mem ha
 have hF:=aAk (5-o.length+k) (by omega);have hlo:=awt (5-o.length+k) (by omega);have hm:5-(5-o.length+k)=o.length-k:=by omega
 rw [hm]at hF;obtain⟨hAr,hB,hC⟩:=aAj hok hcm hdd.1 hdd.2 ⟨hv.1,hv.2⟩ ⟨hpos,hlen⟩ (by omega) (by omega) hF;have ht:=hAr.t;have hi:5-o.length+(k+1)=5-o.length+k+1:=by omega
 have hS2:=hS';refine⟨⟨by rw [hA,hve,hDk];exact hAr,by rw [hve,hSk];exact hB,by rw [hA];exact harm⟩,⟨by rw [hS'];exact an9 hB,?_,?_,?_,?_⟩⟩
 ·rw [hS',hD,hi];intro x hx;have:=hC x hx;show Cm _ (n1 (tN (5-o.length+k)) (5-(5-o.length+k))) (b1 (tN (5-o.length+k)) (tB (5-o.length+k)) (5-(5-o.length+k))) x;rw [hm];exact this
 ·rw [hD,hi];refine⟨uF hdd.1 ht.1,?_⟩;show Ab _ (tD (5-o.length+k)*((5-(5-o.length+k))*tN (5-o.length+k)));rw [hm];exact lM hdd.2 ht.2
 ·rw [hS'];intro x hx;obtain⟨y,hy,e1,e2⟩:=(XT hB x.a x.b).1 ⟨x,hx,rfl,rfl⟩;rw [<-e1,<-e2];rcases aK.1 hy with hy|hy
  ·obtain⟨h1,h2⟩:=fG.1 hy;unfold Xz at h2;simp only [aH,aZ]at h2;have m:=hcd y h1;refine⟨?_,?_⟩
   ·rcases m.1 with m|m
    ·exact .inl m
    exact .inr ((aI.1 m).resolve_left h2.1)
   rcases m.2 with m|m
   ·exact .inl m
   exact .inr ((aI.1 m).resolve_left h2.2)
  obtain⟨p,q,h1,h2,h3,rfl⟩:=Ko hy;exact⟨harm _ (getD_mem (by omega)),harm _ (getD_mem h3)⟩
 rw [hS'];intro u hu;exact(ar1 hok hB (by omega) u (hcn u (by simp [hu]))).1 fun e=>hvn (e▸hu)
theorem DK{S:List Lk}{o:List Int}(h:Dr S o):∀k,k<=o.length->Ch S o k/\∀j,j<k->Cst S o j
 |
  0,hk=>by
  have hl:=h.len;have hlo:=awt (5-o.length) (by omega);refine⟨⟨h.ok,fun x hx=>?_,⟨Int.le_refl 1,?_⟩,h.nd,h.cn⟩,fun j hj=>absurd hj (dB _)⟩
  ·exact(h.cm x hx).mono (by rw [iP];exact hlo.1) (by rw [iP];exact hlo.2.1)
  rw [iP];exact hlo.2.2
 |
  k+1,hk=>by
  obtain⟨h1,h2⟩:=DK h k (by omega);obtain⟨h3,h4⟩:=ar2 h (by omega) h1;refine⟨h4,fun j hj=>?_⟩;by_cases e:j=k
  ·subst e;exact h3
  exact h2 j (by omega)
def cV(S:List Lk)(o:List Int):Nat->Rat
 |0=>0
 |k+1=>cV S o k+(rnE (cS S o k) (o.getD k 0)).v
def cQ(P:List Pt)(S:List Lk)(o:List Int):Nat->Rat
 |0=>0
 |k+1=>cQ P S o k+(XQ (cS S o k) (o.getD k 0)).total.v*dsq P (o.getD k 0) (cA S o k)
theorem Zr{P:List Pt}{S:List Lk}{o:List Int}:∀k,(∀j,j<k->OZ (cS S o j) (o.getD j 0)=true)->tot (TI P) S=tot (TI P) (cS S o k)+cV S o k+cQ P S o k
 |
  0,_=>by
  simp only [cV,cQ,dY];rfl
 |
  k+1,h=>by
  rw [Zr (P:=P) k fun j hj=>h j (by omega),(aoh (P:=P) (h k (by omega))).1];simp only [cV,cQ,cS];show _=_+(_+_)+(_+_*dsq P (o.getD k 0) (pO (cS S o k) (o.getD k 0)))
  grind
theorem afj(a:Rat):0<=a*a:=by
 rcases Rat.le_total (a:=0) (b:=a)with h|h
 ·exact Rat.mul_nonneg h h
 have:0 <= -a:=by grind
 have:=Rat.mul_nonneg this this
 grind
theorem awu(P:List Pt)(v:Int)(A:List Pa):0<=dsq P v A:=by
 unfold dsq;have h1:=afj ((P.getD v.toNat default).x.v-pX P A);have h2:=afj ((P.getD v.toNat default).y.v-pY P A)
 grind
theorem atl{P:List Pt}{S:List Lk}{o:List Int}:∀k,(∀j,j<k->OZ (cS S o j) (o.getD j 0)=true)->0<=cQ P S o k
 |0,_=>Rat.le_refl
 |
  k+1,h=>by
  have h1:=atl (P:=P) (S:=S) (o:=o) k fun j hj=>h j (by omega);have h2:=(aoh (P:=P) (h k (by omega))).2.1;have h3:=Rat.mul_nonneg (Rat.le_of_lt h2) (awu P (o.getD k 0) (cA S o k));simp only [cQ]
  grind
def cod(x:Lk):Int:=10*x.a+x.b
theorem awv{S:List Lk}(h:lN S=true):(S.map cod).Nodup:=by
 obtain⟨h1,h2⟩:=rU.1 h;unfold List.Nodup;rw [iM];refine List.Pairwise.imp_of_mem ?_ h2;intro a b ha hb hab;have n1:=qp (h1 a ha);have n2:=qp (h1 b hb);rw [xB]at hab;unfold cod;omega
theorem afk(v:Int):∀S:List Lk,S.length=(S.filter (Xz v)).length+(S.filter (stP v)).length
 | []=>rfl
 |
  x::S=>by
  have ih:=afk v S;have hw:=aob v x
  cases h:stP v x
  ·rw [h]at hw;rw [List.filter_cons_of_pos hw,List.filter_cons_of_neg (by rw [h];simp)];simp only [au];omega
  rw [h]at hw;rw [List.filter_cons_of_neg (by rw [hw];simp),List.filter_cons_of_pos h];simp only [au];omega
theorem aww{S:List Lk}{v:Int}(hS:lN S=true)(h:OZ S v=true):S.length<=(XR S v).length+(pO S v).length:=by
 have e:(pO S v).length=(S.filter (stP v)).length:=by rw [Ny,aV]
 have k:=EC (a:=(S.filter (Xz v)).map cod) (b:=(XR S v).map cod) (((List.filter_sublist).map cod).nodup (awv hS)) fun x hx=>by
  obtain⟨y,hy,rfl⟩:=bF.1 hx;obtain⟨z,hz,e1,e2⟩:=(XT h y.a y.b).2 ⟨y,aK.2 (.inl hy),rfl,rfl⟩;exact bF.2 ⟨z,hz,by unfold cod;rw [e1,e2]⟩
 rw [aV,aV]at k;rw [afk v S,e];omega
def tL(i:Nat):Nat:=(5-i)*(6-i) / 2
theorem aFm:∀i,i<5->tL i=tL (i+1)+(5-i):=by decide
theorem aoB{S:List Lk}{o:List Int}(h:Ch S o o.length):cS S o o.length=[]:=by
 have hn:=h.nd;have hk:=h.ok
 cases hS:cS S o o.length with
 |nil=>rfl
 |
  cons x l =>
  rw [hS]at hn hk;have n:=hn x (by simp);have m:=qp (oL hk (x:=x) (by simp));rw [jA]at n;simp only [bY,or_false]at n;omega
theorem ac0{S:List Lk}{o:List Int}(h:Dr S o):∀d k,k+d=o.length->(cS S o k).length<=tL (5-o.length+k)
 |
  0,k,hk=>by
  have e:k=o.length:=by omega
  rw [e,aoB (DK h _ (aJ _)).1];exact eH _
 |
  d+1,k,hk=>by
  have ih:=ac0 h d (k+1) (by omega);have hc:=(DK h k (by omega)).1;have hs:=(DK h (k+1) (by omega)).2 k (by omega);have:=aww hc.ok hs.b;have hl:=hs.ar.len.2;have hl5:=h.len;have ht:=aFm (5-o.length+k) (by omega);have e2:5-o.length+(k+1)=5-o.length+k+1:=by omega
  rw [e2]at ih;have e3:(cS S o (k+1)).length=(XR (cS S o k) (o.getD k 0)).length:=rfl;have e4:(cA S o k).length=(pO (cS S o k) (o.getD k 0)).length:=rfl;omega
theorem afl{P N:Nat}(hN:1<=N){k:Nat}:∀n,k<=n->(hb P N k).1<=(hb P N n).1/\(hb P N k).2<=(hb P N n).2
 |0,h=>by rw [Nat.le_zero.1 h];exact⟨aJ _,aJ _⟩
 |
  n+1,h=>by
  by_cases e:k=n+1
  ·rw [e];exact⟨aJ _,aJ _⟩
  have h1:=afl (P:=P) hN n (by omega:k<=n);have h2:=acW (P:=P) hN n;omega
theorem aAl{D:Int}{N B:Nat}{x:Lk}(h:Cm D N B x):∃z n:Int,(1<=n/\Ab n N)/\Ab z (2*(B*B))/\mZ x=(z:Rat) / ((D*n:Int):Rat):=by
 obtain⟨n,p,q,h1,h2,h3,h4,h5⟩:=h.ex;refine⟨p*p+q*q,n,h1,(yx (lM h2.1 h2.1) (lM h2.2 h2.2)).mono (by omega),?_⟩;have hD:=mD h3.n;have hn:=mD h1.1;unfold mZ;rw [h3.v,h4.v,h5.v];simp only [dZ,Rat.intCast_add]
 grind
theorem ahw{D:Int}{N B:Nat}(hD:1<=D):∀S:List Lk,(∀x∈S,Cm D N B x)->∃z Q:Int,1<=Q/\Ab Q (hb (2*(B*B)) N S.length).2/\Ab z (hb (2*(B*B)) N S.length).1/\tot mZ S=(z:Rat) / ((D*Q:Int):Rat)
 | [],_=>⟨0,1,by decide,by simp [Ab,hb],by simp [Ab,hb],by simp only [tot];rw [Rat.intCast_zero,eF,iT]⟩
 |
  x::S,h=>by
  obtain⟨z,Q,h1,h2,h3,h4⟩:=ahw hD S fun y hy=>h y (by simp [hy]);obtain⟨y,n,k1,k2,k3⟩:=aAl (h x (by simp));refine⟨z*n+y*Q,Q*n,uF h1 k1.1,lM h2 k1.2,yx (lM h3 k1.2) (lM k2 h2),?_⟩;simp only [tot];rw [k3,h4];exact VU (uF hD k1.1) (uF hD h1) (uF hD (uF h1 k1.1)) (by grind)
theorem v0:(default:Pt).x.v=0/\(default:Pt).y.v=0:=⟨rfl,rfl⟩
theorem aje(x:Lk):TI [] x=mZ x:=by
 unfold TI;rw [QT];have e:∀k,([]:List Pt).getD k default=default:=fun k=>rfl;rw [e,e,v0.1,v0.2]
 grind
theorem aAm{v D:Int}{N B m:Nat}{A:List Pa}(h:Ar v D N B m A):∃z:Int,Ab z (2*(m*B*(m*B)))/\sm sW A*dsq [] v A=(z:Rat) / ((D*WL D A:Int):Rat):=by
 have ht:=h.t;have hd:=h.d;have e:∀k,([]:List Pt).getD k default=default:=fun k=>rfl;have e1:sm sW A=(WL D A:Rat) / (D:Rat):=Qr fun a ha=>(h.am a ha).w.v;have k:∀n p d:Rat,n≠0->n / d*(0+p / n)=p / d:=fun n p d h=>by rw [iR,eF,eF,eF];grind
 have e2:sm (fun a=>sW a*qX [] a) A=(Qq (xN D) A:Rat) / (D:Rat):=Qr fun a ha=>by
  have j:=h.am a ha;unfold sW qX;rw [e,v0.1,j.w.v,j.x.v,k _ _ _ (mD j.n.1)]
 have e3:sm (fun a=>sW a*qY [] a) A=(Qq (yN D) A:Rat) / (D:Rat):=Qr fun a ha=>by
  have j:=h.am a ha;unfold sW qY;rw [e,v0.2,j.w.v,j.y.v,k _ _ _ (mD j.n.1)]
 have b2:=KZ (f:=xN D) (m:=m) (A:=A) (fun a ha=>(h.am a ha).p.1) h.len.2 A.length;have b3:=KZ (f:=yN D) (m:=m) (A:=A) (fun a ha=>(h.am a ha).p.2) h.len.2 A.length;rw [bI]at b2 b3;refine⟨Qq (xN D) A*Qq (xN D) A+Qq (yN D) A*Qq (yN D) A,(yx (lM b2 b2) (lM b3 b3)).mono (by omega),?_⟩;unfold dsq pX pY;rw [e,v0.1,v0.2,e1,e2,e3];have hT:=mD ht.1;have hD:=mD hd;generalize Qq (xN D) A=X;generalize Qq (yN D) A=Y;simp only [dZ,Rat.intCast_add]
 grind
def wB:Nat->Nat
 |0=>0
 |i+1=>wB i*((5-i)*tN i)+2*((5-i)*tB i*((5-i)*tB i))
theorem ajf{S:List Lk}{o:List Int}(h:Dr S o):∀k,k<=o.length->∃w:Int,Ab w (wB (5-o.length+k))/\cQ [] S o k=(w:Rat) / (cD S o k:Rat)
 |0,_=>⟨0,eH _,by simp only [cQ];rw [Rat.intCast_zero,eF,iT]⟩
 |
  k+1,hk=>by
  obtain⟨w,h1,h2⟩:=ajf h k (by omega);have hs:=(DK h (k+1) (by omega)).2 k (by omega);have hl:=h.len;have ht:=hs.ar.t;have hd:=hs.ar.d;obtain⟨z,h3,h4⟩:=aAm hs.ar;have ei:5-o.length+(k+1)=5-o.length+k+1:=by omega
  have em:5-(5-o.length+k)=o.length-k:=by omega
  refine⟨w*WL (cD S o k) (cA S o k)+z,?_,?_⟩
  ·rw [ei];show Ab _ (wB (5-o.length+k)*((5-(5-o.length+k))*tN (5-o.length+k))+2*((5-(5-o.length+k))*tB (5-o.length+k)*((5-(5-o.length+k))*tB (5-o.length+k))));rw [em];exact yx (lM h1 ht.2) h3
  simp only [cQ];have e:=(aoh (P:=[]) hs.b).2.2;have e':(XQ (cS S o k) (o.getD k 0)).total.v=sm sW (cA S o k):=e;have hDs:cD S o (k+1)=cD S o k*WL (cD S o k) (cA S o k):=rfl;rw [h2,e',h4,hDs];clear h3 h4 e e' hs h1;generalize WL (cD S o k) (cA S o k)=T at *;generalize cD S o k=D at *;exact VU hd (uF hd ht.1) (uF hd ht.1) (by grind)
def q0:Nat×Nat:=hb (2*(1260*1260)) 63 15
def qi(i:Nat):Nat×Nat:=hb (2*(tB i*tB i)) (tN i) (tL i)
def vF(i:Nat):Bool:=Ft (q0.1*(tD i*(qi i).2)+(qi i).1*q0.2+wB i*(q0.2*(qi i).2)) (q0.2*(tD i*(qi i).2))
theorem awx:∀i,i<6->vF i=true:=by decide +kernel
theorem awy{S:List Lk}{o:List Int}(h:Dr S o){k:Nat}(hk:k<=o.length):norm (cV S o k)=some (cV S o k):=by
 obtain⟨hc,hs⟩:=DK h k hk;have hl:=h.len;have hlo:=awt (5-o.length+k) (by omega);have hch:=Zr (P:=[]) (S:=S) (o:=o) k fun j hj=>(hs j hj).b;rw [BG (L:=S) (fun x _=>aje x),BG (L:=cS S o k) (fun x _=>aje x)]at hch;obtain⟨w,w1,w2⟩:=ajf h k hk;obtain⟨z,Q,z1,z2,z3,z4⟩:=ahw hc.d.1 _ hc.cm;obtain⟨y,U,y1,y2,y3,y4⟩:=ahw (D:=1) (by decide) _ h.cm;have l1:=ac0 h (o.length-k) k (by omega);have l0:=ac0 h o.length 0 (by omega);have l0:S.length<=15:=by
  have e:(cS S o 0).length=S.length:=rfl;rw [e,iP]at l0;have:∀i,i<6->tL i<=15:=by decide
  have:=this (5-o.length) (by omega);omega
 have z2:=z2.mono (afl (by omega) _ l1).2;have z3:=z3.mono (afl (by omega) _ l1).1;have y2:=y2.mono (afl (P:=2*(1260*1260)) (N:=63) (by decide) 15 l0).2;have y3:=y3.mono (afl (P:=2*(1260*1260)) (N:=63) (by decide) 15 l0).1;have hd:=hc.d;have hF:=awx (5-o.length+k) (by omega);rw [z4,y4,w2]at hch;have e:cV S o k=((y*(cD S o k*Q)-z*U-w*(U*Q):Int):Rat) / ((U*(cD S o k*Q):Int):Rat):=by
  have a1:=mD hd.1;have a2:=mD z1;have a3:=mD y1;simp only [dZ,Rat.intCast_sub,Rat.intCast_one]at *
  grind
 rw [e];exact QU (uF y1 (uF hd.1 z1)) (IV (IV (lM y3 (lM hd.2 z2)) (lM z3 y2)) (lM w1 (lM y2 z2))) (lM y2 (lM hd.2 z2)) hF
theorem aAn{S:List Lk}{o:List Int}(h:Dr S o):∀k,k<=o.length->(cE S o k).q=some (cV S o k)
 |0,_=>JM (n:=0) (by decide)
 |
  k+1,hk=>by
  have ih:=aAn h k (by omega);have hs:=(DK h (k+1) (by omega)).2 k (by omega);have ho:(rnE (cS S o k) (o.getD k 0)).ok=true:=by
   obtain⟨e1,e2,e3⟩:=aad hs.b;have hb:=hs.b;unfold OZ at hb;rw [aH]at hb;rw [e3];exact(XG hb.2).2.2
  show (oC _ _).q=_;rw [SB,ih,R.IQ ho];exact awy h hk
structure Ps (P:List Pt) (E:Int) (Q:Nat) (us:List Int) (fx fy:Int->Int):Prop where
 x:∀u∈us,Fq (P.getD u.toNat default).x (fx u) E/\Ab (fx u) Q
 y:∀u∈us,Fq (P.getD u.toNat default).y (fy u) E/\Ab (fy u) Q
 n:∀u∈us,0<=u/\u<P.length
theorem Ps.perm{P:List Pt}{E:Int}{Q:Nat}{us vs:List Int}{fx fy:Int->Int}(h:Ps P E Q us fx fy)(hs:∀u∈vs,u∈us):Ps P E Q vs fx fy:=⟨fun u hu=>h.x u (hs u hu),fun u hu=>h.y u (hs u hu),fun u hu=>h.n u (hs u hu)⟩
def acF(N B m EB Q:Nat):Bool:=Ft (Q*N+B*EB) (EB*N)&&Ft (Q*N+B*EB) (EB*(m*N))&&Ft (m*(Q*N+B*EB)) (EB*(m*N))
theorem ahx{v D:Int}{N B m DB:Nat}{A:List Pa}(h:Ar v D N B m A)(hD:Ab D DB)(hF:arF DB N B m=true){P:List Pt}{E:Int}{EB Q:Nat}(hE1:1<=E)(hE:Ab E EB)(hF2:acF N B m EB Q=true)
  {dR:Pa->R} {pR:Pt->R} {dn:Pa->Int} {f:Int->Int} {G:Nat->R} (hd:∀a∈A,Fq (dR a) (dn a) (wN D a)/\Ab (dn a) B) (hp:∀a∈A,Fq (pR (P.getD a.node.toNat default)) (f a.node) E/\Ab (f a.node) Q) (g0:G 0=lC 0)
  (gs:∀k,k<A.length->G (k+1)=oC (G k) (mulR (vS (A.getD k default).share (rQ A)) (oC (pR (P.getD (A.getD k default).node.toNat default)) (dR (A.getD k default))))) :
  ∀k,k<=A.length->Fq (G k) (Qq (fun a=>f a.node*wN D a+dn a*E) (A.take k)) (E*WL D A)
 |0,_=>by rw [g0,List.take_zero];exact aaf.to (uF hE1 h.t.1) (by simp [Qq])
 |
  k+1,hk=>by
  have ih:=ahx h hD hF hE1 hE hF2 hd hp g0 gs k (by omega);unfold acF at hF2;simp only [aH]at hF2;obtain⟨⟨f1,f2⟩,f3⟩:=hF2;have hm:=getD_mem (l:=A) (i:=k) (by omega);have j:=h.am _ hm;have ht:=h.t;obtain⟨d1,d2⟩:=hd _ hm;obtain⟨p1,p2⟩:=hp _ hm;have sh:=Zp h hD hF hm;have hb:=KZ (f:=fun a=>f a.node*wN D a+dn a*E) (N:=Q*N+B*EB) (m:=m) (A:=A) (fun a ha=>yx (lM (hp a ha).2 (h.am a ha).n.2) (lM (hd a ha).2 hE)) h.len.2 (k+1);rw [gs k (by omega)];rw [Zo _ (by omega)]at hb ⊢
  try dsimp only at hb
  try dsimp only
  generalize A.getD k default=a at *;have b1:=yx (lM p2 j.n.2) (lM d2 hE);have s1:=p1.add d1 (p:=f a.node*wN D a+dn a*E) (n:=E*wN D a) (by grind) (uF hE1 j.n.1) b1 (lM hE j.n.2) f1;have s2:=sh.mul s1 (p:=f a.node*wN D a+dn a*E) (n:=E*WL D A) (by grind) (uF hE1 ht.1) b1 (lM hE ht.2) f2;exact ih.add s2 (by grind) (uF hE1 ht.1) hb (lM hE ht.2) f3
theorem atm(n d a e p:Rat)(hn:n≠0)(he:e≠0)(hd:d≠0):n / d*(a / e+p / n)=(a*n+p*e) / (d*e):=by grind
theorem atn(z d e t:Rat)(hd:d≠0)(he:e≠0)(ht:t≠0):z / (d*e) / (t / d)=z / (e*t):=by grind
theorem aAo{v D:Int}{N B m DB:Nat}{A:List Pa}(h:Ar v D N B m A)(hD:Ab D DB)(hF:arF DB N B m=true){P:List Pt}{E:Int}{EB Q:Nat}{us:List Int}{fx fy:Int->Int}(hE1:1<=E)(hE:Ab E EB)(hP:Ps P E Q us fx fy)(hA:∀a∈A,a.node∈us)(hF2:acF N B m EB Q=true) :
  Kw (pI v A) P=true/\∃zx zy:Int,(Fq (acV (pI v A) P).x zx (E*WL D A)/\Ab zx (m*(Q*N+B*EB)))/\(Fq (acV (pI v A) P).y zy (E*WL D A)/\Ab zy (m*(Q*N+B*EB)))/\(acV (pI v A) P).x.v=pX P A/\(acV (pI v A) P).y.v=pY P A:=by
 have hpl:(pI v A).ps.length=A.length:=aV ..;have ht:=h.t;have gx:=ahx h hD hF hE1 hE hF2 (dR:=(·.dx)) (pR:=(·.x)) (dn:=xN D) (f:=fx) (G:=Oj (pI v A) P) (fun a ha=>⟨(h.am a ha).x,(h.am a ha).p.1⟩) (fun a ha=>hP.x _ (hA a ha)) rfl (fun k hk=>by
  show oC _ (acT ((pI v A).ps.getD k default) (P.getD ((pI v A).ps.getD k default).node.toNat default).x ((pI v A).ps.getD k default).dx)=_;rw [Fb hk];rfl) A.length (aJ _)
 have gy:=ahx h hD hF hE1 hE hF2 (dR:=(·.dy)) (pR:=(·.y)) (dn:=yN D) (f:=fy) (G:=XA (pI v A) P) (fun a ha=>⟨(h.am a ha).y,(h.am a ha).p.2⟩) (fun a ha=>hP.y _ (hA a ha)) rfl (fun k hk=>by
  show oC _ (acT ((pI v A).ps.getD k default) (P.getD ((pI v A).ps.getD k default).node.toNat default).y ((pI v A).ps.getD k default).dy)=_;rw [Fb hk];rfl) A.length (aJ _)
 have bx:=KZ (f:=fun a=>fx a.node*wN D a+xN D a*E) (N:=Q*N+B*EB) (m:=m) (A:=A) (fun a ha=>yx (lM (hP.x _ (hA a ha)).2 (h.am a ha).n.2) (lM (h.am a ha).p.1 hE)) h.len.2 A.length;have by':=KZ (f:=fun a=>fy a.node*wN D a+yN D a*E) (N:=Q*N+B*EB) (m:=m) (A:=A) (fun a ha=>yx (lM (hP.y _ (hA a ha)).2 (h.am a ha).n.2) (lM (h.am a ha).p.2 hE)) h.len.2 A.length;have hg:acG (pI v A) P.length=true:=aeE fun k hk=>by
  rw [hpl]at hk;rw [Fb hk];exact(hP.n _ (hA _ (getD_mem (l:=A) hk))).2
 have ho:Kw (pI v A) P=true:=by
  unfold Kw;rw [aon h hD hF,hg,hpl,gx.ok,gy.ok];rfl
 have eV:acV (pI v A) P=⟨Oj (pI v A) P A.length,XA (pI v A) P A.length⟩:=by unfold acV;rw [aQ ho,hpl]
 rw [bI]at gx gy bx by';refine⟨ho,_,_,⟨by rw [eV];exact gx,bx⟩,⟨by rw [eV];exact gy,by'⟩,?_,?_⟩
 ·rw [eV,gx.v];have e1:sm sW A=(WL D A:Rat) / (D:Rat):=Qr fun a ha=>(h.am a ha).w.v;have e2:sm (fun a=>sW a*qX P a) A=(Qq (fun a=>fx a.node*wN D a+xN D a*E) A:Rat) / ((D*E:Int):Rat):=Qr fun a ha=>by
   have j:=h.am a ha;have q:=hP.x _ (hA a ha);unfold sW qX;rw [j.w.v,j.x.v,q.1.v,atm _ _ _ _ _ (mD j.n.1) (mD hE1) (mD h.d)];simp only [dZ,Rat.intCast_add]
  unfold pX;rw [e1,e2];simp only [dZ];rw [atn _ _ _ _ (mD h.d) (mD hE1) (mD ht.1)]
 rw [eV,gy.v];have e1:sm sW A=(WL D A:Rat) / (D:Rat):=Qr fun a ha=>(h.am a ha).w.v;have e2:sm (fun a=>sW a*qY P a) A=(Qq (fun a=>fy a.node*wN D a+yN D a*E) A:Rat) / ((D*E:Int):Rat):=Qr fun a ha=>by
  have j:=h.am a ha;have q:=hP.y _ (hA a ha);unfold sW qY;rw [j.w.v,j.y.v,q.1.v,atm _ _ _ _ _ (mD j.n.1) (mD hE1) (mD h.d)];simp only [dZ,Rat.intCast_add]
 unfold pY;rw [e1,e2];simp only [dZ];rw [atn _ _ _ _ (mD h.d) (mD hE1) (mD ht.1)]
theorem awz{S:List Lk}{v:Int}(h:OZ S v=true):XQ S v=pI v (pO S v):=by
 have e:=(aad h).1;unfold OZ at h;rw [aH]at h;rw [e,(afa h.1).1]
theorem IW(S:List Lk)(o:List Int)(k:Nat):(cN S o k).length=k:=by unfold cN;simp
theorem aAp{S:List Lk}{o:List Int}{n j:Nat}(h:j<n):(cN S o n).getD j default=XQ (cS S o j) (o.getD j 0):=by
 unfold cN;rw [aj,bP,dM h];rfl
theorem WM{S:List Lk}{o:List Int}(h:Dr S o){j:Nat}(hj:j<o.length):(cN S o o.length).getD j default=pI (o.getD j 0) (cA S o j):=by
 rw [aAp hj];exact awz ((DK h _ (aJ _)).2 j hj).b
theorem ato:∀i,i<5->arF (tD i) (tN i) (tB i) (5-i)=true:=by decide +kernel
theorem Io{o:List Int}{k:Nat}{x:Int}:x∈o.drop k↔∃j,k<=j/\j<o.length/\o.getD j 0=x:=by
 constructor
 ·intro h;obtain⟨i,hi,rfl⟩:=List.mem_iff_getElem.1 h;have:i<o.length-k:=by simpa using hi
  refine⟨k+i,by omega,by omega,?_⟩;rw [List.getElem_drop,aj,ak (by omega)];rfl
 rintro⟨j,h1,h2,rfl⟩;refine List.mem_iff_getElem.2 ⟨j-k,by simp;omega,?_⟩;rw [List.getElem_drop,aj,ak h2];have:k+(j-k)=j:=by omega
 simp only [this];rfl
theorem Nz{o:List Int}(h:o.Nodup){i j:Nat}(hij:i<j)(hj:j<o.length):o.getD j 0≠o.getD i 0:=by
 have:=fU.1 h i j (by omega) hj hij;rw [aj,ak hj,aj,ak (by omega)];exact fun e=>this e.symm
theorem aoC{S:List Lk}{o:List Int}(h:Dr S o):JR (cN S o o.length)=true:=by
 refine aip fun i hi=>?_;rw [IW]at hi;have hs:=(DK h o.length (aJ _)).2 i hi;have hd:=(DK h i (by omega)).1.d;have hl:=h.len;have hF:=ato (5-o.length+i) (by omega);rw [show 5-(5-o.length+i)=o.length-i by omega]at hF;refine(aaY (WM h hi)).2 ⟨aon hs.ar hd.2 hF,fun k hk=>?_,fun j hij hj=>?_⟩
 ·have hpl:(pI (o.getD i 0) (cA S o i)).ps.length=(cA S o i).length:=aV ..;rw [hpl]at hk;rw [Fb hk,IW];rcases hs.nd _ (getD_mem (l:=cA S o i) hk)with e|e
  ·exact .inl e
  obtain⟨j,h1,h2,h3⟩:=Io.1 e;exact .inr ⟨j,by omega,h2,by rw [WM h h2];exact h3⟩
 rw [IW]at hj;rw [WM h hj];exact Nz h.o.1 hij hj
def pE:Nat->Nat
 |0=>1
 |k+1=>pE k*((k+1)*tN (4-k))
def pQ:Nat->Nat
 |0=>0
 |k+1=>(k+1)*(pQ k*tN (4-k)+tB (4-k)*pE k)
theorem aAq:∀k,k<5->acF (tN (4-k)) (tB (4-k)) (k+1) (pE k) (pQ k)=true:=by decide +kernel
structure Pk (S:List Lk) (o:List Int) (k:Nat) (P:List Pt):Prop where
 ps:∃(E:Int) (fx fy:Int->Int),1<=E/\Ab E (pE k)/\Ps P E (pQ k) (0::o.drop (o.length-k)) fx fy
 dq:∀j,o.length-k<=j->j<o.length->dsq P (o.getD j 0) (cA S o j)=0
theorem Ps.get{P:List Pt}{E:Int}{Q:Nat}{us:List Int}{fx fy:Int->Int}(h:Ps P E Q us fx fy){v:Int}{p:Pt}{T zx zy:Int}{TB Q':Nat}(hv:0<=v/\v<P.length)(hvu:v∉us)(hT:1<=T)(hTB:Ab T TB)(hx:Fq p.x zx (E*T)/\Ab zx Q')(hy:Fq p.y zy (E*T)/\Ab zy Q')(hQ:Q*TB<=Q') :
  Ps (P.set v.toNat p) (E*T) Q' (v::us) (fun u=>if u=v then zx else fx u*T) (fun u=>if u=v then zy else fy u*T):=by
 have g0:(P.set v.toNat p).getD v.toNat default=p:=by
  rw [aj,List.getElem?_set_self (by omega)];rfl
 have g1:∀u∈us,(P.set v.toNat p).getD u.toNat default=P.getD u.toNat default:=fun u hu=>by
  have:=h.n u hu;have hne:u≠v:=fun e=>hvu (e▸hu);rw [aj,aj,List.getElem?_set_ne (by omega)]
 refine⟨fun u hu=>?_,fun u hu=>?_,fun u hu=>?_⟩
 ·rcases aI.1 hu with rfl|hu
  ·rw [aQ rfl,g0];exact hx
  have hne:u≠v:=fun e=>hvu (e▸hu);obtain⟨k1,k2⟩:=h.x u hu;rw [aN hne,g1 u hu];exact⟨k1.to (uF k1.n hT) (by grind),(lM k2 hTB).mono hQ⟩
 ·rcases aI.1 hu with rfl|hu
  ·rw [aQ rfl,g0];exact hy
  have hne:u≠v:=fun e=>hvu (e▸hu);obtain⟨k1,k2⟩:=h.y u hu;rw [aN hne,g1 u hu];exact⟨k1.to (uF k1.n hT) (by grind),(lM k2 hTB).mono hQ⟩
 rw [bV];rcases aI.1 hu with rfl|hu
 ·exact hv
 exact h.n u hu
theorem ar4{P Q:List Pt}{A:List Pa}(h:∀a∈A,P.getD a.node.toNat default=Q.getD a.node.toNat default):pX P A=pX Q A/\pY P A=pY Q A:=by
 unfold pX pY;constructor
 ·congr 1;exact Zj fun a ha=>by unfold qX;rw [h a ha]
 congr 1;exact Zj fun a ha=>by unfold qY;rw [h a ha]
theorem awC{P Q:List Pt}{A:List Pa}{v:Int}(hv:P.getD v.toNat default=Q.getD v.toNat default)(h:∀a∈A,P.getD a.node.toNat default=Q.getD a.node.toNat default):dsq P v A=dsq Q v A:=by
 unfold dsq;rw [hv,(ar4 h).1,(ar4 h).2]
theorem aFo{S:List Lk}{o:List Int}(h:Dr S o){N:List Cd}(hN:N=cN S o o.length):Pk S o 0 (Ih N 0):=by
 refine⟨⟨1,fun _=>0,fun _=>0,by decide,aJ 1,?_⟩,fun j h1 h2=>by omega⟩;rw [Nat.sub_zero,jA];have hg:(Ih N 0).getD 0 default=⟨lC 0,lC 0⟩:=by
  unfold Ih svP;rw [aj,List.getElem?_set_self (by simp)];rfl
 have e0:∀u:Int,u∈[(0:Int)]->u.toNat=0:=fun u hu=>by rw [aW.1 hu];rfl
 refine⟨fun u hu=>?_,fun u hu=>?_,fun u hu=>?_⟩
 ·rw [e0 u hu,hg];exact⟨aaf,aJ _⟩
 ·rw [e0 u hu,hg];exact⟨aaf,aJ _⟩
 rw [aW.1 hu,QN];omega
theorem aFp{S:List Lk}{o:List Int}(h:Dr S o){N:List Cd}(hN:N=cN S o o.length){k:Nat}(hk:k<o.length)(hp:Pk S o k (Ih N k)):Kw (svC N k) (Ih N k)=true/\Pk S o (k+1) (Ih N (k+1)):=by
 obtain⟨E,fx,fy,hE1,hE,hps⟩:=hp.ps;have hl:=h.len;have hj:o.length-1-k<o.length:=by omega
 have hs:=(DK h o.length (aJ _)).2 _ hj;have hd:=(DK h (o.length-1-k) (by omega)).1.d;have hC:svC N k=pI (o.getD (o.length-1-k) 0) (cA S o (o.length-1-k)):=by
  unfold svC;rw [hN,IW];exact WM h hj
 have ei:5-o.length+(o.length-1-k)=4-k:=by omega
 have em:o.length-(o.length-1-k)=k+1:=by omega
 have har:=hs.ar;have hF:=ato (4-k) (by omega);rw [show 5-(4-k)=k+1 by omega]at hF;have hF2:=aAq k (by omega);have hdb:=hd.2;rw [ei]at har hdb;rw [em]at har;have hnd:=hs.nd;have hvr:(o.getD (o.length-1-k) 0)∉(0:Int)::o.drop (o.length-k):=fun hm=>by
  have hv:=har.v;rcases aI.1 hm with e|e
  ·omega
  obtain⟨j,h1,h2,h3⟩:=Io.1 e;exact Nz h.o.1 (i:=o.length-1-k) (j:=j) (by omega) h2 h3
 have hdr:o.drop (o.length-(k+1))=o.getD (o.length-1-k) 0::o.drop (o.length-k):=by
  have:=afi (o:=o) (k:=o.length-1-k) hj;rw [show o.length-1-k+1=o.length-k by omega]at this;rw [show o.length-(k+1)=o.length-1-k by omega];exact this
 rw [show o.length-1-k+1=o.length-k by omega]at hnd;have hA:∀a∈cA S o (o.length-1-k),a.node∈(0:Int)::o.drop (o.length-k):=fun a ha=>by
  rcases hnd a ha with e|e
  ·rw [e];simp
  exact gG _ e
 obtain⟨ho,zx,zy,hx,hy,vx,vy⟩:=aAo har hdb hF hE1 hE hps hA hF2;have ht:=har.t;have hvl:(o.getD (o.length-1-k) 0).toNat<(Ih N k).length:=by
  rw [QN];have:=acO (l:=N) N.length (o.length-1-k) (by rw [hN,IW];exact hj);have e:(N.getD (o.length-1-k) default).node=o.getD (o.length-1-k) 0:=by rw [hN,WM h hj];rfl
  rw [e]at this;omega
 refine⟨by rw [hC];exact ho,?_⟩;have hsv:Ih N (k+1)=(Ih N k).set (o.getD (o.length-1-k) 0).toNat (acV (pI (o.getD (o.length-1-k) 0) (cA S o (o.length-1-k))) (Ih N k)):=by
  show (Ih N k).set (svC N k).node.toNat (acV (svC N k) (Ih N k))=_;rw [hC];rfl
 have hg0:(Ih N (k+1)).getD (o.getD (o.length-1-k) 0).toNat default=acV (pI (o.getD (o.length-1-k) 0) (cA S o (o.length-1-k))) (Ih N k):=by
  rw [hsv,aj,List.getElem?_set_self hvl];rfl
 have hg1:∀u∈(0:Int)::o.drop (o.length-k),(Ih N (k+1)).getD u.toNat default=(Ih N k).getD u.toNat default:=fun u hu=>by
  have:=hps.n u hu;have hv:=har.v;have hne:u≠o.getD (o.length-1-k) 0:=fun e=>hvr (e▸hu);rw [hsv,aj (l:=List.set _ _ _),List.getElem?_set_ne (by omega),aj (l:=Ih N k)]
 have hv:=har.v;have hb:pQ k*((k+1)*tN (4-k))<=(k+1)*(pQ k*tN (4-k)+tB (4-k)*pE k):=by
  rw [jC,Nat.mul_left_comm];omega
 have aAr:=hps.get (v:=o.getD (o.length-1-k) 0) ⟨by omega,by omega⟩ hvr ht.1 ht.2 hx hy hb;rw [<-hsv]at aAr;refine⟨⟨E*WL (cD S o (o.length-1-k)) (cA S o (o.length-1-k)),_,_,uF hE1 ht.1,lM hE ht.2,aAr.perm fun u hu=>?_⟩,fun j h1 h2=>?_⟩
 ·rw [hdr]at hu;simp only [aI]at hu ⊢;rcases hu with e|e|e
  ·exact .inr (.inl e)
  ·exact .inl e
  exact .inr (.inr e)
 by_cases e:j=o.length-1-k
 ·subst e;unfold dsq;rw [hg0,vx,vy,(ar4 fun a ha=>hg1 _ (hA a ha)).1,(ar4 fun a ha=>hg1 _ (hA a ha)).2]
  grind
 rw [<-hp.dq j (by omega) h2];have hj2:=(DK h o.length (aJ _)).2 j h2;refine awC (hg1 _ (gG _ (Io.2 ⟨j,by omega,h2,rfl⟩))) fun a ha=>hg1 _ ?_;rcases hj2.nd a ha with e2|e2
 ·rw [e2];simp
 obtain⟨i,h3,h4,h5⟩:=Io.1 e2;exact gG _ (Io.2 ⟨i,by omega,h4,h5⟩)
theorem pk_all{S:List Lk}{o:List Int}(h:Dr S o){N:List Cd}(hN:N=cN S o o.length):∀k,k<=o.length->Pk S o k (Ih N k)/\∀j,j<k->Kw (svC N j) (Ih N j)=true
 |0,_=>⟨aFo h hN,fun j hj=>absurd hj (dB _)⟩
 |
  k+1,hk=>by
  obtain⟨h1,h2⟩:=pk_all h hN k (by omega);obtain⟨h3,h4⟩:=aFp h hN (by omega) h1;refine⟨h4,fun j hj=>?_⟩;by_cases e:j=k
  ·subst e;exact h3
  exact h2 j (by omega)
theorem aoD{S:List Lk}{o:List Int}(h:Dr S o):svG (cN S o o.length)=true/\Pk S o o.length (XO (cN S o o.length)):=by
 obtain⟨h1,h2⟩:=pk_all h rfl o.length (aJ _);have hg:svG (cN S o o.length)=true:=ai2 (aoC h) fun k hk=>h2 k (by rw [IW]at hk;exact hk);refine⟨hg,?_⟩;rw [Nw hg,IW];exact h1
theorem ajg{p:Int}(h:p≠0):(p:Rat)≠0:=fun e=>h (Rat.intCast_eq_zero_iff.1 e)
theorem Fq.aFq{r s:R}{p1 n1 p2 n2:Int}(h1:Fq r p1 n1)(h2:Fq s p2 n2)(h3:p2≠0){p n:Int}{P N:Nat}(e:p1*n2*n=p*(n1*p2))(hn:1<=n)(hp:Ab p P)(hd:Ab n N)(hF:Ft P N=true):Fq (vS r s) p n:=by
 have a1:=mD h1.n;have a2:=mD h2.n;have a3:=ajg h3;have a:=mD hn;have e':=ri e;simp only [dZ]at e';refine⟨?_,hn⟩;rw [YN,h1.q,h2.q];show (if _=0 then none else norm (_ / _))=_;have hp2:(p2:Rat) / (n2:Rat)≠0:=by grind
 have hv:(p1:Rat) / n1 / ((p2:Rat) / n2)=(p:Rat) / n:=by grind
 rw [aN hp2,hv];exact QU hn hp hd hF
structure RcM (n c:Nat) (M:MF) (A:MQ) (D:Int) (N:Nat):Prop where
 len:∀i,i<n->(M i).length=c
 fq:∀i,i<n->∀j,j<c->∃z:Int,Ab z N/\Fq (L6 M i j) z D/\A i j=(z:Rat) / (D:Rat)
theorem awD{r:R}{z D:Int}(h:Fq r z D):xI r=0↔(z:Rat) / (D:Rat)=0:=by
 unfold xI;rw [h.q];show sgn _=0↔_;rw [<-Rat.num_eq_zero];unfold sgn;split
 ·omega
 split<;>omega
theorem aoE{n c k N:Nat}{D:Int}{M:MF}{A:MQ}(h:RcM n c M A D N)(hk:k<c):∀f p,p+f<=n->rrP M k f p=mqP A k f p
 |0,_,_=>rfl
 |
  f+1,p,hp=>by
  unfold rrP mqP;rw [aoE h hk f (p+1) (by omega)];obtain⟨z,_,z2,z3⟩:=h.fq p (by omega) k hk;have:=awD z2;rw [<-z3]at this;by_cases e:A p k=0
  ·rw [aQ e,aQ (this.2 e)]
  rw [aN e,aN fun z=>e (this.1 z)]
theorem RcM.sw{n c k p N:Nat}{D:Int}{M:MF}{A:MQ}(h:RcM n c M A D N)(hk:k<n)(hp:p<n):RcM n c (BL M k p) (FC A k p) D N:=by
 refine⟨fun i hi=>?_,fun i hi j hj=>?_⟩
 ·unfold BL;split
  ·exact h.len k hk
  split
  ·exact h.len p hp
  exact h.len i hi
 unfold L6 BL FC;by_cases e1:i=p
 ·rw [aQ e1,aQ e1];exact h.fq k hk j hj
 rw [aN e1,aN e1];by_cases e2:i=k
 ·rw [aQ e2,aQ e2];exact h.fq p hp j hj
 rw [aN e2,aN e2];exact h.fq i hi j hj
theorem RcM.Qj{n c N:Nat}{D:Int}{M:MF}{A:MQ}(h:RcM n c M A D N):Qj n M=true:=by
 refine VK.2 fun i hi=>bg.2 fun x hx=>?_;obtain⟨j,hj⟩:=bJ.1 hx;have hl:=(aP.1 hj).1;rw [h.len i hi]at hl;obtain⟨z,_,z2,_⟩:=h.fq i hi j hl;have:=z2.ok;unfold L6 at this
 rwa [aj,hj]at this
theorem aAs(z d s p:Rat)(hd:d≠0)(hp:p≠0)(h:s*s=1):z / d / (s*p / d)=s*z / p:=by
 have hs:s≠0:=fun e=>by rw [e]at h;grind
 have e1:s*p / d≠0:=by grind
 have e2:z / d=s*z / p*(s*p / d):=by grind
 rw [e2];grind
theorem aFr(x d s p z y:Rat)(hd:d≠0)(hp:p≠0):x / d-s*z / p*(y / d)=(x*p-s*z*y) / (d*p):=by grind
theorem aFs(d s p z:Rat)(hd:d≠0)(hp:p≠0):s*z / p=s*z*d / (d*p):=by grind
def gsF(D N:Nat):Bool:=Ft (N*D) (D*N)&&Ft (N*N) (D*N)&&Ft (N*N+N*N) (D*N)&&decide (N*D<=N*N+N*N)
theorem aAt{z:Int}(h:z≠0):∃s p:Int,1<=p/\p.natAbs=z.natAbs/\s.natAbs=1/\z=s*p/\s*s=1:=by
 rcases Int.lt_or_gt_of_ne h with h|h
 ·exact⟨-1,-z,by omega,by omega,by decide,by omega,by decide⟩
 exact⟨1,z,by omega,rfl,by decide,by omega,by decide⟩
theorem ar5{n c k N DB:Nat}{D:Int}{M:MF}{A:MQ}(h:RcM n c M A D N)(hk:k<n)(hc:n<=c)(hD:Ab D DB)(hF:gsF DB N=true) :
  (¬zf n A k<n/\EO n M k=none)\/(zf n A k<n/\∃M' D',EO n M k=some M'/\1<=D'/\Ab D' (DB*N)/\RcM n c M' (Jo A k (zf n A k)) D' (N*N+N*N)):=by
 have e:Z5 n M k=zf n A k:=aoE h (by omega) _ _ (by omega);unfold gsF at hF;simp only [aH,aZ]at hF;obtain⟨⟨⟨f1,f2⟩,f3⟩,f4⟩:=hF;by_cases hp:zf n A k<n
 ·refine .inr ⟨hp,?_⟩;have h0:=(acr hk hp).2;have h1:RcM n c (CO n M k) (FC A k (zf n A k)) D N:=by unfold CO;rw [e];exact h.sw hk hp
  have hd:FC A k (zf n A k) k k≠0:=by
   unfold FC;by_cases e:k=zf n A k
   ·rw [aQ e];rw [<-e]at h0;exact h0
   rw [aN e,aQ rfl];exact h0
  have hp':Z5 n M k<n:=by rw [e];exact hp
  unfold Jo;generalize FC A k (zf n A k)=S at h1 hd;obtain⟨w,w1,w2,w3⟩:=h1.fq k hk k (by omega);have hD1:=w2.n;have hD0:=mD hD1;have hw:w≠0:=fun e0=>hd (by rw [w3,e0,Rat.intCast_zero,eF,iT]);obtain⟨s,p,p1,p2,s1,ep,ss⟩:=aAt hw;have bp:Ab p N:=by unfold Ab at *;omega
  have bs:Ab s 1:=by unfold Ab;omega
  have hDp:=uF hD1 p1;have bDp:=lM hD bp;have p0:=mD p1;have s0:s≠0:=fun e0=>by rw [e0]at ss;omega
  have s0':=ajg s0;have ss':(s:Rat)*(s:Rat)=1:=by have:=ri ss;simpa only [dZ,Rat.intCast_one]using this
  have ep':(w:Rat)=s*p:=by have:=ri ep;simpa only [dZ]using this
  have t2:EN n M k k=Ru (CO n M k k) k:=aQ rfl;have dk:∀j,j<c->∃z:Int,Ab z N/\S k j=(z:Rat) / (D:Rat)/\Fq (L6 (EN n M k) k j) (s*z*D) (D*p):=fun j hj=>by
   obtain⟨z,z1,z2,z3⟩:=h1.fq k hk j hj;refine⟨z,z1,z3,?_⟩;have hq:L6 (EN n M k) k j=vS (L6 (CO n M k) k j) (L6 (CO n M k) k k):=by
    unfold L6;rw [t2,aeJ _ _ (by rw [h1.len k hk];exact hj)]
   rw [hq];exact z2.aFq w2 hw (by rw [ep];grind) hDp ((lM (lM bs z1) hD).mono (by rw [Nat.one_mul];exact aJ _)) bDp f1
  have h3:RcM n c (zU (EN n M k) k) (Xd (Pn S k) k) (D*p) (N*N+N*N):=by
   refine⟨fun i hi=>?_,fun i hi j hj=>?_⟩
   ·unfold zU;split
    ·rw [t2,VI];exact h1.len k hk
    rename_i e;rw [VJ];unfold EN;rw [aN e];exact h1.len i hi
   obtain⟨z,z1,z2,z3⟩:=dk j hj;by_cases e:i=k
   ·subst e;have e1:L6 (zU (EN n M i) i) i j=L6 (EN n M i) i j:=by unfold L6 zU;rw [aQ rfl]
    have e2:Xd (Pn S i) i i j=S i j / S i i:=by unfold Xd Pn;simp only [if_true]
    refine⟨s*z*D,((lM (lM bs z1) hD).mono (by rw [Nat.one_mul];exact f4)),by rw [e1];exact z3,?_⟩;rw [e2,z2,w3,ep',aAs _ _ _ _ hD0 p0 ss'];simp only [dZ];exact aFs _ _ _ _ hD0 p0
   obtain⟨x,x1,x2,x3⟩:=h1.fq i hi j hj;obtain⟨y,y1,y2,y3⟩:=h1.fq i hi k (by omega);have t3:EN n M k i=CO n M k i:=aN e;have e1:L6 (zU (EN n M k) k) i j=wL (L6 (CO n M k) i j) (mulR (L6 (EN n M k) k j) (L6 (CO n M k) i k)):=by
    unfold L6 zU;rw [aN e,t3,aeI _ _ _ (by rw [h1.len i hi];exact hj)];unfold L6;rw [t3]
   have e2:Xd (Pn S k) k i j=S i j-S k j / S k k*S i k:=by unfold Xd Pn;simp only [if_true,aN e]
   have bm:Ab (s*z*y) (N*N):=(lM (lM bs z1) y1).mono (by rw [Nat.one_mul];exact aJ _);have m1:=z3.mul y2 (p:=s*z*y) (n:=D*p) (by grind) hDp bm bDp f2;refine⟨x*p-s*z*y,IV (lM x1 bp) bm,?_,?_⟩
   ·rw [e1];exact x2.sub m1 (by grind) hDp (IV (lM x1 bp) bm) bDp f3
   rw [e2,x3,z2,w3,y3,ep',aAs _ _ _ _ hD0 p0 ss'];simp only [dZ,Rat.intCast_sub];exact aFr _ _ _ _ _ _ hD0 p0
  exact⟨_,D*p,aeL hp' h3.Qj,hDp,bDp,h3⟩
 exact .inl ⟨hp,aeK (by rw [e];exact hp)⟩
def gT(D N:Nat):Nat->Nat×Nat
 |0=>(D,N)
 |k+1=>((gT D N k).1*(gT D N k).2,(gT D N k).2*(gT D N k).2+(gT D N k).2*(gT D N k).2)
def gF(D N K:Nat):Bool:=(List.range K).all fun k=>gsF (gT D N k).1 (gT D N k).2
theorem atp{n c DB N:Nat}{D:Int}{m:MF}{A:MQ}(h:RcM n c m A D N)(hD1:1<=D)(hD:Ab D DB)(hc:n<=c)(hF:gF DB N n=true):∀k,k<=n ->
  (Pg n m k=none/\IL n A k=none)\/∃M B D',Pg n m k=some M/\IL n A k=some B/\1<=D'/\Ab D' (gT DB N k).1/\RcM n c M B D' (gT DB N k).2
 |0,_=>.inr ⟨m,A,D,rfl,rfl,hD1,hD,h⟩
 |
  k+1,hk=>by
  rcases atp h hD1 hD hc hF k (by omega)with ⟨e1,e2⟩|⟨M,B,D',e1,e2,h1,h2,h'⟩
  ·exact .inl ⟨by unfold Pg;rw [e1];rfl,by unfold IL;rw [e2];rfl⟩
  have s1:=acn e1;have s2:IL n A (k+1)=if zf n B k<n then some (Jo B k (zf n B k))else none:=by
   show (IL n A k).bind _=_;rw [e2];rfl
  have hf:gsF (gT DB N k).1 (gT DB N k).2=true:=by
   unfold gF at hF;exact bg.1 hF k (fF.2 (by omega))
  rcases ar5 (k:=k) h' (by omega) hc h2 hf with ⟨hp,e3⟩|⟨hp,M',D2,e3,h3,h4,h5⟩
  ·exact .inl ⟨by rw [s1,e3],by rw [s2,aN hp]⟩
  exact .inr ⟨M',_,D2,by rw [s1,e3],by rw [s2,aQ hp],h3,h4,h5⟩
theorem afm(f g:Nat->Rat):∀n,Bv (fun j=>f j+g j) n=Bv f n+Bv g n
 |0=>(dY 0).symm
 |
  n+1=>by
  show Bv (fun j=>f j+g j) n+(f n+g n)=Bv f n+f n+(Bv g n+g n);rw [afm f g n];grind
theorem atq(A:MQ)(k:Nat):∀f p,mqP A k f p=p+f->∀i,p<=i->i<p+f->A i k=0
 |0,p,_,i,h1,h2=>by omega
 |
  f+1,p,h,i,h1,h2=>by
  unfold mqP at h;split at h
  ·rename_i h0;by_cases e:i=p
   ·rw [e];exact h0
   exact atq A k f (p+1) (by omega) i (by omega) (by omega)
  omega
theorem awE{A:MQ}{n k p c:Nat}(hk:k<n)(hp:p<n)(h:∀i,i<n->A i c=0):∀i,i<n->Jo A k p i c=0:=by
 have hS:∀i,i<n->FC A k p i c=0:=fun i hi=>by
  unfold FC;by_cases e1:i=p
  ·rw [aQ e1];exact h k hk
  rw [aN e1];by_cases e2:i=k
  ·rw [aQ e2];exact h p hp
  rw [aN e2];exact h i hi
 intro i hi;have h1:=hS i hi;have h2:=hS k hk;unfold Jo;generalize FC A k p=S at h1 h2 ⊢;unfold Xd Pn;simp only [if_true];have z1:(0:Rat) / S k k=0:=by rw [eF,iT]
 by_cases e:i=k
 ·rw [aQ e,h2,z1]
 rw [aN e,aN e,h1,h2,z1,iT];grind
theorem aoF{n:Nat}{A:MQ}{c:Nat}(h:∀i,i<n->A i c=0):∀k {B:MQ},k<=n->IL n A k=some B->∀i,i<n->B i c=0
 |0,B,_,e=>by cases e;exact h
 |
  k+1,B,hk,e=>by
  unfold IL at e
  cases e1:IL n A k with
  |none=>rw [e1]at e;cases e
  |
   some C =>
   rw [e1]at e;have e:(if zf n C k<n then some (Jo C k (zf n C k))else none)=some B:=e;split at e
   ·rename_i hp
    cases e
    exact awE (by omega) hp (aoF h k (by omega) e1)
   cases e
theorem abn{n:Nat}{A:MQ}(hz:∀i,i<n->A i n=0)(hinj:∀y:Nat->Rat,(∀i,i<n->Bv (fun j=>A i j*y j) n=0)->∀i,i<n->y i=0):∀k,k<=n->∃B,IL n A k=some B
 |0,_=>⟨A,rfl⟩
 |
  k+1,hk=>by
  obtain⟨B,e⟩:=abn hz hinj k (by omega);have s2:IL n A (k+1)=if zf n B k<n then some (Jo B k (zf n B k))else none:=by
   show (IL n A k).bind _=_;rw [e];rfl
  by_cases hp:zf n B k<n
  ·exact⟨_,by rw [s2,aQ hp]⟩
  exfalso;have hle:=(ag3 B k (n-k) k).1;have hzk:=atq B k (n-k) k (by unfold zf at hp;omega);have hU:=ag4 k (by omega) e;have hBz:=aoF hz k (by omega) e;have hy:∀i,i<n->yH B n (fun j=>if j=k then 1 else if j<k then -B j k else 0) n i=0:=fun i hi=>by
   unfold yH;rw [hBz i hi,EY (g:=fun j=>(if i=j then(1:Rat)else 0)*(if j<k then -B j k else 0)+(if k=j then(1:Rat)else 0)*B i j) fun j hj=>?_]
   ·rw [afm,Oq (fun j=>if j<k then -B j k else 0),Oq (fun j=>B i j),aQ hi,aQ (c:=k<n) (by omega)];by_cases hik:i<k
    ·rw [aQ hik];grind
    rw [aN hik,hzk i (by omega) (by omega)];grind
   dsimp only;by_cases e1:j=k
   ·rw [aQ e1,aN (c:=j<k) (by omega),aQ (c:=k=j) e1.symm,e1];grind
   rw [aN e1,aN (c:=k=j) (by omega)];by_cases e2:j<k
   ·rw [aQ e2,hU i hi j e2];grind
   rw [aN e2];grind
  have hA:=Y6 k (by omega) e hy;have h1:=hinj (fun j=>if j=k then 1 else if j<k then -B j k else 0) (fun i hi=>by
   have h2:=hA i hi;unfold yH at h2;rw [hz i hi]at h2;generalize Bv _ n=r at h2 ⊢
   grind) k (by omega)
  rw [aQ rfl]at h1;exact absurd h1 (by decide)
theorem aoG{n:Nat}{A:MQ}(hinj:∀y:Nat->Rat,(∀i,i<n->Bv (fun j=>A i j*y j) n=0)->∀i,i<n->y i=0):IL n A n≠none:=by
 have hE:MqE n A fun i j=>if j<n then A i j else 0:=fun i hi j hj=>by simp only [aQ hj]
 obtain⟨B,e⟩:=abn (n:=n) (A:=fun i j=>if j<n then A i j else 0) (fun i _=>by simp only [aN (jg n)]) (fun y hy=>hinj y fun i hi=>by
  rw [<-hy i hi];exact EY fun j hj=>by simp only [aQ hj]) n (aJ _)
 rcases acs hE n (aJ _)with k|⟨A',B',k1,_,_⟩
 ·rw [e]at k;cases k.2
 rw [k1];simp
theorem ajh{n c:Nat}{w:List (List R)}{ci:Int}(hl:w.length=n)(hr:∀i,i<n->(w.getD i default).length=c)(hv:∀i,i<n->∀j,j<c->(mEl w i j).ok=true)(hn:n<=10)(hci:ci=c):CJ w ci=true:=by
 rw [ab7,aT (by omega)];intro i hi;unfold Rn;rw [aT (by rw [hr i (by omega)];omega),cZ];exact SE fun j hj=>hv i (by omega) j (by rw [<-hr i (by omega)];exact hj)
theorem aAu{n N DB:Nat}{D:Int}{m:List (List R)}{a:MQ}{b:List R}{v:Nat->Rat}(hl:m.length=n)(hr:∀i,i<n->(m.getD i default).length=n)(hb:b.length=n)(hn:n<=10)
  (ha:∀i,i<n->∀j,j<n->∃z:Int,Ab z N/\Fq (mEl m i j) z D/\a i j=(z:Rat) / (D:Rat)) (hv:∀i,i<n->∃z:Int,Ab z N/\Fq (b.getD i default) z D/\v i=(z:Rat) / (D:Rat))
  (hD1:1<=D) (hD:Ab D DB) (hF:gF DB N n=true) (hinj:∀y:Nat->Rat,(∀i,i<n->Bv (fun j=>a i j*y j) n=0)->∀i,i<n->y i=0) :
  Z7 m b=true/\(Xb m b).length=n/\∃y:Nat->Rat,(∀i,i<n->((Xb m b).getD i default).q=some (y i))/\∀i,i<n->Bv (fun j=>a i j*y j) n=v i:=by
 have hM:CJ m m.length=true:=ajh hl hr (fun i hi j hj=>by obtain⟨z,_,z2,_⟩:=ha i hi j hj;exact z2.ok) hn (by rw [hl]);have hC:ssC m b=true:=by unfold ssC;rw [hM,aT (by rw [hb,hl])];rfl
 have hw:RcM n (n+1) (yu (ZH m b)) (fun i j=>if j<n then a i j else v i) D N:=by
  refine⟨fun i hi=>?_,fun i hi j hj=>?_⟩
  ·unfold ZH;rw [Y4 (by rw [hl];exact hi)];unfold ssW;rw [aS,hr i hi];rfl
  unfold L6 ZH;rw [Y4 (by rw [hl];exact hi)];unfold ssW;by_cases hj2:j<n
  ·rw [ag5 (by rw [hr i hi];exact hj2)];simp only [aQ hj2];exact ha i hi j hj2
  rw [ag6 (by rw [hr i hi];omega),hr i hi,show j-n=0 by omega];simp only [aN hj2];exact hv i hi
 have hE:MqE n a fun i j=>if j<n then a i j else v i:=fun i hi j hj=>by simp only [aQ hj]
 have hwl:(ZH m b).length=n:=by unfold ZH;rw [QJ,hl]
 have hRC:rrC (ZH m b) ((m.length:Nat)+1)=true:=by
  unfold rrC;rw [ajh (n:=n) (c:=n+1) hwl hw.len (fun i hi j hj=>by obtain⟨z,_,z2,_⟩:=hw.fq i hi j hj;exact z2.ok) hn (by rw [hl];omega),aT (by rw [hwl,hl];omega)];rfl
 have hne:=aoG hinj;rcases atp hw hD1 hD (by omega) hF n (aJ _)with ⟨e1,e2⟩|⟨M,B,D',e1,e2,d1,d2,h3⟩
 ·exfalso;rcases acs hE n (aJ _)with k|⟨A',B',_,k2,_⟩
  ·exact hne k.1
  rw [e2]at k2;cases k2
 have hV:=Qk hRC (by rw [hwl];exact e1);obtain⟨eX,eB⟩:=aiB hC hV.2;rw [hwl]at hV;refine⟨eB,by rw [eX,hV.1];simp,fun i=>B i n,fun i hi=>?_,fun i hi=>?_⟩
 ·rw [eX,hV.1,fQ,aa8 hi,hl];obtain⟨z,_,z2,z3⟩:=h3.fq i hi n (by omega);dsimp only;rw [z3];exact z2.q
 have:=anv e2 n i hi;simp only [aN (jg n)]at this;rw [<-this];exact EY fun j hj=>by simp only [aQ hj]
def wV:Fn:=⟨3,63,[.cell 6 3 true],(.seq (rf 1 [oN 6 (.alloc uJ)]) (.seq (rf 1 [oK 10 1 (.call 39 [(cI 0)]),oN 7 (.alloc uJ),⟨none,none,1,.store 3 (.t 7) (.t 10),[]⟩]) (.seq (sr [oW 11 0,oN 12 (ln 11),oN 13 (.qC (cI 0))] (.block 0 (.loop (sr [oN 14 (bt .lss 13 12)] (.seq (cd 14 .skip (.exit 0)) (.seq (.block 1 (.seq (rf 1 [oK 15 1 (ix 11 11 13),oK 16 1 (lT 11 15),oN 9 (.alloc I5),⟨none,none,1,.store 11 (.t 9) (.t 16),[]⟩]) (.seq (sr [oW 17 1,oW 18 2,oN 19 (bt .eql 17 18),oW 20 19,oG 20 true 21 (fd 0 9),oG 20 true 22 (lF 1 21),oG 20 true 23 (oV 1),oG 20 true 24 (bt .eql 22 23),oG 20 true 25 (oV 24),oG 25 false 26 (fd 1 9),oG 25 false 27 (lF 1 26),oG 25 false 28 (oV 1),oG 25 false 29 (bt .eql 27 28),oG 20 true 30 (.pick (.t 25) (.c (.bool true)) (.t 29)),oN 31 (.pick (.t 20) (.t 30) (.c (.bool false)))] (cd 31 (rg [oN 32 (lT 3 7),oN 33 (fd 2 9),oN 34 (lT 3 33),oN 35 (cl 131 [32,34]),oS (.store 3 (.t 7) (.t 35))]) .skip)) (sr [oN 36 (fd 0 9),oN 37 (lF 1 36),oW 38 1,oN 39 (bt .eql 37 38),oW 40 39,oG 40 true 41 (fd 1 9),oG 40 true 42 (lF 1 41),oG 40 true 43 (oV 2),oG 40 true 44 (bt .eql 42 43),oN 45 (.pick (.t 40) (.t 44) (.c (.bool false))),oW 46 45,oG 46 false 47 (fd 0 9),oG 46 false 48 (lF 1 47),oG 46 false 49 (oV 2),oG 46 false 50 (bt .eql 48 49),oG 46 false 51 (oV 50),oG 51 true 52 (fd 1 9),oG 51 true 53 (lF 1 52),oG 51 true 54 (oV 1),oG 51 true 55 (bt .eql 53 54),oG 46 false 56 (.pick (.t 51) (.t 55) (.c (.bool false))),oN 57 (.pick (.t 46) (.c (.bool true)) (.t 56))] (cd 57 (rg [oN 58 (fd 2 9),oN 59 (lT 3 58),oN 60 (cl 161 [59]),oS (.store 3 (.t 7) (.t 60))]) .skip))))) (rg [oN 61 (bc .add 13 1),oW 13 61]))))))) (sr [oN 62 (lT 3 7),oS (.store 3 (.t 6) (.t 62))] .ret))))⟩
structure AU (T:Tb):Prop where
 hT:T 277=some wV
 lK:nV T
 lJ:nM T
 uX:uV T
def qN:Fn:=⟨1,46,[.tmp 2],(sr [oN 2 mN] (.seq (sr [oW 10 0,oN 11 (cl 89 [10]),oN 12 (nt 11)] (cd 12 (sr [oN 2 mN] .ret) .skip)) (sr [oW 13 0,oN 14 (cl 180 [13]),oW 3 14] (.seq (rf 1 [oN 15 (.nO 1 [.kC] 0 []),oK 4 1 (oV 15)]) (.seq (sr [oW 16 3,oN 17 (ln 16),oN 18 (.qC (cI 0))] (.block 0 (.loop (sr [oN 19 (bt .lss 18 17)] (.seq (cd 19 .skip (.exit 0)) (.seq (.block 1 (sr [oN 20 (ix 1 16 18),oN 21 (lF 1 20),oW 6 21] (.seq (rf 1 [oN 22 (.nO 3 uJ 0 []),oK 7 1 (oV 22)]) (.seq (sr [oW 23 3,oN 24 (ln 23),oN 25 (.qC (cI 0))] (.block 2 (.loop (sr [oN 26 (bt .lss 25 24)] (.seq (cd 26 .skip (.exit 2)) (.seq (.block 3 (sr [oN 27 (ix 1 23 25),oN 28 (lF 1 27),oW 9 28] (rf 2 [oK 29 2 (oV 7),oK 30 2 (oV 0),oK 31 2 (oV 6),oK 32 2 (oV 9),oK 33 2 (cl 277 [30,31,32]),oN 34 (.nO 3 uJ 1 [(0,(.t 33))]),oK 35 1 (.app 3 56 (.t 29) (.t 34)),oK 7 2 (oV 35)]))) (rg [oN 36 (bc .add 25 1),oW 25 36]))))))) (.seq (sr [oW 37 7,oN 38 (cl 244 [37]),oN 39 (nt 38)] (cd 39 (sr [oN 2 mN] .ret) .skip)) (rf 2 [oK 40 2 (oV 4),oK 41 2 (oV 7),oN 42 (.nO 1 [.kC] 1 [(0,(.t 41))]),oK 43 1 (.app 1 24 (.t 40) (.t 42)),oK 4 2 (oV 43)])))))) (rg [oN 44 (bc .add 18 1),oW 18 44]))))))) (sr [oW 45 4,oW 2 45] .ret))))))⟩
structure xE (T:Tb):Prop where
 hT:T 275=some qN
 sO:vG T
 vV:vU T
 um:yj T
 Qs:AU T
theorem ahy{T:Tb}(h:oh T){neg:Bool}{n:Nat}(hn:0<n)(hl:(mk n).length<=60) :
  Run T (.fn 68 [.bool neg,.lQ 0 0 (mk n).length] [some ⟨1,kU (mk n)⟩]) (.fn (.agg [.bool neg,.lQ 0 0 (mk n).length]) [some ⟨1,kU (mk n)⟩]):=by
 obtain⟨σ',hr,hold,hlen⟩:=SQ h (neg:=neg) (n:=n) (σ:=[some ⟨1,kU (mk n)⟩]) (o:=0) rfl hn hl;have:=Run.gcF [0] (by simp) (fun i hi=>by
  have:i=0:=by simpa using hi
  subst this;rfl) hr
 have e:Ij [0] σ'=[some ⟨1,kU (mk n)⟩]:=by
  have h0:jQ σ' 0=some ⟨1,kU (mk n)⟩:=hold 0 (by simp);simp [Ij,h0,Ju]
 rw [e]at this;simpa [lS,lS.IZ,place]using this
theorem aoH{T:Tb}(h:oh T){as:List Src}{dst:Option Nat}{env:Nat->V}{σ:Store}{kp bs:Nat}{rs ms:List Nat}{k:List Nat->List Nat->Bool->St->Prop}{neg:Bool}{n o:Nat}
  (h0:jQ σ o=some ⟨1,kU (mk n)⟩) (hn:0<n) (ha:(as.map fun s=>s.ev env)=[.bool neg,.lQ o 0 (mk n).length]) (hl:(mk n).length<=60)
  (hk:k [o] [] false ⟨oO env dst (.agg [.bool neg,.lQ o 0 (mk n).length]),σ,kp,bs,rs,ms⟩):ZT T 68 as dst ⟨env,σ,kp,bs,rs,ms⟩ k:=by
 have e1:Ij [o] σ=[some ⟨1,kU (mk n)⟩]:=by simp [Ij,h0,Ju]
 have ha2:(as.map fun s=>lS (place [o]) (s.ev env))=[.bool neg,.lQ 0 0 (mk n).length]:=by
  have:=congrArg (List.map (lS (place [o]))) ha;rw [fQ]at this;refine Eq.trans this ?_;simp [lS,place]
 refine aks (ρ:=[o]) (by simp) (fun q hq=>⟨_,by simp at hq;subst hq;exact h0⟩) ha2 (r:=.agg [.bool neg,.lQ 0 0 (mk n).length]) (by rw [e1];exact ahy h hn hl) (fun n=>by simp [lS,lS.IZ,back]) hk
theorem ahz{T:Tb}(h:uV T){q:Rat}(ha:Q.ok (some q))(hq:q.num≠0):PO T 161 [lD (Q.raw (some q))] (lD (Q.raw (negQ (some q)))):=by
 obtain⟨l1,l2⟩:=LG ha;have e:Q.raw (negQ (some q))=⟨!decide (q.num<0),mk q.num.natAbs,mk q.den⟩:=by
  simp only [negQ,Q.raw,Rat.neg_num,Rat.neg_den,Int.natAbs_neg,R.mk.injEq,and_true];have e2:sg (!decide (q.num<0)) q.num.natAbs = -q.num:=by
   by_cases h1:q.num<0
   ·simp [sg,h1];omega
   simp [sg,h1];omega
  by_cases h1:q.num<0
  ·rw [aT h1];simp [bi];omega
  rw [bH h1];simp [bi];omega
 rw [e];refine mM (fun x d=>x == 139||x == 68) h.hT ?_;simp only [zu,Lz,St.enter,au,aG,aX];refine ew ?_;refine jK (tJ h.kW) ?_;refine ew ?_;have hmp:=F8.2 (show 0<q.num.natAbs by omega);refine sK (KJ h.qO (l:=mk q.num.natAbs) (by omega)) (by (refine ew ?_;try with_reducible exact aC);rfl) rfl ?_;intro v1 q1 o1 g1;have k1:=g1.ow;rcases k1.yZ with ⟨h1,_,_⟩|⟨o,rfl,h1,ho1⟩
 ·rw [h1]at hmp;simp at hmp
 have f1:∀p∈o1,2<=p:=g1.fresh;have n1:=g1.nd;have B0:=g1.at 0 (by simp) rfl;have B1:=g1.at 1 (by simp) rfl;have lq1:2<=q1.length:=g1.len;have awF:=g1.old;clear g1;refine ew ?_;refine aoH h.mG (neg:=!decide (q.num<0)) h1 (by omega) rfl (by omega) ?_;refine Dy @B0 @kQ @lI ?_;refine sK (KJ h.qO (l:=mk q.den) (by omega)) (by (refine ew ?_;try with_reducible exact aC);rfl) rfl ?_;intro v2 q2 o2 g2;have k2:=g2.ow;have l2':=k2.leaf rfl;have f2:∀p∈o2,q1.length<=p:=g2.fresh;have n2:=g2.nd;have B1':=g2.at 1 (by omega) B1;have lq2:q1.length<=q2.length:=g2.len;have ar6:=g2.old;clear g2;have h2q:2<=q2.length:=by omega
 have fc:v2.cells? = some [v2]:=by
  rcases k2.yZ with ⟨_,rfl,_⟩|⟨o',rfl,_,_⟩<;>rfl
 have fc2:=fun k=>Yv (v:=v2) l2' k;refine ew7 @B1' @l2' @h2q @kQ @lI @fc @fc2 ?_;refine⟨by unfold sF;rfl,?_⟩;have aq4:=k1.lt;refine xg (UA (o1:=o1) (o2:=o2) (k1.frame fun p hp=>?_) (k2.frame fun p hp=>?_)) ?_
 ·have:=f1 p hp;rw [kN (by omega),ar6 p (aq4 p hp)]
 ·have:=f2 p hp;rw [kN (by omega)]
 rw [bf];refine⟨n1,n2,fun x hx y hy e=>?_⟩;have:=aq4 x hx;have:=f2 y hy;omega
theorem Zt{T:Tb}(h:uV T){r:R}(hr:r.cn)(hs:0<xI r):PO T 161 [lD r] (lD (negR r)):=by
 cases hq:r.q with
 |none=>unfold xI at hs;rw [hq]at hs;simp [yF]at hs
 |
  some q =>
  have ha:Q.ok (some q):=by rw [<-hq];exact Ld r
  have hn:q.num≠0:=fun e=>by
   unfold xI at hs;rw [hq]at hs;simp [yF,e,sgn]at hs
  have:=ahz h ha hn;unfold negR;rw [hq];rw [<-hq,hr]at this;rw [hq]at this;exact this
def VW(v u:Int)(s:R)(l:Lk):R :=
 if (l.a=v/\l.b=u)\/(l.a=u/\l.b=v)then negR l.w
 else if v=u/\(l.a=v\/l.b=v)then oC s l.w else s
def imP(s:List Lk)(v u:Int):Nat->R
 |0=>lC 0
 |k+1=>VW v u (imP s v u k) (s.getD k default)
theorem ahB(s:List Lk)(v u:Int):∀k,(imP s v u k).cn
 |0=>wO (by decide)
 |
  k+1=>by
  have:=ahB s v u k;simp only [imP];unfold VW;split
  ·exact Xv _
  split
  ·exact wM _ _
  exact this
def Xh(s:List Lk)(v:Int)(j:Nat):List R:=((kF s).take j).map fun u=>imP s v u s.length
def Zu(s:List Lk)(i:Nat):List (List R):=((kF s).take i).map fun v=>Xh s v (kF s).length
theorem aAv{s:List Lk}{v:Int}{j:Nat}(h:j<(kF s).length):Xh s v (j+1)=Xh s v j++[imP s v ((kF s).getD j default) s.length]:=by
 unfold Xh;rw [take_snoc h,bU];rfl
theorem aAw{s:List Lk}{i:Nat}(h:i<(kF s).length):Zu s (i+1)=Zu s i++[Xh s ((kF s).getD i default) (kF s).length]:=by
 unfold Zu;rw [take_snoc h,bU];rfl
theorem XU{s:List Lk}{v:Int}{j:Nat}(h:j<=(kF s).length):(Xh s v j).length=j:=by unfold Xh;rw [aV,eu];omega
theorem XV{s:List Lk}{i:Nat}(h:i<=(kF s).length):(Zu s i).length=i:=by unfold Zu;rw [aV,eu];omega
theorem aoI(s:List Lk)(v:Int)(j:Nat):∀r∈Xh s v j,r.cn:=fun r hr=>by
 obtain⟨u,_,rfl⟩:=bF.1 hr;exact ahB _ _ _ _
def imG(s:List Lk):Bool:=lN s&&(Zu s (kF s).length).all fun r=>r.all R.ok
def O4(s:List Lk):List (List R):=if imG s=true then Zu s (kF s).length else []
theorem ac1{s:List Lk}(h:imG s=false):O4 s=[]:=by unfold O4;rw [h];rfl
theorem Zv{s:List Lk}(h:imG s=true):O4 s=Zu s (kF s).length:=aQ h
theorem aAx{s:List Lk}(h:lN s=false):imG s=false:=by unfold imG;rw [h];rfl
theorem ar7{s:List Lk}{i:Nat}(hi:i<(kF s).length)(h:(Xh s ((kF s).getD i default) (kF s).length).all R.ok=false):imG s=false:=by
 unfold imG;rw [ku.2 ⟨Xh s ((kF s).getD i default) (kF s).length,by unfold Zu;rw [bI];exact bF.2 ⟨_,getD_mem hi,rfl⟩,by rw [h];simp⟩,jI]
theorem ar8{s:List Lk}(hb:lN s=true)(h:∀i,i<(kF s).length->(Xh s ((kF s).getD i default) (kF s).length).all R.ok=true):imG s=true:=by
 unfold imG;rw [hb,cZ,bg];intro r hr;unfold Zu at hr;rw [bI]at hr;obtain⟨v,hv,rfl⟩:=bF.1 hr;obtain⟨i,hi⟩:=bJ.1 hv;have hil:=(aP.1 hi).1;have:=h i hil
 rwa [aj,hi]at this
theorem aoJ(s:List Lk):∀r∈Zu s (kF s).length,(∀x∈r,x.cn)/\r.length=(kF s).length:=fun r hr=>by
 obtain⟨v,_,rfl⟩:=bF.1 hr;exact⟨aoI _ _ _,XU (aJ _)⟩
theorem awG(s:List Lk):NS (NS R.sz) (O4 s)<=100000/\DR (DR R.wf) (O4 s):=by
 cases h:imG s
 ·rw [ac1 h];exact⟨by simp [NS],by simp [DR]⟩
 rw [Zv h];have hn:=yR s;refine am3 (n:=10) (fun r hr=>⟨(aoJ s r hr).1,by have:=(aoJ s r hr).2;omega⟩) (by omega) (by rw [XV (aJ _)];exact hn)
structure afn (s:Store) (X:R) (x1 x2:V) (os:List Nat):Prop where
 a1:jQ s 1=some ⟨3,[[.bool X.neg,x1,x2]]⟩
 ow:nC s [.bool X.neg,x1,x2] X.cells os
 nd:os.Nodup
 fr:∀o∈os,2<=o
 a0:jQ s 0=some ⟨3,[[.bool false,.kC,.kC]]⟩
 len:2<=s.length
theorem afn.snoc{s:Store}{X:R}{x1 x2:V}{os:List Nat}(h:afn s X x1 x2 os){a:Option Obj}:afn (s++[a]) X x1 x2 os:=by
 have:=h.len;refine⟨(kV (by omega)).trans h.a1,h.ow.frame fun o ho=>kV (h.ow.lt o ho),h.nd,h.fr,(kV (by omega)).trans h.a0,by simp;omega⟩
theorem afn.put{s q:Store}{X Z:R}{x1 x2 z1 z2:V}{os o2:List Nat}(h:afn s X x1 x2 os)(hq:nC q [.bool Z.neg,z1,z2] Z.cells o2)(nd:o2.Nodup)(fr:∀o∈o2,s.length<=o)(old:∀o,o<s.length->jQ q o=jQ s o)(hl:s.length<=q.length) :
  afn (q.set 1 (some ⟨3,[[.bool Z.neg,z1,z2]]⟩)) Z z1 z2 o2:=by
 have:=h.len;refine⟨kY (by omega),hq.frame fun o ho=>kN (by have:=fr o ho;omega),nd,fun o ho=>by have:=fr o ho;omega,?_,by simp;omega⟩;rw [kN (by omega),old 0 (by omega),h.a0]
theorem VX{T:Tb}(h:AU T){S:List Lk}{v u:Int}(hb:lN S=true)(hl:S.length<=1048576):PO T 277 [nZ S,iv v,iv u] (lD (imP S v u S.length)):=by
 refine mM (fun x d=>x == 39||x == 131||x == 161) h.hT ?_;simp only [wV,Lz,St.enter,au,aG,aX];refine ew ?_;refine nH (qM h.lK (n:=0)) (by (refine ew ?_;try with_reducible exact aC)) ?_;intro r q1 o1 G;obtain⟨_,rfl,hQ⟩:=G.ow.lU;obtain⟨x1,x2,rfl⟩:=hQ.rat
 have l1:=nC.leaf hQ rfl;simp only [dD,dU,dJ,aH]at l1;have gl:2<=q1.length:=by have:=G.len;simpa using this
 have g0:jQ q1 0=some ⟨3,[[.bool false,.kC,.kC]]⟩:=G.old 0 (by simp);have S0:afn (q1.set 1 (some ⟨3,[[.bool (lC 0).neg,x1,x2]]⟩)) (lC 0) x1 x2 o1:=by
  have f1:=G.fresh;refine⟨kY (by omega),hQ.frame fun o ho=>kN (by have:=f1 o ho;simp at this;omega),G.nd,fun o ho=>by have:=f1 o ho;simp at this;omega,by rw [kN (by omega)];exact g0,by simp;omega⟩
 refine Dy @l1 @gl @List.set_set.{0} ?_;refine kZ (fun x d=>x == 39||x == 131||x == 161) (α:=Nat×Store×V×V×List Nat) (fun q=>⟨mJ [.any,iv v,iv u,.any,.any,.any,.ptr 0 0 0,.ptr 1 0 0,.any,.any,.any,nZ S,iv (S.length:Nat),iv (q.1:Nat)],q.2.1,0,0,[],[]⟩) (fun q=>q.1<=S.length/\afn q.2.1 (imP S v u q.1) q.2.2.1 q.2.2.2.1 q.2.2.2.2) (fun q=>S.length-q.1) rfl (0,q1.set 1 (some ⟨3,[[.bool (lC 0).neg,x1,x2]]⟩),x1,x2,o1) ?_ ?_ ?_
 ·exact⟨eH _,S0⟩
 ·(refine kS ?_;exact uw)
 clear S0 g0 gl l1 hQ G;rintro⟨k,s,x1,x2,os⟩ ⟨hk,I⟩;dsimp only at hk I;have hX:=ahB S v u k;have I1:=I.a1;have I0:=I.a0;have hsl:=I.len;have lx:=I.ow.leaf rfl;simp only [dD,dU,dJ,aH]at lx;by_cases hc:(k:Int)<(S.length:Nat)
 ·have hkl:k<S.length:=by omega
  have hx:(S.map Lk.cells).getD k []=(S.getD k default).cells:=mg hkl;have es:imP S v u (k+1)=VW v u (imP S v u k) (S.getD k default):=rfl;have hlk:=oL hb (getD_mem hkl);obtain⟨hn0,hn1,hn2⟩:=qp hlk;obtain⟨kw,kx,ky,kp⟩:=Bo hlk;have cw:=CG kw;generalize S.getD k default=l at *;generalize imP S v u k=X at *;have Gx:=I.snoc (a:=some ⟨11,[l.cells]⟩);obtain⟨w1,w2,e,km1,km2⟩:=(Om I.ow).1;simp only [iF,and_true,true_and]at e;obtain⟨rfl,rfl⟩:=e;have R1:=ah (fun a:Option Obj=>(km1.fr (s2:=s++[a]) (.old fun o ho=>kV ho)).r11) (fun a:Option Obj=>(km2.fr (s2:=s++[a]) (.old fun o ho=>kV ho)).r11);have e4:∀σ:Store,resolve σ FD (lD l.w)=some (lD l.w):=fun σ=>GR (agh [l.w] _ (by simp));unfold VW at es;by_cases huv:v=u
  ·have f0:(v=u)=True:=iy huv;by_cases h1:l.a=v
   ·have f1:(l.a=v)=True:=iy (by omega);have f2:(l.b=v)=False:=iD (by omega);have f3:(l.b=u)=False:=iD (by omega);have f4:(l.a=u)=True:=iy (by omega);refine D6 @hc @hx (ah f0 (ah f1 (ah f2 (ah f3 f4)))) @I1 ?_;refine nH (yT h.lJ hX cw) (by (refine Dy @R1 @e4 @hx ?_;try with_reducible exact aC);try rfl) ?_;intro r q2 o2 G;obtain⟨_,rfl,hQ⟩:=G.ow.lU;obtain⟨z1,z2,rfl⟩:=hQ.rat
    have lz:=nC.leaf hQ rfl;simp only [dD,dU,dJ,aH]at lz;have gl:s.length+1<=q2.length:=by have:=G.len;simpa using this
    have B1:jQ q2 1=some ⟨3,[[.bool X.neg,x1,x2]]⟩:=(G.old 1 (by simp;omega)).trans Gx.a1;have B9:jQ q2 s.length=some ⟨11,[l.cells]⟩:=(G.old s.length (by simp)).trans (rP _ _);have Z:=Gx.put hQ G.nd (fun o ho=>G.fresh o ho) (fun o ho=>G.old o ho) G.len;have hns:s.length≠1:=by omega
    have h1q:1<q2.length:=by omega
    refine Ku @lz @B1 @B9 (ah f0 (ah f1 (ah f2 (ah f3 f4)))) @List.set_set.{0} ?_;refine⟨(k+1,?st1,z1,z2,o2),?c1,⟨?c2,?c4⟩,?c3⟩
    case c3=>dsimp only;(refine kS ?_;exact uw)
    case c1=>dsimp only;omega
    case c2=>dsimp only;omega
    case c4 =>
     dsimp only;rw [es,aN (by omega),aQ (by omega)];exact Z
   by_cases h2:l.b=v
   ·have f1:(l.a=v)=False:=iD (by omega);have f2:(l.b=v)=True:=iy (by omega);have f3:(l.b=u)=True:=iy (by omega);have f4:(l.a=u)=False:=iD (by omega);refine D6 @hc @hx (ah f0 (ah f1 (ah f2 (ah f3 f4)))) @I1 ?_;refine nH (yT h.lJ hX cw) (by (refine Dy @R1 @e4 @hx ?_;try with_reducible exact aC);try rfl) ?_;intro r q2 o2 G;obtain⟨_,rfl,hQ⟩:=G.ow.lU;obtain⟨z1,z2,rfl⟩:=hQ.rat
    have lz:=nC.leaf hQ rfl;simp only [dD,dU,dJ,aH]at lz;have gl:s.length+1<=q2.length:=by have:=G.len;simpa using this
    have B1:jQ q2 1=some ⟨3,[[.bool X.neg,x1,x2]]⟩:=(G.old 1 (by simp;omega)).trans Gx.a1;have B9:jQ q2 s.length=some ⟨11,[l.cells]⟩:=(G.old s.length (by simp)).trans (rP _ _);have Z:=Gx.put hQ G.nd (fun o ho=>G.fresh o ho) (fun o ho=>G.old o ho) G.len;have hns:s.length≠1:=by omega
    have h1q:1<q2.length:=by omega
    refine Ku @lz @B1 @B9 (ah f0 (ah f1 (ah f2 (ah f3 f4)))) @List.set_set.{0} ?_;refine⟨(k+1,?st2,z1,z2,o2),?c1,⟨?c2,?c4⟩,?c3⟩
    case c3=>dsimp only;(refine kS ?_;exact uw)
    case c1=>dsimp only;omega
    case c2=>dsimp only;omega
    case c4 =>
     dsimp only;rw [es,aN (by omega),aQ (by omega)];exact Z
   have f1:(l.a=v)=False:=iD (by omega);have f2:(l.b=v)=False:=iD (by omega);have f3:(l.b=u)=False:=iD (by omega);have f4:(l.a=u)=False:=iD (by omega);refine D6 @hc @hx (ah f0 (ah f1 (ah f2 (ah f3 f4)))) @I1 ?_;refine⟨(k+1,?st3,x1,x2,os),?c1,⟨?c2,?c4⟩,?c3⟩
   case c3=>dsimp only;(refine kS ?_;exact uw)
   case c1=>dsimp only;omega
   case c2=>dsimp only;omega
   case c4 =>
    dsimp only;rw [es,aN (by omega),aN (by omega)];exact Gx
  have f0:(v=u)=False:=iD huv;by_cases h1:l.a=v
  ·by_cases h2:l.b=u
   ·have f1:(l.a=v)=True:=iy (by omega);have f3:(l.b=u)=True:=iy (by omega);have f4:(l.a=u)=False:=iD (by omega);refine D6 @hc @hx (ah f0 (ah f1 (ah f3 f4))) @I1 ?_;refine nH (Zt h.uX cw kp) (by (refine Dy @R1 @e4 @hx ?_;try with_reducible exact aC);try rfl) ?_;intro r q2 o2 G;obtain⟨_,rfl,hQ⟩:=G.ow.lU;obtain⟨z1,z2,rfl⟩:=hQ.rat
    have lz:=nC.leaf hQ rfl;simp only [dD,dU,dJ,aH]at lz;have gl:s.length+1<=q2.length:=by have:=G.len;simpa using this
    have B1:jQ q2 1=some ⟨3,[[.bool X.neg,x1,x2]]⟩:=(G.old 1 (by simp;omega)).trans Gx.a1;have B9:jQ q2 s.length=some ⟨11,[l.cells]⟩:=(G.old s.length (by simp)).trans (rP _ _);have Z:=Gx.put hQ G.nd (fun o ho=>G.fresh o ho) (fun o ho=>G.old o ho) G.len;have hns:s.length≠1:=by omega
    have h1q:1<q2.length:=by omega
    refine Ku @lz @B1 @B9 (ah f0 (ah f1 (ah f3 f4))) @List.set_set.{0} ?_;refine⟨(k+1,?st4,z1,z2,o2),?c1,⟨?c2,?c4⟩,?c3⟩
    case c3=>dsimp only;(refine kS ?_;exact uw)
    case c1=>dsimp only;omega
    case c2=>dsimp only;omega
    case c4 =>
     dsimp only;rw [es,aQ (by omega)];exact Z
   have f1:(l.a=v)=True:=iy (by omega);have f3:(l.b=u)=False:=iD (by omega);have f4:(l.a=u)=False:=iD (by omega);refine D6 @hc @hx (ah f0 (ah f1 (ah f3 f4))) @I1 ?_;refine⟨(k+1,?st5,x1,x2,os),?c1,⟨?c2,?c4⟩,?c3⟩
   case c3=>dsimp only;(refine kS ?_;exact uw)
   case c1=>dsimp only;omega
   case c2=>dsimp only;omega
   case c4 =>
    dsimp only;rw [es,aN (by omega),aN (by omega)];exact Gx
  by_cases h2:l.a=u
  ·by_cases h3:l.b=v
   ·have f1:(l.a=v)=False:=iD (by omega);have f4:(l.a=u)=True:=iy (by omega);have f2:(l.b=v)=True:=iy (by omega);refine D6 @hc @hx (ah f0 (ah f1 (ah f4 f2))) @I1 ?_;refine nH (Zt h.uX cw kp) (by (refine Dy @R1 @e4 @hx ?_;try with_reducible exact aC);try rfl) ?_;intro r q2 o2 G;obtain⟨_,rfl,hQ⟩:=G.ow.lU;obtain⟨z1,z2,rfl⟩:=hQ.rat
    have lz:=nC.leaf hQ rfl;simp only [dD,dU,dJ,aH]at lz;have gl:s.length+1<=q2.length:=by have:=G.len;simpa using this
    have B1:jQ q2 1=some ⟨3,[[.bool X.neg,x1,x2]]⟩:=(G.old 1 (by simp;omega)).trans Gx.a1;have B9:jQ q2 s.length=some ⟨11,[l.cells]⟩:=(G.old s.length (by simp)).trans (rP _ _);have Z:=Gx.put hQ G.nd (fun o ho=>G.fresh o ho) (fun o ho=>G.old o ho) G.len;have hns:s.length≠1:=by omega
    have h1q:1<q2.length:=by omega
    refine Ku @lz @B1 @B9 (ah f0 (ah f1 (ah f4 f2))) @List.set_set.{0} ?_;refine⟨(k+1,?st6,z1,z2,o2),?c1,⟨?c2,?c4⟩,?c3⟩
    case c3=>dsimp only;(refine kS ?_;exact uw)
    case c1=>dsimp only;omega
    case c2=>dsimp only;omega
    case c4 =>
     dsimp only;rw [es,aQ (by omega)];exact Z
   have f1:(l.a=v)=False:=iD (by omega);have f4:(l.a=u)=True:=iy (by omega);have f2:(l.b=v)=False:=iD (by omega);refine D6 @hc @hx (ah f0 (ah f1 (ah f4 f2))) @I1 ?_;refine⟨(k+1,?st7,x1,x2,os),?c1,⟨?c2,?c4⟩,?c3⟩
   case c3=>dsimp only;(refine kS ?_;exact uw)
   case c1=>dsimp only;omega
   case c2=>dsimp only;omega
   case c4 =>
    dsimp only;rw [es,aN (by omega),aN (by omega)];exact Gx
  have f1:(l.a=v)=False:=iD (by omega);have f4:(l.a=u)=False:=iD (by omega);refine D6 @hc @hx (ah f0 (ah f1 f4)) @I1 ?_;refine⟨(k+1,?st8,x1,x2,os),?c1,⟨?c2,?c4⟩,?c3⟩
  case c3=>dsimp only;(refine kS ?_;exact uw)
  case c1=>dsimp only;omega
  case c2=>dsimp only;omega
  case c4 =>
   dsimp only;rw [es,aN (by omega),aN (by omega)];exact Gx
 have hke:k=S.length:=by omega
 rw [hke]at I I1 hX;generalize imP S v u S.length=X at *;refine Ku @hc @I1 @I0 @lx @List.set_set.{0} ?_;have f1:=I.fr;exact xg (ru (I.ow.frame fun o ho=>kN (by have:=f1 o ho;omega))) I.nd
theorem Pv{T:Tb}(h:xE T){S:List Lk}(hw:DR Lk.wf S)(hl:S.length<=1048576):PO T 275 [nZ S] (sG (O4 S)):=by
 have ci:=Jh h.sO hw
 cases hb:lN S
 ·rw [hb]at ci;rw [ac1 (aAx hb)];refine mM nR h.hT ?_;simp only [qN,Lz,St.enter,au,aG,aX];refine ew ?_;refine jK ci ?_;refine ew ?_;exact qF
 rw [hb]at ci;have cn:=(Qg h.vV (l:=S) hw).XZ (kM _ _);rw [<-JW hb]at cn;have hnl:=yR S;refine mM (fun x d=>x == 277) h.hT ?_;simp only [qN,Lz,St.enter,au,aG,aX];refine ew ?_;refine jK ci ?_;refine ew ?_;refine jK cn ?_;refine ew ?_;refine kZ (fun x d=>x == 277) (α:=Nat×Store×V×List (List V)×List Nat×List (Nat×Obj)) (fun q=>⟨mJ [nZ S,.any,.any,ints (kF S),q.2.2.1,.any,.any,.any,.any,.any,.any,.any,.any,.any,.any,.any,ints (kF S),iv ((kF S).length:Nat),iv (q.1:Nat)],q.2.1,0,0,[],[]⟩) (fun q=>(q.1<=(kF S).length/\LAt 1 q.2.2.1 q.2.2.2.1 q.2.2.2.2.2/\(∀r∈q.2.2.2.1,r.length=1)/\q.2.2.2.1.length=q.1/\∀z,z<q.1->(Xh S ((kF S).getD z default) (kF S).length).all R.ok=true)/\Ep q.2.1 q.2.2.2.1.flatten (tO (Zu S q.1)) q.2.2.2.2.1 q.2.2.2.2.2) (fun q=>(kF S).length-q.1) rfl (0,[none],.kC,[],[],[]) ?_ ?_ ?_
 ·exact⟨⟨by omega,.inl ⟨rfl,rfl,rfl⟩,by simp,rfl,by intro z hz;omega⟩,⟨⟨by simp [tO,Zu,nC],.nil⟩,by simp⟩⟩
 ·(refine kS ?_;exact uw)
 rintro⟨i,s,v4,OA,os,M⟩ ⟨⟨hi,hv6,hOA,hOl,hok⟩,E⟩;dsimp only at hi hv6 hOA hOl hok E;by_cases hcc:(i:Int)<((kF S).length:Nat)
 ·have hil:i<(kF S).length:=by omega
  have eO:=aAw hil;have hTO:OA.flatten.length=(tO (Zu S i)).length:=by rw [agT hOA,avH,XV hi];omega
  have hbad:=ar7 hil;have hok2:(Xh S ((kF S).getD i default) (kF S).length).all R.ok=true->∀z,z<i+1->(Xh S ((kF S).getD z default) (kF S).length).all R.ok=true:=fun h z hz=>by
   by_cases e:z=i
   ·subst e;exact h
   exact hok z (by omega)
  generalize aFu:tO (Zu S i)=TO at *;obtain⟨v,hv⟩:∃v,(kF S).getD i 0=v:=⟨_,rfl⟩;rw [show (kF S).getD i default=v from hv]at eO hbad hok2;refine AZ @hcc @hv ?_;refine kZ (fun x d=>x == 277) (α:=Nat×Store×V×List (List V)×List Nat×List (Nat×Obj)) (fun q=>⟨mJ [nZ S,.any,.any,ints (kF S),v4,.any,iv v,q.2.2.1,.any,.any,.any,.any,.any,.any,.any,.any,ints (kF S),iv ((kF S).length:Nat),iv (i:Nat),.any,.any,.any,.any,ints (kF S),iv ((kF S).length:Nat),iv (q.1:Nat)],q.2.1,0,0,[],[]⟩) (fun q=>(q.1<=(kF S).length/\LAt 3 q.2.2.1 q.2.2.2.1 q.2.2.2.2.2/\(∀r∈q.2.2.2.1,r.length=3)/\q.2.2.2.1.length=q.1)/\Ep q.2.1 (q.2.2.2.1.flatten++OA.flatten) (rT (Xh S v q.1)++TO) q.2.2.2.2.1 (q.2.2.2.2.2++M)) (fun q=>(kF S).length-q.1) rfl (0,s++[none],.kC,[],os,[]) ?_ ?_ ?_
  ·exact⟨⟨by omega,.inl ⟨rfl,rfl,rfl⟩,by simp,rfl⟩,by simpa [rT,Xh]using E.snoc⟩
  ·(refine kS ?_;exact uw)
  rintro⟨j,s,v8,RA,os,N⟩ ⟨⟨hj,hv8,hRA,hRl⟩,E⟩;dsimp only at hj hv8 hRA hRl E;by_cases hcj:(j:Int)<((kF S).length:Nat)
  ·have hjl:j<(kF S).length:=by omega
   have eR:=aAv (v:=v) hjl;have hTR:RA.flatten.length=(rT (Xh S v j)).length:=by rw [flat3 hRA,agR,XU hj];omega
   generalize aFw:rT (Xh S v j)=TR at *;obtain⟨u,hu⟩:∃u,(kF S).getD j 0=u:=⟨_,rfl⟩;rw [show (kF S).getD j default=u from hu]at eR;have PI:=VX h.Qs (v:=v) (u:=u) hb hl;generalize imP S v u S.length=X at *;refine AZ @hcj @hu ?_;refine nH PI (by (refine ew ?_;try with_reducible exact aC)) ?_;intro r q1 o1 G;obtain⟨_,rfl,Rt⟩:=G.ow.lU;obtain⟨x1,x2,rfl⟩:=Rt.rat
   have E1:=E.got (s1:=(s++[none])++[none]) (fun o ho=>by simp only [cO];exact nX ho) (by simp) Rt G.nd G.fresh G.old;have gl:s.length+2<=q1.length:=by simpa using G.len
   have l1:=nC.leaf Rt rfl;simp only [dD,dU,dJ,aH]at l1;have hCl:(RA.flatten++OA.flatten).length=(TR++TO).length:=by rw [aS,aS,hTR,hTO]
   obtain⟨os2,E3,hm2⟩:=Ep.swap (a:=RA.flatten++OA.flatten) (b:=[.bool X.neg,x1,x2]) (c:=[]) (ta:=TR++TO) (tb:=X.cells) (tc:=[]) (by simpa only [aU]using E1) hCl rfl;simp only [aU]at E3;obtain⟨os',E5,hm5⟩:=Ep.swap (a:=[.bool X.neg,x1,x2]) (b:=RA.flatten) (c:=OA.flatten) (ta:=X.cells) (tb:=TR) (tc:=TO) E3 rfl hTR;have E5:Ep q1 ((RA++[[.bool X.neg,x1,x2]]).flatten++OA.flatten) ((TR++X.cells)++TO) os' (N++M):=by simpa [gq]using E5
   have hos:∀o∈os',o<s.length\/s.length+2<=o:=fun o ho=>by
    have:=(hm2 o).1 ((hm5 o).1 ho);rcases aK.1 this with h|h
    ·exact .inl (E.WY o h)
    have:=G.fresh o h;simp at this;exact .inr (by omega)
   have hLM:∀q∈N++M,q.1<s.length/\q.1∉os':=fun q hq=>⟨E.lt q hq,(E5.l q hq).2⟩;have hR':=ait hRA (show ([.bool X.neg,x1,x2]:List V).length=3 from rfl);have hstep:∀(S':Store) (q:Nat),(∀o∈os',jQ S' o=jQ q1 o)->(∀z∈M,jQ S' z.1=jQ q1 z.1)->s.length<=q->q<s.length+2->jQ S' q=some ⟨3,RA++[[.bool X.neg,x1,x2]]⟩ ->
     Ep S' ((RA++[[.bool X.neg,x1,x2]]).flatten++OA.flatten) (rT (Xh S v j++[X])++TO) os' ([(q,⟨3,RA++[[.bool X.neg,x1,x2]]⟩)]++M):=by
    intro S' q h1 h2 h3 h3' h4;rw [agQ,aFw];refine E5.to h1 fun z hz=>?_;rcases aK.1 hz with hz|hz
    ·rw [aW.1 hz];exact .inr ⟨h4,fun hm=>by have:=hos _ hm;dsimp only at this;omega⟩
    exact .inl ⟨by simp [hz],h2 z hz⟩
   rcases hv8 with ⟨rfl,rfl,rfl⟩|⟨pr,rfl,rfl⟩
   ·refine Dy @hcj @l1 @gl ?_;refine⟨by omega,?_⟩;refine⟨(j+1,?st,.lQ (s.length+1) 0 1,[]++[[.bool X.neg,x1,x2]],os',[(s.length+1,⟨3,[]++[[.bool X.neg,x1,x2]]⟩)]),?c1,⟨⟨?c2,.inr ⟨_,rfl,rfl⟩,hR',?c4⟩,?c6⟩,?c3⟩
    case c3=>dsimp only;(refine kS ?_;exact uw)
    case c1=>dsimp only;omega
    case c2=>dsimp only;omega
    case c4=>dsimp only;simp at hRl ⊢;omega
    case c6 =>
     dsimp only;rw [eR];refine hstep _ _ (fun o ho=>?_) (fun z hz=>?_) (by omega) (by omega) ?_
     ·have:=hos o ho;have n1:o≠s.length:=by omega
      have n2:o≠s.length+1:=by omega
      exact DV
     ·have:=(hLM z (by simp [hz])).1;exact DV
     exact kY (by simp<;>omega)
   have Lr:=E.at0 (p:=pr) (ob:=⟨3,RA⟩) (by simp);have Lr2:jQ q1 pr=some ⟨3,RA⟩:=(G.old pr (by simp;omega)).trans ((by simp only [cO];exact nX Lr.2:_=jQ s pr).trans Lr.1);have hpq:pr<q1.length:=by omega
   refine Ku @hcj @l1 @gl @Lr2 @hpq ?_;refine⟨by omega,?_⟩;refine⟨(j+1,?st2,.lQ (s.length+1) 0 (RA.length+1),RA++[[.bool X.neg,x1,x2]],os',[(s.length+1,⟨3,RA++[[.bool X.neg,x1,x2]]⟩)]),?c1,⟨⟨?c2,.inr ⟨_,by dsimp only;rw [List.length_append];rfl,rfl⟩,hR',?c4⟩,?c6⟩,?c3⟩
   case c3=>dsimp only;(refine kS ?_;exact uw)
   case c1=>dsimp only;omega
   case c2=>dsimp only;omega
   case c4=>dsimp only;simp at hRl ⊢;omega
   case c6 =>
    dsimp only;rw [eR];refine hstep _ _ (fun o ho=>?_) (fun z hz=>?_) (by omega) (by omega) ?_
    ·have:=hos o ho;have n1:o≠s.length:=by omega
     have n2:o≠s.length+1:=by omega
     have ha:o≠pr:=fun e=>(hLM (pr,⟨3,RA⟩) (by simp)).2 (e▸ho);exact DV
    ·have:=(hLM z (by simp [hz])).1;have hne:z.1≠pr:=fun e=>by
      have k1:=(E.l z (by simp [hz])).1;rw [e,Lr.1]at k1;rcases hv6 with ⟨_,_,rfl⟩|⟨po,_,rfl⟩
      ·cases hz
      rw [aW.1 hz]at k1;cases k1
     exact DV
    exact kY (by simp<;>omega)
  have hje:j=(kF S).length:=by omega
  rcases hv8 with ⟨rfl,rfl,rfl⟩|⟨pr,rfl,rfl⟩
  ·simp at hRl;omega
  have Lr:=E.at0 (p:=pr) (ob:=⟨3,RA⟩) (by simp);rw [hje]at E;have aFy:=aoI S v (kF S).length;have hRow:(Xh S v (kF S).length).length=RA.length:=by rw [XU (aJ _)];omega
  have eO2:tO (Zu S (i+1))=TO++[pK (Xh S v (kF S).length)]:=by rw [eO,avG,aFu]
  generalize Xh S v (kF S).length=row at *;have cg:=Nq h.um aFy (by omega);have hRr:∀r∈row.map R.cells,r.length=3:=fun r hr=>by obtain⟨x,_,rfl⟩:=bF.1 hr;rfl
  have E':Ep s (RA.flatten++OA.flatten) ((row.map R.cells).flatten++TO) os ([(pr,⟨3,RA⟩)]++M):=E;have Rf:=E'.UC (p:=pr) (n:=3) (by simp) hRA hRr (by simp [hRow]) FD (Ik _ _)
  cases hg:row.all R.ok
  ·rw [ac1 (hbad hg)];rw [hg]at cg;refine D6 @hcj @Rf @kQ @lI ?_;refine jK cg ?_;refine ew ?_;exact qF
  have aAz:=hok2 hg;rw [hg]at cg;obtain⟨os1,E1⟩:=E'.close (p:=pr) (n:=3) (by simp) hRA hRr (by simp [hRow]);obtain⟨os2,E2,_⟩:=Ep.swap (a:=[.lQ pr 0 RA.length]) (b:=OA.flatten) (c:=[]) (ta:=[pK row]) (tb:=TO) (tc:=[]) (show Ep s ([V.lQ pr 0 RA.length]++(OA.flatten++[])) ([pK row]++(TO++[])) _ _ from by rw [aU,aU];exact E1) rfl hTO;simp only [aU]at E2;have hlt':∀o∈os2,o<s.length:=E2.WY;have hO':=ait hOA (show ([.lQ pr 0 RA.length]:List V).length=1 from rfl);have hstep:∀(S':Store) (q:Nat),(∀o∈os2,jQ S' o=jQ s o)->s.length<=q->jQ S' q=some ⟨1,OA++[[.lQ pr 0 RA.length]]⟩ ->
    Ep S' (OA++[[V.lQ pr 0 RA.length]]).flatten (tO (Zu S (i+1))) os2 [(q,⟨1,OA++[[.lQ pr 0 RA.length]]⟩)]:=by
   intro S' q h1 h3 h4;rw [eO2,gq,show ([[V.lQ pr 0 RA.length]]:List (List V)).flatten=[V.lQ pr 0 RA.length]from rfl];refine E2.to h1 fun z hz=>?_;rw [aW.1 hz];exact .inr ⟨h4,fun hm=>by have:=hlt' _ hm;dsimp only at this;omega⟩
  refine D6 @hcj @Rf @kQ @lI ?_;refine jK cg ?_;rcases hv6 with ⟨rfl,rfl,rfl⟩|⟨po,rfl,rfl⟩
  ·refine Ae @Lr ?_;refine⟨by omega,?_⟩;refine⟨(i+1,?st3,.lQ (s.length+1) 0 1,[]++[[.lQ pr 0 RA.length]],os2,[(s.length+1,⟨1,[]++[[.lQ pr 0 RA.length]]⟩)]),?c1,⟨⟨?c2,.inr ⟨_,rfl,rfl⟩,hO',?c4,aAz⟩,?c6⟩,?c3⟩
   case c3=>dsimp only;(refine kS ?_;exact uw)
   case c1=>dsimp only;omega
   case c2=>dsimp only;omega
   case c4=>dsimp only;simp at hOl ⊢;omega
   case c6 =>
    refine hstep _ _ (fun o ho=>?_) (by omega) ?_
    ·have:=hlt' o ho;exact DV
    exact kY (by simp<;>omega)
  have Lo:=E.at0 (p:=po) (ob:=⟨1,OA⟩) (by simp);have npo:po≠pr:=fun e=>by have:=Lr.1;rw [<-e,Lo.1]at this;cases this
  have hno:po∉os2:=(E2.l (po,⟨1,OA⟩) (by simp;exact fun e=>npo e)).2;refine AZ @Lr @Lo ?_;refine⟨by omega,?_⟩;refine⟨(i+1,?st4,.lQ (s.length+1) 0 (OA.length+1),OA++[[.lQ pr 0 RA.length]],os2,[(s.length+1,⟨1,OA++[[.lQ pr 0 RA.length]]⟩)]),?c1,⟨⟨?c2,.inr ⟨_,by dsimp only;rw [List.length_append];rfl,rfl⟩,hO',?c4,aAz⟩,?c6⟩,?c3⟩
  case c3=>dsimp only;(refine kS ?_;exact uw)
  case c1=>dsimp only;omega
  case c2=>dsimp only;omega
  case c4=>dsimp only;simp at hOl ⊢;omega
  case c6 =>
   refine hstep _ _ (fun o ho=>?_) (by omega) ?_
   ·have:=hlt' o ho;have ha:o≠po:=fun e=>hno (e▸ho);exact DV
   exact kY (by simp<;>omega)
 have hie:i=(kF S).length:=by omega
 rw [hie]at E hok;rw [Zv (ar8 hb hok)];have hl2:(Zu S (kF S).length).length=OA.length:=by rw [XV (aJ _)];omega
 generalize Zu S (kF S).length=mm at *;rcases hv6 with ⟨rfl,rfl,rfl⟩|⟨po,rfl,rfl⟩
 ·have:mm=[]:=aY (by simpa using hl2);subst this;refine Ae @hcc ?_;exact qF
 have hTr:∀r∈mm.map fun r=>[pK r],r.length=1:=fun r hr=>by obtain⟨x,_,rfl⟩:=bF.1 hr;rfl
 obtain⟨os1,E1⟩:=Ep.close (A:=OA) (T:=mm.map fun r=>[pK r]) (c:=[]) (tc:=[]) (p:=po) (n:=1) (by simpa only [aU,tO]using E) (by simp) hOA hTr (by simp [hl2]);refine Ae @hcc ?_;obtain⟨v,vs,o1,o2,e,rfl,k1,k2⟩:=E1.c.ow.inv;simp only [iF]at e;obtain⟨rfl,rfl⟩:=e;obtain⟨_,rfl⟩:=k2.Ec;exact xg k1 (by have:=E1.c.nd;simpa using this)
def ac2(n:Nat)(rp:Nat->Nat)(M:MF):List (List V):=(List.range n).map fun x=>[.lQ (rp x) 0 (M x).length]
theorem afo(n:Nat)(rp:Nat->Nat)(M:MF):(ac2 n rp M).length=n:=by simp [ac2]
theorem aoK{n:Nat}{rp:Nat->Nat}{M:MF}{i p:Nat}{r:List R}:(ac2 n rp M).set i [.lQ p 0 r.length]=ac2 n (fun x=>if x=i then p else rp x) (aeO M i r):=by
 apply fV
 intro x;unfold ac2 aeO;rw [fH];simp only [aV,jM,bP];by_cases h:i=x
 ·subst h;by_cases hn:i<n
  ·simp [hn]
  rw [aQ rfl,aN hn,bC (by simpa using hn)];rfl
 rw [aN h];by_cases hn:x<n
 ·rw [dM hn];simp only [dh];rw [aN (fun e:x=i=>h e.symm),aN fun e:x=i=>h e.symm]
 rw [bC (by simpa using hn)];rfl
structure Xi (s:Store) (q n:Nat) (rp:Nat->Nat) (M:MF):Prop where
 inj:∀i j,i<n->j<n->rp i=rp j->i=j
 out:jQ s q=some ⟨1,ac2 n rp M⟩
 row:∀i,i<n->jQ s (rp i)=some ⟨3,(M i).map R.cells⟩
theorem Xi.lt{s:Store}{q n:Nat}{rp:Nat->Nat}{M:MF}(h:Xi s q n rp M):q<s.length/\∀i,i<n->rp i<s.length:=⟨lH h.out,fun i hi=>lH (h.row i hi)⟩
theorem Xi.ne{s:Store}{q n:Nat}{rp:Nat->Nat}{M:MF}(h:Xi s q n rp M){i:Nat}(hi:i<n):rp i≠q:=fun e=>by
 have:=h.row i hi;rw [e,h.out]at this;cases this
theorem Xi.ext{s:Store}{q n:Nat}{rp:Nat->Nat}{M M2:MF}(h:Xi s q n rp M)(e:∀i,M i=M2 i):Xi s q n rp M2:=by
 have:M=M2:=funext e;subst this;exact h
theorem Xi.res{s:Store}{q n:Nat}{rp:Nat->Nat}{M:MF}(h:Xi s q n rp M):resolve s FD (.lQ q 0 n)=some (sG ((List.range n).map M)):=by
 show resolve s (11+1) _=_;rw [resolve];simp only [h.out];rw [aQ (by rw [afo];omega),dA,bG (by rw [afo];omega)];have:((ac2 n rp M).mapM fun (r:List V)=>r.mapM (resolve s 11))=some ((List.range n).map fun i=>[pK (M i)]):=by
  unfold ac2;rw [List.mapM_map];refine mapM_some fun i hi=>?_;have hi:=fF.1 hi;have h1:=(aco (s:=s) (M i)).am9 (h.row i hi) 7;simp only [Function.comp,bZ,List.mapM_nil];rw [h1];rfl
 rw [this,dh];unfold sG;rw [fQ];rfl
theorem Xi.put{s s2:Store}{q n i p:Nat}{rp:Nat->Nat}{M:MF}{r:List R}(h:Xi s q n rp M)(hi:i<n)(hq:jQ s2 q=some ⟨1,(ac2 n rp M).set i [.lQ p 0 r.length]⟩)(hp:jQ s2 p=some ⟨3,r.map R.cells⟩)(hpl:s.length<=p)
  (ho:∀o,o<s.length->o≠q->o≠rp i->jQ s2 o=jQ s o):Xi s2 q n (fun x=>if x=i then p else rp x) (aeO M i r):=by
 refine⟨fun x y hx hy e=>?_,by rw [hq,aoK],fun x hx=>?_⟩
 ·by_cases h1:x=i<;>by_cases h2:y=i
  ·omega
  ·rw [aQ h1,aN h2]at e;have:=h.lt.2 y hy;omega
  ·rw [aN h1,aQ h2]at e;have:=h.lt.2 x hx;omega
  rw [aN h1,aN h2]at e;exact h.inj x y hx hy e
 by_cases h1:x=i
 ·subst h1;rw [aQ rfl,arf];exact hp
 rw [aN h1,arh h1,ho _ (h.lt.2 x hx) (h.ne hx) fun e=>h1 (h.inj x i hx hi e)];exact h.row x hx
theorem NC.snoc{s s2:Store}{q q2 p2 i c:Nat}{rp:Nat->Nat}{A:Nat->List (List V)}{M:MF}(h:i=0\/(0<i/\NC s q i c rp A M))(hq:jQ s2 q2=some ⟨1,CP i c rp++[[.lQ p2 0 c]]⟩)(hp:jQ s2 p2=some ⟨3,A i⟩)(hok:EP s2 (A i) (M i))(hpl:s.length<=p2)
  (old:∀o,o<s.length->o≠q->jQ s2 o=jQ s o):NC s2 q2 (i+1) c (fun x=>if x=i then p2 else rp x) A M:=by
 have hlt:∀x,x<i->rp x<s.length/\rp x≠q:=fun x hx=>by
  rcases h with h|⟨_,h⟩
  ·omega
  exact⟨h.lt.2 x hx,h.ne hx⟩
 refine⟨fun x y hx hy e=>?_,?_,fun x hx=>?_,fun x hx=>?_⟩
 ·by_cases h1:x=i
  ·by_cases h2:y=i
   ·omega
   rw [aQ h1,aN h2]at e;have:=(hlt y (by omega)).1;omega
  by_cases h2:y=i
  ·rw [aN h1,aQ h2]at e;have:=(hlt x (by omega)).1;omega
  rw [aN h1,aN h2]at e;rcases h with h|⟨_,h⟩
  ·omega
  exact h.inj x y (by omega) (by omega) e
 ·rw [hq];unfold CP;rw [iV,bU]
  congr 2
  congr 1
  ·refine gu fun x hx=>?_;have:=fF.1 hx;show [V.lQ (rp x) 0 c]=[V.lQ (if x=i then p2 else rp x) 0 c];rw [aN (by omega)]
  simp
 ·by_cases h1:x=i
  ·subst h1;rw [aQ rfl];exact hp
  rw [aN h1];have hxi:x<i:=by omega
  rcases h with h|⟨_,h⟩
  ·omega
  exact(old _ (hlt x hxi).1 (hlt x hxi).2).trans (h.row x hxi)
 by_cases h1:x=i
 ·subst h1;exact hok
 rcases h with h|⟨hi0,h⟩
 ·omega
 exact(h.cel x (by omega)).fr (h.kpq hi0 fun o h1 h2=>old o h2 h1)
theorem EP.drop{s:Store}{A:List (List V)}{r:List R}(h:EP s A r)(d:Nat):EP s (A.drop d) (r.drop d):=by
 refine⟨by rw [iK,iK,h.1],fun j hj=>?_⟩;rw [iK]at hj;have:=h.2 (d+j) (by omega);rw [aj,dV,aj,dV,<-aj,<-aj];exact this
theorem acj.res1{s:Store}{q:Nat}{Z:List (Nat×List R)}(h:∀x∈Z,jQ s x.1=some ⟨3,x.2.map R.cells⟩)(hq:jQ s q=some ⟨1,Z.map agU⟩):Ri s 0 Z.length (some ⟨1,Z.map agU⟩)=some (sG (Z.map (·.2))):=by
 have:resolve s 11 (.lQ q 0 Z.length)=some (sG (Z.map (·.2))):=by
  show resolve s (8+2+1) _=_;unfold resolve;simp only [hq];rw [aQ (by simp),dA,bG (by simp),acj.map h];rfl
 rw [<-this,ah4,hq]
def qj:Fn:=⟨1,101,[.tmp 2,.tmp 3],(sr [oN 2 mN,oN 3 mF] (.seq (sr [oW 16 0,oN 17 (cl 89 [16]),oN 18 (nt 17)] (cd 18 (sr [oN 2 mN,oN 3 mF] .ret) .skip)) (sr [oW 19 0,oN 20 (cl 180 [19]),oW 4 20] (sr [oW 21 0,oN 22 (cl 275 [21]),oW 5 22] (sr [oW 24 0,oN 25 (cl 276 [24]),oW 23 25,oN 26 (ex 0 23),oN 27 (ex 1 23),oW 6 26,oW 7 27] (.seq (sr [oW 28 5,oN 29 (ln 28),oW 30 4,oN 31 (ln 30),oN 32 (bt .neq 29 31),oW 33 32,oG 33 false 34 (oV 6),oG 33 false 35 (ln 34),oG 33 false 36 (oV 4),oG 33 false 37 (ln 36),oG 33 false 38 (bt .neq 35 37),oN 39 (.pick (.t 33) (.c (.bool true)) (.t 38)),oW 40 39,oG 40 false 41 (oV 7),oG 40 false 42 (ln 41),oG 40 false 43 (oV 4),oG 40 false 44 (ln 43),oG 40 false 45 (bt .neq 42 44),oN 46 (.pick (.t 40) (.c (.bool true)) (.t 45))] (cd 46 (sr [oN 2 mN,oN 3 mF] .ret) .skip)) (sr [oW 48 5,oW 49 6,oN 50 (cl 231 [48,49]),oW 47 50,oN 51 (ex 0 47),oN 52 (ex 1 47),oW 8 51,oW 9 52] (sr [oW 54 5,oW 55 7,oN 56 (cl 231 [54,55]),oW 53 56,oN 57 (ex 0 53),oN 58 (ex 1 53),oW 10 57,oW 11 58] (.seq (sr [oW 59 9,oN 60 (nt 59),oW 61 60,oG 61 false 62 (oV 11),oG 61 false 63 (nt 62),oN 64 (.pick (.t 61) (.c (.bool true)) (.t 63))] (cd 64 (sr [oN 2 mN,oN 3 mF] .ret) .skip)) (sr [oN 12 (.qC (cI 1))] (.seq (sr [oW 65 4,oN 66 (ln 65),oN 67 (bc .gtr 66 0)] (cd 67 (rg [oW 68 4,oW 69 4,oN 70 (ln 69),oN 71 (bc .sub 70 1),oN 72 (ix 1 68 71),oN 73 (lF 1 72),oN 74 (bc .add 73 1),oW 12 74]) .skip)) (.seq (rf 1 [oK 75 1 (oV 12),oN 76 (.make zz6 112 (.t 75)),oK 13 1 (oV 76)]) (sr [oW 77 13,oN 78 (.call 186 []),oN 79 (.idx 6 (.t 77) (cI 0)),oS (.store 6 (.t 79) (.t 78))] (.seq (sr [oW 80 4,oN 81 (ln 80),oN 82 (.qC (cI 0))] (.block 0 (.loop (sr [oN 83 (bt .lss 82 81)] (.seq (cd 83 .skip (.exit 0)) (.seq (.block 1 (sr [oW 84 82,oN 85 (ix 1 80 82),oN 86 (lF 1 85),oW 14 84,oW 15 86] (rt 0 [oW 87 13,oW 88 15,oW 89 8,oW 90 14,oA 91 0 (ix 3 89 90) [2,3],oA 92 0 (lT 3 91) [4],oW 93 10,oW 94 14,oA 95 0 (ix 3 93 94) [6,7],oA 96 0 (lT 3 95) [8],oA 97 0 (.build zz6 [(0,3,(.t 92)),(3,3,(.t 96))]) [5,9],oA 98 0 (ix 6 87 88) [0,1,0,1,2,3,4,5,6,7,8,9,10],⟨none,none,0,.store 6 (.t 98) (.t 97),[11,10,0,1,2,3,4,5,6,7,8,9,10]⟩]))) (rg [oN 99 (bc .add 82 1),oW 82 99]))))))) (sr [oW 100 13,oW 2 100,oN 3 mT] .ret)))))))))))))))⟩
structure AV (T:Tb):Prop where
 hT:T 269=some qj
 sO:vG T
 vV:vU T
 vH:yg T
 Kq:DJ T
 MK:xE T
 Kz:wG T
def aAA(σ:Store)(r t:V):Prop:=∃(W:Px) (σ2:Store) (r2:V) (os:List Nat),ReS W σ σ2/\yA W σ r r2/\mP σ2 r2 t os/\os.Nodup
theorem ar9{T:Tb}{f:Nat}{F:Fn}{args:List V}{t:V}(rf:Nat->Nat->Bool)(hT:T f=some F)
  (h:wp T rf F.body (fun e st=>endW F.res e (fun r σ=>aAA σ r t) st) (St.enter args [])) (hl:args.length=F.nargs:=by rfl) (hk:F.body.okC=true:=by rfl):PO T f args t:=by
 obtain⟨r,σ',h1,W,σ2,r2,os,h2,h3,h4,h5⟩:=run_end rf hT h hl hk;exact .of (.reF W (zi _) h1 h2 h3) h4 h5
theorem asa{p n:Nat}{σ:Store}{A A':List (List V)}{os:List Nat}(h:jQ σ p=some ⟨n,A⟩)(hl:A'.length=A.length)(hs:∀o∈os,∀ob,jQ σ o=some ob->nU ob.rows)
  (hr:∀(i:Nat) (r r2:List V),A[i]? = some r->A'[i]? = some r2->yB (keepW σ p A.length os) σ r r2):ReS (keepW σ p A.length os) σ (FN σ p ⟨n,A'⟩ os):=by
 refine⟨by unfold FN keepW;simp,?_,?_,?_⟩
 ·intro i j o s l s' l' hi hj;rw [<-(Gn hi).2.1,<-(Gn hj).2.1]
 ·intro k o s l hk;obtain⟨hlt,rfl,rfl,hk2⟩:=Gn hk;rcases hk2 with ⟨rfl,rfl⟩|⟨e,m,ob,h1,rfl⟩
  ·refine⟨_,⟨n,A'⟩,h,by simp,by show jQ (FN _ _ _ _) _=_;rw [yw hlt,aQ rfl],rfl,hl,fun i r r2 h1 h2=>hr i r r2 (by simpa using h1) h2⟩
  refine⟨ob,ob,h1,by simp,by show jQ (FN _ _ _ _) _=_;rw [yw hlt,aN e,aQ m,h1],rfl,rfl,fun i r r2 h2 h3=>?_⟩;rw [aX,h3]at h2;simp only [aB]at h2;subst h2;exact JE fun v hv=>hs o m ob h1 r2 (bn h3) v hv
 intro k hk;have hlt:k<σ.length:=by
  have:=(aP.1 hk).1;unfold keepW at this;simpa using this
 rw [Fe hlt]at hk;show jQ (FN _ _ _ _) _=_;rw [yw hlt];by_cases e:k=p
 ·rw [aQ e]at hk;cases hk
 rw [aN e]at hk ⊢;by_cases m:k∈os
 ·rw [aQ m]at hk ⊢
  cases ho:jQ σ k
  ·rfl
  rw [ho]at hk;cases hk
 rw [aN m]
theorem VY{σ:Store}:∀{ts rows:List (List V)} {os:List Nat},tX σ rows ts os->os.Nodup->∃f:Nat->List Nat,(∀i,i<ts.length->nC σ (rows.getD i []) (ts.getD i []) (f i)/\(f i).Nodup/\∀o∈f i,o∈os)/\∀i j,i<ts.length->j<ts.length->i≠j->∀o∈f i,o∉f j
 | [],rows,os,h,_=>⟨fun _=>[],fun i hi=>absurd hi (dB _),fun i j hi=>absurd hi (dB _)⟩
 |
  t::ts,rows,os,h,hn=>by
  simp only [tX]at h;obtain⟨v,vs',o1,o2,rfl,rfl,h1,h2⟩:=h;rw [bf]at hn;obtain⟨n1,n2,n3⟩:=hn;obtain⟨f,k1,k2⟩:=VY h2 n2;refine⟨fun i=>match i with|0=>o1|i+1=>f i,fun i hi=>?_,fun i j hi hj hne o h1 h2=>?_⟩
  ·cases i with
   |zero=>exact⟨h1,n1,fun o h=>by simp [show o∈o1 from h]⟩
   |
    succ i =>
    obtain⟨a,b,c⟩:=k1 i (by simpa using hi);exact⟨a,b,fun o h=>by simp [c o h]⟩
  cases i with
  |
   zero =>
   cases j with
   |zero=>exact hne rfl
   |succ j=>exact n3 o h1 o ((k1 j (by simpa using hj)).2.2 o h2) rfl
  |
   succ i =>
   cases j with
   |zero=>exact n3 o h2 o ((k1 i (by simpa using hi)).2.2 o h1) rfl
   |succ j=>exact k2 i j (by simpa using hi) (by simpa using hj) (by omega) o h1 h2
theorem aji{σ:Store}{c t:Nat->List V}{f:Nat->List Nat}:∀m:Nat,(∀j,j<m->nC σ (c j) (t j) (f j))->(∀j,j<m->(f j).Nodup)->(∀i j,i<m->j<m->i≠j->∀o∈f i,o∉f j) ->
  ∃os,tX σ ((List.range m).map c) ((List.range m).map t) os/\os.Nodup/\∀o,o∈os↔∃j,j<m/\o∈f j
 |0,_,_,_=>⟨[],by simp [tX],.nil,by simp⟩
 |
  m+1,h1,h2,h3=>by
  obtain⟨os,k1,k2,k3⟩:=aji m (fun j hj=>h1 j (by omega)) (fun j hj=>h2 j (by omega)) fun i j hi hj=>h3 i j (by omega) (by omega);refine⟨os++f m,?_,?_,fun o=>⟨fun h=>?_,fun h=>?_⟩⟩
  ·rw [iV,bU,bU];exact Dx k1 (aaO (h1 m (Nat.lt_succ_self _)))
  ·rw [bf];refine⟨k2,h2 m (Nat.lt_succ_self _),fun x hx y hy e=>?_⟩;subst e;obtain⟨i,hi,hi2⟩:=(k3 x).1 hx;exact h3 i m (by omega) (Nat.lt_succ_self _) (by omega) x hi2 hy
  ·rcases aK.1 h with h|h
   ·obtain⟨i,hi,k⟩:=(k3 o).1 h;exact⟨i,by omega,k⟩
   exact⟨m,Nat.lt_succ_self _,h⟩
  obtain⟨i,hi,k⟩:=h;by_cases e:i=m
  ·subst e;exact dL _ k
  exact eG _ ((k3 o).2 ⟨i,by omega,k⟩)
def dsC(s:List Lk):Bool:=lN s&&decide ((O4 s).length=(kF s).length)&&decide ((U3 s).length=(kF s).length)&&decide ((U4 s).length=(kF s).length)
def dsB(s:List Lk):Bool:=dsC s&&Z7 (O4 s) (U3 s)&&Z7 (O4 s) (U4 s)
def TF(ns:List Int)(xs ys:List R):Nat->Nat->Pt
 |0,j=>if j=0 then⟨lC 0,lC 0⟩else⟨R0,R0⟩
 |k+1,j=>if (j:Int)=ns.getD k default then⟨xs.getD k default,ys.getD k default⟩else TF ns xs ys k j
def dsH(ns:List Int):Nat->Nat
 |0=>1
 |k+1=>(ns.getD k default).toNat+1
def dsP(s:List Lk):List Pt:=(List.range (dsH (kF s) (kF s).length)).map (TF (kF s) (Xb (O4 s) (U3 s)) (Xb (O4 s) (U4 s)) (kF s).length)
def dsV(s:List Lk):List Pt:=if dsB s=true then dsP s else []
theorem aoL{s:List Lk}(h:dsB s=false):dsV s=[]:=by unfold dsV;rw [h];rfl
theorem atr{s:List Lk}(h:dsB s=true):dsV s=dsP s:=aQ h
theorem ajk{m:List (List R)}{b:List R}(h:Z7 m b=true):(Xb m b).length=m.length:=by
 have h':=h;unfold Z7 at h';simp only [aH]at h';obtain⟨M,e,_,_⟩:=anh h'.2;rw [(aiB h'.1 h'.2).1,e];simp [show (ZH m b).length=m.length from QJ _ _]
theorem awI(s:List Lk)(k:Nat)(hk:k<=(kF s).length):1<=dsH (kF s) k/\dsH (kF s) k<=10:=by
 cases k with
 |zero=>exact⟨aJ _,by simp only [dsH];omega⟩
 |
  succ k =>
  have:=DC (l:=s) (getD_mem (l:=kF s) (i:=k) (by omega));simp only [dsH];omega
theorem awJ(s:List Lk){k:Nat}(hk:k<(kF s).length):(dsH (kF s) k:Int)<=(kF s).getD k default:=by
 have ha:=Gh s;have hr:=DC (l:=s) (getD_mem (l:=kF s) (i:=k) hk)
 cases k with
 |zero=>simp only [dsH];omega
 |
  succ k =>
  have h0:=DC (l:=s) (getD_mem (l:=kF s) (i:=k) (by omega));unfold Asc at ha;have:=fU.1 ha k (k+1) (by omega) hk (by omega);have e1:(kF s).getD k default=(kF s)[k]'(by omega):=by rw [aj,ak (by omega)];rfl
  have e2:(kF s).getD (k+1) default=(kF s)[k+1]'hk:=by rw [aj,ak hk];rfl
  simp only [dsH];omega
def Fz(f:Int->Rat):List Int->Rat
 | []=>0
 |u::l=>f u+Fz f l
theorem Qu(f g:Int->Rat):∀l,Fz (fun u=>f u+g u) l=Fz f l+Fz g l
 | []=>(dY 0).symm
 |u::l=>by simp only [Fz];rw [Qu f g l];grind
theorem AX{f g:Int->Rat}:∀{l:List Int},(∀u∈l,f u=g u)->Fz f l=Fz g l
 | [],_=>rfl
 |u::l,h=>by simp only [Fz];rw [h u (by simp),AX (l:=l) fun x hx=>h x (by simp [hx])]
theorem VZ:∀l:List Int,Fz (fun _=>0) l=0
 | []=>rfl
 |u::l=>by simp only [Fz];rw [VZ l,dY]
theorem ac3(x:Int)(c:Rat):∀{l:List Int},x∉l->Fz (fun u=>if x=u then c else 0) l=0
 | [],_=>rfl
 |
  u::l,h=>by
  simp only [Fz];rw [aN fun e=>h (by simp [e]),ac3 x c fun k=>h (by simp [k]),dY]
theorem ajl(x:Int)(c:Rat):∀{l:List Int},l.Nodup->x∈l->Fz (fun u=>if x=u then c else 0) l=c
 | [],_,h=>by cases h
 |
  u::l,hn,h=>by
  rw [eU]at hn;simp only [Fz];by_cases e:x=u
  ·rw [aQ e,ac3 x c (e▸hn.1),dY]
  rw [aN e,ajl x c hn.2 ((aI.1 h).resolve_left e),iR]
theorem V3{f:Int->Rat}(h0:f 0=0){x:Int}{l:List Int}(hn:l.Nodup)(hx:x=0\/x∈l)(c:Rat):Fz (fun u=>if x=u then c*f u else 0) l=c*f x:=by
 have e:Fz (fun u=>if x=u then c*f u else 0) l=Fz (fun u=>if x=u then c*f x else 0) l:=AX fun u _=>by
  by_cases e:x=u
  ·rw [aQ e,aQ e,e]
  rw [aN e,aN e]
 rw [e];by_cases hm:x∈l
 ·exact ajl x _ hn hm
 rw [ac3 x _ hm,hx.resolve_right hm,h0,Rat.mul_zero]
theorem Zw(g:Int->Lk->Rat):∀(S:List Lk) (l:List Int),Fz (fun u=>tot (g u) S) l=tot (fun x=>Fz (fun u=>g u x) l) S
 | [],l=>VZ l
 |
  x::S,l=>by
  simp only [tot];rw [Qu,Zw g S l]
theorem ac4(c:Rat)(f:Lk->Rat):∀l,tot (fun u=>f u*c) l=tot f l*c
 | []=>(iT c).symm
 |u::l=>by simp only [tot];rw [ac4 c f l,Rat.add_mul]
theorem ac5(f g:Lk->Rat):∀l,tot (fun u=>f u-g u) l=tot f l-tot g l
 | []=>by simp only [tot];grind
 |u::l=>by simp only [tot];rw [ac5 f g l];grind
theorem abo(f:Int->Rat):∀l:List Int,Fz f l=Bv (fun j=>f (l.getD j 0)) l.length:=by
 intro l;have key:∀k,k<=l.length->Bv (fun j=>f (l.getD j 0)) k=Fz f (l.take k):=fun k=>by
  induction k with
  |zero=>intro _;rfl
  |
   succ k ih =>
   intro hk;show Bv _ k+f (l.getD k 0)=_;rw [ih (by omega)];have app:∀a b:List Int,Fz f (a++b)=Fz f a+Fz f b:=fun a b=>by
    induction a with
    |nil=>simp only [iU,Fz,iR]
    |cons x a ih=>simp only [dI,Fz];rw [ih,Rat.add_assoc]
   have e:l.take (k+1)=l.take k++[l.getD k 0]:=by
    rw [iY,ak (by omega),aj,ak (by omega)];rfl
   rw [e,app];simp only [Fz,dY]
 have:=key l.length (aJ _);rw [bI]at this;exact this.symm
def WO(h:Lk->Rat)(v:Int)(l:Lk):Rat:=if l.b=v then h l else if l.a=v then -h l else 0
def imq(v u:Int)(l:Lk):Rat:=if (l.a=v/\l.b=u)\/(l.a=u/\l.b=v)then -l.w.v else if v=u/\(l.a=v\/l.b=v)then l.w.v else 0
structure Nds (S:List Lk) (ns:List Int):Prop where
 nd:ns.Nodup
 n0:∀u∈ns,u≠0
 l:∀x∈S,(x.a=0\/x.a∈ns)/\(x.b=0\/x.b∈ns)/\x.a≠x.b
theorem ahD{S:List Lk}{ns:List Int}(h:Nds S ns){f:Int->Rat}(h0:f 0=0)(p:Lk->Rat):Fz (fun v=>tot (WO p v) S*f v) ns=tot (fun l=>p l*(f l.b-f l.a)) S:=by
 rw [AX (g:=fun v=>tot (fun l=>WO p v l*f v) S) fun v _=>(ac4 (f v) (WO p v) S).symm,Zw];refine BG fun x hx=>?_;have hl:=h.l x hx;rw [AX (g:=fun u=>(if x.b=u then p x*f u else 0)+(if x.a=u then -p x*f u else 0)) fun u _=>?_,Qu,V3 h0 h.nd hl.2.1,V3 h0 h.nd hl.1]
 ·grind
 unfold WO;by_cases e1:x.b=u
 ·rw [aQ e1,aQ e1,aN (c:=x.a=u) fun e=>hl.2.2 (e.trans e1.symm),dY]
 rw [aN e1,aN e1,iR];by_cases e2:x.a=u
 ·rw [aQ e2,aQ e2]
 rw [aN e2,aN e2,iT]
theorem aoM{S:List Lk}{ns:List Int}(h:Nds S ns){f:Int->Rat}(h0:f 0=0){v:Int}(hv:v∈ns):Fz (fun u=>tot (imq v u) S*f u) ns=tot (WO (fun l=>l.w.v*(f l.b-f l.a)) v) S:=by
 rw [AX (g:=fun u=>tot (fun l=>imq v u l*f u) S) fun u _=>(ac4 (f u) (imq v u) S).symm,Zw];refine BG fun x hx=>?_;have hl:=h.l x hx;have hv0:=h.n0 v hv;unfold WO;by_cases e1:x.b=v
 ·have e2:x.a≠v:=fun e=>hl.2.2 (e.trans e1.symm);rw [aQ e1,AX (g:=fun u=>(if x.a=u then -x.w.v*f u else 0)+(if v=u then x.w.v*f u else 0)) fun u _=>?_,Qu,V3 h0 h.nd hl.1,V3 h0 h.nd (.inr hv)]
  ·dsimp only;rw [e1];grind
  unfold imq;by_cases e3:x.a=u
  ·rw [aQ (.inr ⟨e3,e1⟩),aQ e3,aN (c:=v=u) fun e=>e2 (e3.trans e.symm),dY]
  rw [aN (by rintro(⟨a,_⟩|⟨a,_⟩);exact e2 a;exact e3 a),aN e3,iR];by_cases e4:v=u
  ·rw [aQ ⟨e4,.inr e1⟩,aQ e4]
  rw [aN fun c=>e4 c.1,aN e4,iT]
 rw [aN e1];by_cases e2:x.a=v
 ·rw [aQ e2,AX (g:=fun u=>(if x.b=u then -x.w.v*f u else 0)+(if v=u then x.w.v*f u else 0)) fun u _=>?_,Qu,V3 h0 h.nd hl.2.1,V3 h0 h.nd (.inr hv)]
  ·dsimp only;rw [e2];grind
  unfold imq;by_cases e3:x.b=u
  ·rw [aQ (.inl ⟨e2,e3⟩),aQ e3,aN (c:=v=u) fun e=>e1 (e3.trans e.symm),dY]
  rw [aN (by rintro(⟨_,a⟩|⟨_,a⟩);exact e3 a;exact e1 a),aN e3,iR];by_cases e4:v=u
  ·rw [aQ ⟨e4,.inl e2⟩,aQ e4]
  rw [aN fun c=>e4 c.1,aN e4,iT]
 rw [aN e2,AX (g:=fun _=>0) fun u _=>?_,VZ];unfold imq;rw [aN (by rintro(⟨a,_⟩|⟨_,a⟩);exact e2 a;exact e1 a),aN (by rintro⟨_,a|a⟩;exact e2 a;exact e1 a),iT]
theorem ac6{f:Lk->Rat}:∀{S:List Lk},(∀x∈S,0<=f x)->0<=tot f S/\(tot f S=0->∀x∈S,f x=0)
 | [],_=>⟨Rat.le_refl,fun _ x hx=>by cases hx⟩
 |
  x::S,h=>by
  have h1:=h x (by simp);obtain⟨h2,h3⟩:=ac6 (S:=S) fun y hy=>h y (by simp [hy]);simp only [tot];refine⟨by grind,fun e=>?_⟩;have e1:f x=0:=by grind
  have e2:tot f S=0:=by grind
  intro y hy;rcases aI.1 hy with rfl|hy
  ·exact e1
  exact h3 e2 y hy
theorem awK{S:List Lk}{ns:List Int}(h:Nds S ns)(hw:∀x∈S,0<x.w.v)(hc:∀u∈ns,Cn S u){f:Int->Rat}(h0:f 0=0)(hz:∀v∈ns,tot (WO (fun l=>l.w.v*(f l.b-f l.a)) v) S=0):∀u∈ns,f u=0:=by
 have hs:=ahD h h0 fun l=>l.w.v*(f l.b-f l.a);rw [AX (g:=fun _=>0) fun v hv=>by rw [hz v hv,iT],VZ]at hs;obtain⟨_,k⟩:=ac6 (f:=fun l=>l.w.v*(f l.b-f l.a)*(f l.b-f l.a)) (S:=S) fun x hx=>by
  have:=Rat.mul_nonneg (Rat.le_of_lt (hw x hx)) (afj (f x.b-f x.a))
  rwa [<-Rat.mul_assoc]at this
 have k:=k hs.symm;have ke:∀x∈S,f x.b=f x.a:=fun x hx=>by
  have h1:x.w.v*(f x.b-f x.a)*(f x.b-f x.a)=0:=k x hx;have h2:=hw x hx;generalize x.w.v=w at h1 h2;generalize f x.b-f x.a=d at h1;have hw0:w≠0:=fun e=>by rw [e]at h2;exact absurd h2 Rat.lt_irrefl
  have:d=0:=by grind
  grind
 have hall:∀u,Cn S u->f u=0:=fun u hu=>by
  induction hu with
  |z=>exact h0
  |
   @s u w x hx hxe _ ih =>
   have:=ke x hx;rcases hxe with ⟨e1,e2⟩|⟨e1,e2⟩
   ·rw [<-e1,<-this,e2];exact ih
   rw [<-e2,this,e1];exact ih
 exact fun u hu=>hall u (hc u hu)
end Go.Ml
end
