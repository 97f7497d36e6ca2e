/- Contracts of functions. -/
import Derived.Test.YtpcfblijjoomgaaGreatPart4
set_option linter.unusedSimpArgs false
set_option linter.unusedVariables false
set_option maxRecDepth 100000
set_option maxHeartbeats 16000000
section
namespace Go.Ml
def tV:Fn:=⟨2,167,[.cell 4 5 true,.tmp 5,.tmp 6],(.seq (rf 1 [oN 4 (.alloc zz4),oK 5 1 mN,oK 6 1 mF]) (.seq (sr [oW 18 1,oN 19 (bc .lss 18 1),oW 20 19,oG 20 false 21 (oV 1),oG 20 false 22 (bc .geq 21 10),oN 23 (.pick (.t 20) (.c (.bool true)) (.t 22))] (cd 23 (sr [oN 24 (.build zz4 []),oS (.store 5 (.t 4) (.t 24)),oN 5 mN,oN 6 mF] .ret) .skip)) (.seq (rf 1 [oK 25 1 (oV 1),oK 26 1 (.call 39 [(cI 0)]),oK 27 1 (.build zz4 [(0,1,(.t 25)),(1,3,(.t 26))]),oN 7 (.alloc zz4),⟨none,none,1,.store 5 (.t 7) (.t 27),[]⟩]) (.seq (rf 1 [oN 28 (.nM 3 uz 0 []),oK 8 1 (oV 28)]) (.seq (sr [oW 29 0,oN 30 (ln 29),oN 31 (.qw (cI 0))] (.block 0 (.loop (sr [oN 32 (bt .lss 31 30)] (.seq (cd 32 .skip (.exit 0)) (.seq (.block 1 (.seq (rf 1 [oK 33 1 (ix 11 29 31),oK 34 1 (lT 11 33),oN 10 (.alloc Hr),⟨none,none,1,.store 11 (.t 10) (.t 34),[]⟩]) (.seq (sr [oN 35 (fd 0 10),oN 36 (lF 1 35),oW 37 1,oN 38 (bt .eql 36 37)] (cd 38 (rt 2 [oK 39 2 (fd 4 7),oA 40 2 (lF 1 39) [0],oK 41 2 (fd 1 10),oA 42 2 (lF 1 41) [2],oK 43 2 (fd 5 10),oA 44 2 (lT 3 43) [4],oA 45 2 (cl 161 [44]) [5],oK 46 2 (fd 8 10),oA 47 2 (lT 3 46) [7],oA 48 2 (cl 161 [47]) [8,6],oA 49 2 (.build zz5 [(0,1,(.t 42)),(4,3,(.t 45)),(7,3,(.t 48))]) [3,6,9],oA 50 0 (.nM 10 zz5 1 [(0,(.t 49))]) [10],oA 51 1 (.app 10 176 (.t 40) (.t 50)) [1,11,9],oA 52 2 (fd 4 7) [0,1,2,3,4,5,6,7,8,9,10,11,12],⟨none,none,2,.store 1 (.t 52) (.t 51),[13,12,12,0,1,2,3,4,5,6,7,8,9,10,11,12]⟩]) (sr [oN 53 (fd 1 10),oN 54 (lF 1 53),oW 55 1,oN 56 (bt .eql 54 55)] (cd 56 (rf 2 [oK 57 2 (fd 4 7),oK 58 2 (lF 1 57),oK 59 2 (fd 0 10),oK 60 2 (lF 1 59),oK 61 2 (fd 5 10),oK 62 2 (lT 3 61),oK 63 2 (fd 8 10),oK 64 2 (lT 3 63),oK 65 2 (.build zz5 [(0,1,(.t 60)),(4,3,(.t 62)),(7,3,(.t 64))]),oN 66 (.nM 10 zz5 1 [(0,(.t 65))]),oK 67 1 (.app 10 176 (.t 58) (.t 66)),oK 68 2 (fd 4 7),⟨none,none,2,.store 1 (.t 68) (.t 67),[]⟩]) (.exit 1))))) (.seq (rf 2 [oK 69 2 (oV 8),oK 70 2 (fd 2 10),oK 71 2 (lT 3 70),oN 72 (.nM 3 uz 1 [(0,(.t 71))]),oK 73 1 (.app 3 56 (.t 69) (.t 72)),oK 8 2 (oV 73)]) (rg [oN 74 (fd 1 7),oN 75 (lT 3 74),oN 76 (fd 2 10),oN 77 (lT 3 76),oN 78 (cl 131 [75,77]),oN 79 (fd 1 7),oS (.store 3 (.t 79) (.t 78))]))))) (rg [oN 80 (bc .add 31 1),oW 31 80]))))))) (.seq (sr [oN 81 (fd 4 7),oN 82 (lF 1 81),oN 83 (ln 82),oN 84 (.qw (cI 0))] (.block 2 (.loop (sr [oN 85 (bt .lss 84 83)] (.seq (cd 85 .skip (.exit 2)) (.seq (.block 3 (sr [oW 86 84,oW 11 86] (rt 0 [oN 87 (fd 4 7),oA 88 0 (lF 1 87) [0],oW 89 11,oW 90 8,oW 91 11,oA 92 0 (ix 3 90 91) [3,4],oA 93 0 (lT 3 92) [5],oN 94 (fd 1 7),oA 95 0 (lT 3 94) [7],oA 96 0 (cl 156 [93,95]) [6,8],oA 97 0 (ix 10 88 89) [1,2,0,1,2,3,4,5,6,7,8,9],oA 98 0 (fd 1 97) [10,0,1,2,3,4,5,6,7,8,9],⟨none,none,0,.store 3 (.t 98) (.t 96),[11,9,9,0,1,2,3,4,5,6,7,8,9]⟩]))) (rg [oN 99 (bc .add 84 1),oW 84 99]))))))) (.seq (sr [oN 100 (lT 5 7),oN 101 (cl 185 [100]),oN 102 (nt 101)] (cd 102 (sr [oN 103 (.build zz4 []),oS (.store 5 (.t 4) (.t 103)),oN 5 mN,oN 6 mF] .ret) .skip)) (.seq (rf 1 [oN 104 (.nM 11 Hr 0 []),oK 12 1 (oV 104)]) (.seq (sr [oN 105 (fd 4 7),oN 106 (lF 1 105),oN 107 (ln 106),oN 108 (.qw (cI 0))] (.block 4 (.loop (sr [oN 109 (bt .lss 108 107)] (.seq (cd 109 .skip (.exit 4)) (.seq (.block 5 (.seq (rf 1 [oK 110 1 (oV 108),oK 111 1 (ix 10 106 108),oK 112 1 (lT 10 111),oN 14 (.alloc zz5),oK 13 1 (oV 110),⟨none,none,1,.store 10 (.t 14) (.t 112),[]⟩]) (sr [oW 113 13,oN 114 (bc .add 113 1),oW 15 114] (.block 6 (.loop (.seq (sr [oW 115 15,oN 116 (fd 4 7),oN 117 (lF 1 116),oN 118 (ln 117),oN 119 (bt .lss 115 118)] (cd 119 .skip (.exit 6))) (.seq (.block 7 (.seq (rf 1 [oK 122 1 (fd 4 7),oK 123 1 (lF 1 122),oK 124 1 (oV 15),oK 125 1 (ix 10 123 124),oK 126 1 (lT 10 125),oN 16 (.alloc zz5),⟨none,none,1,.store 10 (.t 16) (.t 126),[]⟩]) (.seq (rt 1 [oK 127 1 (fd 0 14),oA 128 1 (lF 1 127) [0],oK 129 1 (fd 0 16),oA 130 1 (lF 1 129) [2],oK 131 1 (oV 8),oK 132 1 (oV 13),oA 133 1 (ix 3 131 132) [4,5],oA 134 1 (lT 3 133) [6],oK 135 1 (oV 8),oK 136 1 (oV 15),oA 137 1 (ix 3 135 136) [8,9],oA 138 1 (lT 3 137) [10],oA 139 1 (cl 157 [134,138]) [7,11],oK 140 1 (fd 1 7),oA 141 1 (lT 3 140) [13],oA 142 1 (cl 156 [139,141]) [12,14,12],oA 143 1 (.build Hr [(0,1,(.t 128)),(1,1,(.t 130)),(2,3,(.t 142))]) [1,3,15],oN 17 (.alloc Hr),⟨none,none,1,.store 11 (.t 17) (.t 143),[17,16,15,0,1,2,3,4,5,6,7,8,9,10,11,12,13,14,15,16,17]⟩]) (sr [oN 144 (fd 4 14),oN 145 (lT 3 144),oN 146 (fd 4 16),oN 147 (lT 3 146),oN 148 (cl 159 [145,147]),oN 149 (fd 5 17),oS (.store 3 (.t 149) (.t 148))] (sr [oN 150 (fd 7 14),oN 151 (lT 3 150),oN 152 (fd 7 16),oN 153 (lT 3 152),oN 154 (cl 159 [151,153]),oN 155 (fd 8 17),oS (.store 3 (.t 155) (.t 154))] (.seq (sr [oN 156 (lT 11 17),oN 157 (cl 84 [156]),oN 158 (nt 157)] (cd 158 (sr [oN 159 (.build zz4 []),oS (.store 5 (.t 4) (.t 159)),oN 5 mN,oN 6 mF] .ret) .skip)) (rf 2 [oK 160 2 (oV 12),oK 161 2 (lT 11 17),oN 162 (.nM 11 Hr 1 [(0,(.t 161))]),oK 163 1 (.app 11 184 (.t 160) (.t 162)),oK 12 2 (oV 163)]))))))) (rg [oW 120 15,oN 121 (bc .add 120 1),oW 15 121])))))))) (rg [oN 164 (bc .add 108 1),oW 108 164]))))))) (sr [oN 165 (lT 5 7),oW 166 12,oS (.store 5 (.t 4) (.t 165)),oW 5 166,oN 6 mT] .ret))))))))))⟩
structure zX (T:Tb):Prop where
 hT:T 182=some tV
 lC:nX T
 CV:xX T
 lN:oO T
 uN:uM T
 l9:qL T
 qO:sG T
 uK:uJ T
 AP:vJ T
theorem V5{T:Tb}(h:zX T){S:List Lk}{v:Int}(hb:lI S=true)(hw:Iz Lk.wf S):PF T 182 [nY S,iv v] (.oJ [Y6 (elC S v),nY (elM S v),.bool (V4 S v)]):=by
 have hl:S.length<=100:=U4 hb;have c0:=KO h.lC (n:=0);by_cases hv:1<=v/\v<=9
 ·have hv1:¬v<1:=by omega
  have hv2:¬v>=10:=by omega
  refine kS (fun x d=>(x == 39&&d == 999)) h.hT ?_;simp only [tV,Lz];refine ew ?_;refine Af @hv1 @hv2 ?_;refine jM c0 ?_;refine ew ?_;refine kV (fun x d=>(x == 39&&d == 999)) (α:=Nat×Store×V×V) (fun q=>⟨mM [nY S,iv v,.any,.any,.ptr 0 0 0,.jZ,.bool false,.ptr 1 0 0,q.2.2.2,.any,.any,.any,.any,.any,.any,.any,.any,.any,.any,.any,.any,.any,.any,.any,.any,.any,.any,.any,.any,nY S,iv (S.length:Nat),iv (q.1:Nat)],q.2.1,0,0,[],[]⟩) (fun q=>q.1<=S.length/\ElI q.2.1 v (qZ (KY S v q.1)) q.2.2.1 q.2.2.2 ((KY S v q.1).map paZ) ((KY S v q.1).map Pa.wc)) (fun q=>S.length-q.1) rfl (0,[some ⟨5,[[iv 0,.bool false,.jZ,.jZ,.jZ]]⟩,some ⟨5,[[iv v,.bool (kZ 0).neg,ints (kZ 0).mag,ints (kZ 0).den,.jZ]]⟩,none],.jZ,.jZ) ?_ ?_ ?_
  ·exact⟨Nat.zero_le _,by dsimp only;rw [auA];exact⟨rfl,rfl,.inl ⟨rfl,rfl⟩,.inl ⟨rfl,rfl⟩⟩⟩
  ·(refine kN ?_;exact uT)
  rintro⟨i,s,pv,wv⟩ ⟨hi,I⟩;dsimp only at hi I;have hX:=ad4 (KY S v i);have hAl:=amz S v i;have I0:=I.a0;have I1:=I.a1;have hsl:=I.lt;by_cases hc:(i:Int)<(S.length:Nat)
  ·have hil:i<S.length:=by omega
   have hx:(S.map Lk.cells).getD i []=(S.getD i default).cells:=mg hil;have es:=auB S v hil;have hlk:=nZ hb (getD_mem hil);obtain⟨kw,kx,ky,kp⟩:=Aw hlk;generalize S.getD i default=l at *;unfold QB at es;by_cases ha:l.a=v
   ·have f0:(l.a=v)=True:=gZ ha;rw [aQ ha]at es;have n1:=ZY h.uK (EO kx);have n2:=ZY h.uK (EO ky);have ca:=FH h.lN hX (EO kw);generalize hXe:qZ (KY S v i)=X at *;generalize KY S v i=A at *;rcases I.p with ⟨hp,rfl⟩|⟨p,rfl,hp,hp3,hpl⟩
    ·have hA:A=[]:=iG.1 hp;subst hA;rcases I.w with ⟨_,rfl⟩|⟨w,_,hw,_,hwl⟩
     case inr=>exact absurd hwl (by simp)
     refine Ia @hc @hx @f0 (ah I0 I1) @kP @lH ?_;refine jM n1 ?_;refine Ia @hc @hx @f0 (ah I0 I1) @kP @lH ?_;refine jM n2 ?_;refine Ia @hc @hx @f0 (ah I0 I1) @kP @lH ?_;refine⟨by omega,by
      have hn0:2<=List.length s:=hsl;generalize List.length s=m at hn0 ⊢
      revert m
      refine yA _ _ 2 (fun n hn=>?_) (fun n hn=>?_) ?_
      ·simp only [sh];split<;>omega
      ·simp [XG,sh];try omega
      unfold rO;decide +kernel,?_⟩
     refine⟨by omega,?_⟩;refine jM ca ?_;refine Ia @hc @hx @f0 (ah I0 I1) @kP @lH ?_;refine⟨(i+1,?s1,.lG (s.length+1+1) 0 1,.lG (s.length+4) 0 1),?m1,⟨?a1,?b1⟩,?e1⟩
     case e1=>dsimp only;(refine kN ?_;exact uT)
     case m1=>dsimp only;omega
     case a1=>dsimp only;omega
     case b1 =>
      dsimp only;rw [es,NK,hXe];refine⟨(show jX _ 0=jX s 0 by exact Ib).trans I0,?u1,.inr ⟨s.length+1+1,?p1,?q1,by omega,by simp⟩,.inr ⟨s.length+4,?r1,?t1,by omega,by simp⟩⟩
      case u1=>simp (disch:=first|omega|(simp only [aS,bY,ak,aG];omega)) only [RP]
      case p1=>simp
      case r1=>simp
      case q1=>simp (disch:=first|omega|(simp only [aS,bY,ak,aG];omega)) only [RP];simp [paZ]
      case t1=>simp (disch:=first|omega|(simp only [aS,bY,ak,aG];omega)) only [RP];simp [Pa.wc]

    rcases I.w with ⟨hwn,_⟩|⟨w,rfl,hw,hw3,hwl⟩
    case inl=>have:=iG.1 hwn;subst this;exact absurd hpl (by simp)
    have hpq:=kX hp;have hwq:=kX hw;have hpw:p≠w:=fun e=>by rw [e,hw]at hp;cases hp
    simp only [aU]at hpl hwl ⊢;refine ew7 @hc @hx @f0 (ah I0 I1) @kP @lH (ah hp hw) ?_;refine jM n1 ?_;refine ew7 @hc @hx @f0 (ah I0 I1) @kP @lH (ah hp hw) ?_;refine jM n2 ?_;refine ew7 @hc @hx @f0 (ah I0 I1) @kP @lH (ah hp hw) ?_;refine⟨by omega,WS [1,p,s.length,s.length+1,s.length+1+1] [⟨14,[0],[0],false⟩,⟨13,[0],[],false⟩,⟨12,[1,3],[1,4],false⟩,⟨11,[],[3],false⟩,⟨10,[],[],false⟩,⟨9,[],[],false⟩,⟨8,[2],[],false⟩,⟨7,[2],[],false⟩,⟨6,[],[],false⟩,⟨5,[2],[],false⟩,⟨4,[2],[],false⟩,⟨3,[2],[],false⟩,⟨2,[2],[],false⟩,⟨1,[0],[],false⟩,⟨0,[0],[],false⟩] ?_ ?_ rfl ?_,?_⟩
    ·generalize List.length s=m at hsl hpq ⊢;simp;omega
    ·intro o ho;simp at ho;omega
    ·show rO 5 _ _;unfold rO;rfl
    refine⟨by omega,?_⟩;refine jM ca ?_;refine ew7 @hc @hx @f0 (ah I0 I1) @kP @lH (ah hp hw) ?_;refine⟨(i+1,?s2,.lG (s.length+1+1) 0 (A.length+1),.lG (s.length+4) 0 (A.length+1)),?m2,⟨?a2,?b2⟩,?e2⟩
    case e2=>dsimp only;(refine kN ?_;exact uT)
    case m2=>dsimp only;omega
    case a2=>dsimp only;omega
    case b2 =>
     dsimp only;rw [es,NK,hXe];refine⟨(show jX _ 0=jX s 0 by exact Ib).trans I0,?u2,.inr ⟨s.length+1+1,?p2,?q2,by omega,by simp⟩,.inr ⟨s.length+4,?r2,?t2,by omega,by simp⟩⟩
     case u2=>simp (disch:=first|omega|(simp only [aS,bY,ak,aG];omega)) only [RP]
     case p2=>simp
     case r2=>simp
     case q2=>simp (disch:=first|omega|(simp only [aS,bY,ak,aG];omega)) only [RP];simp [paZ]
     case t2=>simp (disch:=first|omega|(simp only [aS,bY,ak,aG];omega)) only [RP];simp [Pa.wc]

   rw [aO ha]at es;by_cases hb2:l.b=v
   ·have f0:(l.a=v)=False:=iy ha;have f1:(l.b=v)=True:=gZ hb2;rw [aQ hb2]at es;have ca:=FH h.lN hX (EO kw);generalize hXe:qZ (KY S v i)=X at *;generalize KY S v i=A at *;rcases I.p with ⟨hp,rfl⟩|⟨p,rfl,hp,hp3,hpl⟩
    ·have hA:A=[]:=iG.1 hp;subst hA;rcases I.w with ⟨_,rfl⟩|⟨w,_,hw,_,hwl⟩
     case inr=>exact absurd hwl (by simp)
     refine ew7 @hc @hx @f0 @f1 (ah I0 I1) @kP @lH ?_;refine⟨by omega,?_⟩;refine⟨by omega,?_⟩;refine jM ca ?_;refine ew7 @hc @hx @f0 @f1 (ah I0 I1) @kP @lH ?_;refine⟨(i+1,?s3,.lG (s.length+1+1) 0 1,.lG (s.length+4) 0 1),?m3,⟨?a3,?b3⟩,?e3⟩
     case e3=>dsimp only;(refine kN ?_;exact uT)
     case m3=>dsimp only;omega
     case a3=>dsimp only;omega
     case b3 =>
      dsimp only;rw [es,NK,hXe];refine⟨(show jX _ 0=jX s 0 by exact Ib).trans I0,?u3,.inr ⟨s.length+1+1,?p3,?q3,by omega,by simp⟩,.inr ⟨s.length+4,?r3,?t3,by omega,by simp⟩⟩
      case u3=>simp (disch:=first|omega|(simp only [aS,bY,ak,aG];omega)) only [RP]
      case p3=>simp
      case r3=>simp
      case q3=>simp (disch:=first|omega|(simp only [aS,bY,ak,aG];omega)) only [RP];simp [paZ]
      case t3=>simp (disch:=first|omega|(simp only [aS,bY,ak,aG];omega)) only [RP];simp [Pa.wc]

    rcases I.w with ⟨hwn,_⟩|⟨w,rfl,hw,hw3,hwl⟩
    case inl=>have:=iG.1 hwn;subst this;exact absurd hpl (by simp)
    have hpq:=kX hp;have hwq:=kX hw;have hpw:p≠w:=fun e=>by rw [e,hw]at hp;cases hp
    simp only [aU]at hpl hwl ⊢;refine ew8 @hc @hx @f0 @f1 (ah I0 I1) @kP @lH (ah hp hw) ?_;refine⟨by omega,?_⟩;refine⟨by omega,?_⟩;refine jM ca ?_;refine ew8 @hc @hx @f0 @f1 (ah I0 I1) @kP @lH (ah hp hw) ?_;refine⟨(i+1,?s4,.lG (s.length+1+1) 0 (A.length+1),.lG (s.length+4) 0 (A.length+1)),?m4,⟨?a4,?b4⟩,?e4⟩
    case e4=>dsimp only;(refine kN ?_;exact uT)
    case m4=>dsimp only;omega
    case a4=>dsimp only;omega
    case b4 =>
     dsimp only;rw [es,NK,hXe];refine⟨(show jX _ 0=jX s 0 by exact Ib).trans I0,?u4,.inr ⟨s.length+1+1,?p4,?q4,by omega,by simp⟩,.inr ⟨s.length+4,?r4,?t4,by omega,by simp⟩⟩
     case u4=>simp (disch:=first|omega|(simp only [aS,bY,ak,aG];omega)) only [RP]
     case p4=>simp
     case r4=>simp
     case q4=>simp (disch:=first|omega|(simp only [aS,bY,ak,aG];omega)) only [RP];simp [paZ]
     case t4=>simp (disch:=first|omega|(simp only [aS,bY,ak,aG];omega)) only [RP];simp [Pa.wc]

   have f0:(l.a=v)=False:=iy ha;have f1:(l.b=v)=False:=iy hb2;rw [aO hb2]at es;rw [aW]at es;refine Du @hc @hx @f0 @f1 ?_;refine⟨(i+1,?s5,pv,wv),?m5,⟨?a5,?b5⟩,?e5⟩
   case e5=>dsimp only;(refine kN ?_;exact uT)
   case m5=>dsimp only;omega
   case a5=>dsimp only;omega
   case b5 =>
    dsimp only;rw [es];exact⟨(show jX _ 0=jX s 0 by exact Ib).trans I0,(show jX _ 1=jX s 1 by exact Ib).trans I1,I.p.fr fun q h1 h2=>by simp (disch:=first|omega|(simp only [aS,bY,ak,aG];omega)) only [RP],I.w.fr fun q h1 h2=>by simp (disch:=first|omega|(simp only [aS,bY,ak,aG];omega)) only [RP]⟩
  have hin:i=S.length:=by omega
  subst hin;have hAe:KY S v S.length=oP S v:=rfl;rw [hAe]at hX hAl I;have hok:∀a∈oP S v,a.share.ok=true/\a.dx.cn/\a.dy.cn/\0<=a.node/\a.node<=9:=fun a ha=>amB hb ha;have hB:V4 S v=(zB (oQ v (oP S v))&&(NI (oP S v)).all pJ):=by
   unfold V4 inB;rw [hb,aT hv.1,aT hv.2];rfl
  have hC:(oQ v (oP S v))=⟨v,qZ (oP S v),(oP S v).map (JE (qZ (oP S v)))⟩:=rfl;have hT:=@ad6 S v;have hF:=@amA S v;clear hw;generalize oP S v=A at *;generalize hXe:qZ A=X at hX I hC;have I1:=I.a1;rcases I.p with ⟨hp,rfl⟩|⟨p,rfl,hp,hp3,hpl⟩
  ·have hA0:A=[]:=iG.1 hp;subst hA0;have hnc:zB (oQ v [])=false:=by
    unfold zB;rw [hC];simp
   rw [hnc]at hB;have hB:V4 S v=false:=hB;rw [(hF hB).1,(hF hB).2,hB];have wcd:(oQ v []).wf:=by
    rw [hC];exact⟨uq hX,by simp,fun x hx=>by cases hx⟩
   have cv:=EP h.AP (c:=oQ v []) wcd;rw [hnc,hC]at cv;have I0:=I.a0;refine Af @hc @I1 ?_;refine kV (fun x d=>(x == 39&&d == 999)) (α:=Store) (fun s=>⟨mM [.any,iv v,.any,.any,.ptr 0 0 0,.jZ,.bool false,.ptr 1 0 0,.any,.any,.any,.any,.any,.any,.any,.any,.any,.any,.any,.any,.any,.any,.any,.any,.any,.any,.any,.any,.any,.any,.any,.any,.any,.any,.any,.any,.any,.any,.any,.any,.any,.any,.any,.any,.any,.any,.any,.any,.any,.any,.any,.any,.any,.any,.any,.any,.any,.any,.any,.any,.any,.any,.any,.any,.any,.any,.any,.any,.any,.any,.any,.any,.any,.any,.any,.any,.any,.any,.any,.any,.any,.any,.any,iv 0,iv 0],s,0,0,[],[]⟩) (fun s=>jX s 0=some ⟨5,[[iv 0,.bool false,.jZ,.jZ,.jZ]]⟩/\jX s 1=some ⟨5,[[iv v,.bool X.neg,ints X.mag,ints X.den,.jZ]]⟩) (fun s=>0) rfl s ?_ ?_ ?_
   ·exact⟨I0,I1⟩
   ·(refine kN ?_;exact uT)
   clear I I0 I1;rintro s ⟨I0,I1⟩;have hz:¬(0:Int)<0:=by decide
   have h0q:=kX I0;have cv2:PF T 185 [.agg [iv v,.bool X.neg,ints X.mag,ints X.den,.jZ]] (.bool false):=by
    refine .aau (args:=[Y6 ⟨v,X,[]⟩]) (r:=.bool false) ?_ cv (kM _);have k1:=kM (ints X.mag);have k2:=kM (ints X.den);simp only [wS,mP]at k1 k2 ⊢;exact⟨_,_,rfl,⟨_,rfl,_,_,rfl,rfl,_,_,rfl,rfl,_,_,rfl,k1,_,_,rfl,k2,_,_,rfl,.inl ⟨rfl,.inl rfl⟩,rfl⟩,rfl⟩
   refine Af @hz @I1 ?_;refine jM cv2 ?_;refine Af @I0 @I1 ?_;exact Qd (σ:=[])
  rcases I.w with ⟨hwn,_⟩|⟨w,rfl,hw,hw3,hwl⟩
  case inl=>have:=iG.1 hwn;subst this;exact absurd hpl (by simp)
  simp only [aU]at hpl hwl I1 ⊢;have hpq:=kX hp;have hwq:=kX hw;refine EN @hc @I1 @hp ?_;refine kV (fun x d=>(x == 39&&d == 999)) (α:=Nat×Store) (fun q=>⟨mM [.any,iv v,.any,.any,.ptr 0 0 0,.jZ,.bool false,.ptr 1 0 0,.lG w 0 A.length,.any,.any,.any,.any,.any,.any,.any,.any,.any,.any,.any,.any,.any,.any,.any,.any,.any,.any,.any,.any,.any,.any,.any,.any,.any,.any,.any,.any,.any,.any,.any,.any,.any,.any,.any,.any,.any,.any,.any,.any,.any,.any,.any,.any,.any,.any,.any,.any,.any,.any,.any,.any,.any,.any,.any,.any,.any,.any,.any,.any,.any,.any,.any,.any,.any,.any,.any,.any,.any,.any,.any,.any,.any,.any,iv (A.length:Nat),iv (q.1:Nat)],q.2,0,0,[],[]⟩) (fun q=>(q.1<=A.length/\jX q.2 0=some ⟨5,[[iv 0,.bool false,.jZ,.jZ,.jZ]]⟩/\jX q.2 w=some ⟨3,A.map Pa.wc⟩)/\(q.1<A.length->jX q.2 1=some ⟨5,[[iv v,.bool X.neg,ints X.mag,ints X.den,.lG p 0 A.length]]⟩/\jX q.2 p=some ⟨10,Rq (A.map fun a=>(JE X a).cells) (A.map paZ) q.1⟩)/\(q.1=A.length->jX q.2 1=some ⟨5,[(oQ v A).cells]⟩)) (fun q=>A.length-q.1) rfl (0,s) ?_ ?_ ?_
  ·exact⟨⟨Nat.zero_le _,I.a0,hw⟩,fun _=>⟨I1,by dsimp only;rw [aub];exact hp⟩,fun e=>by dsimp only at e;omega⟩
  ·(refine kN ?_;exact uT)
  clear I I1 I0 hp hw hpq hwq;rintro⟨j,s⟩ ⟨⟨hj,I0,hw⟩,hM,hE⟩;dsimp only at hj I0 hw hM hE;have hwq:=kX hw;by_cases hc2:(j:Int)<(A.length:Nat)
  ·have hjl:j<A.length:=by omega
   obtain⟨I1,hp⟩:=hM hjl;have hpq:=kX hp;have hpw:p≠w:=fun e=>by rw [e,hw]at hp;cases hp
   have hpA:=hok _ (getD_mem hjl);have hg:(A.map fun a=>(JE X a).cells).getD j []=(JE X (A.getD j default)).cells:=mg hjl;have hrow:(Rq (A.map fun a=>(JE X a).cells) (A.map paZ) j)[j]? = some (paZ (A.getD j default)):=by
    unfold Rq;rw [bW (by simp;omega)];simp only [fD,aU,dY];rw [show j+(j-min j A.length)=j by omega,mg? hjl]
   have hml:(Rq (A.map fun a=>(JE X a).cells) (A.map paZ) j).length=A.length:=by rw [alS (by simp)];simp
   have hst:=alT (a:=A.map fun a=>(JE X a).cells) (b:=A.map paZ) (j:=j) (d:=[]) (x:=(JE X (A.getD j default)).cells) (by simp) (by simpa using hjl) hg;have hgw:(A.map Pa.wc)[j]? = some (A.getD j default).wc:=mg? hjl;have cd:=ZX h.uN (r:=(A.getD j default).share) (s:=X) (EO hpA.1) hX;generalize A.getD j default=a at *;generalize Rq (A.map fun a=>(JE X a).cells) (A.map paZ) j=M at *;have hgw:(A.map Pa.wc)[j]? = some [.bool a.share.neg,ints a.share.mag,ints a.share.den]:=hgw;have hrow:M[j]? = some [iv a.node,.bool false,.jZ,.jZ,.bool a.dx.neg,ints a.dx.mag,ints a.dx.den,.bool a.dy.neg,ints a.dy.mag,ints a.dy.den]:=hrow;refine ew7 @hc2 @I1 @hp @hw (ah hrow hml) @hgw (ah kP lH) ?_;refine jM cd ?_;refine ew7 @hc2 @I1 @hp @hw (ah hrow hml) @hgw (ah kP lH) ?_;refine⟨WS [1,w,p] [⟨12,[2],[2],false⟩,⟨11,[2],[],false⟩,⟨10,[2],[],false⟩,⟨9,[],[],false⟩,⟨8,[0],[],false⟩,⟨7,[0],[],false⟩,⟨6,[1],[],false⟩,⟨5,[1],[],false⟩,⟨4,[],[],false⟩,⟨3,[],[],false⟩,⟨2,[],[],false⟩,⟨1,[0],[],false⟩,⟨0,[0],[],false⟩] ?_ ?_ rfl ?_,?_⟩
   ·have:1≠w/\1≠p/\w≠p:=by omega
    simp [this]
   ·intro o ho;simp at ho;omega
   ·show rO 3 _ _;unfold rO;rfl
   by_cases hj1:j+1<A.length
   ·refine⟨(j+1,?s6),?m6,⟨⟨?a6,?b6,?c6⟩,fun _=>⟨?d6,?f6⟩,fun e=>absurd e (by dsimp only;omega)⟩,?e6⟩
    case e6=>dsimp only;(refine kN ?_;exact uT)
    case m6=>dsimp only;omega
    case a6=>dsimp only;omega
    case b6=>exact(show jX _ 0=jX s 0 by exact Ib).trans I0
    case c6=>exact(show jX _ w=jX s w by exact Ib).trans hw
    case d6=>exact(show jX _ 1=jX s 1 by exact Ib).trans I1
    case f6=>dsimp only;rw [<-hst];exact kT hpq
   have hjn:j+1=A.length:=by omega
   have hrows:Rq (A.map fun a=>(JE X a).cells) (A.map paZ) A.length=(oQ v A).ps.map Pa.cells:=by
    have:=alR (A.map fun a=>(JE X a).cells) (A.map paZ) (by simp) (by simp);rw [aU]at this;rw [this,hC,fG];rfl
   rw [hjn,hrows]at hst;obtain⟨s2,hs2⟩:∃s2,s.set p (some ⟨10,M.set j (JE X a).cells⟩)=s2:=⟨_,rfl⟩;have k0:jX s2 0=some ⟨5,[[iv 0,.bool false,.jZ,.jZ,.jZ]]⟩:=by rw [<-hs2,kK (by omega)];exact I0
   have k1:jX s2 1=some ⟨5,[[iv v,.bool X.neg,ints X.mag,ints X.den,.lG p 0 A.length]]⟩:=by rw [<-hs2,kK (by omega)];exact I1
   have kw:jX s2 w=some ⟨3,A.map Pa.wc⟩:=by rw [<-hs2,kK (by omega)];exact hw
   have kp:jX s2 p=some ⟨10,(oQ v A).ps.map Pa.cells⟩:=by rw [<-hs2,kT hpq,hst]
   have hl2:s2.length=s.length:=by rw [<-hs2];simp
   have hres:resolve s2 FD (.lG p 0 A.length)=some (QT (oQ v A).ps):=by
    have:=SG (n:=10) kp (acM _);rw [aU,hC,aU]at this;rw [hC];exact this
   refine⟨(j+1,J8 s2 1 ⟨5,[(oQ v A).cells]⟩ [0,w]),?m7,⟨⟨?a7,?b7,?c7⟩,fun e=>absurd e (by dsimp only;omega),fun _=>?d7⟩,?e7⟩
   case e7 =>
    dsimp only;show Fg _ ⟨_,s.set p (some ⟨10,M.set j (JE X a).cells⟩),_,_,_,_⟩;rw [hs2];refine auD (p:=1) (n:=5) (A:=[[iv v,.bool X.neg,ints X.mag,ints X.den,.lG p 0 A.length]]) k1 rfl ?_ ?_ ?_
    ·intro o ho ob hob;rcases aI.1 ho with rfl|ho
     ·rw [k0]at hob;cases hob;simp [nN,V.still]
     rw [bD.1 ho,kw]at hob;cases hob;have:=afc (A.map (·.share));rw [fG]at this;exact this
    ·intro i r r2 h1 h2
     cases i with
     |succ i=>cases h1
     |
      zero =>
      cases h1;cases h2
      rw [hC]at hres ⊢;simp only [Ad,yu];refine⟨_,_,rfl,rfl,_,_,rfl,rfl,_,_,rfl,kM _,_,_,rfl,kM _,_,_,rfl,.inr (.inr ⟨hres,fun q hq k s0 l0 hk=>?_⟩),rfl⟩;have:=NJ kp (acM _) q hq;have:=FW hk;simp at this;omega
    refine ew ?_;refine⟨Ba (n:=1) ?_ (by omega),Ba (n:=1) ?_ (by omega),rJ (n:=A.length) ?_ (aK _) rfl,by omega⟩
    ·rw [HY (by omega),aO (by omega),aQ (by simp),k0];rfl
    ·rw [HY (by omega),aQ rfl]
    rw [HY (by omega),aO (by omega),aQ (by simp),kw];simp
   case m7=>dsimp only;omega
   case a7=>dsimp only;omega
   case b7=>dsimp only;rw [zW (by omega),if_neg (by omega),if_pos (by simp)];exact k0
   case c7=>dsimp only;rw [zW (by omega),if_neg (by omega),if_pos (by simp)];exact kw
   case d7=>dsimp only;rw [zW (by omega),if_pos rfl]
  have hjn:j=A.length:=by omega
  have I1:=hE hjn;subst hjn;have wcd:(oQ v A).wf:=by
   rw [hC];exact⟨uq hX,by simp;omega,fun x hx=>by
    obtain⟨a,ha,rfl⟩:=bC.1 hx;have:=hok a ha;exact⟨uq (Nk _ _),uq this.2.1,uq this.2.2.1⟩⟩
  have cv:=EP h.AP (c:=oQ v A) wcd;have hres:∀σ:Store,resolve σ FD (Y6 (oQ v A))=some (Y6 (oQ v A)):=fun σ=>Gp (acN [oQ v A] _ (by simp));clear hM hE;refine Af @hc2 @I1 ?_;refine jM cv ?_
  cases hcd:zB (oQ v A)
  ·rw [hcd]at hB;have hB:V4 S v=false:=hB;rw [(hF hB).1,(hF hB).2,hB];refine Af @I1 @I0 ?_
   first|exact Qd|exact Qd (σ:=[])
  rw [hcd,cZ]at hB;have hcc:(oQ v A).cells=[iv v,.bool X.neg,ints X.mag,ints X.den,QT (oQ v A).ps]:=by rw [hC]
  rw [hcc]at I1;have hpl2:(oQ v A).ps.length=A.length:=by rw [hC];simp
  refine Af @I1 @hpl2 ?_;refine kV (fun x d=>(x == 39&&d == 999)) (α:=Nat×Store×V) (fun q=>⟨mM [.any,iv v,.any,.any,.ptr 0 0 0,.jZ,.bool false,.ptr 1 0 0,.lG w 0 A.length,.any,.any,.any,q.2.2,.any,.any,.any,.any,.any,.any,.any,.any,.any,.any,.any,.any,.any,.any,.any,.any,.any,.any,.any,.any,.any,.any,.any,.any,.any,.any,.any,.any,.any,.any,.any,.any,.any,.any,.any,.any,.any,.any,.any,.any,.any,.any,.any,.any,.any,.any,.any,.any,.any,.any,.any,.any,.any,.any,.any,.any,.any,.any,.any,.any,.any,.any,.any,.any,.any,.any,.any,.any,.any,.any,.any,.any,.any,.any,.any,.any,.any,.any,.any,.any,.any,.any,.any,.any,.any,.any,.any,.any,.any,.any,.any,.any,.any,QT (oQ v A).ps,iv (A.length:Nat),iv (q.1:Nat)],q.2.1,0,0,[],[]⟩) (fun q=>(q.1<=A.length/\jX q.2.1 0=some ⟨5,[[iv 0,.bool false,.jZ,.jZ,.jZ]]⟩/\jX q.2.1 w=some ⟨3,A.map Pa.wc⟩/\jX q.2.1 1=some ⟨5,[[iv v,.bool X.neg,ints X.mag,ints X.den,QT (oQ v A).ps]]⟩)/\LnA q.2.1 q.2.2 (tK A q.1)/\∀x∈tK A q.1,pJ x=true) (fun q=>A.length-q.1) rfl (0,s++[none],.jZ) ?_ ?_ ?_
  ·exact⟨⟨fV _,(kQ (by omega)).trans I0,(kQ hwq).trans hw,(kQ (by omega)).trans I1⟩,.inl ⟨rfl,rfl⟩,fun x hx=>by cases hx⟩
  ·(refine kN ?_;exact uT)
  clear I0 I1 hw hwq;rintro⟨i,s,mv⟩ ⟨⟨hi,I0,hw,I1⟩,hL,hall⟩;dsimp only at hi I0 hw I1 hL hall;have hwq:=kX hw;have h1q:=kX I1;have hLl:=RF A i;by_cases hc3:(i:Int)<(A.length:Nat)
  ·have hil:i<A.length:=by omega
   have hg:((oQ v A).ps.map Pa.cells).getD i []=(JE X (A.getD i default)).cells:=by
    have:=mg (l:=(oQ v A).ps) (f:=Pa.cells) (j:=i) (by rw [hpl2];exact hil);rw [Ey hil,hXe]at this;exact this
   have hiA:=hok _ (getD_mem hil);refine EN @hc3 @hg @hpl2 ?_;obtain⟨qc,hqc⟩:∃qc,List.length s=qc:=⟨_,rfl⟩;have hq3:3<=qc:=by omega
   refine kV (fun x d=>(x == 39&&d == 999)) (α:=Nat×Store×V) (fun q=>⟨mM [.any,iv v,.any,.any,.ptr 0 0 0,.jZ,.bool false,.ptr 1 0 0,.lG w 0 A.length,.any,.any,.any,q.2.2,iv (i:Nat),.ptr qc 0 0,iv ((i:Nat)+1+(q.1:Nat)),.any,.any,.any,.any,.any,.any,.any,.any,.any,.any,.any,.any,.any,.any,.any,.any,.any,.any,.any,.any,.any,.any,.any,.any,.any,.any,.any,.any,.any,.any,.any,.any,.any,.any,.any,.any,.any,.any,.any,.any,.any,.any,.any,.any,.any,.any,.any,.any,.any,.any,.any,.any,.any,.any,.any,.any,.any,.any,.any,.any,.any,.any,.any,.any,.any,.any,.any,.any,.any,.any,.any,.any,.any,.any,.any,.any,.any,.any,.any,.any,.any,.any,.any,.any,.any,.any,.any,.any,.any,.any,QT (oQ v A).ps,iv (A.length:Nat),iv (i:Nat)],q.2.1,0,0,[],[]⟩) (fun q=>(i+1+q.1<=A.length/\jX q.2.1 0=some ⟨5,[[iv 0,.bool false,.jZ,.jZ,.jZ]]⟩/\jX q.2.1 w=some ⟨3,A.map Pa.wc⟩/\jX q.2.1 1=some ⟨5,[[iv v,.bool X.neg,ints X.mag,ints X.den,QT (oQ v A).ps]]⟩/\jX q.2.1 qc=some ⟨10,[(JE X (A.getD i default)).cells]⟩)/\LnA q.2.1 q.2.2 (tK A i++wP A i q.1)/\∀x∈tK A i++wP A i q.1,pJ x=true) (fun q=>A.length-q.1) rfl (0,s++[some ⟨10,[(JE X (A.getD i default)).cells]⟩],mv) ?_ ?_ ?_
   ·refine⟨⟨by dsimp only;omega,(kQ (by omega)).trans I0,(kQ hwq).trans hw,(kQ h1q).trans I1,by dsimp only;rw [<-hqc];exact tZ _ _⟩,?_,?_⟩
    ·dsimp only;rw [WR,aW];exact hL.fr fun p hp=>kQ hp
    dsimp only;rw [WR,aW];exact hall
   ·subst hqc
    (refine kN ?_;exact uT)
   clear I0 I1 hw hwq h1q hL hall hqc;rintro⟨j,s,mv⟩ ⟨⟨hj,I0,hw,I1,Iq⟩,hL,hall⟩;dsimp only at hj I0 hw I1 Iq hL hall;have hwq:=kX hw;have h1q:=kX I1;have hqq:=kX Iq;have hRl:=aal A i j;by_cases hc4:(i:Int)+1+j<(A.length:Nat)
   ·have hkl:i+1+j<A.length:=by omega
    have hg2:((oQ v A).ps.map Pa.cells).getD (i+1+j) []=(JE X (A.getD (i+1+j) default)).cells:=by
     have:=mg (l:=(oQ v A).ps) (f:=Pa.cells) (j:=i+1+j) (by rw [hpl2];exact hkl);rw [Ey hkl,hXe]at this;exact this
    have hkA:=hok _ (getD_mem hkl);have ht:((i:Int)+1+(j:Nat)).toNat=i+1+j:=by omega
    have hwi:(A.map Pa.wc)[i]? = some (A.getD i default).wc:=mg? hil;have hwk:(A.map Pa.wc)[i+1+j]? = some (A.getD (i+1+j) default).wc:=mg? hkl;have es:=abK A hkl;have hbad:=@amD A i (i+1+j) (by omega) hkl;rw [hXe]at es hbad;obtain⟨a,ha⟩:∃a,A.getD i default=a:=⟨_,rfl⟩;obtain⟨b,hb'⟩:∃b,A.getD (i+1+j) default=b:=⟨_,rfl⟩;rw [ha]at hiA es hbad Iq hwi;rw [hb']at hkA es hbad hg2 hwk;have hwi:(A.map Pa.wc)[i]? = some [.bool a.share.neg,ints a.share.mag,ints a.share.den]:=hwi;have hwk:(A.map Pa.wc)[i+1+j]? = some [.bool b.share.neg,ints b.share.mag,ints b.share.den]:=hwk;have cm:=vN h.l9 (r:=a.share) (s:=b.share) (EO hiA.1) (EO hkA.1);have cd:=ZX h.uN (r:=mulR a.share b.share) (s:=X) (JX _ _) hX;have cx:=PZ h.qO hiA.2.1 hkA.2.1;have cy:=PZ h.qO hiA.2.2.1 hkA.2.2.1;have hcn:=ahI X a b;have civ:=O4 h.CV (l:=KZ X a b) ⟨uq hcn.1,uq hcn.2.1,uq hcn.2.2⟩;refine ew7 @hc4 (ah hg2 ht) @hpl2 (ah I1 Iq) @hw (ah hwi hwk) (ah kP lH) ?_;refine jM cm ?_;refine EN (ah I1 Iq) @hw (ah kP lH) ?_;refine jM cd ?_;refine EN (ah I1 Iq) @hw (ah kP lH) ?_;have aHB:w≠qc:=fun e=>by rw [e,Iq]at hw;cases hw
    refine⟨WS [1,w,qc,s.length,s.length+1] [⟨18,[4],[4],false⟩,⟨17,[],[4],false⟩,⟨16,[],[],false⟩,⟨15,[],[],false⟩,⟨14,[0],[],false⟩,⟨13,[0],[],false⟩,⟨12,[],[],false⟩,⟨11,[1],[],false⟩,⟨10,[1],[],false⟩,⟨9,[],[],false⟩,⟨8,[],[],false⟩,⟨7,[1],[],false⟩,⟨6,[1],[],false⟩,⟨5,[],[],false⟩,⟨4,[],[],false⟩,⟨3,[3],[],false⟩,⟨2,[3],[],false⟩,⟨1,[2],[],false⟩,⟨0,[2],[],false⟩] ?_ ?_ rfl ?_,?_⟩
    ·clear I0 hw I1 Iq hL hall;generalize List.length s=m at hwq h1q hqq ⊢;have:1≠w/\1≠qc/\w≠qc/\1≠m/\1≠m+1/\w≠m/\w≠m+1/\qc≠m/\qc≠m+1:=by omega
     simp [this];omega
    ·intro o ho;simp at ho;omega
    ·show rO 5 _ _;unfold rO;rfl
    refine EN (ah I1 Iq) @hw (ah kP lH) ?_;refine jM cx ?_;refine EN (ah I1 Iq) @hw (ah kP lH) ?_;refine jM cy ?_;refine EN (ah I1 Iq) @hw (ah kP lH) ?_;refine jM civ ?_
    cases hlk:pJ (KZ X a b)
    ·have hB2:V4 S v=false:=by rw [hB];exact hbad hlk
     rw [(hF hB2).1,(hF hB2).2,hB2];refine Af @I0 (ah kP lH) ?_;exact Qd (σ:=[])
    have en:tK A i++wP A i (j+1)=(tK A i++wP A i j)++[KZ X a b]:=by rw [es,cO]
    have ars:∀x∈tK A i++wP A i (j+1),pJ x=true:=fun x hx=>by
     rw [en]at hx;rcases aN.1 hx with hx|hx
     ·exact hall x hx
     rw [bD.1 hx];exact hlk
    have hMl:(tK A i++wP A i j).length<=20000:=by
     rw [aS];have:i*A.length<=100*100:=iK (by omega) (by omega);omega
    generalize tK A i++wP A i j=Ms at *;rcases hL with ⟨rfl,rfl⟩|⟨m2,rfl,hm2⟩
    ·refine y8 (ah kP lH) ?_;refine⟨by omega,(j+1,?s8,.lG (s.length+1+1+1) 0 1),?m8,⟨⟨?a8,?b8,?c8,?d8,?f8⟩,.inr ⟨s.length+1+1+1,?g8,?h8⟩,ars⟩,?e8⟩
     case e8=>dsimp only;(refine kN ?_;exact uT)
     case m8=>dsimp only;omega
     case a8=>dsimp only;omega
     case b8=>exact(show jX _ 0=jX s 0 by exact Ib).trans I0
     case c8=>exact(show jX _ w=jX s w by exact Ib).trans hw
     case d8=>exact(show jX _ 1=jX s 1 by exact Ib).trans I1
     case f8=>dsimp only;rw [ha];exact(show jX _ qc=jX s qc by exact Ib).trans Iq
     case g8=>dsimp only;rw [en];simp
     case h8 =>
      dsimp only;rw [en];simp (disch:=first|omega|(simp only [aS,bY,ak,aG];omega)) only [RP];simp [KZ,JE]
    have aHC:=kX hm2;have n1:m2≠1:=fun e=>by rw [e,I1]at hm2;cases hm2
    have n2:m2≠w:=fun e=>by rw [e,hw]at hm2;cases hm2
    have n3:m2≠qc:=fun e=>by rw [e,Iq]at hm2;cases hm2
    have n0:m2≠0:=fun e=>by rw [e,I0]at hm2;cases hm2
    refine Af (ah kP lH) @hm2 ?_;refine⟨by omega,(j+1,?s9,.lG (s.length+1+1+1) 0 (Ms.length+1)),?m9,⟨⟨?a9,?b9,?c9,?d9,?f9⟩,.inr ⟨s.length+1+1+1,?g9,?h9⟩,ars⟩,?e9⟩
    case e9=>dsimp only;(refine kN ?_;exact uT)
    case m9=>dsimp only;omega
    case a9=>dsimp only;omega
    case b9=>exact(show jX _ 0=jX s 0 by exact Ib).trans I0
    case c9=>exact(show jX _ w=jX s w by exact Ib).trans hw
    case d9=>exact(show jX _ 1=jX s 1 by exact Ib).trans I1
    case f9=>dsimp only;rw [ha];exact(show jX _ qc=jX s qc by exact Ib).trans Iq
    case g9=>dsimp only;rw [en];simp
    case h9 =>
     dsimp only;rw [en];simp (disch:=first|omega|(simp only [aS,bY,ak,aG];omega)) only [RP];simp [KZ,JE]
   have hjn:j=A.length-(i+1):=by omega
   refine Jg @hc4 @hpl2 (ah I1 Iq) @hw (ah kP lH) ?_;refine⟨(i+1,s,mv),?mA,⟨⟨?aA,I0,hw,I1⟩,?bA,?cA⟩,?eA⟩
   case eA=>dsimp only;(refine kN ?_;exact uT)
   case mA=>dsimp only;omega
   case aA=>dsimp only;omega
   case bA=>dsimp only;rw [hjn]at hL;exact hL
   case cA=>dsimp only;rw [hjn]at hall;exact hall
  have hin:i=A.length:=by omega
  subst hin;have hB2:V4 S v=true:=by rw [hB];exact aX.2 hall
  rw [(hT hB2).1,(hT hB2).2,hB2];refine Af @hc3 (ah I1 I0) ?_;refine auF (s:=s) (c:=oQ v A) hcc (acN [oQ v A] _ (by simp)) hL ?_ I1 ?_ ⟨_,I0⟩
  ·exact Ib
  intro q hq0;exact Ib
 have hB:V4 S v=false:=by
  unfold V4 inB;rcases Int.lt_or_le v 1 with k|k
  ·rw [bI (show ¬1<=v by omega)];simp
  rw [bI (show ¬v<=9 by omega)];simp
 rw [(amA hB).1,(amA hB).2,hB];refine kS (fun x d=>(x == 39&&d == 999)) h.hT ?_;simp only [tV,Lz];refine ew ?_;by_cases hv1:v<1
 ·refine y8 @hv1 ?_;exact Qd (σ:=[])
 have hv2:v>=10:=by omega
 refine Af @hv1 @hv2 ?_;exact Qd (σ:=[])
theorem Ep.aqh{s:Store}{cs cs' ts ts':List V}{os:List Nat}{L:List (Nat×Obj)}(E:Ep s cs ts os L)(h1:cs'=cs)(h2:ts'=ts):Ep s cs' ts' os L:=by
 subst h1;subst h2;exact E
theorem RG{T:Tb}(h:xR T){c:Cd}(hn:0<c.ps.length)(hz:c.total.sz<=1048576/\∀a∈c.ps,a.sz<=1048576)(hl:c.ps.length<=1048576):PO T 183 [Y6 c] (Y6 c):=by
 refine lW (fun x d=>x == 145) h.hT ?_;simp only [uD,Lz,St.enter,ak,aG,aV];refine ew ?_;refine qj (CU h.tu (r:=c.total) hz.1) (by (refine ew ?_;try with_reducible exact aC)) (by (refine ew ?_;try with_reducible exact aC)) ?_;intro r q1 o1 G;obtain⟨_,rfl,hQ⟩:=G.ow.lJ;obtain⟨x1,x2,rfl⟩:=hQ.rat
 have lx:=ni.leaf hQ rfl;simp only [dF,dS,dI,aH]at lx;have gl:=G.len;simp only [ak,aG,aS]at gl;have P0:jX q1 0=some ⟨5,[c.cells]⟩:=G.old 0 (by simp);have P1:jX q1 1=some ⟨5,[[iv 0,.bool false,.jZ,.jZ,.jZ]]⟩:=G.old 1 (by simp);have hf:∀o∈o1,3<=o:=fun o ho=>by have:=G.fresh o ho;simpa using this
 refine Du (ah P0 P1) @lx @gl @List.set_set.{0} ?_;refine⟨by unfold rO;decide +kernel,?_⟩;refine Du (ah P0 P1) @lx @gl @List.set_set.{0} ?_;have E:Ep q1 [iv c.node,.bool c.total.neg,x1,x2] [iv c.node,.bool c.total.neg,ints c.total.mag,ints c.total.den] o1 [(1,⟨5,[[iv 0,.bool false,.jZ,.jZ,.jZ]]⟩)]:=by
  have E0:Ep [some ⟨5,[c.cells]⟩,some ⟨5,[[iv 0,.bool false,.jZ,.jZ,.jZ]]⟩,none] [] [] [] [(1,⟨5,[[iv 0,.bool false,.jZ,.jZ,.jZ]]⟩)]:=⟨aa0,by simp [jX]⟩;have:=E0.got (s1:=[some ⟨5,[c.cells]⟩,some ⟨5,[[iv 0,.bool false,.jZ,.jZ,.jZ]]⟩,none]) (fun _ _=>rfl) (aK _) (IG (q:=.i64) (n:=c.node) hQ) G.nd (by simpa using G.fresh) (by simpa using G.old);simpa using this
 have E1:=E.SC (p:=2) (ob:=⟨5,[[iv c.node,.bool c.total.neg,x1,x2,.jZ]]⟩) (L':=[(1,⟨5,[[iv 0,.bool false,.jZ,.jZ,.jZ]]⟩),(2,⟨5,[[iv c.node,.bool c.total.neg,x1,x2,.jZ]]⟩)]) (fun hm=>by have:=hf 2 hm;omega) (by omega) (by simp);clear E G P0 P1 hQ hf gl;refine kV (fun x d=>x == 145) (α:=Nat×Store×V×List (List V)×List Nat) (fun q=>⟨mM [.any,.any,.ptr 1 0 0,.ptr 2 0 0,.any,.any,.any,.any,.any,.any,.any,.any,.any,.any,QT c.ps,iv (c.ps.length:Nat),iv (q.1:Nat)],q.2.1,0,0,[],[]⟩) (fun q=>(q.1<=c.ps.length/\q.2.2.2.1.length=q.1/\∀r∈q.2.2.2.1,r.length=10)/\∃M,LAt 10 q.2.2.1 q.2.2.2.1 M/\Ep q.2.1 ([iv c.node,.bool c.total.neg,x1,x2]++q.2.2.2.1.flatten) ([iv c.node,.bool c.total.neg,ints c.total.mag,ints c.total.den]++((c.ps.take q.1).map Pa.cells).flatten) q.2.2.2.2 ([(1,⟨5,[[iv 0,.bool false,.jZ,.jZ,.jZ]]⟩),(2,⟨5,[[iv c.node,.bool c.total.neg,x1,x2,q.2.2.1]]⟩)]++M)) (fun q=>c.ps.length-q.1) rfl (0,q1.set 2 (some ⟨5,[[iv c.node,.bool c.total.neg,x1,x2,.jZ]]⟩),.jZ,[],o1) ?_ ?_ ?_
 ·exact⟨⟨fV _,rfl,fun r hr=>by cases hr⟩,[],.inl ⟨rfl,rfl,rfl⟩,by simpa using E1⟩
 ·(refine kN ?_;exact uT)
 clear E1;rintro⟨i,s,pv,A,os⟩ ⟨⟨hi,hAl,hA10⟩,M,hLA,E⟩;dsimp only at hi hAl hA10 hLA E;have L1:=E.at0 (p:=1) (ob:=⟨5,[[iv 0,.bool false,.jZ,.jZ,.jZ]]⟩) (by simp);have L2:=E.at0 (p:=2) (ob:=⟨5,[[iv c.node,.bool c.total.neg,x1,x2,pv]]⟩) (by simp);by_cases hc:(i:Int)<(c.ps.length:Nat)
 ·have hil:i<c.ps.length:=by omega
  have hx:(c.ps.map Pa.cells).getD i []=(c.ps.getD i default).cells:=mg hil;have hza:=hz.2 _ (getD_mem hil);have ets:(c.ps.take (i+1)).map Pa.cells=(c.ps.take i).map Pa.cells++[(c.ps.getD i default).cells]:=by rw [take_snoc hil,bT];rfl
  generalize c.ps.getD i default=a at *;unfold Pa.sz at hza;refine Af @hc @hx ?_;have hq0:∀o,o<s.length->jX (s++[some ⟨10,[a.cells]⟩]++[none]) o=jX s o:=fun o ho=>by simp only [cO];exact pq ho
  have hqe:jX (s++[some ⟨10,[a.cells]⟩]++[none]) s.length=some ⟨10,[a.cells]⟩:=(kQ (by simp)).trans (tZ _ _);have hs1:(s++[some (⟨10,[a.cells]⟩:Obj)]++[none]).length=s.length+1+1:=by simp
  refine qj (CU h.tu (r:=a.share) (by omega)) (by (refine ew ?_;try with_reducible exact aC)) (by (refine ew ?_;try with_reducible exact aC)) ?_;intro r q2 o2 G;obtain⟨_,rfl,hQ⟩:=G.ow.lJ;obtain⟨y1,y2,rfl⟩:=hQ.rat
  have lq:=ni.leaf hQ rfl;simp only [dF,dS,dI,aH]at lq;have E2:=E.got (s1:=s++[some ⟨10,[a.cells]⟩]++[none]) hq0 (by omega) (IG (q:=.i64) (n:=a.node) hQ) G.nd G.fresh G.old;have he2:jX q2 s.length=some ⟨10,[a.cells]⟩:=(G.old s.length (by omega)).trans hqe;have ll2:s.length+1+1<=q2.length:=by have:=G.len;omega
  have fr2:∀o∈o2,s.length+2<=o:=fun o ho=>by have:=G.fresh o ho;simp at this;omega
  have lf2:=lq;clear G hQ lq;refine Af (ah he2 ll2) @lf2 ?_;refine qj (CU h.tu (r:=a.dx) (by omega)) (by (refine Af (ah he2 ll2) @lf2 ?_;try with_reducible exact aC)) (by (refine Af (ah he2 ll2) @lf2 ?_;try with_reducible exact aC)) ?_;intro r q3 o3 G;obtain⟨_,rfl,hQ⟩:=G.ow.lJ;obtain⟨y3,y4,rfl⟩:=hQ.rat
  have lq:=ni.leaf hQ rfl;simp only [dF,dS,dI,aH]at lq;have E3:=E2.got (s1:=q2) (fun _ _=>rfl) (aK _) (hQ) G.nd G.fresh G.old;have he3:jX q3 s.length=some ⟨10,[a.cells]⟩:=(G.old s.length (by omega)).trans he2;have ll3:s.length+1+1<=q3.length:=by have:=G.len;omega
  have fr3:∀o∈o3,s.length+2<=o:=fun o ho=>by have:=G.fresh o ho;omega
  have lf3:=ah lf2 lq;clear G hQ lq;refine Af (ah he3 ll3) @lf3 ?_;refine qj (CU h.tu (r:=a.dy) (by omega)) (by (refine Af (ah he3 ll3) @lf3 ?_;try with_reducible exact aC)) (by (refine Af (ah he3 ll3) @lf3 ?_;try with_reducible exact aC)) ?_;intro r q4 o4 G;obtain⟨_,rfl,hQ⟩:=G.ow.lJ;obtain⟨y5,y6,rfl⟩:=hQ.rat
  have lq:=ni.leaf hQ rfl;simp only [dF,dS,dI,aH]at lq;have E4:=E3.got (s1:=q3) (fun _ _=>rfl) (aK _) (hQ) G.nd G.fresh G.old;have he4:jX q4 s.length=some ⟨10,[a.cells]⟩:=(G.old s.length (by omega)).trans he3;have ll4:s.length+1+1<=q4.length:=by have:=G.len;omega
  have fr4:∀o∈o4,s.length+2<=o:=fun o ho=>by have:=G.fresh o ho;omega
  have lf4:=ah lf3 lq;clear G hQ lq;refine Af (ah he4 ll4) @lf4 ?_;refine⟨by
   have hn0:0<=List.length s:=fV _;generalize List.length s=m at hn0 ⊢
   revert m
   refine yA _ _ 0 (fun n hn=>?_) (fun n hn=>?_) ?_
   ·simp only [sh];split<;>omega
   ·simp [XG,sh];try omega
   unfold rO;decide +kernel,?_⟩
  have L22:=E4.at0 (p:=2) (ob:=⟨5,[[iv c.node,.bool c.total.neg,x1,x2,pv]]⟩) (by simp);have L11:=E4.at0 (p:=1) (ob:=⟨5,[[iv 0,.bool false,.jZ,.jZ,.jZ]]⟩) (by simp);have hf5:s.length+1∉((os++o2)++o3)++o4:=by
   intro hm;simp only [aN]at hm;rcases hm with ((hm|hm)|hm)|hm
   ·have:=E.adu _ hm;omega
   ·have:=fr2 _ hm;omega
   ·have:=fr3 _ hm;omega
   have:=fr4 _ hm;omega
  have hf2:=(E4.l (2,⟨5,[[iv c.node,.bool c.total.neg,x1,x2,pv]]⟩) (by simp)).2;have hf1:=(E4.l (1,⟨5,[[iv 0,.bool false,.jZ,.jZ,.jZ]]⟩) (by simp)).2;have hs3:2<s.length:=L2.2;rcases hLA with ⟨rfl,rfl,rfl⟩|⟨p,rfl,rfl⟩
  ·refine Du @L22 (ah he4 ll4) @lf4 @List.set_set.{0} ?_;refine⟨by omega,(i+1,?s1,.lG (q4.length+1) 0 1,[]++[[iv a.node,.bool a.share.neg,y1,y2,.bool a.dx.neg,y3,y4,.bool a.dy.neg,y5,y6]],((os++o2)++o3)++o4),?m1,⟨⟨?a1,?b1,?c1⟩,[(q4.length+1,⟨10,[]++[[iv a.node,.bool a.share.neg,y1,y2,.bool a.dx.neg,y3,y4,.bool a.dy.neg,y5,y6]]⟩)],.inr ⟨q4.length+1,?d1,rfl⟩,?f1⟩,?e1⟩
   case e1=>dsimp only;(refine kN ?_;exact uT)
   case m1=>dsimp only;omega
   case a1=>dsimp only;omega
   case b1=>dsimp only;simp at hAl ⊢;omega
   case c1 =>
    intro r hr;rcases aN.1 hr with hr|hr
    ·exact hA10 r hr
    rw [bD.1 hr];rfl
   case d1=>dsimp only;simp
   case f1 =>
    dsimp only;rw [ets];refine Ep.aqh (E4.to ?_ ?_) ?_ ?_
    ·intro o ho;have a1:=E4.adu o ho;have a2:o≠s.length+1:=fun e=>hf5 (e▸ho);have a3:o≠2:=fun e=>hf2 (e▸ho);exact Ib
    ·intro q hq;simp only [dL,iW,aI,dD,or_false]at hq;rcases hq with rfl|rfl|rfl
     ·refine .inl ⟨by simp,?_⟩;show jX _ 1=jX q4 1;exact Ib
     ·refine .inr ⟨?_,hf2⟩;show jX _ 2=_;exact Ib
     refine .inr ⟨?_,fun hm=>by have:=E4.adu _ hm;omega⟩;show jX _ (q4.length+1)=_;exact Ib
    ·simp
    simp
  have L33:=E4.at0 (p:=p) (ob:=⟨10,A⟩) (by simp);have hps:p<s.length:=(E.at0 (p:=p) (ob:=⟨10,A⟩) (by simp)).2;have hp2:p≠2:=fun e=>by have:=L33.1;rw [e,L22.1]at this;cases this
  refine Jg @L22 @L33 (ah he4 ll4) @lf4 @List.set_set.{0} ?_;have hfp:=(E4.l (p,⟨10,A⟩) (by simp)).2;have hp1:p≠1:=fun e=>by have:=L33.1;rw [e,L11.1]at this;cases this
  refine⟨by omega,(i+1,?s2,.lG (q4.length+1) 0 (A.length+1),A++[[iv a.node,.bool a.share.neg,y1,y2,.bool a.dx.neg,y3,y4,.bool a.dy.neg,y5,y6]],((os++o2)++o3)++o4),?m2,⟨⟨?a2,?b2,?c2⟩,[(q4.length+1,⟨10,A++[[iv a.node,.bool a.share.neg,y1,y2,.bool a.dx.neg,y3,y4,.bool a.dy.neg,y5,y6]]⟩)],.inr ⟨q4.length+1,?d2,rfl⟩,?f2⟩,?e2⟩
  case e2=>dsimp only;(refine kN ?_;exact uT)
  case m2=>dsimp only;omega
  case a2=>dsimp only;omega
  case b2=>dsimp only;simp;omega
  case c2 =>
   intro r hr;rcases aN.1 hr with hr|hr
   ·exact hA10 r hr
   rw [bD.1 hr];rfl
  case d2=>dsimp only;simp
  case f2 =>
   dsimp only;rw [ets];refine Ep.aqh (E4.to ?_ ?_) ?_ ?_
   ·intro o ho;have a1:=E4.adu o ho;have a2:o≠s.length+1:=fun e=>hf5 (e▸ho);have a3:o≠2:=fun e=>hf2 (e▸ho);have a4:o≠p:=fun e=>hfp (e▸ho);exact Ib
   ·intro q hq;simp only [dL,iW,aI,dD,or_false]at hq;rcases hq with rfl|rfl|rfl
    ·refine .inl ⟨by simp,?_⟩;show jX _ 1=jX q4 1;exact Ib
    ·refine .inr ⟨?_,hf2⟩;show jX _ 2=_;exact Ib
    refine .inr ⟨?_,fun hm=>by have:=E4.adu _ hm;omega⟩;show jX _ (q4.length+1)=_;exact Ib
   ·simp
   simp
 have hin:i=c.ps.length:=by omega
 subst hin;rcases hLA with ⟨rfl,rfl,rfl⟩|⟨p,rfl,rfl⟩
 ·simp at hAl;omega
 have L33:=E.at0 (p:=p) (ob:=⟨10,A⟩) (by simp);rw [bK]at E;refine Af @hc (ah L1 L2) ?_;rw [aQ (by rw [lx.2.1,lx.2.2];rfl)];have hf1:=(E.l (1,⟨5,[[iv 0,.bool false,.jZ,.jZ,.jZ]]⟩) (by simp)).2;have hp1:p≠1:=fun e=>by have:=L33.1;rw [e,L1.1]at this;cases this
 have Es:=E.SC (p:=1) (ob:=⟨5,[[iv c.node,.bool c.total.neg,x1,x2,.lG p 0 A.length]]⟩) (L':=[(p,⟨10,A⟩)]) hf1 L1.2 (fun q hq=>.inl (by rw [bD.1 hq];exact⟨hp1,by simp⟩));have hA':A.length=(c.ps.map Pa.cells).length:=by rw [aU];exact hAl
 have aym:∀r∈c.ps.map Pa.cells,r.length=10:=fun r hr=>by obtain⟨x,_,rfl⟩:=bC.1 hr;rfl
 have hfl:A.flatten.length=(c.ps.map Pa.cells).flatten.length:=by
  have e1:∀(X:List (List V)),(∀r∈X,r.length=10)->X.flatten.length=X.length*10:=fun X=>by
   induction X with
   |nil=>intro _;rfl
   |cons r X ih=>intro h;rw [gJ,aS,ih fun r hr=>h r (by simp [hr]),h r (by simp),ak];omega
  rw [e1 A hA10,e1 _ aym,hA']
 obtain⟨os1,E2,_⟩:=(Ep.aqh (cs':=[iv c.node,.bool c.total.neg,x1,x2]++(A.flatten++[])) (ts':=[iv c.node,.bool c.total.neg,ints c.total.mag,ints c.total.den]++((c.ps.map Pa.cells).flatten++[])) Es (by simp) (by simp)).swap rfl hfl;obtain⟨os2,E3⟩:=E2.close (p:=p) (n:=10) (k:=10) (by simp) hA10 aym hA';obtain⟨os3,E4,_⟩:=(Ep.aqh (cs':=[V.lG p 0 A.length]++([iv c.node,.bool c.total.neg,x1,x2]++[])) (ts':=[QT c.ps]++([iv c.node,.bool c.total.neg,ints c.total.mag,ints c.total.den]++[])) E3 (by simp) (by simp)).swap rfl rfl;refine wZ (os:=os3) ?_ E4.c.nd;show mJ _ (.agg ([iv c.node,.bool c.total.neg,x1,x2]++([V.lG p 0 A.length]++[]))) (.agg ([iv c.node,.bool c.total.neg,ints c.total.mag,ints c.total.den]++([QT c.ps]++[]))) os3;simp only [mJ];exact⟨_,rfl,E4.c.ow⟩
theorem aqi{A:List Pa}(h:ajr A)(hb:∀a∈A,0<=a.node/\a.node<=9):A.length<=10:=by
 have key:∀i,i<A.length->(i:Int)<=(A.getD i default).node:=fun i=>by
  induction i with
  |zero=>intro hi;exact(hb _ (getD_mem hi)).1
  |
   succ i ih =>
   intro hi;have h1:=ih (by omega);have h2:=h i (i+1) (by omega) hi;omega
 rcases dV 10 A.length with h1|h1
 ·have h2:=key 10 h1;have h3:=(hb _ (getD_mem (l:=A) (i:=10) h1)).2;omega
 exact h1
structure ayn (c:Cd) (M:List Lk):Prop where
 ne:0<c.ps.length
 len:c.ps.length<=10
 cn:c.total.cn/\∀a∈c.ps,a.share.cn/\a.dx.cn/\a.dy.cn
 ms:∀x∈M,x.w.cn/\x.dx.cn/\x.dy.cn
 ml:M.length<=101
theorem aru{S:List Lk}{v:Int}(h:V4 S v=true):ayn (elC S v) (elM S v):=by
 rw [(ad6 h).1,(ad6 h).2];unfold V4 at h;simp only [aH]at h;obtain⟨⟨⟨hb,_⟩,hc⟩,_⟩:=h;have hok:∀a∈oP S v,a.share.ok=true/\a.dx.cn/\a.dy.cn/\0<=a.node/\a.node<=9:=fun a ha=>amB hb ha;have hl:=aqi (auC hc) fun a ha=>⟨(hok a ha).2.2.2.1,(hok a ha).2.2.2.2⟩;have hpl:(oQ v (oP S v)).ps.length=(oP S v).length:=aU ..;refine⟨?_,by omega,⟨ad4 _,fun x hx=>?_⟩,aqe,?_⟩
 ·rcases gU (oQ v (oP S v)).ps.length with e|e
  ·exfalso;have:(oQ v (oP S v)).ps=[]:=aY e;unfold zB at hc;rw [this]at hc;simp at hc
  exact e
 ·obtain⟨a,ha,rfl⟩:=bC.1 hx;exact⟨Nk _ _,(hok a ha).2.1,(hok a ha).2.2.1⟩
 have h1:=RF (oP S v) (oP S v).length;have h2:(oP S v).length*(oP S v).length<=10*10:=iK hl hl;show (tK _ _).length<=_;omega
theorem NM{r:R}(h:r.cn):r.sz<=1000:=by
 have:=OZ h;unfold R.sz;omega
theorem abL(S:List Lk)(v:Int):((elC S v).sz<=40000/\(elC S v).ps.length<=10/\PS Lk.sz (elM S v)<=20000)/\(elC S v).wf/\Iz Lk.wf (elM S v):=by
 cases hB:V4 S v
 ·rw [(amA hB).1,(amA hB).2];exact⟨⟨by decide,by decide,by decide⟩,⟨⟨by decide,by decide⟩,by decide,by simp⟩,by decide,by simp⟩
 have O:=aru hB;have h1:=NM O.cn.1;have h2:=Uz (f:=Pa.sz) (k:=3000) (l:=(elC S v).ps) fun a ha=>by
  have h:=O.cn.2 a ha;have:=NM h.1;have:=NM h.2.1;have:=NM h.2.2;unfold Pa.sz;omega
 have h3:=O.len;refine⟨⟨?_,h3,Yp O.ms O.ml⟩,⟨uq O.cn.1,by omega,fun a ha=>?_⟩,U7 O.ms O.ml⟩
 ·unfold Cd.sz;omega
 have h:=O.cn.2 a ha;exact⟨uq h.1,uq h.2.1,uq h.2.2⟩
theorem ad8{n:Nat}{S:List Lk}(h:Oe n S):∀x∈S,Jn 7 x:=by
 obtain⟨L,hL,rfl⟩:=h.L;have h1:=hL.rn;have h2:=hL.len;obtain⟨S',e,a,hf,hj,he⟩:=Yt (N:=(n:Int)+1) (by omega) (by omega) hL.sm L.length (aK _);have hg:Ud L=some (S',e):=by unfold Ud;rw [hf];exact aQ he.ok
 have e1:Ox L=S':=by unfold Ox;rw [hg];rfl
 rw [e1];intro x hx;exact(hj x hx).mono (by omega)
def stP(v:Int)(l:Lk):Bool:=decide (l.a=v)||decide (l.b=v)
def Yy(v:Int)(l:Lk):Pa:=if l.a=v then⟨l.b,l.w,negR l.dx,negR l.dy⟩else⟨l.a,l.w,l.dx,l.dy⟩
theorem amE{v:Int}{x:Lk}(h:stP v x=true):QB v x=some (Yy v x):=by
 unfold stP at h;simp only [dQ,bf]at h;unfold QB Yy;by_cases h1:x.a=v
 ·rw [aQ h1,aQ h1]
 rw [aO h1,aO h1,aQ (h.resolve_left h1)]
theorem amF{v:Int}{x:Lk}(h:stP v x=false):QB v x=none:=by
 unfold stP at h;simp only [Bool.or_eq_false_iff,decide_eq_false_iff_not]at h;unfold QB;rw [aO h.1,aO h.2]
theorem L6(S:List Lk)(v:Int):oP S v=(S.filter (stP v)).map (Yy v):=by
 unfold oP KY;rw [bK]
 induction S with
 |nil=>rfl
 |
  cons x S ih =>
  cases h:stP v x
  ·rw [List.filterMap_cons_none (amF h),List.filter_cons_of_neg (by rw [h];simp),ih]
  rw [List.filterMap_cons_some (amE h),List.filter_cons_of_pos h,bV,ih]
structure Jm (v:Int) (a:Pa):Prop where
 nd:0<=a.node/\a.node<=5/\a.node≠v
 w:Rw a.share a.share.v 63 1
 n:∃n:Int,(1<=n/\n<=63)/\a.share.v=(n:Rat)
 x:∃n:Int,(-1260<=n/\n<=1260)/\a.share.v*a.dx.v=(n:Rat)
 y:∃n:Int,(-1260<=n/\n<=1260)/\a.share.v*a.dy.v=(n:Rat)
 dx:Rw a.dx a.dx.v 1260 63
 dy:Rw a.dy a.dy.v 1260 63
theorem ad9(p n:Rat) : -(p / n)=(-p) / n:=by grind
def sm(f:Pa->Rat):List Pa->Rat
 | []=>0
 |a::l=>f a+sm f l
theorem amG(f:Pa->Rat):∀A B:List Pa,sm f (A++B)=sm f A+sm f B
 | [],B=>by simp only [iW,sm,iO]
 |a::A,B=>by simp only [dL,sm,amG f A B,Rat.add_assoc]
theorem ahN(f:Pa->Rat){l:List Pa}{k:Nat}(h:k<l.length):sm f (l.take (k+1))=sm f (l.take k)+f (l.getD k default):=by
 rw [take_snoc h,amG];show _+(f _+0)=_;rw [dU]
theorem Yz{f g:Pa->Rat}:∀{A:List Pa},(∀a∈A,f a=g a)->sm f A=sm g A
 | [],_=>rfl
 |a::A,h=>by simp only [sm,h a (by simp),Yz (A:=A) fun x hx=>h x (by simp [hx])]
structure Star (v:Int) (A:List Pa):Prop where
 jm:∀a∈A,Jm v a
 asc:A.Pairwise fun a b=>a.node<b.node
 len:1<=A.length/\A.length<=5
 v:1<=v/\v<=5
structure PtF (p:Pt):Prop where
 x:Rw p.x p.x.v 10 3
 y:Rw p.y p.y.v 10 3
 x6:∃n:Int,(-60<=n/\n<=60)/\6*p.x.v=(n:Rat)
 y6:∃n:Int,(-60<=n/\n<=60)/\6*p.y.v=(n:Rat)
structure AtS (P:List Pt):Prop where
 len:P.length=10
 pt:∀p∈P,PtF p
theorem AtS.at{P:List Pt}(h:AtS P){k:Nat}(hk:k<10):PtF (P.getD k default):=h.pt _ (getD_mem (by rw [h.len];exact hk))
def qX(P:List Pt)(a:Pa):Rat:=(P.getD a.node.toNat default).x.v+a.dx.v
def qY(P:List Pt)(a:Pa):Rat:=(P.getD a.node.toNat default).y.v+a.dy.v
def sW(a:Pa):Rat:=a.share.v
theorem nD{t:Int}(h:1<=t):(t:Rat)≠0:=fun e=>by have:=Rat.intCast_eq_zero_iff.1 e;omega
theorem ahO{t:Int}(h:1<=t):(0:Rat)<(t:Rat):=Rat.intCast_pos.2 (by omega)
theorem VI{n t:Int}(hn:1<=n)(ht:1<=t):(0:Rat)<(n:Rat) / (t:Rat):=by
 rw [fK];exact Rat.mul_pos (ahO hn) (Rat.inv_pos.2 (ahO ht))
theorem ajt(t:Rat)(h:t≠0):t / t=1:=by grind
def pX(P:List Pt)(A:List Pa):Rat:=sm (fun a=>sW a*qX P a) A / sm sW A
def pY(P:List Pt)(A:List Pa):Rat:=sm (fun a=>sW a*qY P a) A / sm sW A
theorem q6(w x d:Rat):6*(w*(x+d))=w*(6*x)+6*(w*d):=by grind
structure AtV (P Q:List Pt) (v:Int) (p:Pt):Prop where
 len:Q.length=10
 atv:Q.getD v.toNat default=p
 o:∀k:Nat,k≠v.toNat->Q.getD k default=P.getD k default
def enA(P:List Pt)(px py:Rat)(a:Pa):Rat:=sW a*((qX P a-px)*(qX P a-px)+(qY P a-py)*(qY P a-py))
theorem ahP(f:Pa->Rat)(g:Lk->Pa):∀L:List Lk,tot (fun l=>f (g l)) L=sm f (L.map g)
 | []=>rfl
 |l::L=>by simp only [tot,bV,sm,ahP f g L]
def w2(P:List Pt)(a b:Pa):Rat:=sW a*sW b*((qX P b-qX P a)*(qX P b-qX P a)+(qY P b-qY P a)*(qY P b-qY P a))
def pr(P:List Pt):List Pa->Rat
 | []=>0
 |a::l=>sm (w2 P a) l+pr P l
theorem arv(P:List Pt)(a:Pa):∀l:List Pa,sm (w2 P a) l=sW a*((qX P a*qX P a+qY P a*qY P a)*sm sW l-2*(qX P a*sm (fun b=>sW b*qX P b) l)-2*(qY P a*sm (fun b=>sW b*qY P b) l)+sm (fun b=>sW b*(qX P b*qX P b+qY P b*qY P b)) l)
 | []=>by simp only [sm];grind
 |
  b::l=>by
  simp only [sm];rw [arv P a l];unfold w2
  grind
theorem arw(P:List Pt):∀l:List Pa,pr P l=sm sW l*sm (fun b=>sW b*(qX P b*qX P b+qY P b*qY P b)) l-sm (fun b=>sW b*qX P b) l*sm (fun b=>sW b*qX P b) l-sm (fun b=>sW b*qY P b) l*sm (fun b=>sW b*qY P b) l
 | []=>by simp only [pr,sm];grind
 |
  a::l=>by
  simp only [pr,sm];rw [arw P l,arv]
  grind
theorem ahQ(P:List Pt)(px py:Rat):∀l:List Pa,sm (enA P px py) l=sm (fun b=>sW b*(qX P b*qX P b+qY P b*qY P b)) l-2*(px*sm (fun b=>sW b*qX P b) l)-2*(py*sm (fun b=>sW b*qY P b) l)+(px*px+py*py)*sm sW l
 | []=>by simp only [sm];grind
 |
  a::l=>by
  simp only [sm];rw [ahQ P px py l];unfold enA
  grind
def TP(Q:List Pt)(l:Lk):Rat:=enV l (Q.getD l.a.toNat default) (Q.getD l.b.toNat default)
def eV(Q:List Pt)(x:Lk):Rat:=(axQ x (Q.getD x.a.toNat default) (Q.getD x.b.toNat default)).v
theorem agh{A:List Pa}{i:Nat}(h:i<A.length):A.drop i=A.getD i default::A.drop (i+1):=by
 rw [dH h,aj,au h];rfl
def LnB(σ s:Store)(r:V)(M:List Lk):Prop :=
 ((r=.jZ/\M=[])\/∃p,σ.length<=p/\r=.lG p 0 M.length/\jX s p=some ⟨11,M.map Lk.cells⟩)/\(∀o,o<σ.length->jX s o=jX σ o)/\σ.length<=s.length
theorem LnB.snoc{σ s:Store}{r:V}{M:List Lk}{x:Option Obj}(h:LnB σ s r M):LnB σ (s++[x]) r M:=by
 obtain⟨h1,h2,h3⟩:=h;refine⟨?_,fun o ho=>(kQ (by omega)).trans (h2 o ho),by simp;omega⟩;rcases h1 with h1|⟨p,a,b,c⟩
 ·exact .inl h1
 exact .inr ⟨p,a,b,(kQ (kX c)).trans c⟩
theorem LnB.new{σ s s':Store}{M:List Lk}{q n:Nat}(h2:∀o,o<σ.length->jX s o=jX σ o)(h3:σ.length<=s.length)(hq:σ.length<=q)(ho:∀o,o<σ.length->jX s' o=jX s o)(hl:s.length<=s'.length)(hn:n=M.length)
  (hm:jX s' q=some ⟨11,M.map Lk.cells⟩):LnB σ s' (.lG q 0 n) M :=
 ⟨.inr ⟨q,hq,by rw [hn],hm⟩,fun o h=>(ho o h).trans (h2 o h),by omega⟩
theorem YA{T:Tb}(h:CY T){σ:Store}{l:List Lk}{v:Int}(hl:l.length<=1048576):∃r σ',Run T (.fn 241 [nY l,iv v] σ) (.fn r σ')/\LnB σ σ' r (l.filter (WE v)):=by
 rw [<-atW];refine run_end nR h.hT ?_;simp only [yg,Lz,St.enter,ak,aG,aV];refine ew ?_;refine kV (fun _ _=>false) (α:=Nat×Store×V) (fun q=>⟨mM [.any,iv v,.any,.any,.jZ,q.2.2,.any,.any,.any,nY l,iv (l.length:Nat),iv (q.1:Nat)],q.2.1,σ.length,0,[],[]⟩) (fun q=>q.1<=l.length/\LnB σ q.2.1 q.2.2 (wo l v q.1)) (fun q=>l.length-q.1) rfl (0,σ++[none],.jZ) ?_ ?_ ?_
 ·exact⟨by omega,.inl ⟨rfl,aCC l v⟩,fun o ho=>kQ ho,by simp⟩
 ·(refine kN ?_;exact uT)
 rintro⟨i,s,r⟩ ⟨hi,hL,hso,hsl⟩;dsimp only at hi hL hso hsl;have hx:(wo l v i).length<=1048576:=by have:=atX l v i;omega
 by_cases hc:(i:Int)<(l.length:Nat)
 ·have hil:i<l.length:=by omega
  have es:=aCD l v hil;generalize wo l v i=M at *;obtain⟨M',e'⟩:∃M',M'=wo l v (i+1):=⟨_,rfl⟩;rw [<-e']at es;unfold WE at es;obtain⟨y,hy⟩:∃y,l.getD i default=y:=⟨_,rfl⟩;rw [hy]at es;by_cases ha:y.a=v
  ·rw [bI (by simp [ha]),dK,aO (by simp),aW]at es;subst es;refine Du @hc @mg @hy @ha ?_;exact⟨(i+1,s++[some ⟨11,[y.cells]⟩],r),by dsimp only;omega,⟨by dsimp only;omega,by dsimp only;rw [<-e'];exact LnB.snoc ⟨hL,hso,hsl⟩⟩,by (refine kN ?_;exact uT)⟩
  by_cases hb:y.b=v
  ·rw [bI (by simp [hb]:¬y.b≠v),jI,aO (by simp),aW]at es;subst es;refine Jg @hc @mg @hy @ha @hb ?_;exact⟨(i+1,s++[some ⟨11,[y.cells]⟩],r),by dsimp only;omega,⟨by dsimp only;omega,by dsimp only;rw [<-e'];exact LnB.snoc ⟨hL,hso,hsl⟩⟩,by (refine kN ?_;exact uT)⟩
  rw [aT ha,aT hb,aQ (by rfl)]at es;subst es;rcases hL with ⟨rfl,rfl⟩|⟨p,hp,rfl,hm⟩
  ·refine Jg @hc @mg @hy @ha @hb ?_;refine⟨by omega,(i+1,?st,.lG (s.length+1+1) 0 1),by dsimp only;omega,⟨by dsimp only;omega,?lt⟩,?ft⟩
   case ft=>(refine kN ?_;exact uT)
   case lt =>
    dsimp only;rw [<-e'];refine LnB.new (s:=s) hso hsl (by omega) (fun o ho=>?_) ?_ rfl ?_
    ·exact Ib
    ·simp
    simp (disch:=first|omega|(simp only [aS,bY,ak,aG];omega)) only [RP];rfl
  have hpl:=kX hm;refine Ia @hc @mg @hy @ha @hb @hm ?_;refine⟨⟨by omega,by omega⟩,(i+1,?ss,.lG (s.length+1+1) 0 (M.length+1)),by dsimp only;omega,⟨by dsimp only;omega,?ll⟩,?ff⟩
  case ff=>(refine kN ?_;exact uT)
  case ll =>
   dsimp only;rw [<-e'];refine LnB.new (s:=s) hso hsl (by omega) (fun o ho=>?_) ?_ (by simp) ?_
   ·have hop:o≠p:=by omega
    exact Ib
   ·simp;omega
   simp (disch:=first|omega|(simp only [aS,bY,ak,aG];omega)) only [RP];simp
 have hie:i=l.length:=by omega
 subst hie;refine y8 @hc ?_;exact⟨hL,hso,hsl⟩
theorem aqj{n:Nat}{f:Nat->Option Nat}{rows:List (List V)}(h:nN rows):qK f ⟨n,rows⟩=⟨n,rows⟩:=by
 unfold qK
 congr 1
 have:∀r∈rows,r.map (lD f)=r:=fun r hr=>by
  conv=>rhs;rw [<-List.map_id r]
  apply fZ
  intro v hv;exact XH (h r hr v hv)
 conv=>rhs;rw [<-List.map_id rows]
 apply fZ
 intro r hr;exact this r hr
theorem amH{T:Tb}{f:Nat}{as:List Src}{dst:Option Nat}{env:Nat->V}{σ:Store}{kp bs:Nat}{rs ms:List Nat}{k:St->Prop}{as':List V}{M:List Lk}
  (h:∃r s1,Run T (.fn f as' []) (.fn r s1)/\LnB [] s1 r M) (ha:Ls env σ as (· = as')) (hr:nJ env σ as=[]) (hk:∀r σ2,LnB σ σ2 r M->k ⟨oh env dst r,σ2,kp,bs,rs,ms⟩):Qj T f as dst ⟨env,σ,kp,bs,rs,ms⟩ k:=by
 obtain⟨r,s1,h,hL,_,_⟩:=h;refine I7 h ha hr (hk _ _ ⟨?_,fun o ho=>by rw [qU,aQ ho],by unfold yV;simp⟩);rcases hL with ⟨rfl,rfl⟩|⟨p,_,rfl,hm⟩
 ·exact .inl ⟨rfl,rfl⟩
 refine .inr ⟨σ.length+p,by omega,rfl,?_⟩;rw [qU,aO (by omega),show σ.length+p-σ.length=p by omega,hm];show some (qK _ _)=_;rw [aqj (Hq M)]
def vV:Fn:=⟨2,41,[.cell 4 5 true,.tmp 5,.cell 6 3 true,.tmp 7],(.seq (rf 2 [oN 4 (.alloc zz4),oK 5 2 mN,oK 6 1 (.alloc uz),oK 7 2 mF]) (.seq (rf 1 [oK 14 1 (oV 0),oK 15 1 (oV 1),oK 16 1 (cl 182 [14,15]),oK 13 1 (oV 16),oK 17 1 (ex 0 13),oK 18 1 (ex 1 13),oK 19 1 (ex 2 13),oN 8 (.alloc zz4),⟨none,none,1,.store 5 (.t 8) (.t 17),[]⟩,oK 9 1 (oV 18),oK 10 1 (oV 19)]) (.seq (sr [oW 20 10,oN 21 (nt 20)] (cd 21 (sr [oN 22 (.build zz4 []),oN 23 (.build uz []),oS (.store 5 (.t 4) (.t 22)),oN 5 mN,oS (.store 3 (.t 6) (.t 23)),oN 7 mF] .ret) .skip)) (.seq (rf 2 [oK 25 2 (oV 0),oK 26 2 (oV 1),oK 27 2 (cl 241 [25,26]),oK 28 2 (oV 9),oN 29 (.app 11 184 (.t 27) (.t 28)),oK 30 2 (cl 109 [29]),oK 24 2 (oV 30),oK 31 2 (ex 0 24),oK 32 2 (ex 1 24),oK 33 2 (ex 2 24),oK 12 1 (.alloc uz),oK 11 2 (oV 31),⟨none,none,2,.store 3 (.t 12) (.t 32),[]⟩,oK 10 2 (oV 33)]) (.seq (sr [oW 34 10,oN 35 (nt 34)] (cd 35 (sr [oN 36 (.build zz4 []),oN 37 (.build uz []),oS (.store 5 (.t 4) (.t 36)),oN 5 mN,oS (.store 3 (.t 6) (.t 37)),oN 7 mF] .ret) .skip)) (.seq (rt 0 [oN 38 (lT 5 8),oW 39 11,oN 40 (lT 3 12),⟨none,none,0,.store 5 (.t 4) (.t 38),[0,0]⟩,oA 5 0 (oV 39) [1,3,0,1,3],⟨none,none,0,.store 3 (.t 6) (.t 40),[2,4,0,1,2,3,4]⟩,oA 7 0 mT [5,0,1,2,3,4,5]]) .ret))))))⟩
structure Ez (T:Tb):Prop where
 hT:T 274=some vV
 Va:FQ T
 Pq:zX T
 RH:CY T
def vZ:Fn:=⟨2,34,[.cell 4 5 true,.tmp 5,.cell 6 3 true,.tmp 7],(.seq (rf 2 [oN 4 (.alloc zz4),oK 5 2 mN,oK 6 1 (.alloc uz),oK 7 2 mF]) (.seq (sr [oW 12 0,oN 13 (cl 89 [12]),oN 14 (nt 13)] (cd 14 (sr [oN 15 (.build zz4 []),oN 16 (.build uz []),oS (.store 5 (.t 4) (.t 15)),oN 5 mN,oS (.store 3 (.t 6) (.t 16)),oN 7 mF] .ret) .skip)) (.seq (rf 2 [oK 18 2 (oV 0),oK 19 2 (oV 1),oK 20 2 (cl 274 [18,19]),oK 17 2 (oV 20),oK 21 2 (ex 0 17),oK 22 2 (ex 1 17),oK 23 2 (ex 2 17),oK 24 2 (ex 3 17),oN 8 (.alloc zz4),oK 10 1 (.alloc uz),⟨none,none,2,.store 5 (.t 8) (.t 21),[]⟩,oK 9 2 (oV 22),⟨none,none,2,.store 3 (.t 10) (.t 23),[]⟩,oK 11 2 (oV 24)]) (.seq (sr [oW 25 11,oN 26 (nt 25)] (cd 26 (sr [oN 27 (.build zz4 []),oN 28 (.build uz []),oS (.store 5 (.t 4) (.t 27)),oN 5 mN,oS (.store 3 (.t 6) (.t 28)),oN 7 mF] .ret) .skip)) (.seq (rt 0 [oN 29 (lT 5 8),oA 30 0 (cl 183 [29]) [0],oW 31 9,oA 32 0 (cl 110 [31]) [2,1],oN 33 (lT 3 10),⟨none,none,0,.store 5 (.t 4) (.t 30),[1,3,0,1]⟩,oA 5 0 (oV 32) [3,5,0,1,2,3,5],⟨none,none,0,.store 3 (.t 6) (.t 33),[4,6,0,1,2,3,4,5,6]⟩,oA 7 0 mT [7,0,1,2,3,4,5,6,7]]) .ret)))))⟩
structure EC (T:Tb):Prop where
 hT:T 268=some vZ
 pK:rU T
 Vb:FB T
 NP:xR T
 TQ:Ez T
def RQ(S:List Lk)(v:Int):List Lk:=S.filter (WE v)++elM S v
def NQ(S:List Lk)(v:Int):Bool:=V4 S v&&FT (RQ S v)
def Zj(S:List Lk)(v:Int):Cd:=if NQ S v=true then elC S v else⟨0,R0,[]⟩
def H6(S:List Lk)(v:Int):List Lk:=if NQ S v=true then Ox (RQ S v)else []
def rnE(S:List Lk)(v:Int):R:=if NQ S v=true then U5 (RQ S v)else R0
theorem aea{S:List Lk}{v:Int}(h:NQ S v=true):Zj S v=elC S v/\H6 S v=Ox (RQ S v)/\rnE S v=U5 (RQ S v):=by
 unfold Zj H6 rnE;rw [h];exact⟨rfl,rfl,rfl⟩
theorem agi{S:List Lk}{v:Int}(h:NQ S v=false):Zj S v=⟨0,R0,[]⟩/\H6 S v=[]/\rnE S v=R0:=by
 unfold Zj H6 rnE;rw [h];exact⟨rfl,rfl,rfl⟩
theorem auG{S:List Lk}(v:Int)(h:Iz Lk.wf S)(hl:S.length<=1048576):Iz Lk.wf (RQ S v):=by
 have h1:=(abL S v).2.2;have h2:=jW (WE v) S;have h3:=(abL S v).1.2.2;have h4:=QU Lk.sz (elM S v);refine⟨by unfold RQ;rw [aS];omega,fun x hx=>?_⟩;rcases aN.1 hx with hx|hx
 ·exact h.2 x (eU.1 hx).1
 exact h1.2 x hx
theorem ahR:mP (.oJ [Y6 ⟨0,R0,[]⟩,nY [],kW R0,.bool false]) (.oJ [.agg [iv 0,.bool false,.jZ,.jZ,.jZ],.jZ,.agg [.bool false,.jZ,.jZ],.bool false]):=by
 simp only [mP,wS];exact⟨_,rfl,_,_,rfl,⟨_,rfl,_,_,rfl,rfl,_,_,rfl,rfl,_,_,rfl,.inl ⟨rfl,.inl rfl⟩,_,_,rfl,.inl ⟨rfl,.inl rfl⟩,_,_,rfl,.inl ⟨rfl,.inl rfl⟩,rfl⟩,_,_,rfl,.inl ⟨rfl,.inl rfl⟩,_,_,rfl,uo,_,_,rfl,rfl,rfl⟩
theorem Qe{T:Tb}{f:Nat}{as:List Src}{dst:Option Nat}{env:Nat->V}{σ:Store}{kp bs:Nat}{rs ms:List Nat}{k:St->Prop}{as':List V}{ts:List (Bool×V)}{p:Nat}(h:PX T f as' ts)
  (ha:Ls env σ as (· = as')) (hr:∀o,o∈nJ env σ as->o=p) (hk:∀vs σ2 os S,S.length=σ.length->(∀o,o≠p->jX S o=jX σ o)->aa1 S σ2 vs ts os->(∀S2:Store,(∀o,σ.length<=o->jX S2 o=jX σ2 o)->VQ S2 vs ts os)->k ⟨oh env dst (.oJ vs),σ2,kp,bs,rs,ms⟩):Qj T f as dst ⟨env,σ,kp,bs,rs,ms⟩ k:=by
 obtain⟨vs,σ',os,h1,h2,h3⟩:=h;obtain⟨as2,e,rfl⟩:=Ae ha;obtain⟨R,hR,hRs⟩:∃R,R=(if (nV (V.oJ vs)&&ES σ')=true then []else nJ env σ as)/\∀o,o∉nJ env σ as->o∉R:=by
  by_cases hc:(nV (V.oJ vs)&&ES σ')=true
  ·exact⟨[],by rw [aQ hc],fun _ _=>by simp⟩
  exact⟨nJ env σ as,by rw [aO hc],fun _ h=>h⟩
 refine⟨_,.own e h1 (R:=R) hR,?_⟩;have key:∀o,jX (yV (nI σ R) σ') (σ.length+o)=(jX σ' o).map (qK (mD σ.length)):=by
  intro o;rw [qU,Jc,aO (by omega)]
  congr 2;omega
 have:=hk (vs.map (lD (mD σ.length))) (yV (nI σ R) σ') (os.map (σ.length + ·)) (nI σ R) (Jc _ _) (fun o ho=>by rw [EY,aO (hRs o fun hm=>ho (hr o hm))]) ⟨h2.shift key,?_,?_,?_,?_⟩ (fun S2 hS=>h2.shift fun o=>(hS _ (by omega)).trans (key o))
 ·simpa only [lD,SB]using this
 ·exact iJ.2 (h3.imp fun hne e=>hne (by omega))
 ·intro o ho;obtain⟨q,_,rfl⟩:=bC.1 ho;rw [Jc];omega
 ·intro o ho;rw [qU,aQ ho]
 simp [yV]
theorem PX.aDm{T:Tb}{f:Nat}{as as':List V}{ts:List (Bool×V)}(h:PX T f as ts)(ha:wS as as'):PX T f as' ts:=by
 obtain⟨vs,σ',os,h1,h2,h3⟩:=h;exact⟨vs,σ',os,.aau ha h1 (kM _),h2,h3⟩
def rnT(S:List Lk)(v:Int):List (Bool×V):=[(false,Y6 (Zj S v)),(false,nY (H6 S v)),(true,kW (rnE S v)),(false,.bool (NQ S v))]
theorem YB{σ:Store}:afl σ (.oJ [.agg [iv 0,.bool false,.jZ,.jZ,.jZ],.jZ,.agg [.bool false,.jZ,.jZ],.bool false]) [(false,Y6 ⟨0,R0,[]⟩),(false,nY []),(true,kW R0),(false,.bool false)]:=by
 refine⟨[Y6 ⟨0,R0,[]⟩,.sl 11 [],kW R0,.bool false],[],ahR,?_,.nil⟩;simp only [VQ,if_true,bG,if_false];refine⟨_,_,[],[],rfl,rfl,⟨rfl,rfl⟩,_,_,[],[],rfl,rfl,⟨rfl,rfl⟩,_,_,[],[],rfl,rfl,?_,_,[],[],[],rfl,rfl,⟨rfl,rfl⟩,rfl,rfl⟩;exact qV (rM (qJ (o1:=[]) nP (qJ (o1:=[]) nP qB)))
theorem ahS{σ:Store}{a w:V}{vs:List V}{ts:List (Bool×V)}{os:List Nat}(ha:resolve σ FD a=some w)(h:VQ σ vs ts os)(hn:os.Nodup):afl σ (.oJ (a::vs)) ((false,w)::ts):=by
 refine⟨a::vs,os,kM _,?_,hn⟩;unfold VQ;exact⟨a,vs,[],os,rfl,rfl,by simpa using ha,h⟩
theorem Zk{T:Tb}(h:Ez T){S:List Lk}{v:Int}(hok:lI S=true)(hw:Iz Lk.wf S):PX T 274 [nY S,iv v] (rnT S v):=by
 unfold rnT;have hl:S.length<=100:=U4 hok;have ce:=V5 h.Pq (v:=v) hok hw
 cases hB:V4 S v
 ·obtain⟨e1,e2,e3⟩:=agi (S:=S) (v:=v) (by unfold NQ;rw [hB];rfl);rw [e1,e2,e3,show NQ S v=false by unfold NQ;rw [hB];rfl];rw [hB]at ce;refine SE (fun x d=>(x == 109&&d == 30)||(x == 241&&d == 27)) h.hT ?_;simp only [vV,Lz,St.enter,ak,aG,aV];refine ew ?_;refine jM ce ?_;refine ew ?_;exact .inl YB
 have hB0:=hB;rw [hB]at ce;have m1:(S.filter (WE v)).length<=1000000:=dw (jW _ _) (by omega);have m2:(elM S v).length<=20000:=by have:=(abL S v).1.2.2;have:=QU Lk.sz (elM S v);omega
 have m3:(RQ S v).length<=1048576:=by unfold RQ;rw [aS];omega
 have hall:(RQ S v).all pJ=true:=aX.2 fun x hx=>by
  rcases aN.1 hx with hx|hx
  ·exact(ru.1 hok).1 x (eU.1 hx).1
  rw [(ad6 hB).2]at hx;unfold V4 at hB;simp only [aH]at hB;exact aX.1 hB.2 x hx
 have px:=abB h.Va (l:=RQ S v) (auG v hw (by omega)) hall m3;unfold joT at px;have hD:NQ S v=FT (RQ S v):=by unfold NQ;rw [hB];rfl
 have hT:=@aea S v;have hF:=@agi S v;rw [hD]at hT hF ⊢;have hR:RQ S v=S.filter (WE v)++elM S v:=rfl;have cr:=YA h.RH (v:=v) (σ:=[]) (l:=S) (by omega);have hb:FT (RQ S v)=false->Ox (RQ S v)=[]/\U5 (RQ S v)=R0:=fun hh=>by
  have:Ud (RQ S v)=none:=by unfold FT at hh;cases hg:Ud (RQ S v)with|none=>rfl|some p=>rw [hg]at hh;cases hh
  exact⟨(Jy this).1,(Jy this).2.1⟩
 have hcs:∀σ:Store,resolve σ FD (Y6 (elC S v))=some (Y6 (elC S v)):=fun σ=>Gp (acN [elC S v] _ (by simp));clear hok hw hl hD hB hB0 hall;generalize elC S v=c at *;generalize RQ S v=L at *;generalize elM S v=M at *;generalize S.filter (WE v)=F at *;generalize Zj S v=rc at *;generalize H6 S v=rm at *;generalize rnE S v=re at *;generalize Ox L=jv at *;generalize U5 L=je at *;generalize FT L=jo at *;refine SE (fun x d=>(x == 109&&d == 30)||(x == 241&&d == 27)) h.hT ?_;simp only [vV,Lz,St.enter,ak,aG,aV];refine ew ?_;refine jM ce ?_;refine ew ?_;refine amH cr (by (refine ew ?_;try with_reducible exact aC)) (by (refine ew ?_;try with_reducible exact aC)) ?_;intro r s1 ⟨hL,hso,hsl⟩;simp only [ak,aG]at hso hsl hL;have h0:=(hso 0 (by omega)).trans rfl;have h1:=(hso 1 (by omega)).trans rfl;have h2:=(hso 2 (by omega)).trans rfl;rcases hL with ⟨rfl,rfl⟩|⟨p,hp,rfl,hm⟩
 ·have hL0:L=M:=hR;refine EN @h0 @h1 @h2 ?_;refine⟨fun hM=>?_,fun hM=>⟨⟨by omega,by omega⟩,?_⟩⟩
  ·rw [hL0,iG.1 hM]at px;refine Qe (p:=3) (px.aDm (as':=[.jZ]) ⟨_,_,rfl,iV (sV 11),rfl⟩) (by (refine EN @h0 @h1 @h2 ?_;try with_reducible exact aC)) (fun o ho=>?_) ?_
   ·have ho:o∈reach s1 FD .jZ:=by simpa [nJ,Src.ev,upd]using ho
    have:reach s1 FD .jZ=[]:=rfl;rw [this]at ho;cases ho
   intro vs q os S' hS1 hS2 g gX;obtain⟨w,e,z,rfl,hw1,hz1,G⟩:=g.fo;obtain rfl:=Dv hz1;obtain⟨_,rfl,hQ⟩:=G.ow.lJ;obtain⟨y1,y2,rfl⟩:=hQ.rat
   have lw:=Hz hw1;have gl:=G.len;have k0:=(G.old 0 (by omega)).trans ((hS2 0 (by omega)).trans h0);have k1:=(G.old 1 (by omega)).trans ((hS2 1 (by omega)).trans h1);have k2:=(G.old 2 (by omega)).trans ((hS2 2 (by omega)).trans h2);have E:Ep q [.bool je.neg,y1,y2] [.bool je.neg,ints je.mag,ints je.den] os []:=⟨⟨hQ,G.nd⟩,by simp⟩;have n4:∀o∈os,5<=o:=fun o ho=>by have:=G.fresh o ho;omega
   have LF:=ah lw (ah (E.leaf 1 rfl rfl) (E.leaf 2 rfl rfl));have gl5:5<=q.length:=by omega
   cases jo
   ·obtain⟨rfl,rfl,rfl⟩:=hF rfl;refine Du @LF @k0 @k1 @k2 ?_;exact .inl YB
   obtain⟨rfl,rfl,rfl⟩:=hT rfl;refine Du @LF @k0 @k1 @k2 ?_;refine⟨Ji (L':=5) (by omega) (by unfold rO;rfl),.inl (ahS (hcs _) (gX _ fun o ho=>?_) G.nd)⟩
   try simp only [bY]at ho
   exact Ib
  have m3':M.length<=1048576:=by omega
  rw [show nY L=.sl 11 (M.map Lk.cells) by rw [hL0]]at px;refine Qe (p:=3) px (by (refine EN @h0 @h1 @h2 ?_;try with_reducible exact aC)) (fun o ho=>?_) ?_
  ·have ho:o∈reach (s1.set 3 (some ⟨11,M.map Lk.cells⟩)) FD (.lG 3 0 M.length):=by simpa [nJ,Src.ev,upd]using ho
   exact NJ (kT (by omega)) (Hq M) o ho
  intro vs q os S' hS1 hS2 g gX;obtain⟨w,e,z,rfl,hw1,hz1,G⟩:=g.fo;obtain rfl:=Dv hz1;obtain⟨_,rfl,hQ⟩:=G.ow.lJ;obtain⟨y1,y2,rfl⟩:=hQ.rat
  have lw:=Hz hw1;simp only [bY]at hS1;have gl:=G.len;have k0:=(G.old 0 (by omega)).trans ((hS2 0 (by omega)).trans ((kK (by omega)).trans h0));have k1:=(G.old 1 (by omega)).trans ((hS2 1 (by omega)).trans ((kK (by omega)).trans h1));have k2:=(G.old 2 (by omega)).trans ((hS2 2 (by omega)).trans ((kK (by omega)).trans h2));have E:Ep q [.bool je.neg,y1,y2] [.bool je.neg,ints je.mag,ints je.den] os []:=⟨⟨hQ,G.nd⟩,by simp⟩;have n4:∀o∈os,5<=o:=fun o ho=>by have:=G.fresh o ho;omega
  have LF:=ah lw (ah (E.leaf 1 rfl rfl) (E.leaf 2 rfl rfl));have gl5:5<=q.length:=by omega
  cases jo
  ·obtain⟨rfl,rfl,rfl⟩:=hF rfl;refine Du @LF @k0 @k1 @k2 ?_;exact .inl YB
  obtain⟨rfl,rfl,rfl⟩:=hT rfl;refine Du @LF @k0 @k1 @k2 ?_;refine⟨Ji (L':=5) (by omega) (by unfold rO;rfl),.inl (ahS (hcs _) (gX _ fun o ho=>?_) G.nd)⟩
  try simp only [bY]at ho
  exact Ib
 have hFM:F.map Lk.cells++M.map Lk.cells=L.map Lk.cells:=by rw [hR,bT]
 have hLn:F.length+M.length=L.length:=by rw [hR,aS]
 refine Du @h0 @h1 @h2 @hm ?_;refine⟨fun hM=>?_,fun hM=>⟨⟨by omega,by omega⟩,?_⟩⟩
 ·rw [show nY L=.sl 11 (F.map Lk.cells) by rw [hR,iG.1 hM,aW]]at px;refine Qe (p:=p) px (by (refine Du @h0 @h1 @h2 @hm ?_;try with_reducible exact aC)) (fun o ho=>?_) ?_
  ·have ho:o∈reach s1 FD (.lG p 0 F.length):=by simpa [nJ,Src.ev,upd]using ho
   exact NJ hm (Hq F) o ho
  intro vs q os S' hS1 hS2 g gX;obtain⟨w,e,z,rfl,hw1,hz1,G⟩:=g.fo;obtain rfl:=Dv hz1;obtain⟨_,rfl,hQ⟩:=G.ow.lJ;obtain⟨y1,y2,rfl⟩:=hQ.rat
  have lw:=Hz hw1;have gl:=G.len;have k0:=(G.old 0 (by omega)).trans ((hS2 0 (by omega)).trans h0);have k1:=(G.old 1 (by omega)).trans ((hS2 1 (by omega)).trans h1);have k2:=(G.old 2 (by omega)).trans ((hS2 2 (by omega)).trans h2);have E:Ep q [.bool je.neg,y1,y2] [.bool je.neg,ints je.mag,ints je.den] os []:=⟨⟨hQ,G.nd⟩,by simp⟩;have n4:∀o∈os,5<=o:=fun o ho=>by have:=G.fresh o ho;omega
  have LF:=ah lw (ah (E.leaf 1 rfl rfl) (E.leaf 2 rfl rfl));have gl5:5<=q.length:=by omega
  cases jo
  ·obtain⟨rfl,rfl,rfl⟩:=hF rfl;refine Du @LF @k0 @k1 @k2 ?_;exact .inl YB
  obtain⟨rfl,rfl,rfl⟩:=hT rfl;refine Du @LF @k0 @k1 @k2 ?_;refine⟨Ji (L':=5) (by omega) (by unfold rO;rfl),.inl (ahS (hcs _) (gX _ fun o ho=>?_) G.nd)⟩
  try simp only [bY]at ho
  exact Ib
 rw [hFM]
 try simp only [aU]
 rw [hLn];refine Qe (p:=3) px (by (refine Du @h0 @h1 @h2 @hm ?_;try with_reducible exact aC)) (fun o ho=>?_) ?_
 ·have ho:o∈reach ((s1.set p none).set 3 (some ⟨11,L.map Lk.cells⟩)) FD (.lG 3 0 L.length):=by simpa [nJ,Src.ev,upd]using ho
  exact NJ (kT (by simp;omega)) (Hq L) o ho
 intro vs q os S' hS1 hS2 g gX;obtain⟨w,e,z,rfl,hw1,hz1,G⟩:=g.fo;obtain rfl:=Dv hz1;obtain⟨_,rfl,hQ⟩:=G.ow.lJ;obtain⟨y1,y2,rfl⟩:=hQ.rat
 have lw:=Hz hw1;simp only [bY]at hS1;have gl:=G.len;have k0:=(G.old 0 (by omega)).trans ((hS2 0 (by omega)).trans ((kK (by omega)).trans ((kK (by omega)).trans h0)));have k1:=(G.old 1 (by omega)).trans ((hS2 1 (by omega)).trans ((kK (by omega)).trans ((kK (by omega)).trans h1)));have k2:=(G.old 2 (by omega)).trans ((hS2 2 (by omega)).trans ((kK (by omega)).trans ((kK (by omega)).trans h2)));have E:Ep q [.bool je.neg,y1,y2] [.bool je.neg,ints je.mag,ints je.den] os []:=⟨⟨hQ,G.nd⟩,by simp⟩;have n4:∀o∈os,5<=o:=fun o ho=>by have:=G.fresh o ho;omega
 have LF:=ah lw (ah (E.leaf 1 rfl rfl) (E.leaf 2 rfl rfl));have gl5:5<=q.length:=by omega
 cases jo
 ·obtain⟨rfl,rfl,rfl⟩:=hF rfl;refine Du @LF @k0 @k1 @k2 ?_;exact .inl YB
 obtain⟨rfl,rfl,rfl⟩:=hT rfl;refine Du @LF @k0 @k1 @k2 ?_;refine⟨Ji (L':=5) (by omega) (by unfold rO;rfl),.inl (ahS (hcs _) (gX _ fun o ho=>?_) G.nd)⟩
 try simp only [bY]at ho
 exact Ib
theorem ahT{σ:Store}:Fin σ (.oJ [.agg [iv 0,.bool false,.jZ,.jZ,.jZ],.jZ,.agg [.bool false,.jZ,.jZ],.bool false]) (.oJ [Y6 ⟨0,R0,[]⟩,nY [],kW R0,.bool false]) :=
 ⟨.oJ [Y6 ⟨0,R0,[]⟩,.sl 11 [],kW R0,.bool false],[],ahR,JO (qJ (o1:=[]) (qV (IG (rM (qJ (o1:=[]) nP (qJ (o1:=[]) nP (qJ (o1:=[]) (by simp [mJ,QT]) qB)))))) (qJ (o1:=[]) (by simp [mJ]) (qJ (o1:=[]) alH (rM qB)))),.nil⟩
theorem ayo{S:List Lk}{v:Int}(h:NQ S v=true):ayn (Zj S v) (elM S v):=by
 have h1:V4 S v=true:=by unfold NQ at h;simp only [aH]at h;exact h.1
 rw [(aea h).1];exact aru h1
theorem amI(S:List Lk)(v:Int):((Zj S v).sz<=40000/\(Zj S v).ps.length<=10/\PS Lk.sz (H6 S v)<=20000/\(rnE S v).sz<=1000)/\(Zj S v).wf/\Iz Lk.wf (H6 S v)/\(rnE S v).wf:=by
 have hcn:=U6 (l:=RQ S v);have he:=abL S v
 cases hB:NQ S v
 ·obtain⟨e1,e2,e3⟩:=agi hB;rw [e1,e2,e3];exact⟨⟨by decide,by decide,by decide,by decide⟩,⟨⟨by decide,by decide⟩,by decide,by simp⟩,⟨by decide,by simp⟩,by decide,by decide⟩
 obtain⟨e1,e2,e3⟩:=aea hB;rw [e1,e2,e3];exact⟨⟨he.1.1,he.1.2.1,Yp hcn.1 hcn.2.2.1,NM hcn.2.1⟩,he.2.1,U7 hcn.1 hcn.2.2.1,uq hcn.2.1⟩
theorem YC{σ:Store}{n:Nat}{x t:V}(h:resolve σ (n+1) x=some t)(ht:t.leaf=true):x.leaf=true:=by
 cases x with
 |agg cs=>simp only [resolve]at h;obtain⟨_,_,rfl⟩:=aJ.1 h;cases ht
 |oJ cs=>simp only [resolve]at h;obtain⟨_,_,rfl⟩:=aJ.1 h;cases ht
 |any=>simp only [resolve]at h;cases h
 |_=>rfl
theorem ahU{σ:Store}{n:Nat}{x t:V}(h:resolve σ (n+1) x=some t)(ht:(∃b,t=.bool b)\/∃k i,t=.int k i):x=t:=by
 cases x with
 |
  lG o s l =>
  simp only [resolve]at h;split at h
  ·split at h
   ·obtain⟨_,_,rfl⟩:=aJ.1 h;rcases ht with ⟨_,e⟩|⟨_,_,e⟩<;>cases e
   cases h
  cases h
 |ptr o r off=>obtain⟨_,_,e⟩:=Wq h;subst e;rcases ht with ⟨_,e⟩|⟨_,_,e⟩<;>cases e
 |agg cs=>simp only [resolve]at h;obtain⟨_,_,rfl⟩:=aJ.1 h;rcases ht with ⟨_,e⟩|⟨_,_,e⟩<;>cases e
 |oJ cs=>simp only [resolve]at h;obtain⟨_,_,rfl⟩:=aJ.1 h;rcases ht with ⟨_,e⟩|⟨_,_,e⟩<;>cases e
 |any=>simp only [resolve]at h;cases h
 |_=>simpa [resolve]using h
theorem BH{f:V->Option V}{cs:List V}{t:V}{ts:List V}(h:cs.mapM f=some (t::ts)):∃a cs',cs=a::cs'/\f a=some t/\cs'.mapM f=some ts:=by
 cases cs with
 |nil=>simp at h
 |
  cons a cs' =>
  rw [bU]at h
  cases ha:f a with
  |none=>rw [ha]at h;cases h
  |
   some x =>
   rw [ha]at h
   cases hc:cs'.mapM f with
   |none=>rw [hc]at h;cases h
   |some xs=>rw [hc]at h;cases h;exact⟨a,cs',rfl,ha,hc⟩
theorem abM{f:V->Option V}{cs:List V}(h:cs.mapM f=some []):cs=[]:=by
 cases cs with
 |nil=>rfl
 |
  cons a cs' =>
  rw [bU]at h
  cases ha:f a with
  |none=>rw [ha]at h;cases h
  |
   some x =>
   rw [ha]at h
   cases hc:cs'.mapM f with
   |none=>rw [hc]at h;cases h
   |some xs=>rw [hc]at h;cases h
theorem aeb{σ:Store}{n:Nat}{a:V}{ts:List V}(h:resolve σ (n+1) a=some (.agg ts)):∃cs,a=.agg cs/\cs.mapM (resolve σ n)=some ts:=by
 cases a with
 |
  agg cs =>
  simp only [resolve]at h;obtain⟨ts',h1,e⟩:=aJ.1 h
  cases e
  exact⟨cs,rfl,h1⟩
 |
  lG o s l =>
  simp only [resolve]at h;split at h
  ·split at h
   ·obtain⟨_,_,e⟩:=aJ.1 h
    cases e
   cases h
  cases h
 |ptr o r off=>obtain⟨_,_,e⟩:=Wq h;cases e
 |oJ cs=>simp only [resolve]at h;obtain⟨_,_,e⟩:=aJ.1 h;cases e
 |_=>simp only [resolve]at h;cases h
theorem auH{σ:Store}{a:V}{c:Cd}(h:resolve σ FD a=some (Y6 c)):∃x2 x3 x4,a=.agg [iv c.node,.bool c.total.neg,x2,x3,x4]/\x2.leaf=true/\x3.leaf=true/\x4.leaf=true:=by
 obtain⟨cs,rfl,h1⟩:=aeb (n:=11) (ts:=c.cells) h;obtain⟨a0,c1,rfl,k0,h1⟩:=BH h1;obtain⟨a1,c2,rfl,k1,h1⟩:=BH h1;obtain⟨a2,c3,rfl,k2,h1⟩:=BH h1;obtain⟨a3,c4,rfl,k3,h1⟩:=BH h1;obtain⟨a4,c5,rfl,k4,h1⟩:=BH h1;obtain rfl:=abM h1;obtain rfl:=ahU (n:=10) k0 (.inr ⟨_,_,rfl⟩);obtain rfl:=ahU (n:=10) k1 (.inl ⟨_,rfl⟩);exact⟨a2,a3,a4,rfl,YC (n:=10) k2 rfl,YC (n:=10) k3 rfl,YC (n:=10) k4 rfl⟩
theorem aa1.tl{σ σ2:Store}{vs:List V}{t:V}{ts:List (Bool×V)}{os:List Nat}(g:aa1 σ σ2 vs ((false,t)::ts) os):∃a vs',vs=a::vs'/\resolve σ2 FD a=some t/\aa1 σ σ2 vs' ts os:=by
 have g1:=g.ow;unfold VQ at g1;obtain⟨a,vs',o1,o2,rfl,rfl,h1,h2⟩:=g1;simp only [bG,if_false]at h1;obtain⟨h1,rfl⟩:=h1;exact⟨a,vs',rfl,h1,⟨by simpa using h2,by simpa using g.nd,fun o ho=>g.fresh o (by simpa using ho),g.old,g.len⟩⟩
theorem YD{T:Tb}(h:EC T){S:List Lk}{v:Int}(hw:Iz Lk.wf S):PO T 268 [nY S,iv v] (.oJ [Y6 (Zj S v),nY (H6 S v),kW (rnE S v),.bool (NQ S v)]):=by
 have ci:=DX h.pK hw
 cases hb:lI S
 ·rw [hb]at ci;have hB:NQ S v=false:=by unfold NQ V4;rw [hb];rfl
  rw [(agi hB).1,(agi hB).2.1,(agi hB).2.2,hB];refine lW nR h.hT ?_;simp only [vZ,Lz,St.enter,ak,aG,aV];refine ew ?_;refine jM ci ?_;refine ew ?_;exact ahT
 rw [hb]at ci;have px:=Zk h.TQ (v:=v) hb hw;unfold rnT at px;have hR:=amI S v;have O:=@ayo S v;have hF:=@agi S v;generalize Zj S v=c at *;generalize H6 S v=M at *;generalize rnE S v=e at *;generalize NQ S v=b at *;refine lW (fun x d=>x == 274||x == 183||x == 110) h.hT ?_;simp only [vZ,Lz,St.enter,ak,aG,aV];refine ew ?_;refine jM ci ?_;refine ew ?_;refine UF px (by (refine ew ?_;try with_reducible exact aC)) (by (refine ew ?_;try with_reducible exact aC)) ?_;intro vs q os g;obtain⟨a,vs',rfl,ha1,g⟩:=g.tl;obtain⟨w,ev,z,rfl,hw1,hz1,G⟩:=g.fo;obtain rfl:=Dv hz1;obtain⟨_,rfl,hQ⟩:=G.ow.lJ;obtain⟨y1,y2,rfl⟩:=hQ.rat
 obtain⟨x2,x3,x4,rfl,l2,l3,l4⟩:=auH ha1;have lw:=Hz hw1;have gl:=G.len;simp only [ak,aG]at gl;have ho0:=(G.old 0 (by simp)).trans rfl;have ho1:=(G.old 1 (by simp)).trans rfl;have ho2:=(G.old 2 (by simp)).trans rfl;have ho3:=(G.old 3 (by simp)).trans rfl;have E:Ep q [.bool e.neg,y1,y2] [.bool e.neg,ints e.mag,ints e.den] os []:=⟨⟨hQ,G.nd⟩,by simp⟩;have LF:=ah lw (ah (ah l2 (ah l3 l4)) (ah (E.leaf 1 rfl rfl) (E.leaf 2 rfl rfl)));refine Jg @LF @ho0 @ho1 @ho2 @ho3 ?_
 cases b
 ·obtain⟨rfl,rfl,rfl⟩:=hF rfl;refine Af @ho0 @ho1 ?_;exact ahT
 have O:=O rfl;refine EN @LF @ho0 @ho1 ?_;have ayp:jX q 2=none:=ho2;have ayq:jX q 3=none:=ho3;obtain⟨s4,hs4⟩:∃s,((((q.set 2 (some ⟨5,[[.int .i64 0,.bool false,.jZ,.jZ,.jZ]]⟩)).set 3 (some ⟨3,[[.bool false,.jZ,.jZ]]⟩)).set 2 (some ⟨5,[[iv c.node,.bool c.total.neg,x2,x3,x4]]⟩)).set 3 (some ⟨3,[[.bool e.neg,y1,y2]]⟩))=s:=⟨_,rfl⟩;have kk:∀o,o≠2->o≠3->jX s4 o=jX q o:=fun o h2 h3=>by rw [<-hs4,kK h3,kK h2,kK h3,kK h2]
 have hmono:∀o ob,jX q o=some ob->jX s4 o=some ob:=fun o ob ho=>by
  rw [kk o (fun e=>by rw [e,ayp]at ho;cases ho) (fun e=>by rw [e,ayq]at ho;cases ho)];exact ho
 have ls:s4.length=q.length:=by rw [<-hs4];simp
 have t0:=(kk 0 (by decide) (by decide)).trans ho0;have t1:=(kk 1 (by decide) (by decide)).trans ho1;have t2:jX s4 2=some ⟨5,[[iv c.node,.bool c.total.neg,x2,x3,x4]]⟩:=by rw [<-hs4,kK (by decide),kT (by simp;omega)]
 have t3:jX s4 3=some ⟨3,[[.bool e.neg,y1,y2]]⟩:=by rw [<-hs4,kT (by simp;omega)]
 have C4:Cs s4 [.bool e.neg,y1,y2] [.bool e.neg,ints e.mag,ints e.den] os:=E.c.frame fun o ho=>by
  have:=G.fresh o ho;simp at this;exact kk o (by omega) (by omega)
 have ha2:=Tz hmono _ _ _ ha1;have hw2:=Tz hmono _ _ _ hw1;simp only [hs4];clear hs4 kk hmono ho0 ho1 ho2 ho3 ayp ayq ha1 hw1 E;refine Sz (RG h.NP (c:=c) O.ne ⟨by have:=NM O.cn.1;omega,fun a ha=>by have h1:=O.cn.2 a ha;have:=NM h1.1;have:=NM h1.2.1;have:=NM h1.2.2;unfold Pa.sz;omega⟩ (by have:=O.len;omega)) (by (refine y8 @ha2 ?_;try with_reducible exact aC)) ?_;intro r1 q2 o2 g1;generalize nJ _ _ _=R1;obtain⟨_,rfl,hQ2⟩:=g1.ow.lJ;obtain⟨z2,z3,z4,rfl⟩:=hQ2.cd;have lz:=hQ2.leaf rfl;simp only [dF,dS,aH,dI]at lz;have hw3:=Tz (fun o ob ho=>(g1.old o (kX ho)).trans ho) _ _ _ hw2;have gl2:=g1.len;have u0:=(g1.old 0 (by omega)).trans t0;have u1:=(g1.old 1 (by omega)).trans t1;have u2:=(g1.old 2 (by omega)).trans t2;have u3:=(g1.old 3 (by omega)).trans t3;refine Du @LF @lz (ah u0 u1) (ah u2 u3) ?_;refine Sz (aa6 h.Vb (l:=M) (by omega)) (by (refine y8 @hw3 ?_;try with_reducible exact aC)) ?_;intro r2 q3 o3 g2;generalize nJ _ _ _=R2;have lr:=g2.ow.leaf rfl;have gl3:=g2.len;have v0:=(g2.old 0 (by omega)).trans u0;have v1:=(g2.old 1 (by omega)).trans u1;have v2:=(g2.old 2 (by omega)).trans u2;have v3:=(g2.old 3 (by omega)).trans u3;refine Du @LF (ah lz lr) (ah v0 v1) (ah v2 v3) ?_;refine⟨Ji (L':=4) (by omega) (by unfold rO;rfl),?_⟩;have E4:Ep s4 [.bool e.neg,y1,y2] [.bool e.neg,ints e.mag,ints e.den] os []:=⟨C4,by simp⟩;have E5:=E4.got (s1:=s4) (fun _ _=>rfl) (aK _) hQ2 g1.nd g1.fresh g1.old
 have E6:=E5.got (s1:=q2) (fun _ _=>rfl) (aK _) (ag1 g2.ow) g2.nd g2.fresh g2.old;have nn:∀o∈(os++o2)++o3,2<=o:=fun o ho=>by
  rcases aN.1 ho with ho|ho
  ·rcases aN.1 ho with ho|ho
   ·have:=G.fresh o ho;simp at this;omega
   have:=g1.fresh o ho;omega
  have:=g2.fresh o ho;omega
 have C7:=(E6.c.set (o:=0) (x:=some ⟨5,[[iv c.node,.bool c.total.neg,z2,z3,z4]]⟩) (fun hm=>by have:=nn 0 hm;omega)).set (o:=1) (x:=some ⟨3,[[.bool e.neg,y1,y2]]⟩) (fun hm=>by have:=nn 1 hm;omega);have E7:Ep _ ([.bool e.neg,y1,y2]++([iv c.node,.bool c.total.neg,z2,z3,z4,r2]++[])) ([.bool e.neg,ints e.mag,ints e.den]++([iv c.node,.bool c.total.neg,ints c.total.mag,ints c.total.den,QT c.ps,nY M]++[])) _ []:=⟨C7,by simp⟩;obtain⟨os',E8,_⟩:=E7.swap rfl rfl;have W8:ni _ ([iv c.node,.bool c.total.neg,z2,z3,z4]++([r2]++[.bool e.neg,y1,y2])) (c.cells++([nY M]++[.bool e.neg,ints e.mag,ints e.den])) os':=E8.c.ow;obtain⟨a1,a2,p1,p2,e1,rfl,w1,w2⟩:=pF W8;obtain⟨rfl,rfl⟩:=fJ e1 (by exact w1.len.symm);obtain⟨b1,b2,p3,p4,e2,rfl,w3,w4⟩:=pF w2;obtain⟨rfl,rfl⟩:=fJ e2 (by exact w3.len.symm);have W9:=nG (ag1 (qV w1)) (nG w3 (nG (ag1 (qV w4)) (rM (b:=true) qB)));refine wZ (JO W9) ?_;simpa using E8.c.nd
def gOf(l:List Lk):Nat->Gd
 |0=>gz
 |k+1=>Ku (Ku (gOf l k) (l.getD k default).a.toNat (l.getD k default).b.toNat true) (l.getD k default).b.toNat (l.getD k default).a.toNat true
def stp(v i j:Nat)(s:Gd×Nat):Gd×Nat:=if s.1 v i=true/\s.1 v j=true/\s.1 i j=false then(Ku (Ku s.1 i j true) j i true,s.2+1)else s
def cj(v i:Nat)(s:Gd×Nat):Nat->Gd×Nat
 |0=>s
 |n+1=>if i<n then stp v i n (cj v i s n)else s
def ci(v:Nat)(g:Gd):Nat->Gd×Nat
 |0=>(g,0)
 |n+1=>cj v n (ci v g n) 10
def cz(v:Nat)(g:Gd):Nat->Gd
 |0=>g
 |n+1=>Ku (Ku (cz v g n) v n false) n v false
def ayr(g:Gd)(v:Nat):Gd:=cz v (ci v g 10).1 10
def dg(g:Gd)(v:Nat):Nat->Nat
 |0=>0
 |n+1=>dg g v n+if g v n=true then 1 else 0
structure CdG (c:Cd):Prop where
 ne:0<c.ps.length
 len:c.ps.length<=10
 cn:c.total.cn/\∀a∈c.ps,a.share.cn/\a.dx.cn/\a.dy.cn
 sz:c.sz<=40000
 wf:c.wf
theorem auI{S:List Lk}{v:Int}(h:NQ S v=true):lI (H6 S v)=true:=by
 rw [(aea h).2.1];exact U6.2.2.2
theorem TS(l:Lk)(p q:Pt):enV l p q=mW l*((q.x.v-p.x.v)*(q.x.v-p.x.v)+(q.y.v-p.y.v)*(q.y.v-p.y.v))-2*((q.x.v-p.x.v)*mX l)-2*((q.y.v-p.y.v)*mY l)+mZ l:=by
 unfold enV mW mX mY mZ;grind
theorem ays{P:List Pt}{k l:Lk}(h1:pJ k=true)(h2:pJ l=true)(hg:Ou k l=true)(ea:k.a=l.a)(eb:k.b=l.b):TP P (Qz k l)+(Ot k l).v=TP P k+TP P l:=by
 obtain⟨m1,m2,m3,m4⟩:=amq h1 h2 hg;have e1:(Qz k l).a=l.a:=ea;have e2:(Qz k l).b=l.b:=eb;unfold TP;rw [TS,TS,TS,m1,m2,m3,ea,eb,e1,e2]
 grind
theorem auJ{P:List Pt}{s:List Lk}{l:Lk}{t:List Lk}{e:R}(h:NC s l=some (t,e))(h1:lI s=true)(h2:pJ l=true):tot (TP P) t+e.v=tot (TP P) s+TP P l:=by
 obtain⟨hv,hp⟩:=ru.1 h1;have hpost:=Qb (l:=l) hp;have hpl:=J5 l s;unfold NC at h;dsimp only at h;generalize EJ l s=i at *;have hsp:s.take i++s.drop i=s:=iD i s;split at h
 ·cases h
  have e0:(kZ 0).v=0:=R.FV (a:=((0:Int):Rat)) (Jl (by decide));rw [e0]
  conv=>rhs;rw [<-hsp]
  simp only [CJ,tot]
  grind
 rename_i hc;split at h
 ·rename_i hg
  cases h
  have hi:i<s.length:=by
   rcases dV i s.length with k|k
   ·exact k
   exact absurd (.inl (by omega)) hc
  have hd:s.drop i=s.getD i default::s.drop (i+1):=by
   rw [dH hi,aj,au hi];rfl
  have hx0:=hpost (s.getD i default) (by rw [hd];simp);have hxl:lK l (s.getD i default)=false:=by
   cases hq:lK l (s.getD i default)
   ·rfl
   exact absurd (.inr hq) hc
  have hsm:=getD_mem (l:=s) hi;generalize s.getD i default=x at *;obtain⟨ea,eb⟩:=ND hx0 hxl;have m:=ays (P:=P) (hv x hsm) h2 hg ea eb
  conv=>rhs;rw [<-hsp,hd]
  simp only [CJ,tot]
  grind
 cases h
theorem amJ{P:List Pt}{l:List Lk}:∀{k:Nat} {S:List Lk} {e:R},k<=l.length->Oc l k=some (S,e)->e.ok=true->tot (TP P) S+e.v=tot (TP P) (l.take k)
 |
  0,S,e,_,h,_=>by
  cases h
  have e0:(kZ 0).v=0:=R.FV (a:=((0:Int):Rat)) (Jl (by decide));rw [e0];simp [tot,iO]
 |
  k+1,S,e,hk,h,he=>by
  simp only [Oc]at h
  cases hf:Oc l k with
  |none=>rw [hf]at h;cases h
  |
   some p =>
   rw [hf]at h;dsimp only at h;split at h
   ·rename_i ho
    cases h
    obtain⟨o1,o2⟩:=LZ he;have m2:=amJ (P:=P) (k:=k) (S:=p.1) (e:=p.2) (by omega) hf o1;obtain⟨a1,a2,a3⟩:=af4 ho;obtain⟨g1,g2,g3⟩:=J6 a2 a3;have es:=take_snoc (l:=l) (i:=k) (by omega);generalize l.getD k default=x at *
    cases hr:NC p.1 x with
    |none=>rw [hr]at g3;rw [g3]at ho;cases ho
    |
     some t =>
     rw [hr]at g1 g2;have g1:adV p.1 x=t.1:=g1;have g2:adE p.1 x=t.2:=g2;have n2:=auJ (P:=P) (t:=t.1) (e:=t.2) hr a2 a3;rw [g2]at o2 he ⊢;rw [g1,es];have ev:=R.FV (Rz (R.IX o1) (R.IX o2) he);rw [ev,CJ,<-m2];simp only [tot,dU]
     grind
   cases h
theorem auK{P:List Pt}{l:List Lk}(h:FT l=true):tot (TP P) (Ox l)+(U5 l).v=tot (TP P) l:=by
 unfold FT at h
 cases hg:Ud l with
 |none=>rw [hg]at h;cases h
 |
  some p =>
  have e1:Ox l=p.1:=by unfold Ox;rw [hg];rfl
  have e2:U5 l=p.2:=by unfold U5;rw [hg];rfl
  rw [e1,e2];unfold Ud at hg
  cases hf:Oc l l.length with
  |none=>rw [hf]at hg;cases hg
  |
   some q =>
   rw [hf]at hg;dsimp only at hg;split at hg
   ·rename_i ho
    cases hg
    have:=amJ (P:=P) (S:=p.1) (e:=p.2) (aK _) hf ho;rw [bK]at this;exact this
   cases hg
theorem amK(v:Int)(x:Lk):WE v x = !stP v x:=by
 unfold WE stP;by_cases h1:x.a=v<;>by_cases h2:x.b=v<;>simp [h1,h2]
theorem aao(f:Lk->Rat)(v:Int):∀S:List Lk,tot f S=tot f (S.filter (WE v))+tot f (S.filter (stP v))
 | []=>(dU 0).symm
 |
  x::S=>by
  have ih:=aao f v S;have hw:=amK v x
  cases h:stP v x
  ·rw [h]at hw;rw [List.filter_cons_of_pos hw,List.filter_cons_of_neg (by rw [h];simp)];simp only [tot];rw [ih,Rat.add_assoc]
  rw [h]at hw;rw [List.filter_cons_of_neg (by rw [hw];simp),List.filter_cons_of_pos h];simp only [tot];rw [ih];grind
theorem aec{r:R}(h:r.ok=true):(negR r).v = -r.v:=by
 have e:=R.IX h;refine R.FV ?_;rw [afv,e];rfl
theorem auL{P:List Pt}{v:Int}{l:Lk}(h:pJ l=true)(hs:stP v l=true):TP P l=enA P (P.getD v.toNat default).x.v (P.getD v.toNat default).y.v (Yy v l):=by
 have hk:=Aw h;unfold stP at hs;simp only [dQ,bf]at hs;unfold Yy TP enV enA sW qX qY;by_cases ha:l.a=v
 ·rw [aQ ha];dsimp only;rw [aec hk.2.1,aec hk.2.2.1,ha];have k1:∀x p d:Rat,x-p-d=x + -d-p:=fun x p d=>by grind
  rw [k1,k1]
 have hb:l.b=v:=by omega
 rw [aO ha];dsimp only;rw [hb];have k1:∀x p d:Rat,x-p-d = -(p+d-x):=fun x p d=>by grind
 rw [k1,k1]
 grind
theorem FX{f g:Lk->Rat}:∀{L:List Lk},(∀x∈L,f x=g x)->tot f L=tot g L
 | [],_=>rfl
 |x::L,h=>by simp only [tot];rw [h x (by simp),FX (L:=L) fun y hy=>h y (by simp [hy])]
theorem amL{P:List Pt}{v:Int}{S:List Lk}(h:lI S=true):tot (TP P) (S.filter (stP v))=sm (enA P (P.getD v.toNat default).x.v (P.getD v.toNat default).y.v) (oP S v):=by
 rw [L6,<-ahP];refine FX fun x hx=>?_;obtain⟨h1,h2⟩:=eU.1 hx;exact auL (nZ h h1) h2
theorem ayt(g:Lk->Rat){P:List Pt}{A:List Pa}{t:Rat}{i:Nat}(h:∀j,i<j->j<A.length->g (KZ (qZ A) (A.getD i default) (A.getD j default))=w2 P (A.getD i default) (A.getD j default) / t):∀j,i+1+j<=A.length->tot g (wP A i j)=sm (w2 P (A.getD i default)) ((A.drop (i+1)).take j) / t
 |0,_=>by rw [WR,List.take_zero];simp only [tot,sm];rw [fK,iU]
 |
  j+1,hj=>by
  rw [abK A (by omega),CJ,ayt g h j (by omega),ahN _ (by simp;omega)];have e:=h (i+1+j) (by omega) (by omega);have e2:(A.drop (i+1)).getD j default=A.getD (i+1+j) default:=by
   rw [aj,dY,aj]
  rw [e2];simp only [tot,dU];rw [e,fK,fK,fK,Rat.add_mul]
theorem arx(g:Lk->Rat){P:List Pt}{A:List Pa}{t:Rat}(h:∀i j,i<j->j<A.length->g (KZ (qZ A) (A.getD i default) (A.getD j default))=w2 P (A.getD i default) (A.getD j default) / t):∀k,k<=A.length->tot g (tK A k)+pr P (A.drop k) / t=pr P A / t
 |0,_=>by rw [bZ];simp only [tK,tot,iO]
 |
  k+1,hk=>by
  have ih:=arx g h k (by omega);rw [agh (by omega)]at ih;show tot g (tK A k++wP A k (A.length-(k+1)))+_=_;rw [CJ,ayt g (h k) _ (by omega),bH (by simp),<-ih];simp only [pr];rw [fK,fK,fK,Rat.add_mul,Rat.add_assoc]
theorem TT{A:List Pa}{i:Nat}:∀{n:Nat},i<n->∀{j:Nat},i<j->j<A.length->KZ (qZ A) (A.getD i default) (A.getD j default)∈tK A n
 |0,h,_,_,_=>absurd h (dA _)
 |
  n+1,h,j,hij,hj=>by
  show _∈tK A n++wP A n (A.length-(n+1));rw [aN];by_cases e:i=n
  ·subst e;refine .inr ?_;unfold wP;refine bC.2 ⟨A.getD j default,?_,rfl⟩;rw [bH (by simp)];refine bQ.2 ⟨j-(i+1),?_⟩;rw [dY,show i+1+(j-(i+1))=j by omega,au hj,aj,au hj];rfl
  exact .inl (TT (by omega) hij hj)
theorem aqk{P:List Pt}{t:R}{a b:Pa}(h:pJ (KZ t a b)=true):TP P (KZ t a b)=w2 P a b / t.v:=by
 have hk:=Aw h;obtain⟨o1,o2⟩:=TJ (r:=mulR a.share b.share) (s:=t) hk.1;obtain⟨o3,o4⟩:=TI o1;obtain⟨o5,o6⟩:=adU (r:=a.dx) (s:=b.dx) hk.2.1;obtain⟨o7,o8⟩:=adU (r:=a.dy) (s:=b.dy) hk.2.2.1;have vw:(uZ (mulR a.share b.share) t).v=a.share.v*b.share.v / t.v:=R.FV (abD (NG (R.IX o3) (R.IX o4) o1) (R.IX o2) hk.1).1;have vx:(vS a.dx b.dx).v=a.dx.v-b.dx.v:=R.FV (abC (R.IX o5) (R.IX o6) hk.2.1);have vy:(vS a.dy b.dy).v=a.dy.v-b.dy.v:=R.FV (abC (R.IX o7) (R.IX o8) hk.2.2.1);unfold TP enV w2 sW qX qY KZ;dsimp only;rw [vw,vx,vy];have k1:∀x y d e:Rat,x-y-(d-e)=x+e-(y+d):=fun x y d e=>by grind
 rw [k1,k1];have k2:∀w t z:Rat,w / t*z=w*z / t:=fun w t z=>by rw [fK,fK];grind
 rw [k2]
theorem amM{P:List Pt}{A:List Pa}(h:(NI A).all pJ=true):tot (TP P) (NI A)=pr P A / (qZ A).v:=by
 have hm:=arx (TP P) (P:=P) (A:=A) (t:=(qZ A).v) (fun i j hij hj=>aqk (aX.1 h _ (TT (by omega) hij hj))) A.length (aK _);rw [jB]at hm;have e:pr P [] / (qZ A).v=0:=by show (0:Rat) / _=0;rw [fK,iU]
 rw [e,dU]at hm;exact hm
theorem amN{A:List Pa}:∀k,k<=A.length->(Nl A k).ok=true->(Nl A k).v=sm sW (A.take k)
 |0,_,_=>by rw [abh,List.take_zero];exact R.FV (a:=((0:Int):Rat)) (Jl (by decide))
 |
  k+1,hk,ho=>by
  rw [abj A (by omega)]at ho ⊢;obtain⟨o1,o2⟩:=LZ ho;rw [R.FV (Rz (R.IX o1) (R.IX o2) ho),amN k (by omega) o1,ahN _ (by omega)];rfl
theorem amO{c:Cd}(h:zB c=true):0<c.total.v:=by
 unfold zB at h;simp only [aH,bf]at h;have hs:0<wQ c.total:=by
  first
  |exact h.1.1.2
  |exact h.1.2
  |exact h.2
 have ho:=WA hs;unfold wQ at hs;rw [R.IX ho]at hs;have:0<ZL c.total.v.num:=hs;rw [Rat.lt_iff,show (0:Rat).num=0 from rfl,show (0:Rat).den=1 from rfl,Int.zero_mul,Int.natCast_one,Int.mul_one];exact ahw this
def dsq(P:List Pt)(v:Int)(A:List Pa):Rat:=((P.getD v.toNat default).x.v-pX P A)*((P.getD v.toNat default).x.v-pX P A)+((P.getD v.toNat default).y.v-pY P A)*((P.getD v.toNat default).y.v-pY P A)
theorem aDp(t z x y a b:Rat)(h:t≠0):z-2*(a*x)-2*(b*y)+(a*a+b*b)*t=(t*z-x*x-y*y) / t+t*((a-x / t)*(a-x / t)+(b-y / t)*(b-y / t)):=by grind
theorem amP{P:List Pt}{A:List Pa}{v:Int}(h:sm sW A≠0):sm (enA P (P.getD v.toNat default).x.v (P.getD v.toNat default).y.v) A=pr P A / sm sW A+sm sW A*dsq P v A:=by
 unfold dsq;rw [ahQ,arw];unfold pX pY;exact aDp _ _ _ _ _ _ h
theorem amQ{P:List Pt}{S:List Lk}{v:Int}(h:NQ S v=true):tot (TP P) S=tot (TP P) (H6 S v)+(rnE S v).v+(Zj S v).total.v*dsq P v (oP S v)/\0<(Zj S v).total.v/\(Zj S v).total.v=sm sW (oP S v):=by
 obtain⟨e1,e2,e3⟩:=aea h;unfold NQ at h;rw [aH]at h;obtain⟨hB,hj⟩:=h;obtain⟨f1,f2⟩:=ad6 hB;have hB2:=hB;unfold V4 at hB2;simp only [aH]at hB2;obtain⟨⟨⟨hS,_⟩,hC⟩,hM⟩:=hB2;have ht:=amO hC;have ev:(qZ (oP S v)).v=sm sW (oP S v):=by
  have ho:(qZ (oP S v)).ok=true:=by
   cases hq:(qZ (oP S v)).ok
   ·exfalso;have:(qZ (oP S v)).v=0:=by
     unfold R.v
     cases hz:(qZ (oP S v)).q with
     |none=>rfl
     |some a=>rw [wJ.2 (by rw [hz];simp)]at hq;cases hq
    have h2:0<(qZ (oP S v)).v:=ht;rw [this]at h2;exact absurd h2 Rat.lt_irrefl
   rfl
  have:=amN (A:=oP S v) _ (aK _) ho;rw [bK]at this;exact this
 have ht':0<(qZ (oP S v)).v:=ht;have hne:sm sW (oP S v)≠0:=fun e=>by rw [ev,e]at ht';exact absurd ht' Rat.lt_irrefl
 have et:(Zj S v).total=qZ (oP S v):=by rw [e1,f1];rfl
 have hJ:=auK (P:=P) hj;rw [e2,e3,et,hJ];refine⟨?_,ht',ev⟩;unfold RQ;rw [CJ,f2,amM hM,aao _ v S,amL hS,amP hne,ev,Rat.add_assoc]
def Ab(p:Int)(P:Nat):Prop:=p.natAbs<=P
theorem lM{p q:Int}{P Q:Nat}(h:Ab p P)(k:Ab q Q):Ab (p*q) (P*Q):=by
 unfold Ab at *;rw [iP];exact iK h k
theorem AY{p q:Int}{P Q:Nat}(h:Ab p P)(k:Ab q Q):Ab (p+q) (P+Q):=by
 unfold Ab at *;omega
theorem Lc{p q:Int}{P Q:Nat}(h:Ab p P)(k:Ab q Q):Ab (p-q) (P+Q):=by
 unfold Ab at *;omega
theorem agj{p:Int}{P:Nat}(h:Ab p P):Ab (-p) P:=by
 unfold Ab at *;omega
theorem Ab.mono{p:Int}{P Q:Nat}(h:Ab p P)(k:P<=Q):Ab p Q:=dw h k
theorem yG{a b:Int}(ha:1<=a)(hb:1<=b):1<=a*b:=by
 have:0<a*b:=Int.mul_pos (by omega) (by omega);omega
theorem ayu{a b:Int}(ha:1<=a)(hb:1<=b):1<=a+b:=by omega
structure Fq (r:R) (p n:Int):Prop where
 q:r.q=some ((p:Rat) / (n:Rat))
 n:1<=n
theorem Fq.v{r:R}{p n:Int}(h:Fq r p n):r.v=(p:Rat) / (n:Rat):=R.FV h.q
theorem Fq.ok{r:R}{p n:Int}(h:Fq r p n):r.ok=true:=by rw [wJ,h.q];simp
theorem TU{p n:Int}{P N:Nat}(hn:1<=n)(hp:Ab p P)(hd:Ab n N)(hF:Ft P N=true):norm ((p:Rat) / (n:Rat))=some ((p:Rat) / (n:Rat)) :=
 yJ (WQ (aqd hp hn (by unfold Ab at hd;omega)) (abJ hF).1 (abJ hF).2)
theorem ri{a b:Int}(e:a=b):(a:Rat)=(b:Rat):=by rw [e]
theorem ayv{p1 n1 p n:Int}(h1:1<=n1)(h:1<=n)(e:p1*n=p*n1):(p1:Rat) / n1=(p:Rat) / n:=by
 have a1:=nD h1;have a:=nD h;have e':=ri e;simp only [fA]at e'
 grind
theorem abN{p1 n1 p2 n2 p n:Int}(h1:1<=n1)(h2:1<=n2)(h:1<=n)(e:(p1*n2+p2*n1)*n=p*(n1*n2)):(p1:Rat) / n1+(p2:Rat) / n2=(p:Rat) / n:=by
 have a1:=nD h1;have a2:=nD h2;have a:=nD h;have e':=ri e;simp only [fA,Rat.intCast_add]at e'
 grind
theorem agk{p1 n1 p2 n2 p n:Int}(h1:1<=n1)(h2:1<=n2)(h:1<=n)(e:(p1*n2-p2*n1)*n=p*(n1*n2)):(p1:Rat) / n1-(p2:Rat) / n2=(p:Rat) / n:=by
 have a1:=nD h1;have a2:=nD h2;have a:=nD h;have e':=ri e;simp only [fA,Rat.intCast_sub]at e'
 grind
theorem auM{p1 n1 p2 n2 p n:Int}(h1:1<=n1)(h2:1<=n2)(h:1<=n)(e:p1*p2*n=p*(n1*n2)):(p1:Rat) / n1*((p2:Rat) / n2)=(p:Rat) / n:=by
 have a1:=nD h1;have a2:=nD h2;have a:=nD h;have e':=ri e;simp only [fA]at e'
 grind
theorem auN{p1 n1 p2 n2 p n:Int}(h1:1<=n1)(h2:1<=n2)(h3:1<=p2)(h:1<=n)(e:p1*n2*n=p*(n1*p2)):(p1:Rat) / n1 / ((p2:Rat) / n2)=(p:Rat) / n:=by
 have a1:=nD h1;have a2:=nD h2;have a3:=nD h3;have a:=nD h;have e':=ri e;simp only [fA]at e'
 grind
theorem Fq.add{r s:R}{p1 n1 p2 n2:Int}(h1:Fq r p1 n1)(h2:Fq s p2 n2){p n:Int}{P N:Nat}(e:(p1*n2+p2*n1)*n=p*(n1*n2))(hn:1<=n)(hp:Ab p P)(hd:Ab n N)(hF:Ft P N=true):Fq (qm r s) p n:=by
 refine⟨?_,hn⟩;rw [UL,h1.q,h2.q];show norm (_+_)=_;rw [abN h1.n h2.n hn e];exact TU hn hp hd hF
theorem Fq.sub{r s:R}{p1 n1 p2 n2:Int}(h1:Fq r p1 n1)(h2:Fq s p2 n2){p n:Int}{P N:Nat}(e:(p1*n2-p2*n1)*n=p*(n1*n2))(hn:1<=n)(hp:Ab p P)(hd:Ab n N)(hF:Ft P N=true):Fq (vS r s) p n:=by
 refine⟨?_,hn⟩;rw [XW,h1.q,h2.q];show norm (_ + -_)=_;rw [<-Rat.sub_eq_add_neg,agk h1.n h2.n hn e];exact TU hn hp hd hF
theorem Fq.mul{r s:R}{p1 n1 p2 n2:Int}(h1:Fq r p1 n1)(h2:Fq s p2 n2){p n:Int}{P N:Nat}(e:p1*p2*n=p*(n1*n2))(hn:1<=n)(hp:Ab p P)(hd:Ab n N)(hF:Ft P N=true):Fq (mulR r s) p n:=by
 refine⟨?_,hn⟩;rw [XY,h1.q,h2.q];show norm (_*_)=_;rw [auM h1.n h2.n hn e];exact TU hn hp hd hF
theorem Fq.div{r s:R}{p1 n1 p2 n2:Int}(h1:Fq r p1 n1)(h2:Fq s p2 n2)(h3:1<=p2){p n:Int}{P N:Nat}(e:p1*n2*n=p*(n1*p2))(hn:1<=n)(hp:Ab p P)(hd:Ab n N)(hF:Ft P N=true):Fq (uZ r s) p n:=by
 refine⟨?_,hn⟩;rw [XZ,h1.q,h2.q];show (if _=0 then none else norm (_ / _))=_;have hp2:(p2:Rat) / (n2:Rat)≠0:=fun e0=>by
  have:=VI h3 h2.n;rw [e0]at this;exact absurd this Rat.lt_irrefl
 rw [aO hp2,auN h1.n h2.n h3 hn e];exact TU hn hp hd hF
theorem Fq.neg{r:R}{p n:Int}(h:Fq r p n):Fq (negR r) (-p) n:=by
 refine⟨?_,h.n⟩;rw [afv,h.q,Rat.intCast_neg,<-ad9];rfl
theorem Fq.to{r:R}{p1 n1 p n:Int}(h:Fq r p1 n1)(hn:1<=n)(e:p1*n=p*n1):Fq r p n:=⟨by rw [h.q,ayv h.n hn e],hn⟩
theorem V6:Fq (kZ 0) 0 1:=⟨by rw [fK,Rat.intCast_zero,iU];exact Jl (n:=0) (by decide),by decide⟩
theorem Fq.pos{r:R}{p n:Int}(h:Fq r p n)(hp:1<=p):0<wQ r:=by
 have hv:=VI hp h.n;have ho:=wJ.1 h.ok;have hq:=h.q;unfold wQ;rw [hq];show 0<ZL _;have:0<((p:Rat) / (n:Rat)).num:=by
  rw [Rat.lt_iff,show (0:Rat).num=0 from rfl,show (0:Rat).den=1 from rfl,Int.zero_mul,Int.natCast_one,Int.mul_one]at hv;exact hv
 unfold ZL;rw [aO (by omega),aO (by omega)]
 decide
structure Cm (M:Int) (N B:Nat) (x:Lk):Prop where
 ex:∃n p q:Int,(1<=n/\Ab n N)/\(Ab p B/\Ab q B)/\Fq x.w n M/\Fq x.dx p n/\Fq x.dy q n
theorem Cm.mono{M:Int}{N B N' B':Nat}{x:Lk}(h:Cm M N B x)(hN:N<=N')(hB:B<=B'):Cm M N' B' x:=by
 obtain⟨n,p,q,h1,h2,h3⟩:=h.ex;exact⟨n,p,q,⟨h1.1,h1.2.mono hN⟩,⟨h2.1.mono hB,h2.2.mono hB⟩,h3⟩
theorem Cm.up{M T:Int}{N B TB:Nat}{x:Lk}(h:Cm M N B x)(hT:1<=T)(hB:Ab T TB):Cm (M*T) (N*TB) (B*TB) x:=by
 obtain⟨n,p,q,h1,h2,h3,h4,h5⟩:=h.ex;have hn:=yG h1.1 hT;exact⟨n*T,p*T,q*T,⟨hn,lM h1.2 hB⟩,⟨lM h2.1 hB,lM h2.2 hB⟩,h3.to (yG h3.n hT) (by grind),h4.to hn (by grind),h5.to hn (by grind)⟩
theorem Cm.lk{M:Int}{N B:Nat}{x:Lk}(h:Cm M N B x)(hn:0<=x.a/\x.a<x.b/\x.b<=9):pJ x=true:=by
 obtain⟨n,p,q,h1,h2,h3,h4,h5⟩:=h.ex;have hp:=h3.pos h1.1;unfold wQ at hp;unfold pJ nd;rw [h4.ok,h5.ok,aT hn.2.1,aT hp];simp;omega
def cmF(M N1 B1 N2 B2:Nat):Bool :=
 Ft (N1+N2) M&&Ft (B1+B2) M&&Ft (B1+B2) (N1+N2)&&Ft (N1*N2) (M*M)&&Ft (N1*N2) (M*(N1+N2))&&Ft (B1*N2+B2*N1) (N1*N2)&&Ft (2*((B1*N2+B2*N1)*(B1*N2+B2*N1))) (N1*N2*(N1*N2))&&Ft (2*((B1*N2+B2*N1)*(B1*N2+B2*N1))) (M*((N1+N2)*(N1*N2)))
theorem amR{P N P' N':Nat}(h:Ft P N=true)(hP:P'<=P)(hN:N'<=N):Ft P' N'=true:=by
 have:=abJ h;unfold Ft;rw [aT (iC hP this.1),aT (iC hN this.2)];rfl
theorem amS{M:Int}{N1 B1 N2 B2 MB:Nat}{x y:Lk}(hx:Cm M N1 B1 x)(hy:Cm M N2 B2 y)(hM:Ab M MB)(hF:cmF MB N1 B1 N2 B2=true) :
  Ou x y=true/\Cm M (N1+N2) (B1+B2) (Qz x y)/\∃p q:Int,1<=q/\Ab q ((N1+N2)*(N1*N2))/\Ab p (2*((B1*N2+B2*N1)*(B1*N2+B2*N1)))/\Fq (Ot x y) p (M*q):=by
 obtain⟨n,p,q,hn,hp,en,ep,eq⟩:=hx.ex;obtain⟨m,a,b,hm,ha,em,ea,eb⟩:=hy.ex;unfold cmF at hF;simp only [aH]at hF;obtain⟨⟨⟨⟨⟨⟨⟨f1,f2⟩,f3⟩,f4⟩,f5⟩,f6⟩,f7⟩,f8⟩:=hF;have hM1:=en.n;have hnm:=yG hn.1 hm.1;have hs:=ayu hn.1 hm.1;have bs:=AY hn.2 hm.2;have bnm:=lM hn.2 hm.2;have eW:Fq (rD x y) (n+m) M:=en.add em (by grind) hM1 bs hM f1;have c1:∀{r s:R} {u v:Int},Fq r u n->Fq s v m->Ab u B1->Ab v B2->Fq (uZ (qm (mulR x.w r) (mulR y.w s)) (rD x y)) (u+v) (n+m):=fun {r s u v} hr hs' hu hv =>
  Fq.div (Fq.add (Fq.mul en hr (p:=u) (n:=M) (by grind) hM1 hu hM (amR f2 (by omega) (aK _))) (Fq.mul em hs' (p:=v) (n:=M) (by grind) hM1 hv hM (amR f2 (by omega) (aK _))) (p:=u+v) (n:=M) (by grind) hM1 (AY hu hv) hM f2) eW hs (by grind) hs (AY hu hv) bs f3
 have eX:Fq (IB x y) (p+a) (n+m):=c1 ep ea hp.1 ha.1;have eY:Fq (Ob x y) (q+b) (n+m):=c1 eq eb hp.2 ha.2;have sx:=ep.sub ea (p:=p*m-a*n) (n:=n*m) (by grind) hnm (Lc (lM hp.1 hm.2) (lM ha.1 hn.2)) bnm f6;have sy:=eq.sub eb (p:=q*m-b*n) (n:=n*m) (by grind) hnm (Lc (lM hp.2 hm.2) (lM ha.2 hn.2)) bnm f6;have bx:=Lc (lM hp.1 hm.2) (lM ha.1 hn.2);have by':=Lc (lM hp.2 hm.2) (lM ha.2 hn.2);have f7':∀{Z:Nat},Z=(B1*N2+B2*N1)*(B1*N2+B2*N1)->Ft Z (N1*N2*(N1*N2))=true:=fun e=>amR f7 (by omega) (aK _);have hnn:=yG hnm hnm;have qx:=sx.mul sx (p:=(p*m-a*n)*(p*m-a*n)) (n:=n*m*(n*m)) (by grind) hnn (lM bx bx) (lM bnm bnm) (f7' rfl);have qy:=sy.mul sy (p:=(q*m-b*n)*(q*m-b*n)) (n:=n*m*(n*m)) (by grind) hnn (lM by' by') (lM bnm bnm) (f7' rfl);have bS:Ab ((p*m-a*n)*(p*m-a*n)+(q*m-b*n)*(q*m-b*n)) (2*((B1*N2+B2*N1)*(B1*N2+B2*N1))):=(AY (lM bx bx) (lM by' by')).mono (by omega);have sq:=qx.add qy (p:=(p*m-a*n)*(p*m-a*n)+(q*m-b*n)*(q*m-b*n)) (n:=n*m*(n*m)) (by grind) hnn bS (lM bnm bnm) f7;have wm:=en.mul em (p:=n*m) (n:=M*M) (by grind) (yG hM1 hM1) bnm (lM hM hM) f4;have hMs:=yG hM1 hs;have wd:=wm.div eW hs (p:=n*m) (n:=M*(n+m)) (by grind) hMs bnm (lM hM bs) f5;have hq:=yG hs hnm;have eE:Fq (Ot x y) _ _:=wd.mul sq (p:=(p*m-a*n)*(p*m-a*n)+(q*m-b*n)*(q*m-b*n)) (n:=M*((n+m)*(n*m))) (by grind) (yG hM1 hq) bS (lM hM (lM bs bnm)) f8;refine⟨by unfold Ou;rw [eW.ok,eX.ok,eY.ok,eE.ok];rfl,⟨n+m,p+a,q+b,⟨hs,bs⟩,⟨AY hp.1 ha.1,AY hp.2 ha.2⟩,eW,eX,eY⟩,_,_,hq,lM bs bnm,bS,eE⟩
def jbF(M P N K:Nat):Bool:=(List.range (K+1)).all fun k=>Ft (hb P N k).1 (M*(hb P N k).2)
theorem amT{M P N K k:Nat}(h:jbF M P N K=true)(hk:k<=K):Ft (hb P N k).1 (M*(hb P N k).2)=true:=by
 unfold jbF at h;exact aX.1 h k (eG.2 (by omega))
theorem ahV{P N:Nat}(hN:1<=N):∀k,(hb P N k).1<=(hb P N (k+1)).1/\(hb P N k).2<=(hb P N (k+1)).2:=fun k=>by
 have h1:(hb P N (k+1)).1=(hb P N k).1*N+P*(hb P N k).2:=rfl;have h2:(hb P N (k+1)).2=(hb P N k).2*N:=rfl;have h3:(hb P N k).1*1<=(hb P N k).1*N:=Nat.mul_le_mul_left _ hN;have h4:(hb P N k).2*1<=(hb P N k).2*N:=Nat.mul_le_mul_left _ hN;omega
structure JI (L:List Lk) (r:Nat) (M:Int) (N1 B1 N2 B2:Nat) (k:Nat) (S:List Lk) (e:R):Prop where
 pr:∀y∈S,∃j,j<k/\y.a=(L.getD j default).a/\y.b=(L.getD j default).b
 cm:∀y∈S,Cm M N1 B1 y\/(Cm M (N1+N2) (B1+B2) y/\∃j,r<=j/\j<k/\y.a=(L.getD j default).a/\y.b=(L.getD j default).b)
 e:∃p q:Int,1<=q/\Ab p (hb (2*((B1*N2+B2*N1)*(B1*N2+B2*N1))) ((N1+N2)*(N1*N2)) (k-r)).1/\Ab q (hb (2*((B1*N2+B2*N1)*(B1*N2+B2*N1))) ((N1+N2)*(N1*N2)) (k-r)).2/\Fq e p (M*q)
theorem arz{L:List Lk}{r:Nat}{M:Int}{N1 B1 N2 B2 MB K:Nat}(hM:Ab M MB)(hM1:1<=M)(hr:r<=L.length)(hl:L.length-r<=K)(h1:∀j,j<r->Cm M N1 B1 (L.getD j default))(h2:∀j,r<=j->j<L.length->Cm M N2 B2 (L.getD j default))
  (hn:∀x∈L,0<=x.a/\x.a<x.b/\x.b<=9) (hd:∀i j,i<j->j<L.length->(r<=i\/j<r)->¬((L.getD i default).a=(L.getD j default).a/\(L.getD i default).b=(L.getD j default).b))
  (hN:1<=N1/\1<=N2) (hF:r<L.length->cmF MB N1 B1 N2 B2=true) (hJ:jbF MB (2*((B1*N2+B2*N1)*(B1*N2+B2*N1))) ((N1+N2)*(N1*N2)) K=true) :
  ∀k,k<=L.length->∃S e,Oc L k=some (S,e)/\JI L r M N1 B1 N2 B2 k S e
 |0,_=>⟨[],kZ 0,rfl,by simp,by simp,0,1,by decide,by simp [Ab],by rw [Nat.zero_sub];exact aK 1,V6.to (by omega) (by omega)⟩
 |
  k+1,hk=>by
  obtain⟨S,e,hf,hJI⟩:=arz hM hM1 hr hl h1 h2 hn hd hN hF hJ k (by omega);have i1:=(TA hf).1;dsimp only at i1;have hmem:=getD_mem (l:=L) (i:=k) (by omega);have hnx:=hn _ hmem;generalize hxe:L.getD k default=x at hmem hnx;have hxo:pJ x=true:=by
   rcases dV k r with hkr|hkr
   ·have:=h1 k hkr;rw [hxe]at this;exact this.lk hnx
   have:=h2 k hkr (by omega);rw [hxe]at this;exact this.lk hnx
  have hmg:∀y∈S,y.a=x.a->y.b=x.b->r<=k/\Cm M N1 B1 y/\Cm M N2 B2 x:=fun y hy ea eb=>by
   obtain⟨j,hj,ja,jb⟩:=hJI.pr y hy;have hkr:r<=k:=by
    rcases dV k r with hkr|hkr
    ·exact absurd ⟨by rw [hxe];omega,by rw [hxe];omega⟩ (hd j k hj (by omega) (.inr hkr))
    exact hkr
   have:=h2 k hkr (by omega);rw [hxe]at this;refine⟨hkr,?_,this⟩;rcases hJI.cm y hy with h|⟨_,j',hj1,hj2,ja',jb'⟩
   ·exact h
   exact absurd ⟨by rw [hxe];omega,by rw [hxe];omega⟩ (hd j' k hj2 (by omega) (.inl hj1))
  have hmm:=fun y hy ea eb=>amS (hmg y hy ea eb).2.1 (hmg y hy ea eb).2.2 hM (hF (by have:=(hmg y hy ea eb).1;omega));obtain⟨t,e',hr',hc⟩:=ahB i1 hxo fun y hy ea eb=>(hmm y hy ea eb).1;obtain⟨g1,g2,g3⟩:=J6 i1 hxo;rw [hr']at g1 g2 g3;have g1:adV S x=t:=g1;have g2:adE S x=e':=g2;have g3:Tv S x=true:=g3;refine⟨t,qm e e',by simp only [Oc,hf,hxe,g3,if_true,g1,g2],?_⟩;obtain⟨p,q,hq1,hp,hq,he⟩:=hJI.e;have hNN:1<=(N1+N2)*(N1*N2):=by
   have h3:0<(N1+N2)*(N1*N2):=Nat.mul_pos (by omega) (Nat.mul_pos (by omega) (by omega));omega
  rcases hc with ⟨h,rfl⟩|⟨y,hy,ea,eb,h,rfl⟩
  ·refine⟨fun z hz=>?_,fun z hz=>?_,p,q,hq1,?_,?_,?_⟩
   ·rcases h z hz with hz|rfl
    ·obtain⟨j,hj,ja⟩:=hJI.pr z hz;exact⟨j,by omega,ja⟩
    exact⟨k,by omega,by rw [hxe],by rw [hxe]⟩
   ·rcases h z hz with hz|rfl
    ·rcases hJI.cm z hz with h|⟨h,j,hj1,hj2,hj3⟩
     ·exact .inl h
     exact .inr ⟨h,j,hj1,by omega,hj3⟩
    rcases dV k r with hkr|hkr
    ·have:=h1 k hkr;rw [hxe]at this;exact .inl this
    have:=h2 k hkr (by omega);rw [hxe]at this;exact .inr ⟨this.mono (by omega) (by omega),k,hkr,by omega,by rw [hxe],by rw [hxe]⟩
   ·rcases dV k r with hkr|hkr
    ·rw [show k+1-r=k-r by omega];exact hp
    rw [show k+1-r=k-r+1 by omega];exact hp.mono (ahV hNN _).1
   ·rcases dV k r with hkr|hkr
    ·rw [show k+1-r=k-r by omega];exact hq
    rw [show k+1-r=k-r+1 by omega];exact hq.mono (ahV hNN _).2
   exact he.add V6 (by grind) (yG hM1 hq1) hp (lM hM hq) (amT hJ (by omega))
  obtain⟨hkr,cy,cx⟩:=hmg y hy ea eb;obtain⟨_,cm,p2,q2,hq2,bq2,bp2,hE⟩:=hmm y hy ea eb;have hma:(Qz y x).a=y.a:=rfl;have hmb:(Qz y x).b=y.b:=rfl;refine⟨fun z hz=>?_,fun z hz=>?_,p*q2+p2*q,q*q2,yG hq1 hq2,?_,?_,?_⟩
  ·rcases h z hz with hz|rfl
   ·obtain⟨j,hj,ja⟩:=hJI.pr z hz;exact⟨j,by omega,ja⟩
   exact⟨k,by omega,by rw [hxe,hma,ea],by rw [hxe,hmb,eb]⟩
  ·rcases h z hz with hz|rfl
   ·rcases hJI.cm z hz with h|⟨h,j,hj1,hj2,hj3⟩
    ·exact .inl h
    exact .inr ⟨h,j,hj1,by omega,hj3⟩
   exact .inr ⟨cm,k,hkr,by omega,by rw [hxe,hma,ea],by rw [hxe,hmb,eb]⟩
  ·rw [show k+1-r=k-r+1 by omega];exact AY (lM hp bq2) (lM bp2 hq)
  ·rw [show k+1-r=k-r+1 by omega];exact lM hq bq2
  have hF2:=amT (k:=k-r+1) hJ (by omega);exact he.add hE (by grind) (yG hM1 (yG hq1 hq2)) (AY (lM hp bq2) (lM bp2 hq)) (lM hM (lM hq bq2)) hF2
def wN(M:Int)(a:Pa):Int:=(a.share.v*(M:Rat)).num
def xN(M:Int)(a:Pa):Int:=(a.share.v*(M:Rat)*a.dx.v).num
def yN(M:Int)(a:Pa):Int:=(a.share.v*(M:Rat)*a.dy.v).num
structure Am (M:Int) (N B:Nat) (a:Pa):Prop where
 n:1<=wN M a/\Ab (wN M a) N
 p:Ab (xN M a) B/\Ab (yN M a) B
 w:Fq a.share (wN M a) M
 x:Fq a.dx (xN M a) (wN M a)
 y:Fq a.dy (yN M a) (wN M a)
theorem arA{M:Int}{N B:Nat}{a:Pa}{n p q:Int}(h1:1<=n/\Ab n N)(h2:Ab p B/\Ab q B)(hw:Fq a.share n M)(hx:Fq a.dx p n)(hy:Fq a.dy q n):Am M N B a:=by
 have hM:=nD hw.n;have hn:=nD h1.1;have k:∀n m:Rat,m≠0->n / m*m=n:=fun n m h=>by grind
 have k2:∀p n:Rat,n≠0->n*(p / n)=p:=fun n m h=>by grind
 have e1:wN M a=n:=by unfold wN;rw [hw.v,k _ _ hM,Rat.num_intCast]
 have e2:xN M a=p:=by unfold xN;rw [hw.v,k _ _ hM,hx.v,k2 _ _ hn,Rat.num_intCast]
 have e3:yN M a=q:=by unfold yN;rw [hw.v,k _ _ hM,hy.v,k2 _ _ hn,Rat.num_intCast]
 exact⟨by rw [e1];exact h1,by rw [e2,e3];exact h2,by rw [e1];exact hw,by rw [e1,e2];exact hx,by rw [e1,e3];exact hy⟩
theorem ayw{M:Int}{N B:Nat}{l:Lk}(h:Cm M N B l)(v:Int):Am M N B (Yy v l):=by
 obtain⟨n,p,q,h1,h2,h3,h4,h5⟩:=h.ex;unfold Yy;split
 ·exact arA h1 ⟨agj h2.1,agj h2.2⟩ h3 h4.neg h5.neg
 exact arA h1 h2 h3 h4 h5
def Vd(f:Pa->Int):List Pa->Int
 | []=>0
 |a::l=>f a+Vd f l
theorem ahW(f:Pa->Int):∀A B:List Pa,Vd f (A++B)=Vd f A+Vd f B
 | [],B=>by simp only [iW,Vd,Int.zero_add]
 |a::A,B=>by simp only [dL,Vd,ahW f A B,Int.add_assoc]
theorem YE(f:Pa->Int){l:List Pa}{k:Nat}(h:k<l.length):Vd f (l.take (k+1))=Vd f (l.take k)+f (l.getD k default):=by
 rw [take_snoc h,ahW];show _+(f _+0)=_;rw [Int.add_zero]
theorem amU{f:Pa->Int}{N:Nat}:∀{A:List Pa},(∀a∈A,Ab (f a) N)->Ab (Vd f A) (A.length*N)
 | [],_=>by simp [Vd,Ab]
 |
  a::A,h=>by
  have:=AY (h a (by simp)) (amU (A:=A) fun x hx=>h x (by simp [hx]));simp only [Vd,ak];exact this.mono (by rw [eH];omega)
theorem Qg{f:Pa->Int}{N m:Nat}{A:List Pa}(h:∀a∈A,Ab (f a) N)(hm:A.length<=m)(k:Nat):Ab (Vd f (A.take k)) (m*N) :=
 (amU fun a ha=>h a (dM ha)).mono (dG _ (by simp;omega))
theorem ahX{f:Pa->Int}:∀{A:List Pa},(∀a∈A,1<=f a)->(A.length:Int)<=Vd f A
 | [],_=>by simp [Vd]
 |
  a::A,h=>by
  have:=ahX (A:=A) fun x hx=>h x (by simp [hx]);have:=h a (by simp);simp only [Vd,ak];omega
theorem YF{f:Pa->Rat}{g:Pa->Int}{M:Int}:∀{A:List Pa},(∀a∈A,f a=(g a:Rat) / (M:Rat))->sm f A=(Vd g A:Rat) / (M:Rat)
 | [],_=>by simp only [sm,Vd];rw [Rat.intCast_zero,fK,iU]
 |
  a::A,h=>by
  simp only [sm,Vd];rw [h a (by simp),YF (A:=A) fun x hx=>h x (by simp [hx]),Rat.intCast_add,fK,fK,fK,Rat.add_mul]
structure Ar (v D:Int) (N B m:Nat) (A:List Pa):Prop where
 am:∀a∈A,Am D N B a
 nd:∀a∈A,0<=a.node/\a.node<=9/\a.node≠v
 asc:A.Pairwise fun a b=>a.node<b.node
 len:1<=A.length/\A.length<=m
 v:1<=v/\v<=9
 d:1<=D
def YU(D:Int)(A:List Pa):Int:=Vd (wN D) A
def arF(DB N B m:Nat):Bool:=Ft (m*N) DB&&Ft N (m*N)&&Ft (m*N) (m*N)&&Ft (N*N) (DB*DB)&&Ft (N*N) (DB*(m*N))&&Ft (B*N+B*N) (N*N)
theorem Ar.t{v D:Int}{N B m:Nat}{A:List Pa}(h:Ar v D N B m A):1<=YU D A/\Ab (YU D A) (m*N):=by
 have h1:=ahX (f:=wN D) (A:=A) fun a ha=>(h.am a ha).n.1;have h2:=h.len;have h3:=Qg (f:=wN D) (m:=m) (A:=A) (fun a ha=>(h.am a ha).n.2) h.len.2 A.length;rw [bK]at h3;unfold YU;exact⟨by omega,h3⟩
theorem amV{v D:Int}{N B m DB:Nat}{A:List Pa}(h:Ar v D N B m A)(hD:Ab D DB)(hF:Ft (m*N) DB=true):∀k,k<=A.length->Fq (Nl A k) (Vd (wN D) (A.take k)) D
 |0,_=>by rw [abh,List.take_zero];exact V6.to h.d (by simp [Vd])
 |
  k+1,hk=>by
  have ih:=amV h hD hF k (by omega);have hm:=h.am _ (getD_mem (l:=A) (i:=k) (by omega));have hb:=Qg (f:=wN D) (m:=m) (A:=A) (fun a ha=>(h.am a ha).n.2) h.len.2 (k+1);rw [abj A (by omega)];rw [YE _ (by omega)]at hb ⊢;exact ih.add hm.w (by grind) h.d hb hD hF
theorem agl{v D:Int}{N B m DB:Nat}{A:List Pa}(h:Ar v D N B m A)(hD:Ab D DB)(hF:Ft (m*N) DB=true):Fq (qZ A) (YU D A) D:=by
 have:=amV h hD hF A.length (aK _);rw [bK]at this;exact this
theorem YG{v D:Int}{N B m DB:Nat}{A:List Pa}(h:Ar v D N B m A)(hD:Ab D DB)(hF:arF DB N B m=true){a:Pa}(ha:a∈A):Fq (uZ a.share (qZ A)) (wN D a) (YU D A):=by
 unfold arF at hF;simp only [aH]at hF;obtain⟨⟨⟨⟨⟨f1,f2⟩,_⟩,_⟩,_⟩,_⟩:=hF;have j:=h.am a ha;have ht:=h.t;exact j.w.div (agl h hD f1) ht.1 (by grind) ht.1 j.n.2 ht.2 f2
theorem amW{v D:Int}{N B m DB:Nat}{A:List Pa}(h:Ar v D N B m A)(hD:Ab D DB)(hF:arF DB N B m=true):zB (oQ v A)=true:=by
 have hF':=hF;unfold arF at hF;simp only [aH]at hF;obtain⟨⟨⟨⟨⟨f1,f2⟩,f3⟩,_⟩,_⟩,_⟩:=hF;have hT:=agl h hD f1;have ht:=h.t;have hl:=h.len;have hv:=h.v;have hpl:(oQ v A).ps.length=A.length:=aU ..;have hpa:apE (oQ v A):=fun i hi=>by
  rw [hpl]at hi;have hm:=getD_mem (l:=A) (i:=i) hi;have j:=h.am _ hm;have hp:=(YG h hD hF' hm).pos j.n.1;unfold O6;rw [Ey hi];have ayx:(decide (i=0)||decide (((oQ v A).ps.getD (i-1) default).node<(JE (qZ A) (A.getD i default)).node))=true:=by
   rcases gU i with h0|h0
   ·rw [aT h0];rfl
   rw [Ey (by omega)];have:=fO.1 h.asc (i-1) i (by omega) hi (by omega);rw [dQ];refine .inr (aT ?_);show (A.getD (i-1) default).node<(A.getD i default).node;rw [aj,au (by omega),aj,au hi];exact this
  rw [ayx];have nd:=h.nd _ hm;show (inB (A.getD i default).node 0 9 && !decide ((A.getD i default).node=v)&&true&&decide (0<wQ (uZ (A.getD i default).share (qZ A)))&&(A.getD i default).dx.ok&&(A.getD i default).dy.ok)=true;rw [aT hp,j.x.ok,j.y.ok,bI nd.2.2];unfold inB;rw [aT nd.1,aT nd.2.1];rfl
 rw [alC hpa];have h1:inB (oQ v A).node 1 9=true:=by
  show inB v 1 9=true;unfold inB;rw [aT hv.1,aT hv.2];rfl
 have h2:0<wQ (oQ v A).total:=hT.pos ht.1;have h3:(oQ v A).ps.isEmpty=false:=by
  cases he:(oQ v A).ps with
  |nil=>rw [he]at hpl;simp at hpl;omega
  |cons _ _=>rfl
 have h4:Nl (oQ v A).ps (oQ v A).ps.length=kZ 1:=by
  have key:∀k,k<=A.length->Fq (Nl (oQ v A).ps k) (Vd (wN D) (A.take k)) (YU D A):=fun k=>by
   induction k with
   |zero=>intro _;rw [abh,List.take_zero];exact V6.to ht.1 (by simp [Vd])
   |
    succ k ih =>
    intro hk;have hb:=Qg (f:=wN D) (m:=m) (A:=A) (fun a ha=>(h.am a ha).n.2) h.len.2 (k+1);rw [abj _ (by omega),Ey (by omega)];rw [YE _ (by omega)]at hb ⊢;exact(ih (by omega)).add (YG h hD hF' (getD_mem (by omega))) (by grind) ht.1 hb ht.2 f3
  have hk:=key A.length (aK _);rw [bK]at hk;rw [hpl];have h1:=hk.to (p:=1) (n:=1) (by decide) (by unfold YU;omega);have e:(kZ 1).q=some (((1:Int):Rat) / ((1:Int):Rat)):=by
   rw [show ((1:Int):Rat) / ((1:Int):Rat)=((1:Int):Rat) by rw [Rat.intCast_one];exact ajt 1 (by decide)];exact Jl (n:=1) (by decide)
  rw [<-SY (oQ v A).ps A.length,<-zl (n:=1) (by decide),h1.q,e]
 rw [h1,aT h2,h3,aT h4];rfl
theorem ayz{v D:Int}{N B m DB:Nat}{A:List Pa}(h:Ar v D N B m A)(hD:Ab D DB)(hF:arF DB N B m=true){a b:Pa}(ha:a∈A)(hb:b∈A):Cm (D*YU D A) (N*N) (B*N+B*N) (KZ (qZ A) a b):=by
 unfold arF at hF;simp only [aH]at hF;obtain⟨⟨⟨⟨⟨f1,f2⟩,f3⟩,f4⟩,f5⟩,f6⟩:=hF;have hT:=agl h hD f1;have ht:=h.t;have hd:=h.d;have ja:=h.am a ha;have jb:=h.am b hb;have hnm:=yG ja.n.1 jb.n.1;have bnm:=lM ja.n.2 jb.n.2;have hw:=(ja.w.mul jb.w (p:=wN D a*wN D b) (n:=D*D) (by grind) (yG hd hd) bnm (lM hD hD) f4).div hT ht.1 (p:=wN D a*wN D b) (n:=D*YU D A) (by grind) (yG hd ht.1) bnm (lM hD ht.2) f5;have bx:=Lc (lM ja.p.1 jb.n.2) (lM jb.p.1 ja.n.2);have by':=Lc (lM ja.p.2 jb.n.2) (lM jb.p.2 ja.n.2);have hx:=ja.x.sub jb.x (p:=xN D a*wN D b-xN D b*wN D a) (n:=wN D a*wN D b) (by grind) hnm bx bnm f6;have hy:=ja.y.sub jb.y (p:=yN D a*wN D b-yN D b*wN D a) (n:=wN D a*wN D b) (by grind) hnm by' bnm f6;exact⟨_,_,_,⟨hnm,bnm⟩,⟨bx,by'⟩,hw,hx,hy⟩
theorem Ar.ayA{v D:Int}{N B m:Nat}{A:List Pa}(h:Ar v D N B m A):ajr A:=fun i j hij hj=>by
 have:=fO.1 h.asc i j (by omega) hj hij;rw [aj,au (by omega),aj,au hj];exact this
theorem amX{v D:Int}{N B m DB:Nat}{A:List Pa}(h:Ar v D N B m A)(hD:Ab D DB)(hF:arF DB N B m=true):∀x∈NI A,Cm (D*YU D A) (N*N) (B*N+B*N) x/\0<=x.a/\x.a<x.b/\x.b<=9:=fun x hx=>by
 obtain⟨i,k,_,h2,h3,rfl⟩:=JB hx;have m1:=getD_mem (l:=A) (i:=i) (by omega);have m2:=getD_mem (l:=A) (i:=k) h3;have n1:=h.nd _ m1;have n2:=h.nd _ m2;exact⟨ayz h hD hF m1 m2,n1.1,h.ayA i k h2 h3,n2.2.1⟩
theorem ayB{S:List Lk}{v D:Int}{N B m DB:Nat}(hS:lI S=true)(h:Ar v D N B m (oP S v))(hD:Ab D DB)(hF:arF DB N B m=true):V4 S v=true:=by
 have hv:=h.v;unfold V4;rw [hS,amW h hD hF,aX.2 fun x hx=>(amX h hD hF x hx).1.lk (amX h hD hF x hx).2];unfold inB;rw [aT hv.1,aT hv.2];rfl
theorem ayC{S:List Lk}{v D:Int}{N B m:Nat}(hS:lI S=true)(hC:∀x∈S,Cm D N B x)(hD:1<=D)(hv:1<=v/\v<=9)(hl:1<=(oP S v).length/\(oP S v).length<=m):Ar v D N B m (oP S v):=by
 refine⟨?_,?_,?_,hl,hv,hD⟩
 ·rw [L6];intro a ha;obtain⟨l,hl,rfl⟩:=bC.1 ha;exact ayw (hC l (eU.1 hl).1) v
 ·rw [L6];intro a ha;obtain⟨l,hl,rfl⟩:=bC.1 ha;obtain⟨h1,h2⟩:=eU.1 hl;have n:=qF (nZ hS h1);unfold stP at h2;simp only [dQ,bf]at h2;unfold Yy;split<;>(dsimp only;omega)
 have e:=(ahL hS v).symm;have hn:Asc (nbI S v S.length):=by rw [<-ard hS v];exact WB _ _ .nil
 rw [e,iJ];refine List.Pairwise.imp ?_ hn;intro a b hab;unfold Yw;split<;>split<;>exact hab
def mK(m:Nat):Nat:=m*(m-1) / 2
theorem amY{A:List Pa}{m:Nat}(h:A.length<=m)(hm:m<=5):(NI A).length<=mK m:=by
 have key:∀k,k<=A.length->(tK A k).length=(List.range k).foldl (fun s i=>s+(A.length-(i+1))) 0:=fun k=>by
  induction k with
  |zero=>intro _;rfl
  |
   succ k ih =>
   intro hk;rw [iY,List.foldl_append,iH,jg,<-ih (by omega)];show (tK A k++wP A k (A.length-(k+1))).length=_;rw [aS]
   congr 1
   unfold wP;simp
 unfold NI;rw [key _ (aK _)];generalize A.length=n at h;have k2:∀m,m<6->∀n,n<m+1->(List.range n).foldl (fun s i=>s+(n-(i+1))) 0<=mK m:=by decide
 exact k2 m (by omega) n (by omega)
def n1(N m:Nat):Nat:=N*(m*N)+N*N
def b1(N B m:Nat):Nat:=B*(m*N)+(B*N+B*N)
def stF(DB N B m:Nat):Bool:=arF DB N B m&&(decide (m<=1)||cmF (DB*(m*N)) (N*(m*N)) (B*(m*N)) (N*N) (B*N+B*N)) &&
 jbF (DB*(m*N)) (2*((B*(m*N)*(N*N)+(B*N+B*N)*(N*(m*N)))*(B*(m*N)*(N*N)+(B*N+B*N)*(N*(m*N))))) ((N*(m*N)+N*N)*(N*(m*N)*(N*N))) (mK m)
theorem TV{α:Type}{A B:List α}{d:α}{j:Nat}:(A++B).getD j d=if j<A.length then A.getD j d else B.getD (j-A.length) d:=by
 rw [aj];split
 ·rename_i h;rw [bJ h,aj]
 rename_i h;rw [bW (by omega),aj]
theorem amZ{S:List Lk}(h:S.Pairwise fun k l=>lK k l=true){i j:Nat}(hij:i<j)(hj:j<S.length):¬((S.getD i default).a=(S.getD j default).a/\(S.getD i default).b=(S.getD j default).b):=by
 have:=fO.1 h i j (by omega) hj hij;rw [aj,au (by omega),aj,au hj];rw [wK]at this;show ¬(S[i].a=S[j].a/\S[i].b=S[j].b);omega
theorem arB{S:List Lk}{v D:Int}{N B m DB:Nat}(hS:lI S=true)(hC:∀x∈S,Cm D N B x)(hD1:1<=D)(hD:Ab D DB)(hv:1<=v/\v<=9)(hl:1<=(oP S v).length/\(oP S v).length<=m)(hm:m<=5)(hN:1<=N)(hF:stF DB N B m=true) :
  Ar v D N B m (oP S v)/\NQ S v=true/\∀x∈H6 S v,Cm (D*YU D (oP S v)) (n1 N m) (b1 N B m) x:=by
 have hA:=ayC (B:=B) (N:=N) hS hC hD1 hv hl;unfold stF at hF;simp only [aH,dQ,bf]at hF;obtain⟨⟨f1,f2⟩,f3⟩:=hF;have hB:=ayB hS hA hD f1;obtain⟨eC,eM⟩:=ad6 hB;have ht:=hA.t;have hms:=amX hA hD f1;have hml:=amY hl.2 hm;have hL:RQ S v=S.filter (WE v)++NI (oP S v):=by unfold RQ;rw [eM]
 have hpw:=(ru.1 hS).2.filter (WE v);have hmw:=aan hA.ayA _ (aK (oP S v).length);have hr:∀x∈S.filter (WE v),x∈S:=fun x hx=>(eU.1 hx).1;generalize S.filter (WE v)=W at hL hpw hr;have hm1:1<=m:=by omega
 have hT1:1<=m*N:=Nat.mul_pos hm1 hN;have hNN:1<=N*N:=Nat.mul_pos hN hN;have hlen:(RQ S v).length=W.length+(NI (oP S v)).length:=by rw [hL,aS]
 obtain⟨S',e,hf,hj⟩:=arz (L:=RQ S v) (r:=W.length) (M:=D*YU D (oP S v)) (MB:=DB*(m*N)) (K:=mK m) (N1:=N*(m*N)) (B1:=B*(m*N)) (N2:=N*N) (B2:=B*N+B*N)
  (lM hD ht.2) (yG hD1 ht.1) (by omega) (by omega)
  (fun j hj=>by
   rw [hL,TV,aQ hj];exact(hC _ (hr _ (getD_mem hj))).up ht.1 ht.2)
  (fun j hj hj2=>by
   rw [hL,TV,aO (by omega)];exact(hms _ (getD_mem (by omega))).1)
  (fun x hx=>by
   rw [hL]at hx;rcases aN.1 hx with hx|hx
   ·exact qF (nZ hS (hr x hx))
   exact(hms x hx).2)
  (fun i j hij hj hc=>by
   rw [hL,TV,TV];rcases hc with hc|hc
   ·rw [aO (by omega),aO (by omega)];exact amZ hmw (by omega) (by show j-W.length<(NI (oP S v)).length;omega)
   rw [aQ (by omega),aQ hc];exact amZ hpw hij hc)
  ⟨Nat.mul_pos hN hT1,hNN⟩
  (fun h=>by
   rcases f2 with h1|h1
   ·exfalso;have:mK m=0:=by
               have:m=1:=by omega
               rw [this];rfl
    omega
   exact h1)
  f3 (RQ S v).length (aK _)
 obtain⟨p,q,_,_,_,he⟩:=hj.e;have hg:Ud (RQ S v)=some (S',e):=by unfold Ud;rw [hf];exact aQ he.ok
 have ho:FT (RQ S v)=true:=by unfold FT;rw [hg];rfl
 have hb:NQ S v=true:=by unfold NQ;rw [hB,ho];rfl
 have e1:H6 S v=S':=by rw [(aea hb).2.1];unfold Ox;rw [hg];rfl
 refine⟨hA,hb,fun x hx=>?_⟩;rw [e1]at hx;rcases hj.cm x hx with h|⟨h,_⟩
 ·exact h.mono (by unfold n1;omega) (by unfold b1;omega)
 exact h
def stE(a b:Nat)(s:Gd×Nat):Gd×Nat:=(Ku (Ku s.1 a b true) b a true,if s.1 a b=true then s.2 else s.2+1)
def ej(L:List Int)(i:Nat)(s:Gd×Nat):Nat->Gd×Nat
 |0=>s
 |k+1=>stE (L.getD i 0).toNat (L.getD (i+1+k) 0).toNat (ej L i s k)
def ez(a v:Nat)(s:Gd×Nat):Gd×Nat:=(Ku (Ku s.1 a v false) v a false,s.2)
def ei(L:List Int)(v:Nat)(g:Gd):Nat->Gd×Nat
 |0=>(g,0)
 |i+1=>ez (L.getD i 0).toNat v (ej L i (ei L v g i) (L.length-(i+1)))
structure Gok (g:Gd):Prop where
 irr:∀x,g x x=false
 sym:∀x y,g x y=g y x
theorem ahY(g:Gd)(i j x y:Nat)(b:Bool):Ku g i j b x y=if x=i/\y=j then b else g x y:=rfl
theorem YH(g:Gd)(i j x y:Nat)(b:Bool):Ku (Ku g i j b) j i b x y=if (x=i/\y=j)\/(x=j/\y=i)then b else g x y:=by
 rw [ahY,ahY];by_cases h1:x=j/\y=i
 ·rw [aQ h1,aQ (.inr h1)]
 rw [aO h1];by_cases h2:x=i/\y=j
 ·rw [aQ h2,aQ (.inl h2)]
 rw [aO h2,aO (by rintro(h|h);exact h2 h;exact h1 h)]
theorem Gok.set2{g:Gd}(h:Gok g){i j:Nat}(b:Bool)(hij:i≠j\/b=false):Gok (Ku (Ku g i j b) j i b):=by
 refine⟨fun x=>?_,fun x y=>?_⟩
 ·rw [YH];by_cases h1:(x=i/\x=j)\/(x=j/\x=i)
  ·rw [aQ h1];rcases hij with hij|hij
   ·exfalso;rcases h1 with ⟨h1,h2⟩|⟨h1,h2⟩
    ·exact hij (h1.symm.trans h2)
    exact hij (h2.symm.trans h1)
   exact hij
  rw [aO h1];exact h.irr x
 rw [YH,YH,h.sym x y];by_cases h1:(x=i/\y=j)\/(x=j/\y=i)
 ·rw [aQ h1,aQ (by rcases h1 with ⟨h1,h2⟩|⟨h1,h2⟩;exact .inr ⟨h2,h1⟩;exact .inl ⟨h2,h1⟩)]
 rw [aO h1,aO (by rintro(⟨h2,h3⟩|⟨h2,h3⟩);exact h1 (.inr ⟨h3,h2⟩);exact h1 (.inl ⟨h3,h2⟩))]
theorem auP:Gok gz:=⟨fun _=>rfl,fun _ _=>rfl⟩
theorem ahZ{l:List Lk}(hok:lI l=true):∀k,k<=l.length->Gok (gOf l k)
 |0,_=>auP
 |
  k+1,hk=>by
  have h:=qF (yD hok (k:=k) (by omega));exact(ahZ hok k (by omega)).set2 true (.inl (by omega))
structure aHI (g:Gd) (v:Nat) (xs:List Nat) (sI sS:Gd×Nat):Prop where
 n:sS.2=sI.2
 eq:∀x y,x≠v->y≠v->sS.1 x y=sI.1 x y
 ok:Gok sI.1
 row:∀y,sI.1 v y=g v y
 rs:∀y,sS.1 v y=(g v y&&decide (y∈xs\/10<=y))
 cs:∀y,sS.1 y v=(g v y&&decide (y∈xs\/10<=y))
structure aHJ (g:Gd) (v:Nat) (f:Nat->Bool) (sI sS:Gd×Nat):Prop where
 n:sS.2=sI.2
 eq:∀x y,x≠v->y≠v->sS.1 x y=sI.1 x y
 ok:Gok sI.1
 row:∀y,sI.1 v y=g v y
 rs:∀y,sS.1 v y=f y
 cs:∀y,sS.1 y v=f y
theorem am0{v:Nat}{g:Gd}(h:Gok g):∀n,Gok (cz v g n)
 |0=>h
 |n+1=>(am0 h n).set2 false (.inr rfl)
theorem am1{v i:Nat}{s:Gd×Nat}(h:Gok s.1):∀n,Gok (cj v i s n).1
 |0=>h
 |
  n+1=>by
  have ih:=am1 (v:=v) (i:=i) h n;unfold cj;split
  ·unfold stp;split
   ·exact ih.set2 true (.inl (by omega))
   exact ih
  exact h
theorem am2{v:Nat}{g:Gd}(h:Gok g):∀n,Gok (ci v g n).1
 |0=>h
 |n+1=>am1 (am2 h n) 10
theorem aql{g:Gd}(h:Gok g)(v:Nat):Gok (ayr g v):=am0 (am2 h 10) 10
def woI(l:List Int)(n:Int):List Int:=l.filter fun x=>decide (x≠n)
theorem aqn{l:List Int}{x:Int}(hn:l.Nodup)(hx:x∈l):(woI l x).length+1=l.length:=by
 have h1:woI l x=l.erase x:=by
  rw [List.Nodup.erase_eq_filter hn];unfold woI
  congr 1
  funext y
  simp [bne];rw [jT];simp
 rw [h1,List.length_erase_of_mem hx];have:=List.length_pos_of_mem hx;omega
theorem agm(l o:List Int)(v:Int):woI (l.filter fun x=>decide (x∉o)) v=l.filter fun x=>decide (x∉o++[v]):=by
 unfold woI;rw [List.filter_filter]
 congr 1
 funext x
 rw [jT];simp;constructor<;>intro h<;>exact⟨h.2,h.1⟩
def dgI(g:Gd)(v:Int):Nat:=dg g v.toNat 10
def pk(g:Gd):List Int->Int->Int
 | [],b=>b
 |v::l,b=>pk g l (if dgI g v<dgI g b then v else b)
theorem aDr(g:Gd)(v:Int)(l:List Int)(b:Int):pk g (v::l) b=pk g l (if dgI g v<dgI g b then v else b):=rfl
theorem am3(g:Gd):∀(l:List Int) (b:Int),pk g l b=b\/pk g l b∈l
 | [],b=>.inl rfl
 |
  v::l,b=>by
  rw [aDr];rcases am3 g l (if dgI g v<dgI g b then v else b)with h|h
  ·rw [h];split
   ·exact .inr (by simp)
   exact .inl rfl
  exact .inr (by simp [h])
def chI(rest last:List Int):List Int:=rest.filter fun x=>decide (x∉last)
def ch2(rest last:List Int):List Int:=if chI rest last=[]then rest else chI rest last
def am5(g:Gd)(rest last:List Int):Int:=pk g (ch2 rest last) ((ch2 rest last).getD 0 0)
theorem aqo{rest last:List Int}{x:Int}(h:x∈ch2 rest last):x∈rest:=by
 unfold ch2 at h;split at h
 ·exact h
 exact(eU.1 h).1
theorem auQ{rest last:List Int}(h:rest≠[]):ch2 rest last≠[]:=by
 unfold ch2;split
 ·exact h
 assumption
theorem am6{g:Gd}{rest last:List Int}(h:rest≠[]):am5 g rest last∈rest:=by
 have h2:=auQ (last:=last) h;have h3:(ch2 rest last).getD 0 0∈ch2 rest last:=by
  cases e:ch2 rest last with
  |nil=>exact absurd e h2
  |cons x l=>simp
 refine aqo (last:=last) ?_;unfold am5;rcases am3 g (ch2 rest last) ((ch2 rest last).getD 0 0)with e|e
 ·rw [e];exact h3
 exact e
def V7(last:List Int)(g0:Gd)(ns:List Int):Nat->Gd×List Int×List Int
 |0=>(g0,ns,[])
 |k+1=>(ayr (V7 last g0 ns k).1 (am5 (V7 last g0 ns k).1 (V7 last g0 ns k).2.1 last).toNat,woI (V7 last g0 ns k).2.1 (am5 (V7 last g0 ns k).1 (V7 last g0 ns k).2.1 last),(V7 last g0 ns k).2.2++[am5 (V7 last g0 ns k).1 (V7 last g0 ns k).2.1 last])
theorem aqp{l:List Int}{n x:Int}(h:x∈woI l n):x∈l:=(eU.1 h).1
structure aDs (last:List Int) (g0:Gd) (ns:List Int) (k:Nat):Prop where
 len:(V7 last g0 ns k).2.1.length+k=ns.length
 out:(V7 last g0 ns k).2.2.length=k
 nd:(V7 last g0 ns k).2.1.Nodup
 sub:∀x∈(V7 last g0 ns k).2.1,x∈ns
 rest:(V7 last g0 ns k).2.1=ns.filter fun x=>decide (x∉(V7 last g0 ns k).2.2)
 gok:Gok (V7 last g0 ns k).1
theorem arC{last:List Int}{g0:Gd}{ns:List Int}(hn:ns.Nodup)(hg:Gok g0):∀k,k<=ns.length->aDs last g0 ns k
 |0,_=>⟨rfl,rfl,hn,fun x h=>h,(List.filter_eq_self.2 (by intro x _;simp [V7])).symm,hg⟩
 |
  k+1,hk=>by
  have ih:=arC (last:=last) hn hg k (by omega);have hne:(V7 last g0 ns k).2.1≠[]:=fun e=>by have:=ih.len;rw [e]at this;simp at this;omega
  have hm:=am6 (g:=(V7 last g0 ns k).1) (last:=last) hne;have hl:=aqn ih.nd hm;have h1:=ih.len;have h2:=ih.out;refine⟨?_,?_,ih.nd.filter _,fun x hx=>ih.sub x (aqp hx),?_,aql ih.gok _⟩
  ·show (woI (V7 last g0 ns k).2.1 _).length+(k+1)=ns.length;omega
  ·show ((V7 last g0 ns k).2.2++[_]).length=k+1;rw [aS,h2];rfl
  show woI (V7 last g0 ns k).2.1 _=ns.filter fun x=>decide (x∉(V7 last g0 ns k).2.2++[_]);rw [<-agm,<-ih.rest]
def mdV(l:List Lk)(last:List Int):List Int:=if lI l=true then(V7 last (gOf l l.length) (kC l) (kC l).length).2.2 else []
theorem zY{l:List Int}{i:Nat}(h:i<l.length):l.getD i 0∈l:=by
 rw [aj,au h];exact jO h
theorem aqr{l:List Lk}{last:List Int}(hok:lI l=true):ahd l (mdV l last)=true:=by
 have io:=arC (last:=last) (FK (CX l)) (ahZ hok l.length (aK _)) _ (aK _);unfold mdV;rw [aQ hok];refine aT ⟨hok,io.out,fun x hx=>?_⟩;have h0:(V7 last (gOf l l.length) (kC l) (kC l).length).2.1=[]:=aY (by have:=io.len;omega);have hr:=io.rest;rw [h0]at hr;have:=List.filter_eq_nil_iff.1 hr.symm x hx;simpa using this
theorem RI{n:Nat}{S:List Lk}(h:Oe n S):1<=(kC S).length:=by
 obtain⟨x,hx,h1,h2⟩:=h.base 0 (by have:=h.rn;omega);have hm:(1:Int)∈kC S:=by
  rw [Hy h.ok,Jq];refine⟨by decide,by decide,?_⟩;obtain⟨k,hk⟩:=bQ.1 hx;have hkl:=(aP.1 hk).1;refine O7.2 ⟨k,hkl,.inr ?_⟩;rw [aj,hk];exact h2
 exact List.length_pos_of_mem hm
def tN:Nat->Nat
 |0=>63
 |i+1=>n1 (tN i) (5-i)
def tB:Nat->Nat
 |0=>1260
 |i+1=>b1 (tN i) (tB i) (5-i)
def tD:Nat->Nat
 |0=>1
 |i+1=>tD i*((5-i)*tN i)
theorem arD:∀i,i<5->stF (tD i) (tN i) (tB i) (5-i)=true:=by decide +kernel
theorem ayD:∀i,i<6->63<=tN i/\1260<=tB i/\1<=tD i:=by decide +kernel
inductive Cn (S:List Lk):Int->Prop
 |z:Cn S 0
 |s {u w:Int} {x:Lk}:x∈S->(x.a=u/\x.b=w\/x.a=w/\x.b=u)->Cn S w->Cn S u
def Adj(S:List Lk)(u w:Int):Prop:=∃x∈S,x.a=u/\x.b=w\/x.a=w/\x.b=u
theorem Cn.of{S:List Lk}{u w:Int}(h:Adj S u w)(hw:Cn S w):Cn S u:=by
 obtain⟨x,hx,h⟩:=h;exact .s hx h hw
theorem Adj.sym{S:List Lk}{u w:Int}(h:Adj S u w):Adj S w u:=by
 obtain⟨x,hx,h⟩:=h;exact⟨x,hx,h.symm⟩
theorem Cn.adj{S:List Lk}{u:Int}(h:Cn S u)(h0:u≠0):∃w,Adj S u w:=by
 cases h with
 |z=>exact absurd rfl h0
 |s hx h hw=>exact⟨_,_,hx,h⟩
theorem abO{S:List Lk}{v w:Int}(h:Adj S v w):∃a∈oP S v,a.node=w:=by
 obtain⟨x,hx,h⟩:=h;have hs:stP v x=true:=by
  unfold stP;simp only [dQ,bf];omega
 refine⟨Yy v x,?_,?_⟩
 ·rw [L6];exact bC.2 ⟨x,eU.2 ⟨hx,hs⟩,rfl⟩
 unfold Yy;split
 ·dsimp only;omega
 dsimp only;omega
theorem aqs{S:List Lk}{v:Int}{a:Pa}(h:a∈oP S v):Adj S v a.node:=by
 rw [L6]at h;obtain⟨x,hx,rfl⟩:=bC.1 h;obtain⟨h1,h2⟩:=eU.1 hx;unfold stP at h2;simp only [dQ,bf]at h2;refine⟨x,h1,?_⟩;unfold Yy;split
 ·exact .inl ⟨by assumption,rfl⟩
 exact .inr ⟨rfl,by omega⟩
theorem am7{A:List Pa}{a b:Pa}(ha:a∈A)(hb:b∈A)(hn:a.node≠b.node):Adj (NI A) a.node b.node:=by
 obtain⟨i,hi,rfl⟩:=List.mem_iff_getElem.1 ha;obtain⟨j,hj,rfl⟩:=List.mem_iff_getElem.1 hb;have ei:A[i]=A.getD i default:=by rw [aj,au hi];rfl
 have ej:A[j]=A.getD j default:=by rw [aj,au hj];rfl
 rw [ei,ej]at *;rcases Nat.lt_trichotomy i j with h|h|h
 ·exact⟨_,TT hi h hj,.inl ⟨rfl,rfl⟩⟩
 ·subst h;exact absurd rfl hn
 exact⟨_,TT hj h hi,.inr ⟨rfl,rfl⟩⟩
theorem WU{S:List Lk}{v:Int}(h:NQ S v=true)(i j:Int):(∃x∈H6 S v,x.a=i/\x.b=j)↔∃x∈S.filter (WE v)++NI (oP S v),x.a=i/\x.b=j:=by
 have e2:=(aea h).2.1;unfold NQ at h;rw [aH]at h;obtain⟨hB,hj⟩:=h;have eM:=(ad6 hB).2;unfold V4 at hB;simp only [aH]at hB;obtain⟨⟨⟨hS,_⟩,_⟩,hM⟩:=hB;have hL:RQ S v=S.filter (WE v)++NI (oP S v):=by unfold RQ;rw [eM]
 rw [e2,<-hL];refine abI hj (fun x hx=>?_) i j;rw [hL]at hx;rcases aN.1 hx with hx|hx
 ·exact nZ hS (eU.1 hx).1
 exact aX.1 hM x hx
theorem am8{S:List Lk}{v u w:Int}(h:NQ S v=true):Adj (H6 S v) u w↔Adj (S.filter (WE v)++NI (oP S v)) u w:=by
 have k1:=WU h u w;have k2:=WU h w u;constructor
 ·rintro⟨x,hx,e|e⟩
  ·obtain⟨y,hy,e⟩:=k1.1 ⟨x,hx,e⟩;exact⟨y,hy,.inl e⟩
  obtain⟨y,hy,e⟩:=k2.1 ⟨x,hx,e⟩;exact⟨y,hy,.inr e⟩
 rintro⟨x,hx,e|e⟩
 ·obtain⟨y,hy,e⟩:=k1.2 ⟨x,hx,e⟩;exact⟨y,hy,.inl e⟩
 obtain⟨y,hy,e⟩:=k2.2 ⟨x,hx,e⟩;exact⟨y,hy,.inr e⟩
theorem aqt{S:List Lk}{v:Int}(hS:lI S=true)(h:NQ S v=true)(hv:v≠0):∀u,Cn S u->(u≠v->Cn (H6 S v) u)/\(u=v->∃w,w≠v/\Adj S v w/\Cn (H6 S v) w):=by
 intro u hu
 induction hu with
 |z=>exact⟨fun _=>.z,fun e=>absurd e.symm hv⟩
 |
  @s u w x hx hxe hw ih =>
  have hne:u≠w:=by
   have:=qF (nZ hS hx);omega
  constructor
  ·intro huv;by_cases e:w=v
   ·obtain⟨w',h1,h2,h3⟩:=ih.2 e;subst e;by_cases e2:w'=u
    ·rw [<-e2];exact h3
    obtain⟨a,ha,rfl⟩:=abO (Adj.sym ⟨x,hx,hxe⟩);obtain⟨b,hb,rfl⟩:=abO h2;obtain⟨y,hy,hye⟩:=am7 ha hb fun e=>e2 e.symm;exact Cn.of (am8 h |>.2 ⟨y,aN.2 (.inr hy),hye⟩) h3
   refine Cn.of (am8 h |>.2 ⟨x,aN.2 (.inl (eU.2 ⟨hx,?_⟩)),hxe⟩) (ih.1 e);unfold WE;simp only [aH,bf];rcases hxe with ⟨e1,e2⟩|⟨e1,e2⟩
   ·rw [e1,e2];exact⟨huv,e⟩
   rw [e1,e2];exact⟨e,huv⟩
  rintro rfl;exact⟨w,fun e=>hne e.symm,⟨x,hx,hxe⟩,ih.1 fun e=>hne e.symm⟩
def cS(S:List Lk)(o:List Int):Nat->List Lk
 |0=>S
 |k+1=>H6 (cS S o k) (o.getD k 0)
def cA(S:List Lk)(o:List Int)(k:Nat):List Pa:=oP (cS S o k) (o.getD k 0)
def cD(S:List Lk)(o:List Int):Nat->Int
 |0=>1
 |k+1=>cD S o k*YU (cD S o k) (cA S o k)
def cN(S:List Lk)(o:List Int)(k:Nat):List Cd:=(List.range k).map fun j=>Zj (cS S o j) (o.getD j 0)
structure Dr (S:List Lk) (o:List Int):Prop where
 ok:lI S=true
 cm:∀x∈S,Cm 1 63 1260 x
 len:o.length<=5
 nd:∀x∈S,(x.a=0\/x.a∈o)/\(x.b=0\/x.b∈o)
 cn:∀u∈o,Cn S u
 o:o.Nodup/\∀u∈o,1<=u/\u<=9
structure Ch (S:List Lk) (o:List Int) (k:Nat):Prop where
 ok:lI (cS S o k)=true
 cm:∀x∈cS S o k,Cm (cD S o k) (tN (5-o.length+k)) (tB (5-o.length+k)) x
 d:1<=cD S o k/\Ab (cD S o k) (tD (5-o.length+k))
 nd:∀x∈cS S o k,(x.a=0\/x.a∈o.drop k)/\(x.b=0\/x.b∈o.drop k)
 cn:∀u∈o.drop k,Cn (cS S o k) u
structure Cst (S:List Lk) (o:List Int) (k:Nat):Prop where
 ar:Ar (o.getD k 0) (cD S o k) (tN (5-o.length+k)) (tB (5-o.length+k)) (o.length-k) (cA S o k)
 b:NQ (cS S o k) (o.getD k 0)=true
 nd:∀a∈cA S o k,a.node=0\/a.node∈o.drop (k+1)
theorem aee{o:List Int}{k:Nat}(h:k<o.length):o.drop k=o.getD k 0::o.drop (k+1):=by
 rw [dH h,aj,au h];rfl
theorem aqu{S:List Lk}{o:List Int}(h:Dr S o){k:Nat}(hk:k<o.length)(hc:Ch S o k):Cst S o k/\Ch S o (k+1):=by
 have hd:=aee hk;have hvo:o.getD k 0∈o:=zY hk;have hv:=h.o.2 _ hvo;have hnd:(o.drop k).Nodup:=(List.drop_sublist k o).nodup h.o.1;have hl:=h.len;rw [hd]at hnd;have hvn:o.getD k 0∉o.drop (k+1):=(dX.1 hnd).1;have hcn:=hc.cn;have hcd:=hc.nd;rw [hd]at hcn hcd;generalize hve:o.getD k 0=v at *;have hA:cA S o k=oP (cS S o k) v:=by unfold cA;rw [hve]
 have hD:cD S o (k+1)=cD S o k*YU (cD S o k) (oP (cS S o k) v):=by rw [<-hA];rfl
 have hS':cS S o (k+1)=H6 (cS S o k) v:=by rw [<-hve];rfl
 have hok:=hc.ok;have hcm:=hc.cm;have hdd:=hc.d;generalize hSk:cS S o k=Sk at *;generalize hDk:cD S o k=D at *;have harm:∀a∈oP Sk v,a.node=0\/a.node∈o.drop (k+1):=fun a ha=>by
  obtain⟨x,hx,e⟩:=aqs ha;have n:=qF (nZ hok hx);have m:=hcd x hx;rcases e with ⟨e1,e2⟩|⟨e1,e2⟩
  ·rcases m.2 with m|m
   ·exact .inl (by omega)
   rcases aI.1 m with m|m
   ·omega
   rw [<-e2];exact .inr m
  rcases m.1 with m|m
  ·exact .inl (by omega)
  rcases aI.1 m with m|m
  ·omega
  rw [<-e1];exact .inr m
 have hasc:(oP Sk v).Pairwise fun a b=>a.node<b.node:=by
  have e:=(ahL hok v).symm;have hn:Asc (nbI Sk v Sk.length):=by rw [<-ard hok v];exact WB _ _ .nil
  rw [e,iJ];refine List.Pairwise.imp ?_ hn;intro a b hab;unfold Yw;split<;>split<;>exact hab
 have hlen:(oP Sk v).length<=o.length-k:=by
  have:=zS (a:=(oP Sk v).map (·.node)) (b:=0::o.drop (k+1)) (by
   unfold List.Nodup;rw [iJ];exact hasc.imp fun h=>by omega) (fun x hx=>by
   obtain⟨a,ha,rfl⟩:=bC.1 hx;rcases harm a ha with e|e
   ·rw [e];simp
   exact fH _ e)
  simp at this;omega
 have hpos:1<=(oP Sk v).length:=by
  obtain⟨w,hw⟩:=(hcn v (by simp)).adj (by omega);obtain⟨a,ha,_⟩:=abO hw;exact List.length_pos_of_mem ha
 have hF:=arD (5-o.length+k) (by omega);have hlo:=ayD (5-o.length+k) (by omega);have hm:5-(5-o.length+k)=o.length-k:=by omega
 rw [hm]at hF;obtain⟨hAr,hB,hC⟩:=arB hok hcm hdd.1 hdd.2 ⟨hv.1,hv.2⟩ ⟨hpos,hlen⟩ (by omega) (by omega) hF;have ht:=hAr.t;have hi:5-o.length+(k+1)=5-o.length+k+1:=by omega
 have hS2:=hS';refine⟨⟨by rw [hA,hve,hDk];exact hAr,by rw [hve,hSk];exact hB,by rw [hA];exact harm⟩,⟨by rw [hS'];exact auI hB,?_,?_,?_,?_⟩⟩
 ·rw [hS',hD,hi];intro x hx;have:=hC x hx;show Cm _ (n1 (tN (5-o.length+k)) (5-(5-o.length+k))) (b1 (tN (5-o.length+k)) (tB (5-o.length+k)) (5-(5-o.length+k))) x;rw [hm];exact this
 ·rw [hD,hi];refine⟨yG hdd.1 ht.1,?_⟩;show Ab _ (tD (5-o.length+k)*((5-(5-o.length+k))*tN (5-o.length+k)));rw [hm];exact lM hdd.2 ht.2
 ·rw [hS'];intro x hx;obtain⟨y,hy,e1,e2⟩:=(WU hB x.a x.b).1 ⟨x,hx,rfl,rfl⟩;rw [<-e1,<-e2];rcases aN.1 hy with hy|hy
  ·obtain⟨h1,h2⟩:=eU.1 hy;unfold WE at h2;simp only [aH,bf]at h2;have m:=hcd y h1;refine⟨?_,?_⟩
   ·rcases m.1 with m|m
    ·exact .inl m
    exact .inr ((aI.1 m).resolve_left h2.1)
   rcases m.2 with m|m
   ·exact .inl m
   exact .inr ((aI.1 m).resolve_left h2.2)
  obtain⟨p,q,h1,h2,h3,rfl⟩:=JB hy;exact⟨harm _ (getD_mem (by omega)),harm _ (getD_mem h3)⟩
 rw [hS'];intro u hu;exact(aqt hok hB (by omega) u (hcn u (by simp [hu]))).1 fun e=>hvn (e▸hu)
theorem FY{S:List Lk}{o:List Int}(h:Dr S o):∀k,k<=o.length->Ch S o k/\∀j,j<k->Cst S o j
 |
  0,hk=>by
  have hl:=h.len;have hlo:=ayD (5-o.length) (by omega);refine⟨⟨h.ok,fun x hx=>?_,⟨Int.le_refl 1,?_⟩,h.nd,h.cn⟩,fun j hj=>absurd hj (dA _)⟩
  ·exact(h.cm x hx).mono (by rw [iL];exact hlo.1) (by rw [iL];exact hlo.2.1)
  rw [iL];exact hlo.2.2
 |
  k+1,hk=>by
  obtain⟨h1,h2⟩:=FY h k (by omega);obtain⟨h3,h4⟩:=aqu h (by omega) h1;refine⟨h4,fun j hj=>?_⟩;by_cases e:j=k
  ·subst e;exact h3
  exact h2 j (by omega)
def cV(S:List Lk)(o:List Int):Nat->Rat
 |0=>0
 |k+1=>cV S o k+(rnE (cS S o k) (o.getD k 0)).v
def cQ(P:List Pt)(S:List Lk)(o:List Int):Nat->Rat
 |0=>0
 |k+1=>cQ P S o k+(Zj (cS S o k) (o.getD k 0)).total.v*dsq P (o.getD k 0) (cA S o k)
theorem TW{P:List Pt}{S:List Lk}{o:List Int}:∀k,(∀j,j<k->NQ (cS S o j) (o.getD j 0)=true)->tot (TP P) S=tot (TP P) (cS S o k)+cV S o k+cQ P S o k
 |
  0,_=>by
  simp only [cV,cQ,dU];rfl
 |
  k+1,h=>by
  rw [TW (P:=P) k fun j hj=>h j (by omega),(amQ (P:=P) (h k (by omega))).1];simp only [cV,cQ,cS];show _=_+(_+_)+(_+_*dsq P (o.getD k 0) (oP (cS S o k) (o.getD k 0)))
  grind
theorem aef(a:Rat):0<=a*a:=by
 rcases Rat.le_total (a:=0) (b:=a)with h|h
 ·exact Rat.mul_nonneg h h
 have:0 <= -a:=by grind
 have:=Rat.mul_nonneg this this
 grind
theorem am9(P:List Pt)(v:Int)(A:List Pa):0<=dsq P v A:=by
 unfold dsq;have h1:=aef ((P.getD v.toNat default).x.v-pX P A);have h2:=aef ((P.getD v.toNat default).y.v-pY P A)
 grind
theorem arE{P:List Pt}{S:List Lk}{o:List Int}:∀k,(∀j,j<k->NQ (cS S o j) (o.getD j 0)=true)->0<=cQ P S o k
 |0,_=>Rat.le_refl
 |
  k+1,h=>by
  have h1:=arE (P:=P) (S:=S) (o:=o) k fun j hj=>h j (by omega);have h2:=(amQ (P:=P) (h k (by omega))).2.1;have h3:=Rat.mul_nonneg (Rat.le_of_lt h2) (am9 P (o.getD k 0) (cA S o k));simp only [cQ]
  grind
def cod(x:Lk):Int:=10*x.a+x.b
theorem auS{S:List Lk}(h:lI S=true):(S.map cod).Nodup:=by
 obtain⟨h1,h2⟩:=ru.1 h;unfold List.Nodup;rw [iJ];refine List.Pairwise.imp_of_mem ?_ h2;intro a b ha hb hab;have n1:=qF (h1 a ha);have n2:=qF (h1 b hb);rw [wK]at hab;unfold cod;omega
theorem aeg(v:Int):∀S:List Lk,S.length=(S.filter (WE v)).length+(S.filter (stP v)).length
 | []=>rfl
 |
  x::S=>by
  have ih:=aeg v S;have hw:=amK v x
  cases h:stP v x
  ·rw [h]at hw;rw [List.filter_cons_of_pos hw,List.filter_cons_of_neg (by rw [h];simp)];simp only [ak];omega
  rw [h]at hw;rw [List.filter_cons_of_neg (by rw [hw];simp),List.filter_cons_of_pos h];simp only [ak];omega
theorem auT{S:List Lk}{v:Int}(hS:lI S=true)(h:NQ S v=true):S.length<=(H6 S v).length+(oP S v).length:=by
 have e:(oP S v).length=(S.filter (stP v)).length:=by rw [L6,aU]
 have k:=zS (a:=(S.filter (WE v)).map cod) (b:=(H6 S v).map cod) (((List.filter_sublist).map cod).nodup (auS hS)) fun x hx=>by
  obtain⟨y,hy,rfl⟩:=bC.1 hx;obtain⟨z,hz,e1,e2⟩:=(WU h y.a y.b).2 ⟨y,aN.2 (.inl hy),rfl,rfl⟩;exact bC.2 ⟨z,hz,by unfold cod;rw [e1,e2]⟩
 rw [aU,aU]at k;rw [aeg v S,e];omega
def tL(i:Nat):Nat:=(5-i)*(6-i) / 2
theorem aDt:∀i,i<5->tL i=tL (i+1)+(5-i):=by decide
theorem agn{S:List Lk}{o:List Int}(h:Ch S o o.length):cS S o o.length=[]:=by
 have hn:=h.nd;have hk:=h.ok
 cases hS:cS S o o.length with
 |nil=>rfl
 |
  cons x l =>
  rw [hS]at hn hk;have n:=hn x (by simp);have m:=qF (nZ hk (x:=x) (by simp));rw [jB]at n;simp only [dD,or_false]at n;omega
theorem agp{S:List Lk}{o:List Int}(h:Dr S o):∀d k,k+d=o.length->(cS S o k).length<=tL (5-o.length+k)
 |
  0,k,hk=>by
  have e:k=o.length:=by omega
  rw [e,agn (FY h _ (aK _)).1];exact fV _
 |
  d+1,k,hk=>by
  have ih:=agp h d (k+1) (by omega);have hc:=(FY h k (by omega)).1;have hs:=(FY h (k+1) (by omega)).2 k (by omega);have:=auT hc.ok hs.b;have hl:=hs.ar.len.2;have hl5:=h.len;have ht:=aDt (5-o.length+k) (by omega);have e2:5-o.length+(k+1)=5-o.length+k+1:=by omega
  rw [e2]at ih;have e3:(cS S o (k+1)).length=(H6 (cS S o k) (o.getD k 0)).length:=rfl;have e4:(cA S o k).length=(oP (cS S o k) (o.getD k 0)).length:=rfl;omega
theorem v0:(default:Pt).x.v=0/\(default:Pt).y.v=0:=⟨rfl,rfl⟩
def wB:Nat->Nat
 |0=>0
 |i+1=>wB i*((5-i)*tN i)+2*((5-i)*tB i*((5-i)*tB i))
structure Ps (P:List Pt) (E:Int) (Q:Nat) (us:List Int) (fx fy:Int->Int):Prop where
 x:∀u∈us,Fq (P.getD u.toNat default).x (fx u) E/\Ab (fx u) Q
 y:∀u∈us,Fq (P.getD u.toNat default).y (fy u) E/\Ab (fy u) Q
 n:∀u∈us,0<=u/\u<P.length
theorem Ps.perm{P:List Pt}{E:Int}{Q:Nat}{us vs:List Int}{fx fy:Int->Int}(h:Ps P E Q us fx fy)(hs:∀u∈vs,u∈us):Ps P E Q vs fx fy:=⟨fun u hu=>h.x u (hs u hu),fun u hu=>h.y u (hs u hu),fun u hu=>h.n u (hs u hu)⟩
def acF(N B m EB Q:Nat):Bool:=Ft (Q*N+B*EB) (EB*N)&&Ft (Q*N+B*EB) (EB*(m*N))&&Ft (m*(Q*N+B*EB)) (EB*(m*N))
theorem agq{v D:Int}{N B m DB:Nat}{A:List Pa}(h:Ar v D N B m A)(hD:Ab D DB)(hF:arF DB N B m=true){P:List Pt}{E:Int}{EB Q:Nat}(hE1:1<=E)(hE:Ab E EB)(hF2:acF N B m EB Q=true)
  {dR:Pa->R} {pR:Pt->R} {dn:Pa->Int} {f:Int->Int} {G:Nat->R} (hd:∀a∈A,Fq (dR a) (dn a) (wN D a)/\Ab (dn a) B) (hp:∀a∈A,Fq (pR (P.getD a.node.toNat default)) (f a.node) E/\Ab (f a.node) Q) (g0:G 0=kZ 0)
  (gs:∀k,k<A.length->G (k+1)=qm (G k) (mulR (uZ (A.getD k default).share (qZ A)) (qm (pR (P.getD (A.getD k default).node.toNat default)) (dR (A.getD k default))))) :
  ∀k,k<=A.length->Fq (G k) (Vd (fun a=>f a.node*wN D a+dn a*E) (A.take k)) (E*YU D A)
 |0,_=>by rw [g0,List.take_zero];exact V6.to (yG hE1 h.t.1) (by simp [Vd])
 |
  k+1,hk=>by
  have ih:=agq h hD hF hE1 hE hF2 hd hp g0 gs k (by omega);unfold acF at hF2;simp only [aH]at hF2;obtain⟨⟨f1,f2⟩,f3⟩:=hF2;have hm:=getD_mem (l:=A) (i:=k) (by omega);have j:=h.am _ hm;have ht:=h.t;obtain⟨d1,d2⟩:=hd _ hm;obtain⟨p1,p2⟩:=hp _ hm;have sh:=YG h hD hF hm;have hb:=Qg (f:=fun a=>f a.node*wN D a+dn a*E) (N:=Q*N+B*EB) (m:=m) (A:=A) (fun a ha=>AY (lM (hp a ha).2 (h.am a ha).n.2) (lM (hd a ha).2 hE)) h.len.2 (k+1);rw [gs k (by omega)];rw [YE _ (by omega)]at hb ⊢
  try dsimp only at hb
  try dsimp only
  generalize A.getD k default=a at *;have b1:=AY (lM p2 j.n.2) (lM d2 hE);have s1:=p1.add d1 (p:=f a.node*wN D a+dn a*E) (n:=E*wN D a) (by grind) (yG hE1 j.n.1) b1 (lM hE j.n.2) f1;have s2:=sh.mul s1 (p:=f a.node*wN D a+dn a*E) (n:=E*YU D A) (by grind) (yG hE1 ht.1) b1 (lM hE ht.2) f2;exact ih.add s2 (by grind) (yG hE1 ht.1) hb (lM hE ht.2) f3
theorem arG(n d a e p:Rat)(hn:n≠0)(he:e≠0)(hd:d≠0):n / d*(a / e+p / n)=(a*n+p*e) / (d*e):=by grind
theorem arH(z d e t:Rat)(hd:d≠0)(he:e≠0)(ht:t≠0):z / (d*e) / (t / d)=z / (e*t):=by grind
theorem ayE{v D:Int}{N B m DB:Nat}{A:List Pa}(h:Ar v D N B m A)(hD:Ab D DB)(hF:arF DB N B m=true){P:List Pt}{E:Int}{EB Q:Nat}{us:List Int}{fx fy:Int->Int}(hE1:1<=E)(hE:Ab E EB)(hP:Ps P E Q us fx fy)(hA:∀a∈A,a.node∈us)(hF2:acF N B m EB Q=true) :
  adt (oQ v A) P=true/\∃zx zy:Int,(Fq (acV (oQ v A) P).x zx (E*YU D A)/\Ab zx (m*(Q*N+B*EB)))/\(Fq (acV (oQ v A) P).y zy (E*YU D A)/\Ab zy (m*(Q*N+B*EB)))/\(acV (oQ v A) P).x.v=pX P A/\(acV (oQ v A) P).y.v=pY P A:=by
 have hpl:(oQ v A).ps.length=A.length:=aU ..;have ht:=h.t;have gx:=agq h hD hF hE1 hE hF2 (dR:=(·.dx)) (pR:=(·.x)) (dn:=xN D) (f:=fx) (G:=acX (oQ v A) P) (fun a ha=>⟨(h.am a ha).x,(h.am a ha).p.1⟩) (fun a ha=>hP.x _ (hA a ha)) rfl (fun k hk=>by
  show qm _ (acT ((oQ v A).ps.getD k default) (P.getD ((oQ v A).ps.getD k default).node.toNat default).x ((oQ v A).ps.getD k default).dx)=_;rw [Ey hk];rfl) A.length (aK _)
 have gy:=agq h hD hF hE1 hE hF2 (dR:=(·.dy)) (pR:=(·.y)) (dn:=yN D) (f:=fy) (G:=acY (oQ v A) P) (fun a ha=>⟨(h.am a ha).y,(h.am a ha).p.2⟩) (fun a ha=>hP.y _ (hA a ha)) rfl (fun k hk=>by
  show qm _ (acT ((oQ v A).ps.getD k default) (P.getD ((oQ v A).ps.getD k default).node.toNat default).y ((oQ v A).ps.getD k default).dy)=_;rw [Ey hk];rfl) A.length (aK _)
 have bx:=Qg (f:=fun a=>fx a.node*wN D a+xN D a*E) (N:=Q*N+B*EB) (m:=m) (A:=A) (fun a ha=>AY (lM (hP.x _ (hA a ha)).2 (h.am a ha).n.2) (lM (h.am a ha).p.1 hE)) h.len.2 A.length;have by':=Qg (f:=fun a=>fy a.node*wN D a+yN D a*E) (N:=Q*N+B*EB) (m:=m) (A:=A) (fun a ha=>AY (lM (hP.y _ (hA a ha)).2 (h.am a ha).n.2) (lM (h.am a ha).p.2 hE)) h.len.2 A.length;have hg:acG (oQ v A) P.length=true:=alK fun k hk=>by
  rw [hpl]at hk;rw [Ey hk];exact(hP.n _ (hA _ (getD_mem (l:=A) hk))).2
 have ho:adt (oQ v A) P=true:=by
  unfold adt;rw [amW h hD hF,hg,hpl,gx.ok,gy.ok];rfl
 have eV:acV (oQ v A) P=⟨acX (oQ v A) P A.length,acY (oQ v A) P A.length⟩:=by unfold acV;rw [aQ ho,hpl]
 rw [bK]at gx gy bx by';refine⟨ho,_,_,⟨by rw [eV];exact gx,bx⟩,⟨by rw [eV];exact gy,by'⟩,?_,?_⟩
 ·rw [eV,gx.v];have e1:sm sW A=(YU D A:Rat) / (D:Rat):=YF fun a ha=>(h.am a ha).w.v;have e2:sm (fun a=>sW a*qX P a) A=(Vd (fun a=>fx a.node*wN D a+xN D a*E) A:Rat) / ((D*E:Int):Rat):=YF fun a ha=>by
   have j:=h.am a ha;have q:=hP.x _ (hA a ha);unfold sW qX;rw [j.w.v,j.x.v,q.1.v,arG _ _ _ _ _ (nD j.n.1) (nD hE1) (nD h.d)];simp only [fA,Rat.intCast_add]
  unfold pX;rw [e1,e2];simp only [fA];rw [arH _ _ _ _ (nD h.d) (nD hE1) (nD ht.1)]
 rw [eV,gy.v];have e1:sm sW A=(YU D A:Rat) / (D:Rat):=YF fun a ha=>(h.am a ha).w.v;have e2:sm (fun a=>sW a*qY P a) A=(Vd (fun a=>fy a.node*wN D a+yN D a*E) A:Rat) / ((D*E:Int):Rat):=YF fun a ha=>by
  have j:=h.am a ha;have q:=hP.y _ (hA a ha);unfold sW qY;rw [j.w.v,j.y.v,q.1.v,arG _ _ _ _ _ (nD j.n.1) (nD hE1) (nD h.d)];simp only [fA,Rat.intCast_add]
 unfold pY;rw [e1,e2];simp only [fA];rw [arH _ _ _ _ (nD h.d) (nD hE1) (nD ht.1)]
theorem auU{S:List Lk}{v:Int}(h:NQ S v=true):Zj S v=oQ v (oP S v):=by
 have e:=(aea h).1;unfold NQ at h;rw [aH]at h;rw [e,(ad6 h.1).1]
theorem Iy(S:List Lk)(o:List Int)(k:Nat):(cN S o k).length=k:=by unfold cN;simp
theorem ayF{S:List Lk}{o:List Int}{n j:Nat}(h:j<n):(cN S o n).getD j default=Zj (cS S o j) (o.getD j 0):=by
 unfold cN;rw [aj,bM,dJ h];rfl
theorem VJ{S:List Lk}{o:List Int}(h:Dr S o){j:Nat}(hj:j<o.length):(cN S o o.length).getD j default=oQ (o.getD j 0) (cA S o j):=by
 rw [ayF hj];exact auU ((FY h _ (aK _)).2 j hj).b
theorem arI:∀i,i<5->arF (tD i) (tN i) (tB i) (5-i)=true:=by decide +kernel
theorem ED{o:List Int}{k:Nat}{x:Int}:x∈o.drop k↔∃j,k<=j/\j<o.length/\o.getD j 0=x:=by
 constructor
 ·intro h;obtain⟨i,hi,rfl⟩:=List.mem_iff_getElem.1 h;have:i<o.length-k:=by simpa using hi
  refine⟨k+i,by omega,by omega,?_⟩;rw [List.getElem_drop,aj,au (by omega)];rfl
 rintro⟨j,h1,h2,rfl⟩;refine List.mem_iff_getElem.2 ⟨j-k,by simp;omega,?_⟩;rw [List.getElem_drop,aj,au h2];have:k+(j-k)=j:=by omega
 simp only [this];rfl
theorem Md{o:List Int}(h:o.Nodup){i j:Nat}(hij:i<j)(hj:j<o.length):o.getD j 0≠o.getD i 0:=by
 have:=fO.1 h i j (by omega) hj hij;rw [aj,au hj,aj,au (by omega)];exact fun e=>this e.symm
theorem auV{S:List Lk}{o:List Int}(h:Dr S o):ahc (cN S o o.length)=true:=by
 refine apF fun i hi=>?_;rw [Iy]at hi;have hs:=(FY h o.length (aK _)).2 i hi;have hd:=(FY h i (by omega)).1.d;have hl:=h.len;have hF:=arI (5-o.length+i) (by omega);rw [show 5-(5-o.length+i)=o.length-i by omega]at hF;refine(ai5 (VJ h hi)).2 ⟨amW hs.ar hd.2 hF,fun k hk=>?_,fun j hij hj=>?_⟩
 ·have hpl:(oQ (o.getD i 0) (cA S o i)).ps.length=(cA S o i).length:=aU ..;rw [hpl]at hk;rw [Ey hk,Iy];rcases hs.nd _ (getD_mem (l:=cA S o i) hk)with e|e
  ·exact .inl e
  obtain⟨j,h1,h2,h3⟩:=ED.1 e;exact .inr ⟨j,by omega,h2,by rw [VJ h h2];exact h3⟩
 rw [Iy]at hj;rw [VJ h hj];exact Md h.o.1 hij hj
def pE:Nat->Nat
 |0=>1
 |k+1=>pE k*((k+1)*tN (4-k))
def pQ:Nat->Nat
 |0=>0
 |k+1=>(k+1)*(pQ k*tN (4-k)+tB (4-k)*pE k)
theorem ayG:∀k,k<5->acF (tN (4-k)) (tB (4-k)) (k+1) (pE k) (pQ k)=true:=by decide +kernel
structure Pk (S:List Lk) (o:List Int) (k:Nat) (P:List Pt):Prop where
 ps:∃(E:Int) (fx fy:Int->Int),1<=E/\Ab E (pE k)/\Ps P E (pQ k) (0::o.drop (o.length-k)) fx fy
 dq:∀j,o.length-k<=j->j<o.length->dsq P (o.getD j 0) (cA S o j)=0
theorem Ps.get{P:List Pt}{E:Int}{Q:Nat}{us:List Int}{fx fy:Int->Int}(h:Ps P E Q us fx fy){v:Int}{p:Pt}{T zx zy:Int}{TB Q':Nat}(hv:0<=v/\v<P.length)(hvu:v∉us)(hT:1<=T)(hTB:Ab T TB)(hx:Fq p.x zx (E*T)/\Ab zx Q')(hy:Fq p.y zy (E*T)/\Ab zy Q')(hQ:Q*TB<=Q') :
  Ps (P.set v.toNat p) (E*T) Q' (v::us) (fun u=>if u=v then zx else fx u*T) (fun u=>if u=v then zy else fy u*T):=by
 have g0:(P.set v.toNat p).getD v.toNat default=p:=by
  rw [aj,List.getElem?_set_self (by omega)];rfl
 have g1:∀u∈us,(P.set v.toNat p).getD u.toNat default=P.getD u.toNat default:=fun u hu=>by
  have:=h.n u hu;have hne:u≠v:=fun e=>hvu (e▸hu);rw [aj,aj,List.getElem?_set_ne (by omega)]
 refine⟨fun u hu=>?_,fun u hu=>?_,fun u hu=>?_⟩
 ·rcases aI.1 hu with rfl|hu
  ·rw [aQ rfl,g0];exact hx
  have hne:u≠v:=fun e=>hvu (e▸hu);obtain⟨k1,k2⟩:=h.x u hu;rw [aO hne,g1 u hu];exact⟨k1.to (yG k1.n hT) (by grind),(lM k2 hTB).mono hQ⟩
 ·rcases aI.1 hu with rfl|hu
  ·rw [aQ rfl,g0];exact hy
  have hne:u≠v:=fun e=>hvu (e▸hu);obtain⟨k1,k2⟩:=h.y u hu;rw [aO hne,g1 u hu];exact⟨k1.to (yG k1.n hT) (by grind),(lM k2 hTB).mono hQ⟩
 rw [bY];rcases aI.1 hu with rfl|hu
 ·exact hv
 exact h.n u hu
theorem aqv{P Q:List Pt}{A:List Pa}(h:∀a∈A,P.getD a.node.toNat default=Q.getD a.node.toNat default):pX P A=pX Q A/\pY P A=pY Q A:=by
 unfold pX pY;constructor
 ·congr 1;exact Yz fun a ha=>by unfold qX;rw [h a ha]
 congr 1;exact Yz fun a ha=>by unfold qY;rw [h a ha]
theorem auW{P Q:List Pt}{A:List Pa}{v:Int}(hv:P.getD v.toNat default=Q.getD v.toNat default)(h:∀a∈A,P.getD a.node.toNat default=Q.getD a.node.toNat default):dsq P v A=dsq Q v A:=by
 unfold dsq;rw [hv,(aqv h).1,(aqv h).2]
theorem aDu{S:List Lk}{o:List Int}(h:Dr S o){N:List Cd}(hN:N=cN S o o.length):Pk S o 0 (Ql N 0):=by
 refine⟨⟨1,fun _=>0,fun _=>0,by decide,aK 1,?_⟩,fun j h1 h2=>by omega⟩;rw [Nat.sub_zero,jB];have hg:(Ql N 0).getD 0 default=⟨kZ 0,kZ 0⟩:=by
  unfold Ql svP;rw [aj,List.getElem?_set_self (by simp)];rfl
 have e0:∀u:Int,u∈[(0:Int)]->u.toNat=0:=fun u hu=>by rw [bD.1 hu];rfl
 refine⟨fun u hu=>?_,fun u hu=>?_,fun u hu=>?_⟩
 ·rw [e0 u hu,hg];exact⟨V6,aK _⟩
 ·rw [e0 u hu,hg];exact⟨V6,aK _⟩
 rw [bD.1 hu,WT];omega
theorem aDv{S:List Lk}{o:List Int}(h:Dr S o){N:List Cd}(hN:N=cN S o o.length){k:Nat}(hk:k<o.length)(hp:Pk S o k (Ql N k)):adt (svC N k) (Ql N k)=true/\Pk S o (k+1) (Ql N (k+1)):=by
 obtain⟨E,fx,fy,hE1,hE,hps⟩:=hp.ps;have hl:=h.len;have hj:o.length-1-k<o.length:=by omega
 have hs:=(FY h o.length (aK _)).2 _ hj;have hd:=(FY h (o.length-1-k) (by omega)).1.d;have hC:svC N k=oQ (o.getD (o.length-1-k) 0) (cA S o (o.length-1-k)):=by
  unfold svC;rw [hN,Iy];exact VJ h hj
 have ei:5-o.length+(o.length-1-k)=4-k:=by omega
 have em:o.length-(o.length-1-k)=k+1:=by omega
 have har:=hs.ar;have hF:=arI (4-k) (by omega);rw [show 5-(4-k)=k+1 by omega]at hF;have hF2:=ayG k (by omega);have hdb:=hd.2;rw [ei]at har hdb;rw [em]at har;have hnd:=hs.nd;have hvr:(o.getD (o.length-1-k) 0)∉(0:Int)::o.drop (o.length-k):=fun hm=>by
  have hv:=har.v;rcases aI.1 hm with e|e
  ·omega
  obtain⟨j,h1,h2,h3⟩:=ED.1 e;exact Md h.o.1 (i:=o.length-1-k) (j:=j) (by omega) h2 h3
 have hdr:o.drop (o.length-(k+1))=o.getD (o.length-1-k) 0::o.drop (o.length-k):=by
  have:=aee (o:=o) (k:=o.length-1-k) hj;rw [show o.length-1-k+1=o.length-k by omega]at this;rw [show o.length-(k+1)=o.length-1-k by omega];exact this
 rw [show o.length-1-k+1=o.length-k by omega]at hnd;have hA:∀a∈cA S o (o.length-1-k),a.node∈(0:Int)::o.drop (o.length-k):=fun a ha=>by
  rcases hnd a ha with e|e
  ·rw [e];simp
  exact fH _ e
 obtain⟨ho,zx,zy,hx,hy,vx,vy⟩:=ayE har hdb hF hE1 hE hps hA hF2;have ht:=har.t;have hvl:(o.getD (o.length-1-k) 0).toNat<(Ql N k).length:=by
  rw [WT];have:=agd (l:=N) N.length (o.length-1-k) (by rw [hN,Iy];exact hj);have e:(N.getD (o.length-1-k) default).node=o.getD (o.length-1-k) 0:=by rw [hN,VJ h hj];rfl
  rw [e]at this;omega
 refine⟨by rw [hC];exact ho,?_⟩;have hsv:Ql N (k+1)=(Ql N k).set (o.getD (o.length-1-k) 0).toNat (acV (oQ (o.getD (o.length-1-k) 0) (cA S o (o.length-1-k))) (Ql N k)):=by
  show (Ql N k).set (svC N k).node.toNat (acV (svC N k) (Ql N k))=_;rw [hC];rfl
 have hg0:(Ql N (k+1)).getD (o.getD (o.length-1-k) 0).toNat default=acV (oQ (o.getD (o.length-1-k) 0) (cA S o (o.length-1-k))) (Ql N k):=by
  rw [hsv,aj,List.getElem?_set_self hvl];rfl
 have hg1:∀u∈(0:Int)::o.drop (o.length-k),(Ql N (k+1)).getD u.toNat default=(Ql N k).getD u.toNat default:=fun u hu=>by
  have:=hps.n u hu;have hv:=har.v;have hne:u≠o.getD (o.length-1-k) 0:=fun e=>hvr (e▸hu);rw [hsv,aj (l:=List.set _ _ _),List.getElem?_set_ne (by omega),aj (l:=Ql N k)]
 have hv:=har.v;have hb:pQ k*((k+1)*tN (4-k))<=(k+1)*(pQ k*tN (4-k)+tB (4-k)*pE k):=by
  rw [jq,Nat.mul_left_comm];omega
 have ayH:=hps.get (v:=o.getD (o.length-1-k) 0) ⟨by omega,by omega⟩ hvr ht.1 ht.2 hx hy hb;rw [<-hsv]at ayH;refine⟨⟨E*YU (cD S o (o.length-1-k)) (cA S o (o.length-1-k)),_,_,yG hE1 ht.1,lM hE ht.2,ayH.perm fun u hu=>?_⟩,fun j h1 h2=>?_⟩
 ·rw [hdr]at hu;simp only [aI]at hu ⊢;rcases hu with e|e|e
  ·exact .inr (.inl e)
  ·exact .inl e
  exact .inr (.inr e)
 by_cases e:j=o.length-1-k
 ·subst e;unfold dsq;rw [hg0,vx,vy,(aqv fun a ha=>hg1 _ (hA a ha)).1,(aqv fun a ha=>hg1 _ (hA a ha)).2]
  grind
 rw [<-hp.dq j (by omega) h2];have hj2:=(FY h o.length (aK _)).2 j h2;refine auW (hg1 _ (fH _ (ED.2 ⟨j,by omega,h2,rfl⟩))) fun a ha=>hg1 _ ?_;rcases hj2.nd a ha with e2|e2
 ·rw [e2];simp
 obtain⟨i,h3,h4,h5⟩:=ED.1 e2;exact fH _ (ED.2 ⟨i,by omega,h4,h5⟩)
theorem pk_all{S:List Lk}{o:List Int}(h:Dr S o){N:List Cd}(hN:N=cN S o o.length):∀k,k<=o.length->Pk S o k (Ql N k)/\∀j,j<k->adt (svC N j) (Ql N j)=true
 |0,_=>⟨aDu h hN,fun j hj=>absurd hj (dA _)⟩
 |
  k+1,hk=>by
  obtain⟨h1,h2⟩:=pk_all h hN k (by omega);obtain⟨h3,h4⟩:=aDv h hN (by omega) h1;refine⟨h4,fun j hj=>?_⟩;by_cases e:j=k
  ·subst e;exact h3
  exact h2 j (by omega)
theorem ana{S:List Lk}{o:List Int}(h:Dr S o):svG (cN S o o.length)=true/\Pk S o o.length (svV (cN S o o.length)):=by
 obtain⟨h1,h2⟩:=pk_all h rfl o.length (aK _);have hg:svG (cN S o o.length)=true:=aqg (auV h) fun k hk=>h2 k (by rw [Iy]at hk;exact hk);refine⟨hg,?_⟩;rw [TM hg,Iy];exact h1
theorem ah0{p:Int}(h:p≠0):(p:Rat)≠0:=fun e=>h (Rat.intCast_eq_zero_iff.1 e)
theorem Fq.aDw{r s:R}{p1 n1 p2 n2:Int}(h1:Fq r p1 n1)(h2:Fq s p2 n2)(h3:p2≠0){p n:Int}{P N:Nat}(e:p1*n2*n=p*(n1*p2))(hn:1<=n)(hp:Ab p P)(hd:Ab n N)(hF:Ft P N=true):Fq (uZ r s) p n:=by
 have a1:=nD h1.n;have a2:=nD h2.n;have a3:=ah0 h3;have a:=nD hn;have e':=ri e;simp only [fA]at e';refine⟨?_,hn⟩;rw [XZ,h1.q,h2.q];show (if _=0 then none else norm (_ / _))=_;have hp2:(p2:Rat) / (n2:Rat)≠0:=by grind
 have hv:(p1:Rat) / n1 / ((p2:Rat) / n2)=(p:Rat) / n:=by grind
 rw [aO hp2,hv];exact TU hn hp hd hF
structure RcM (n c:Nat) (M:MF) (A:MQ) (D:Int) (N:Nat):Prop where
 len:∀i,i<n->(M i).length=c
 fq:∀i,i<n->∀j,j<c->∃z:Int,Ab z N/\Fq (KR M i j) z D/\A i j=(z:Rat) / (D:Rat)
theorem auX{r:R}{z D:Int}(h:Fq r z D):wQ r=0↔(z:Rat) / (D:Rat)=0:=by
 unfold wQ;rw [h.q];show ZL _=0↔_;rw [<-Rat.num_eq_zero];unfold ZL;split
 ·omega
 split<;>omega
theorem anb{n c k N:Nat}{D:Int}{M:MF}{A:MQ}(h:RcM n c M A D N)(hk:k<c):∀f p,p+f<=n->rrP M k f p=mqP A k f p
 |0,_,_=>rfl
 |
  f+1,p,hp=>by
  unfold rrP mqP;rw [anb h hk f (p+1) (by omega)];obtain⟨z,_,z2,z3⟩:=h.fq p (by omega) k hk;have:=auX z2;rw [<-z3]at this;by_cases e:A p k=0
  ·rw [aQ e,aQ (this.2 e)]
  rw [aO e,aO fun z=>e (this.1 z)]
theorem RcM.sw{n c k p N:Nat}{D:Int}{M:MF}{A:MQ}(h:RcM n c M A D N)(hk:k<n)(hp:p<n):RcM n c (AX M k p) (EI A k p) D N:=by
 refine⟨fun i hi=>?_,fun i hi j hj=>?_⟩
 ·unfold AX;split
  ·exact h.len k hk
  split
  ·exact h.len p hp
  exact h.len i hi
 unfold KR AX EI;by_cases e1:i=p
 ·rw [aQ e1,aQ e1];exact h.fq k hk j hj
 rw [aO e1,aO e1];by_cases e2:i=k
 ·rw [aQ e2,aQ e2];exact h.fq p hp j hj
 rw [aO e2,aO e2];exact h.fq i hi j hj
theorem RcM.O9{n c N:Nat}{D:Int}{M:MF}{A:MQ}(h:RcM n c M A D N):O9 n M=true:=by
 refine U0.2 fun i hi=>aX.2 fun x hx=>?_;obtain⟨j,hj⟩:=bQ.1 hx;have hl:=(aP.1 hj).1;rw [h.len i hi]at hl;obtain⟨z,_,z2,_⟩:=h.fq i hi j hl;have:=z2.ok;unfold KR at this
 rwa [aj,hj]at this
theorem ayI(z d s p:Rat)(hd:d≠0)(hp:p≠0)(h:s*s=1):z / d / (s*p / d)=s*z / p:=by
 have hs:s≠0:=fun e=>by rw [e]at h;grind
 have e1:s*p / d≠0:=by grind
 have e2:z / d=s*z / p*(s*p / d):=by grind
 rw [e2];grind
theorem aDx(x d s p z y:Rat)(hd:d≠0)(hp:p≠0):x / d-s*z / p*(y / d)=(x*p-s*z*y) / (d*p):=by grind
theorem aDy(d s p z:Rat)(hd:d≠0)(hp:p≠0):s*z / p=s*z*d / (d*p):=by grind
def gsF(D N:Nat):Bool:=Ft (N*D) (D*N)&&Ft (N*N) (D*N)&&Ft (N*N+N*N) (D*N)&&decide (N*D<=N*N+N*N)
theorem ayJ{z:Int}(h:z≠0):∃s p:Int,1<=p/\p.natAbs=z.natAbs/\s.natAbs=1/\z=s*p/\s*s=1:=by
 rcases Int.lt_or_gt_of_ne h with h|h
 ·exact⟨-1,-z,by omega,by omega,by decide,by omega,by decide⟩
 exact⟨1,z,by omega,rfl,by decide,by omega,by decide⟩
theorem aqw{n c k N DB:Nat}{D:Int}{M:MF}{A:MQ}(h:RcM n c M A D N)(hk:k<n)(hc:n<=c)(hD:Ab D DB)(hF:gsF DB N=true) :
  (¬yF n A k<n/\Ed n M k=none)\/(yF n A k<n/\∃M' D',Ed n M k=some M'/\1<=D'/\Ab D' (DB*N)/\RcM n c M' (IW A k (yF n A k)) D' (N*N+N*N)):=by
 have e:Ze n M k=yF n A k:=anb h (by omega) _ _ (by omega);unfold gsF at hF;simp only [aH,bf]at hF;obtain⟨⟨⟨f1,f2⟩,f3⟩,f4⟩:=hF;by_cases hp:yF n A k<n
 ·refine .inr ⟨hp,?_⟩;have h0:=(abt hk hp).2;have h1:RcM n c (BD n M k) (EI A k (yF n A k)) D N:=by unfold BD;rw [e];exact h.sw hk hp
  have hd:EI A k (yF n A k) k k≠0:=by
   unfold EI;by_cases e:k=yF n A k
   ·rw [aQ e];rw [<-e]at h0;exact h0
   rw [aO e,aQ rfl];exact h0
  have hp':Ze n M k<n:=by rw [e];exact hp
  unfold IW;generalize EI A k (yF n A k)=S at h1 hd;obtain⟨w,w1,w2,w3⟩:=h1.fq k hk k (by omega);have hD1:=w2.n;have hD0:=nD hD1;have hw:w≠0:=fun e0=>hd (by rw [w3,e0,Rat.intCast_zero,fK,iU]);obtain⟨s,p,p1,p2,s1,ep,ss⟩:=ayJ hw;have bp:Ab p N:=by unfold Ab at *;omega
  have bs:Ab s 1:=by unfold Ab;omega
  have hDp:=yG hD1 p1;have bDp:=lM hD bp;have p0:=nD p1;have s0:s≠0:=fun e0=>by rw [e0]at ss;omega
  have s0':=ah0 s0;have ss':(s:Rat)*(s:Rat)=1:=by have:=ri ss;simpa only [fA,Rat.intCast_one]using this
  have ep':(w:Rat)=s*p:=by have:=ri ep;simpa only [fA]using this
  have t2:Ec n M k k=Qw (BD n M k k) k:=aQ rfl;have dk:∀j,j<c->∃z:Int,Ab z N/\S k j=(z:Rat) / (D:Rat)/\Fq (KR (Ec n M k) k j) (s*z*D) (D*p):=fun j hj=>by
   obtain⟨z,z1,z2,z3⟩:=h1.fq k hk j hj;refine⟨z,z1,z3,?_⟩;have hq:KR (Ec n M k) k j=uZ (KR (BD n M k) k j) (KR (BD n M k) k k):=by
    unfold KR;rw [t2,adz _ _ (by rw [h1.len k hk];exact hj)]
   rw [hq];exact z2.aDw w2 hw (by rw [ep];grind) hDp ((lM (lM bs z1) hD).mono (by rw [Nat.one_mul];exact aK _)) bDp f1
  have h3:RcM n c (zq (Ec n M k) k) (V3 (Ov S k) k) (D*p) (N*N+N*N):=by
   refine⟨fun i hi=>?_,fun i hi j hj=>?_⟩
   ·unfold zq;split
    ·rw [t2,UY];exact h1.len k hk
    rename_i e;rw [UZ];unfold Ec;rw [aO e];exact h1.len i hi
   obtain⟨z,z1,z2,z3⟩:=dk j hj;by_cases e:i=k
   ·subst e;have e1:KR (zq (Ec n M i) i) i j=KR (Ec n M i) i j:=by unfold KR zq;rw [aQ rfl]
    have e2:V3 (Ov S i) i i j=S i j / S i i:=by unfold V3 Ov;simp only [if_true]
    refine⟨s*z*D,((lM (lM bs z1) hD).mono (by rw [Nat.one_mul];exact f4)),by rw [e1];exact z3,?_⟩;rw [e2,z2,w3,ep',ayI _ _ _ _ hD0 p0 ss'];simp only [fA];exact aDy _ _ _ _ hD0 p0
   obtain⟨x,x1,x2,x3⟩:=h1.fq i hi j hj;obtain⟨y,y1,y2,y3⟩:=h1.fq i hi k (by omega);have t3:Ec n M k i=BD n M k i:=aO e;have e1:KR (zq (Ec n M k) k) i j=vS (KR (BD n M k) i j) (mulR (KR (Ec n M k) k j) (KR (BD n M k) i k)):=by
    unfold KR zq;rw [aO e,t3,ady _ _ _ (by rw [h1.len i hi];exact hj)];unfold KR;rw [t3]
   have e2:V3 (Ov S k) k i j=S i j-S k j / S k k*S i k:=by unfold V3 Ov;simp only [if_true,aO e]
   have bm:Ab (s*z*y) (N*N):=(lM (lM bs z1) y1).mono (by rw [Nat.one_mul];exact aK _);have m1:=z3.mul y2 (p:=s*z*y) (n:=D*p) (by grind) hDp bm bDp f2;refine⟨x*p-s*z*y,Lc (lM x1 bp) bm,?_,?_⟩
   ·rw [e1];exact x2.sub m1 (by grind) hDp (Lc (lM x1 bp) bm) bDp f3
   rw [e2,x3,z2,w3,y3,ep',ayI _ _ _ _ hD0 p0 ss'];simp only [fA,Rat.intCast_sub];exact aDx _ _ _ _ _ _ hD0 p0
  exact⟨_,D*p,adB hp' h3.O9,hDp,bDp,h3⟩
 exact .inl ⟨hp,adA (by rw [e];exact hp)⟩
def gT(D N:Nat):Nat->Nat×Nat
 |0=>(D,N)
 |k+1=>((gT D N k).1*(gT D N k).2,(gT D N k).2*(gT D N k).2+(gT D N k).2*(gT D N k).2)
def gF(D N K:Nat):Bool:=(List.range K).all fun k=>gsF (gT D N k).1 (gT D N k).2
theorem arJ{n c DB N:Nat}{D:Int}{m:MF}{A:MQ}(h:RcM n c m A D N)(hD1:1<=D)(hD:Ab D DB)(hc:n<=c)(hF:gF DB N n=true):∀k,k<=n ->
  (Oq n m k=none/\Iw n A k=none)\/∃M B D',Oq n m k=some M/\Iw n A k=some B/\1<=D'/\Ab D' (gT DB N k).1/\RcM n c M B D' (gT DB N k).2
 |0,_=>.inr ⟨m,A,D,rfl,rfl,hD1,hD,h⟩
 |
  k+1,hk=>by
  rcases arJ h hD1 hD hc hF k (by omega)with ⟨e1,e2⟩|⟨M,B,D',e1,e2,h1,h2,h'⟩
  ·exact .inl ⟨by unfold Oq;rw [e1];rfl,by unfold Iw;rw [e2];rfl⟩
  have s1:=abp e1;have s2:Iw n A (k+1)=if yF n B k<n then some (IW B k (yF n B k))else none:=by
   show (Iw n A k).bind _=_;rw [e2];rfl
  have hf:gsF (gT DB N k).1 (gT DB N k).2=true:=by
   unfold gF at hF;exact aX.1 hF k (eG.2 (by omega))
  rcases aqw (k:=k) h' (by omega) hc h2 hf with ⟨hp,e3⟩|⟨hp,M',D2,e3,h3,h4,h5⟩
  ·exact .inl ⟨by rw [s1,e3],by rw [s2,aO hp]⟩
  exact .inr ⟨M',_,D2,by rw [s1,e3],by rw [s2,aQ hp],h3,h4,h5⟩
theorem aeh(f g:Nat->Rat):∀n,AA (fun j=>f j+g j) n=AA f n+AA g n
 |0=>(dU 0).symm
 |
  n+1=>by
  show AA (fun j=>f j+g j) n+(f n+g n)=AA f n+f n+(AA g n+g n);rw [aeh f g n];grind
theorem arK(A:MQ)(k:Nat):∀f p,mqP A k f p=p+f->∀i,p<=i->i<p+f->A i k=0
 |0,p,_,i,h1,h2=>by omega
 |
  f+1,p,h,i,h1,h2=>by
  unfold mqP at h;split at h
  ·rename_i h0;by_cases e:i=p
   ·rw [e];exact h0
   exact arK A k f (p+1) (by omega) i (by omega) (by omega)
  omega
theorem auY{A:MQ}{n k p c:Nat}(hk:k<n)(hp:p<n)(h:∀i,i<n->A i c=0):∀i,i<n->IW A k p i c=0:=by
 have hS:∀i,i<n->EI A k p i c=0:=fun i hi=>by
  unfold EI;by_cases e1:i=p
  ·rw [aQ e1];exact h k hk
  rw [aO e1];by_cases e2:i=k
  ·rw [aQ e2];exact h p hp
  rw [aO e2];exact h i hi
 intro i hi;have h1:=hS i hi;have h2:=hS k hk;unfold IW;generalize EI A k p=S at h1 h2 ⊢;unfold V3 Ov;simp only [if_true];have z1:(0:Rat) / S k k=0:=by rw [fK,iU]
 by_cases e:i=k
 ·rw [aQ e,h2,z1]
 rw [aO e,aO e,h1,h2,z1,iU];grind
theorem anc{n:Nat}{A:MQ}{c:Nat}(h:∀i,i<n->A i c=0):∀k {B:MQ},k<=n->Iw n A k=some B->∀i,i<n->B i c=0
 |0,B,_,e=>by cases e;exact h
 |
  k+1,B,hk,e=>by
  unfold Iw at e
  cases e1:Iw n A k with
  |none=>rw [e1]at e;cases e
  |
   some C =>
   rw [e1]at e;have e:(if yF n C k<n then some (IW C k (yF n C k))else none)=some B:=e;split at e
   ·rename_i hp
    cases e
    exact auY (by omega) hp (anc h k (by omega) e1)
   cases e
theorem aap{n:Nat}{A:MQ}(hz:∀i,i<n->A i n=0)(hinj:∀y:Nat->Rat,(∀i,i<n->AA (fun j=>A i j*y j) n=0)->∀i,i<n->y i=0):∀k,k<=n->∃B,Iw n A k=some B
 |0,_=>⟨A,rfl⟩
 |
  k+1,hk=>by
  obtain⟨B,e⟩:=aap hz hinj k (by omega);have s2:Iw n A (k+1)=if yF n B k<n then some (IW B k (yF n B k))else none:=by
   show (Iw n A k).bind _=_;rw [e];rfl
  by_cases hp:yF n B k<n
  ·exact⟨_,by rw [s2,aQ hp]⟩
  exfalso;have hle:=(afT B k (n-k) k).1;have hzk:=arK B k (n-k) k (by unfold yF at hp;omega);have hU:=afU k (by omega) e;have hBz:=anc hz k (by omega) e;have hy:∀i,i<n->xQ B n (fun j=>if j=k then 1 else if j<k then -B j k else 0) n i=0:=fun i hi=>by
   unfold xQ;rw [hBz i hi,Eo (g:=fun j=>(if i=j then(1:Rat)else 0)*(if j<k then -B j k else 0)+(if k=j then(1:Rat)else 0)*B i j) fun j hj=>?_]
   ·rw [aeh,Nz (fun j=>if j<k then -B j k else 0),Nz (fun j=>B i j),aQ hi,aQ (c:=k<n) (by omega)];by_cases hik:i<k
    ·rw [aQ hik];grind
    rw [aO hik,hzk i (by omega) (by omega)];grind
   dsimp only;by_cases e1:j=k
   ·rw [aQ e1,aO (c:=j<k) (by omega),aQ (c:=k=j) e1.symm,e1];grind
   rw [aO e1,aO (c:=k=j) (by omega)];by_cases e2:j<k
   ·rw [aQ e2,hU i hi j e2];grind
   rw [aO e2];grind
  have hA:=Yk k (by omega) e hy;have h1:=hinj (fun j=>if j=k then 1 else if j<k then -B j k else 0) (fun i hi=>by
   have h2:=hA i hi;unfold xQ at h2;rw [hz i hi]at h2;generalize AA _ n=r at h2 ⊢
   grind) k (by omega)
  rw [aQ rfl]at h1;exact absurd h1 (by decide)
theorem ane{n:Nat}{A:MQ}(hinj:∀y:Nat->Rat,(∀i,i<n->AA (fun j=>A i j*y j) n=0)->∀i,i<n->y i=0):Iw n A n≠none:=by
 have hE:MqE n A fun i j=>if j<n then A i j else 0:=fun i hi j hj=>by simp only [aQ hj]
 obtain⟨B,e⟩:=aap (n:=n) (A:=fun i j=>if j<n then A i j else 0) (fun i _=>by simp only [aO (jr n)]) (fun y hy=>hinj y fun i hi=>by
  rw [<-hy i hi];exact Eo fun j hj=>by simp only [aQ hj]) n (aK _)
 rcases abu hE n (aK _)with k|⟨A',B',k1,_,_⟩
 ·rw [e]at k;cases k.2
 rw [k1];simp
theorem ah1{n c:Nat}{w:List (List R)}{ci:Int}(hl:w.length=n)(hr:∀i,i<n->(w.getD i default).length=c)(hv:∀i,i<n->∀j,j<c->(mEl w i j).ok=true)(hn:n<=10)(hci:ci=c):BA w ci=true:=by
 rw [abf,aT (by omega)];intro i hi;unfold Qv;rw [aT (by rw [hr i (by omega)];omega),cZ];exact Q7 fun j hj=>hv i (by omega) j (by rw [<-hr i (by omega)];exact hj)
theorem ayK{n N DB:Nat}{D:Int}{m:List (List R)}{a:MQ}{b:List R}{v:Nat->Rat}(hl:m.length=n)(hr:∀i,i<n->(m.getD i default).length=n)(hb:b.length=n)(hn:n<=10)
  (ha:∀i,i<n->∀j,j<n->∃z:Int,Ab z N/\Fq (mEl m i j) z D/\a i j=(z:Rat) / (D:Rat)) (hv:∀i,i<n->∃z:Int,Ab z N/\Fq (b.getD i default) z D/\v i=(z:Rat) / (D:Rat))
  (hD1:1<=D) (hD:Ab D DB) (hF:gF DB N n=true) (hinj:∀y:Nat->Rat,(∀i,i<n->AA (fun j=>a i j*y j) n=0)->∀i,i<n->y i=0) :
  Yi m b=true/\(Qx m b).length=n/\∃y:Nat->Rat,(∀i,i<n->((Qx m b).getD i default).q=some (y i))/\∀i,i<n->AA (fun j=>a i j*y j) n=v i:=by
 have hM:BA m m.length=true:=ah1 hl hr (fun i hi j hj=>by obtain⟨z,_,z2,_⟩:=ha i hi j hj;exact z2.ok) hn (by rw [hl]);have hC:ssC m b=true:=by unfold ssC;rw [hM,aT (by rw [hb,hl])];rfl
 have hw:RcM n (n+1) (xG (Yh m b)) (fun i j=>if j<n then a i j else v i) D N:=by
  refine⟨fun i hi=>?_,fun i hi j hj=>?_⟩
  ·unfold Yh;rw [Yg (by rw [hl];exact hi)];unfold ssW;rw [aS,hr i hi];rfl
  unfold KR Yh;rw [Yg (by rw [hl];exact hi)];unfold ssW;by_cases hj2:j<n
  ·rw [afV (by rw [hr i hi];exact hj2)];simp only [aQ hj2];exact ha i hi j hj2
  rw [afW (by rw [hr i hi];omega),hr i hi,show j-n=0 by omega];simp only [aO hj2];exact hv i hi
 have hE:MqE n a fun i j=>if j<n then a i j else v i:=fun i hi j hj=>by simp only [aQ hj]
 have hwl:(Yh m b).length=n:=by unfold Yh;rw [LX,hl]
 have hRC:rrC (Yh m b) ((m.length:Nat)+1)=true:=by
  unfold rrC;rw [ah1 (n:=n) (c:=n+1) hwl hw.len (fun i hi j hj=>by obtain⟨z,_,z2,_⟩:=hw.fq i hi j hj;exact z2.ok) hn (by rw [hl];omega),aT (by rw [hwl,hl];omega)];rfl
 have hne:=ane hinj;rcases arJ hw hD1 hD (by omega) hF n (aK _)with ⟨e1,e2⟩|⟨M,B,D',e1,e2,d1,d2,h3⟩
 ·exfalso;rcases abu hE n (aK _)with k|⟨A',B',_,k2,_⟩
  ·exact hne k.1
  rw [e2]at k2;cases k2
 have hV:=Pg hRC (by rw [hwl];exact e1);obtain⟨eX,eB⟩:=adH hC hV.2;rw [hwl]at hV;refine⟨eB,by rw [eX,hV.1];simp,fun i=>B i n,fun i hi=>?_,fun i hi=>?_⟩
 ·rw [eX,hV.1,fG,U2 hi,hl];obtain⟨z,_,z2,z3⟩:=h3.fq i hi n (by omega);dsimp only;rw [z3];exact z2.q
 have:=amf e2 n i hi;simp only [aO (jr n)]at this;rw [<-this];exact Eo fun j hj=>by simp only [aQ hj]
def wu:Fn:=⟨3,63,[.cell 6 3 true],(.seq (rf 1 [oN 6 (.alloc uz)]) (.seq (rf 1 [oK 10 1 (.call 39 [(cI 0)]),oN 7 (.alloc uz),⟨none,none,1,.store 3 (.t 7) (.t 10),[]⟩]) (.seq (sr [oW 11 0,oN 12 (ln 11),oN 13 (.qw (cI 0))] (.block 0 (.loop (sr [oN 14 (bt .lss 13 12)] (.seq (cd 14 .skip (.exit 0)) (.seq (.block 1 (.seq (rf 1 [oK 15 1 (ix 11 11 13),oK 16 1 (lT 11 15),oN 9 (.alloc Hr),⟨none,none,1,.store 11 (.t 9) (.t 16),[]⟩]) (.seq (sr [oW 17 1,oW 18 2,oN 19 (bt .eql 17 18),oW 20 19,oG 20 true 21 (fd 0 9),oG 20 true 22 (lF 1 21),oG 20 true 23 (oV 1),oG 20 true 24 (bt .eql 22 23),oG 20 true 25 (oV 24),oG 25 false 26 (fd 1 9),oG 25 false 27 (lF 1 26),oG 25 false 28 (oV 1),oG 25 false 29 (bt .eql 27 28),oG 20 true 30 (.pick (.t 25) (.c (.bool true)) (.t 29)),oN 31 (.pick (.t 20) (.t 30) (.c (.bool false)))] (cd 31 (rg [oN 32 (lT 3 7),oN 33 (fd 2 9),oN 34 (lT 3 33),oN 35 (cl 131 [32,34]),oS (.store 3 (.t 7) (.t 35))]) .skip)) (sr [oN 36 (fd 0 9),oN 37 (lF 1 36),oW 38 1,oN 39 (bt .eql 37 38),oW 40 39,oG 40 true 41 (fd 1 9),oG 40 true 42 (lF 1 41),oG 40 true 43 (oV 2),oG 40 true 44 (bt .eql 42 43),oN 45 (.pick (.t 40) (.t 44) (.c (.bool false))),oW 46 45,oG 46 false 47 (fd 0 9),oG 46 false 48 (lF 1 47),oG 46 false 49 (oV 2),oG 46 false 50 (bt .eql 48 49),oG 46 false 51 (oV 50),oG 51 true 52 (fd 1 9),oG 51 true 53 (lF 1 52),oG 51 true 54 (oV 1),oG 51 true 55 (bt .eql 53 54),oG 46 false 56 (.pick (.t 51) (.t 55) (.c (.bool false))),oN 57 (.pick (.t 46) (.c (.bool true)) (.t 56))] (cd 57 (rg [oN 58 (fd 2 9),oN 59 (lT 3 58),oN 60 (cl 161 [59]),oS (.store 3 (.t 7) (.t 60))]) .skip))))) (rg [oN 61 (bc .add 13 1),oW 13 61]))))))) (sr [oN 62 (lT 3 7),oS (.store 3 (.t 6) (.t 62))] .ret))))⟩
structure zZ (T:Tb):Prop where
 hT:T 277=some wu
 lC:nX T
 lN:oO T
 uK:uJ T
def qp:Fn:=⟨1,46,[.tmp 2],(sr [oN 2 mN] (.seq (sr [oW 10 0,oN 11 (cl 89 [10]),oN 12 (nt 11)] (cd 12 (sr [oN 2 mN] .ret) .skip)) (sr [oW 13 0,oN 14 (cl 180 [13]),oW 3 14] (.seq (rf 1 [oN 15 (.nM 1 [.jZ] 0 []),oK 4 1 (oV 15)]) (.seq (sr [oW 16 3,oN 17 (ln 16),oN 18 (.qw (cI 0))] (.block 0 (.loop (sr [oN 19 (bt .lss 18 17)] (.seq (cd 19 .skip (.exit 0)) (.seq (.block 1 (sr [oN 20 (ix 1 16 18),oN 21 (lF 1 20),oW 6 21] (.seq (rf 1 [oN 22 (.nM 3 uz 0 []),oK 7 1 (oV 22)]) (.seq (sr [oW 23 3,oN 24 (ln 23),oN 25 (.qw (cI 0))] (.block 2 (.loop (sr [oN 26 (bt .lss 25 24)] (.seq (cd 26 .skip (.exit 2)) (.seq (.block 3 (sr [oN 27 (ix 1 23 25),oN 28 (lF 1 27),oW 9 28] (rf 2 [oK 29 2 (oV 7),oK 30 2 (oV 0),oK 31 2 (oV 6),oK 32 2 (oV 9),oK 33 2 (cl 277 [30,31,32]),oN 34 (.nM 3 uz 1 [(0,(.t 33))]),oK 35 1 (.app 3 56 (.t 29) (.t 34)),oK 7 2 (oV 35)]))) (rg [oN 36 (bc .add 25 1),oW 25 36]))))))) (.seq (sr [oW 37 7,oN 38 (cl 244 [37]),oN 39 (nt 38)] (cd 39 (sr [oN 2 mN] .ret) .skip)) (rf 2 [oK 40 2 (oV 4),oK 41 2 (oV 7),oN 42 (.nM 1 [.jZ] 1 [(0,(.t 41))]),oK 43 1 (.app 1 24 (.t 40) (.t 42)),oK 4 2 (oV 43)])))))) (rg [oN 44 (bc .add 18 1),oW 18 44]))))))) (sr [oW 45 4,oW 2 45] .ret))))))⟩
structure wO (T:Tb):Prop where
 hT:T 275=some qp
 pK:rU T
 vk:xC T
 tJ:xE T
 Pv:zZ T
theorem agr{T:Tb}(h:nT T){neg:Bool}{n:Nat}(hn:0<n)(hl:(mk n).length<=60) :
  Run T (.fn 68 [.bool neg,.lG 0 0 (mk n).length] [some ⟨1,kR (mk n)⟩]) (.fn (.agg [.bool neg,.lG 0 0 (mk n).length]) [some ⟨1,kR (mk n)⟩]):=by
 obtain⟨σ',hr,hold,hlen⟩:=Rh h (neg:=neg) (n:=n) (σ:=[some ⟨1,kR (mk n)⟩]) (o:=0) rfl hn hl;have:=Run.gcF [0] (by simp) (fun i hi=>by
  have:i=0:=by simpa using hi
  subst this;rfl) hr
 have e:Hl [0] σ'=[some ⟨1,kR (mk n)⟩]:=by
  have h0:jX σ' 0=some ⟨1,kR (mk n)⟩:=hold 0 (by simp);simp [Hl,h0,I5]
 rw [e]at this;simpa [lD,lD.IC,place]using this
theorem anf{T:Tb}(h:nT T){as:List Src}{dst:Option Nat}{env:Nat->V}{σ:Store}{kp bs:Nat}{rs ms:List Nat}{k:List Nat->List Nat->Bool->St->Prop}{neg:Bool}{n o:Nat}
  (h0:jX σ o=some ⟨1,kR (mk n)⟩) (hn:0<n) (ha:(as.map fun s=>s.ev env)=[.bool neg,.lG o 0 (mk n).length]) (hl:(mk n).length<=60)
  (hk:k [o] [] false ⟨oh env dst (.agg [.bool neg,.lG o 0 (mk n).length]),σ,kp,bs,rs,ms⟩):Y5 T 68 as dst ⟨env,σ,kp,bs,rs,ms⟩ k:=by
 have e1:Hl [o] σ=[some ⟨1,kR (mk n)⟩]:=by simp [Hl,h0,I5]
 have ha2:(as.map fun s=>lD (place [o]) (s.ev env))=[.bool neg,.lG 0 0 (mk n).length]:=by
  have:=congrArg (List.map (lD (place [o]))) ha;rw [fG]at this;refine Eq.trans this ?_;simp [lD,place]
 refine aje (ρ:=[o]) (by simp) (fun q hq=>⟨_,by simp at hq;subst hq;exact h0⟩) ha2 (r:=.agg [.bool neg,.lG 0 0 (mk n).length]) (by rw [e1];exact agr h hn hl) (fun n=>by simp [lD,lD.IC,back]) hk
theorem ags{T:Tb}(h:uJ T){q:Rat}(ha:Q.ok (some q))(hq:q.num≠0):PO T 161 [kW (Q.raw (some q))] (kW (Q.raw (negQ (some q)))):=by
 obtain⟨l1,l2⟩:=KF ha;have e:Q.raw (negQ (some q))=⟨!decide (q.num<0),mk q.num.natAbs,mk q.den⟩:=by
  simp only [negQ,Q.raw,Rat.neg_num,Rat.neg_den,Int.natAbs_neg,R.mk.injEq,and_true];have e2:sg (!decide (q.num<0)) q.num.natAbs = -q.num:=by
   by_cases h1:q.num<0
   ·simp [sg,h1];omega
   simp [sg,h1];omega
  by_cases h1:q.num<0
  ·rw [aT h1];simp [bi];omega
  rw [bI h1];simp [bi];omega
 rw [e];refine lW (fun x d=>x == 139||x == 68) h.hT ?_;simp only [yO,Lz,St.enter,ak,aG,aV];refine ew ?_;refine jM (sK h.kU) ?_;refine ew ?_;have hmp:=FC.2 (show 0<q.num.natAbs by omega);refine qj (JQ h.qE (l:=mk q.num.natAbs) (by omega)) (by (refine ew ?_;try with_reducible exact aC);rfl) rfl ?_;intro v1 q1 o1 g1;have k1:=g1.ow;rcases k1.zG with ⟨h1,_,_⟩|⟨o,rfl,h1,ho1⟩
 ·rw [h1]at hmp;simp at hmp
 have f1:∀p∈o1,2<=p:=g1.fresh;have n1:=g1.nd;have B0:=g1.at 0 (by simp) rfl;have B1:=g1.at 1 (by simp) rfl;have lq1:2<=q1.length:=g1.len;have auZ:=g1.old;clear g1;refine ew ?_;refine anf h.lU (neg:=!decide (q.num<0)) h1 (by omega) rfl (by omega) ?_;refine EN @B0 @kP @lH ?_;refine qj (JQ h.qE (l:=mk q.den) (by omega)) (by (refine ew ?_;try with_reducible exact aC);rfl) rfl ?_;intro v2 q2 o2 g2;have k2:=g2.ow;have l2':=k2.leaf rfl;have f2:∀p∈o2,q1.length<=p:=g2.fresh;have n2:=g2.nd;have B1':=g2.at 1 (by omega) B1;have lq2:q1.length<=q2.length:=g2.len;have aqx:=g2.old;clear g2;have h2q:2<=q2.length:=by omega
 have fc:v2.cells? = some [v2]:=by
  rcases k2.zG with ⟨_,rfl,_⟩|⟨o',rfl,_,_⟩<;>rfl
 have fc2:=fun k=>XD (v:=v2) l2' k;refine ew7 @B1' @l2' @h2q @kP @lH @fc @fc2 ?_;refine⟨by unfold rO;rfl,?_⟩;have apJ:=k1.lt;refine wZ (Td (o1:=o1) (o2:=o2) (k1.frame fun p hp=>?_) (k2.frame fun p hp=>?_)) ?_
 ·have:=f1 p hp;rw [kK (by omega),aqx p (apJ p hp)]
 ·have:=f2 p hp;rw [kK (by omega)]
 rw [bF];refine⟨n1,n2,fun x hx y hy e=>?_⟩;have:=apJ x hx;have:=f2 y hy;omega
theorem YI{T:Tb}(h:uJ T){r:R}(hr:r.cn)(hs:0<wQ r):PO T 161 [kW r] (kW (negR r)):=by
 cases hq:r.q with
 |none=>unfold wQ at hs;rw [hq]at hs;simp [xO]at hs
 |
  some q =>
  have ha:Q.ok (some q):=by rw [<-hq];exact Kt r
  have hn:q.num≠0:=fun e=>by
   unfold wQ at hs;rw [hq]at hs;simp [xO,e,ZL]at hs
  have:=ags h ha hn;unfold negR;rw [hq];rw [<-hq,hr]at this;rw [hq]at this;exact this
def Ve(v u:Int)(s:R)(l:Lk):R :=
 if (l.a=v/\l.b=u)\/(l.a=u/\l.b=v)then negR l.w
 else if v=u/\(l.a=v\/l.b=v)then qm s l.w else s
def imP(s:List Lk)(v u:Int):Nat->R
 |0=>kZ 0
 |k+1=>Ve v u (imP s v u k) (s.getD k default)
theorem agu(s:List Lk)(v u:Int):∀k,(imP s v u k).cn
 |0=>zl (by decide)
 |
  k+1=>by
  have:=agu s v u k;simp only [imP];unfold Ve;split
  ·exact Wy _
  split
  ·exact DK _ _
  exact this
def V8(s:List Lk)(v:Int)(j:Nat):List R:=((kC s).take j).map fun u=>imP s v u s.length
def YJ(s:List Lk)(i:Nat):List (List R):=((kC s).take i).map fun v=>V8 s v (kC s).length
theorem ayL{s:List Lk}{v:Int}{j:Nat}(h:j<(kC s).length):V8 s v (j+1)=V8 s v j++[imP s v ((kC s).getD j default) s.length]:=by
 unfold V8;rw [take_snoc h,bT];rfl
theorem ayM{s:List Lk}{i:Nat}(h:i<(kC s).length):YJ s (i+1)=YJ s i++[V8 s ((kC s).getD i default) (kC s).length]:=by
 unfold YJ;rw [take_snoc h,bT];rfl
theorem WV{s:List Lk}{v:Int}{j:Nat}(h:j<=(kC s).length):(V8 s v j).length=j:=by unfold V8;rw [aU,fD];omega
theorem WW{s:List Lk}{i:Nat}(h:i<=(kC s).length):(YJ s i).length=i:=by unfold YJ;rw [aU,fD];omega
theorem ang(s:List Lk)(v:Int)(j:Nat):∀r∈V8 s v j,r.cn:=fun r hr=>by
 obtain⟨u,_,rfl⟩:=bC.1 hr;exact agu _ _ _ _
def imG(s:List Lk):Bool:=lI s&&(YJ s (kC s).length).all fun r=>r.all R.ok
def J9(s:List Lk):List (List R):=if imG s=true then YJ s (kC s).length else []
theorem abP{s:List Lk}(h:imG s=false):J9 s=[]:=by unfold J9;rw [h];rfl
theorem YK{s:List Lk}(h:imG s=true):J9 s=YJ s (kC s).length:=aQ h
theorem ayN{s:List Lk}(h:lI s=false):imG s=false:=by unfold imG;rw [h];rfl
theorem aqy{s:List Lk}{i:Nat}(hi:i<(kC s).length)(h:(V8 s ((kC s).getD i default) (kC s).length).all R.ok=false):imG s=false:=by
 unfold imG;rw [List.all_eq_false.2 ⟨V8 s ((kC s).getD i default) (kC s).length,by unfold YJ;rw [bK];exact bC.2 ⟨_,getD_mem hi,rfl⟩,by rw [h];simp⟩,jI]
theorem aqz{s:List Lk}(hb:lI s=true)(h:∀i,i<(kC s).length->(V8 s ((kC s).getD i default) (kC s).length).all R.ok=true):imG s=true:=by
 unfold imG;rw [hb,cZ,aX];intro r hr;unfold YJ at hr;rw [bK]at hr;obtain⟨v,hv,rfl⟩:=bC.1 hr;obtain⟨i,hi⟩:=bQ.1 hv;have hil:=(aP.1 hi).1;have:=h i hil
 rwa [aj,hi]at this
theorem anh(s:List Lk):∀r∈YJ s (kC s).length,(∀x∈r,x.cn)/\r.length=(kC s).length:=fun r hr=>by
 obtain⟨v,_,rfl⟩:=bC.1 hr;exact⟨ang _ _ _,WV (aK _)⟩
theorem au0(s:List Lk):PS (PS R.sz) (J9 s)<=100000/\Iz (Iz R.wf) (J9 s):=by
 cases h:imG s
 ·rw [abP h];exact⟨by simp [PS],by simp [Iz]⟩
 rw [YK h];have hn:=zU s;refine alP (n:=10) (fun r hr=>⟨(anh s r hr).1,by have:=(anh s r hr).2;omega⟩) (by omega) (by rw [WW (aK _)];exact hn)
structure aei (s:Store) (X:R) (x1 x2:V) (os:List Nat):Prop where
 a1:jX s 1=some ⟨3,[[.bool X.neg,x1,x2]]⟩
 ow:ni s [.bool X.neg,x1,x2] X.cells os
 nd:os.Nodup
 fr:∀o∈os,2<=o
 a0:jX s 0=some ⟨3,[[.bool false,.jZ,.jZ]]⟩
 len:2<=s.length
theorem aei.snoc{s:Store}{X:R}{x1 x2:V}{os:List Nat}(h:aei s X x1 x2 os){a:Option Obj}:aei (s++[a]) X x1 x2 os:=by
 have:=h.len;refine⟨(kQ (by omega)).trans h.a1,h.ow.frame fun o ho=>kQ (h.ow.lt o ho),h.nd,h.fr,(kQ (by omega)).trans h.a0,by simp;omega⟩
theorem aei.put{s q:Store}{X Z:R}{x1 x2 z1 z2:V}{os o2:List Nat}(h:aei s X x1 x2 os)(hq:ni q [.bool Z.neg,z1,z2] Z.cells o2)(nd:o2.Nodup)(fr:∀o∈o2,s.length<=o)(old:∀o,o<s.length->jX q o=jX s o)(hl:s.length<=q.length) :
  aei (q.set 1 (some ⟨3,[[.bool Z.neg,z1,z2]]⟩)) Z z1 z2 o2:=by
 have:=h.len;refine⟨kT (by omega),hq.frame fun o ho=>kK (by have:=fr o ho;omega),nd,fun o ho=>by have:=fr o ho;omega,?_,by simp;omega⟩;rw [kK (by omega),old 0 (by omega),h.a0]
theorem Vf{T:Tb}(h:zZ T){S:List Lk}{v u:Int}(hb:lI S=true)(hl:S.length<=1048576):PO T 277 [nY S,iv v,iv u] (kW (imP S v u S.length)):=by
 refine lW (fun x d=>x == 39||x == 131||x == 161) h.hT ?_;simp only [wu,Lz,St.enter,ak,aG,aV];refine ew ?_;refine nK (qN h.lC (n:=0)) (by (refine ew ?_;try with_reducible exact aC)) ?_;intro r q1 o1 G;obtain⟨_,rfl,hQ⟩:=G.ow.lJ;obtain⟨x1,x2,rfl⟩:=hQ.rat
 have l1:=ni.leaf hQ rfl;simp only [dF,dS,dI,aH]at l1;have gl:2<=q1.length:=by have:=G.len;simpa using this
 have g0:jX q1 0=some ⟨3,[[.bool false,.jZ,.jZ]]⟩:=G.old 0 (by simp);have S0:aei (q1.set 1 (some ⟨3,[[.bool (kZ 0).neg,x1,x2]]⟩)) (kZ 0) x1 x2 o1:=by
  have f1:=G.fresh;refine⟨kT (by omega),hQ.frame fun o ho=>kK (by have:=f1 o ho;simp at this;omega),G.nd,fun o ho=>by have:=f1 o ho;simp at this;omega,by rw [kK (by omega)];exact g0,by simp;omega⟩
 refine EN @l1 @gl @List.set_set.{0} ?_;refine kV (fun x d=>x == 39||x == 131||x == 161) (α:=Nat×Store×V×V×List Nat) (fun q=>⟨mM [.any,iv v,iv u,.any,.any,.any,.ptr 0 0 0,.ptr 1 0 0,.any,.any,.any,nY S,iv (S.length:Nat),iv (q.1:Nat)],q.2.1,0,0,[],[]⟩) (fun q=>q.1<=S.length/\aei q.2.1 (imP S v u q.1) q.2.2.1 q.2.2.2.1 q.2.2.2.2) (fun q=>S.length-q.1) rfl (0,q1.set 1 (some ⟨3,[[.bool (kZ 0).neg,x1,x2]]⟩),x1,x2,o1) ?_ ?_ ?_
 ·exact⟨fV _,S0⟩
 ·(refine kN ?_;exact uT)
 clear S0 g0 gl l1 hQ G;rintro⟨k,s,x1,x2,os⟩ ⟨hk,I⟩;dsimp only at hk I;have hX:=agu S v u k;have I1:=I.a1;have I0:=I.a0;have hsl:=I.len;have lx:=I.ow.leaf rfl;simp only [dF,dS,dI,aH]at lx;by_cases hc:(k:Int)<(S.length:Nat)
 ·have hkl:k<S.length:=by omega
  have hx:(S.map Lk.cells).getD k []=(S.getD k default).cells:=mg hkl;have es:imP S v u (k+1)=Ve v u (imP S v u k) (S.getD k default):=rfl;have hlk:=nZ hb (getD_mem hkl);obtain⟨hn0,hn1,hn2⟩:=qF hlk;obtain⟨kw,kx,ky,kp⟩:=Aw hlk;have cw:=EO kw;generalize S.getD k default=l at *;generalize imP S v u k=X at *;have Gx:=I.snoc (a:=some ⟨11,[l.cells]⟩);obtain⟨w1,w2,e,km1,km2⟩:=(Nw I.ow).1;simp only [jH,and_true,true_and]at e;obtain⟨rfl,rfl⟩:=e;have R1:=ah (fun a:Option Obj=>(km1.fr (s2:=s++[a]) (.old fun o ho=>kQ ho)).r11) (fun a:Option Obj=>(km2.fr (s2:=s++[a]) (.old fun o ho=>kQ ho)).r11);have e4:∀σ:Store,resolve σ FD (kW l.w)=some (kW l.w):=fun σ=>Gp (afc [l.w] _ (by simp));unfold Ve at es;by_cases huv:v=u
  ·have f0:(v=u)=True:=gZ huv;by_cases h1:l.a=v
   ·have f1:(l.a=v)=True:=gZ (by omega);have f2:(l.b=v)=False:=iy (by omega);have f3:(l.b=u)=False:=iy (by omega);have f4:(l.a=u)=True:=gZ (by omega);refine Du @hc @hx (ah f0 (ah f1 (ah f2 (ah f3 f4)))) @I1 ?_;refine nK (FM h.lN hX cw) (by (refine EN @R1 @e4 @hx ?_;try with_reducible exact aC);try rfl) ?_;intro r q2 o2 G;obtain⟨_,rfl,hQ⟩:=G.ow.lJ;obtain⟨z1,z2,rfl⟩:=hQ.rat
    have lz:=ni.leaf hQ rfl;simp only [dF,dS,dI,aH]at lz;have gl:s.length+1<=q2.length:=by have:=G.len;simpa using this
    have B1:jX q2 1=some ⟨3,[[.bool X.neg,x1,x2]]⟩:=(G.old 1 (by simp;omega)).trans Gx.a1;have B9:jX q2 s.length=some ⟨11,[l.cells]⟩:=(G.old s.length (by simp)).trans (tZ _ _);have Z:=Gx.put hQ G.nd (fun o ho=>G.fresh o ho) (fun o ho=>G.old o ho) G.len;have hns:s.length≠1:=by omega
    have h1q:1<q2.length:=by omega
    refine Jg @lz @B1 @B9 (ah f0 (ah f1 (ah f2 (ah f3 f4)))) @List.set_set.{0} ?_;refine⟨(k+1,?st1,z1,z2,o2),?c1,⟨?c2,?c4⟩,?c3⟩
    case c3=>dsimp only;(refine kN ?_;exact uT)
    case c1=>dsimp only;omega
    case c2=>dsimp only;omega
    case c4 =>
     dsimp only;rw [es,aO (by omega),aQ (by omega)];exact Z
   by_cases h2:l.b=v
   ·have f1:(l.a=v)=False:=iy (by omega);have f2:(l.b=v)=True:=gZ (by omega);have f3:(l.b=u)=True:=gZ (by omega);have f4:(l.a=u)=False:=iy (by omega);refine Du @hc @hx (ah f0 (ah f1 (ah f2 (ah f3 f4)))) @I1 ?_;refine nK (FM h.lN hX cw) (by (refine EN @R1 @e4 @hx ?_;try with_reducible exact aC);try rfl) ?_;intro r q2 o2 G;obtain⟨_,rfl,hQ⟩:=G.ow.lJ;obtain⟨z1,z2,rfl⟩:=hQ.rat
    have lz:=ni.leaf hQ rfl;simp only [dF,dS,dI,aH]at lz;have gl:s.length+1<=q2.length:=by have:=G.len;simpa using this
    have B1:jX q2 1=some ⟨3,[[.bool X.neg,x1,x2]]⟩:=(G.old 1 (by simp;omega)).trans Gx.a1;have B9:jX q2 s.length=some ⟨11,[l.cells]⟩:=(G.old s.length (by simp)).trans (tZ _ _);have Z:=Gx.put hQ G.nd (fun o ho=>G.fresh o ho) (fun o ho=>G.old o ho) G.len;have hns:s.length≠1:=by omega
    have h1q:1<q2.length:=by omega
    refine Jg @lz @B1 @B9 (ah f0 (ah f1 (ah f2 (ah f3 f4)))) @List.set_set.{0} ?_;refine⟨(k+1,?st2,z1,z2,o2),?c1,⟨?c2,?c4⟩,?c3⟩
    case c3=>dsimp only;(refine kN ?_;exact uT)
    case c1=>dsimp only;omega
    case c2=>dsimp only;omega
    case c4 =>
     dsimp only;rw [es,aO (by omega),aQ (by omega)];exact Z
   have f1:(l.a=v)=False:=iy (by omega);have f2:(l.b=v)=False:=iy (by omega);have f3:(l.b=u)=False:=iy (by omega);have f4:(l.a=u)=False:=iy (by omega);refine Du @hc @hx (ah f0 (ah f1 (ah f2 (ah f3 f4)))) @I1 ?_;refine⟨(k+1,?st3,x1,x2,os),?c1,⟨?c2,?c4⟩,?c3⟩
   case c3=>dsimp only;(refine kN ?_;exact uT)
   case c1=>dsimp only;omega
   case c2=>dsimp only;omega
   case c4 =>
    dsimp only;rw [es,aO (by omega),aO (by omega)];exact Gx
  have f0:(v=u)=False:=iy huv;by_cases h1:l.a=v
  ·by_cases h2:l.b=u
   ·have f1:(l.a=v)=True:=gZ (by omega);have f3:(l.b=u)=True:=gZ (by omega);have f4:(l.a=u)=False:=iy (by omega);refine Du @hc @hx (ah f0 (ah f1 (ah f3 f4))) @I1 ?_;refine nK (YI h.uK cw kp) (by (refine EN @R1 @e4 @hx ?_;try with_reducible exact aC);try rfl) ?_;intro r q2 o2 G;obtain⟨_,rfl,hQ⟩:=G.ow.lJ;obtain⟨z1,z2,rfl⟩:=hQ.rat
    have lz:=ni.leaf hQ rfl;simp only [dF,dS,dI,aH]at lz;have gl:s.length+1<=q2.length:=by have:=G.len;simpa using this
    have B1:jX q2 1=some ⟨3,[[.bool X.neg,x1,x2]]⟩:=(G.old 1 (by simp;omega)).trans Gx.a1;have B9:jX q2 s.length=some ⟨11,[l.cells]⟩:=(G.old s.length (by simp)).trans (tZ _ _);have Z:=Gx.put hQ G.nd (fun o ho=>G.fresh o ho) (fun o ho=>G.old o ho) G.len;have hns:s.length≠1:=by omega
    have h1q:1<q2.length:=by omega
    refine Jg @lz @B1 @B9 (ah f0 (ah f1 (ah f3 f4))) @List.set_set.{0} ?_;refine⟨(k+1,?st4,z1,z2,o2),?c1,⟨?c2,?c4⟩,?c3⟩
    case c3=>dsimp only;(refine kN ?_;exact uT)
    case c1=>dsimp only;omega
    case c2=>dsimp only;omega
    case c4 =>
     dsimp only;rw [es,aQ (by omega)];exact Z
   have f1:(l.a=v)=True:=gZ (by omega);have f3:(l.b=u)=False:=iy (by omega);have f4:(l.a=u)=False:=iy (by omega);refine Du @hc @hx (ah f0 (ah f1 (ah f3 f4))) @I1 ?_;refine⟨(k+1,?st5,x1,x2,os),?c1,⟨?c2,?c4⟩,?c3⟩
   case c3=>dsimp only;(refine kN ?_;exact uT)
   case c1=>dsimp only;omega
   case c2=>dsimp only;omega
   case c4 =>
    dsimp only;rw [es,aO (by omega),aO (by omega)];exact Gx
  by_cases h2:l.a=u
  ·by_cases h3:l.b=v
   ·have f1:(l.a=v)=False:=iy (by omega);have f4:(l.a=u)=True:=gZ (by omega);have f2:(l.b=v)=True:=gZ (by omega);refine Du @hc @hx (ah f0 (ah f1 (ah f4 f2))) @I1 ?_;refine nK (YI h.uK cw kp) (by (refine EN @R1 @e4 @hx ?_;try with_reducible exact aC);try rfl) ?_;intro r q2 o2 G;obtain⟨_,rfl,hQ⟩:=G.ow.lJ;obtain⟨z1,z2,rfl⟩:=hQ.rat
    have lz:=ni.leaf hQ rfl;simp only [dF,dS,dI,aH]at lz;have gl:s.length+1<=q2.length:=by have:=G.len;simpa using this
    have B1:jX q2 1=some ⟨3,[[.bool X.neg,x1,x2]]⟩:=(G.old 1 (by simp;omega)).trans Gx.a1;have B9:jX q2 s.length=some ⟨11,[l.cells]⟩:=(G.old s.length (by simp)).trans (tZ _ _);have Z:=Gx.put hQ G.nd (fun o ho=>G.fresh o ho) (fun o ho=>G.old o ho) G.len;have hns:s.length≠1:=by omega
    have h1q:1<q2.length:=by omega
    refine Jg @lz @B1 @B9 (ah f0 (ah f1 (ah f4 f2))) @List.set_set.{0} ?_;refine⟨(k+1,?st6,z1,z2,o2),?c1,⟨?c2,?c4⟩,?c3⟩
    case c3=>dsimp only;(refine kN ?_;exact uT)
    case c1=>dsimp only;omega
    case c2=>dsimp only;omega
    case c4 =>
     dsimp only;rw [es,aQ (by omega)];exact Z
   have f1:(l.a=v)=False:=iy (by omega);have f4:(l.a=u)=True:=gZ (by omega);have f2:(l.b=v)=False:=iy (by omega);refine Du @hc @hx (ah f0 (ah f1 (ah f4 f2))) @I1 ?_;refine⟨(k+1,?st7,x1,x2,os),?c1,⟨?c2,?c4⟩,?c3⟩
   case c3=>dsimp only;(refine kN ?_;exact uT)
   case c1=>dsimp only;omega
   case c2=>dsimp only;omega
   case c4 =>
    dsimp only;rw [es,aO (by omega),aO (by omega)];exact Gx
  have f1:(l.a=v)=False:=iy (by omega);have f4:(l.a=u)=False:=iy (by omega);refine Du @hc @hx (ah f0 (ah f1 f4)) @I1 ?_;refine⟨(k+1,?st8,x1,x2,os),?c1,⟨?c2,?c4⟩,?c3⟩
  case c3=>dsimp only;(refine kN ?_;exact uT)
  case c1=>dsimp only;omega
  case c2=>dsimp only;omega
  case c4 =>
   dsimp only;rw [es,aO (by omega),aO (by omega)];exact Gx
 have hke:k=S.length:=by omega
 rw [hke]at I I1 hX;generalize imP S v u S.length=X at *;refine Jg @hc @I1 @I0 @lx @List.set_set.{0} ?_;have f1:=I.fr;exact wZ (qV (I.ow.frame fun o ho=>kK (by have:=f1 o ho;omega))) I.nd
theorem Oy{T:Tb}(h:wO T){S:List Lk}(hw:Iz Lk.wf S)(hl:S.length<=1048576):PO T 275 [nY S] (rG (J9 S)):=by
 have ci:=DX h.pK hw
 cases hb:lI S
 ·rw [hb]at ci;rw [abP (ayN hb)];refine lW nR h.hT ?_;simp only [qp,Lz,St.enter,ak,aG,aV];refine ew ?_;refine jM ci ?_;refine ew ?_;exact qC
 rw [hb]at ci;have cn:=(JZ h.vk (l:=S) hw).Wn (kJ _ _);rw [<-Hy hb]at cn;have hnl:=zU S;refine lW (fun x d=>x == 277) h.hT ?_;simp only [qp,Lz,St.enter,ak,aG,aV];refine ew ?_;refine jM ci ?_;refine ew ?_;refine jM cn ?_;refine ew ?_;refine kV (fun x d=>x == 277) (α:=Nat×Store×V×List (List V)×List Nat×List (Nat×Obj)) (fun q=>⟨mM [nY S,.any,.any,ints (kC S),q.2.2.1,.any,.any,.any,.any,.any,.any,.any,.any,.any,.any,.any,ints (kC S),iv ((kC S).length:Nat),iv (q.1:Nat)],q.2.1,0,0,[],[]⟩) (fun q=>(q.1<=(kC S).length/\LAt 1 q.2.2.1 q.2.2.2.1 q.2.2.2.2.2/\(∀r∈q.2.2.2.1,r.length=1)/\q.2.2.2.1.length=q.1/\∀z,z<q.1->(V8 S ((kC S).getD z default) (kC S).length).all R.ok=true)/\Ep q.2.1 q.2.2.2.1.flatten (tO (YJ S q.1)) q.2.2.2.2.1 q.2.2.2.2.2) (fun q=>(kC S).length-q.1) rfl (0,[none],.jZ,[],[],[]) ?_ ?_ ?_
 ·exact⟨⟨by omega,.inl ⟨rfl,rfl,rfl⟩,by simp,rfl,by intro z hz;omega⟩,⟨⟨by simp [tO,YJ,ni],.nil⟩,by simp⟩⟩
 ·(refine kN ?_;exact uT)
 rintro⟨i,s,v4,OA,os,M⟩ ⟨⟨hi,hv6,hOA,hOl,hok⟩,E⟩;dsimp only at hi hv6 hOA hOl hok E;by_cases hcc:(i:Int)<((kC S).length:Nat)
 ·have hil:i<(kC S).length:=by omega
  have eO:=ayM hil;have hTO:OA.flatten.length=(tO (YJ S i)).length:=by rw [afI hOA,at7,WW hi];omega
  have hbad:=aqy hil;have hok2:(V8 S ((kC S).getD i default) (kC S).length).all R.ok=true->∀z,z<i+1->(V8 S ((kC S).getD z default) (kC S).length).all R.ok=true:=fun h z hz=>by
   by_cases e:z=i
   ·subst e;exact h
   exact hok z (by omega)
  generalize aDA:tO (YJ S i)=TO at *;obtain⟨v,hv⟩:∃v,(kC S).getD i 0=v:=⟨_,rfl⟩;rw [show (kC S).getD i default=v from hv]at eO hbad hok2;refine Af @hcc @hv ?_;refine kV (fun x d=>x == 277) (α:=Nat×Store×V×List (List V)×List Nat×List (Nat×Obj)) (fun q=>⟨mM [nY S,.any,.any,ints (kC S),v4,.any,iv v,q.2.2.1,.any,.any,.any,.any,.any,.any,.any,.any,ints (kC S),iv ((kC S).length:Nat),iv (i:Nat),.any,.any,.any,.any,ints (kC S),iv ((kC S).length:Nat),iv (q.1:Nat)],q.2.1,0,0,[],[]⟩) (fun q=>(q.1<=(kC S).length/\LAt 3 q.2.2.1 q.2.2.2.1 q.2.2.2.2.2/\(∀r∈q.2.2.2.1,r.length=3)/\q.2.2.2.1.length=q.1)/\Ep q.2.1 (q.2.2.2.1.flatten++OA.flatten) (rT (V8 S v q.1)++TO) q.2.2.2.2.1 (q.2.2.2.2.2++M)) (fun q=>(kC S).length-q.1) rfl (0,s++[none],.jZ,[],os,[]) ?_ ?_ ?_
  ·exact⟨⟨by omega,.inl ⟨rfl,rfl,rfl⟩,by simp,rfl⟩,by simpa [rT,V8]using E.snoc⟩
  ·(refine kN ?_;exact uT)
  rintro⟨j,s,v8,RA,os,N⟩ ⟨⟨hj,hv8,hRA,hRl⟩,E⟩;dsimp only at hj hv8 hRA hRl E;by_cases hcj:(j:Int)<((kC S).length:Nat)
  ·have hjl:j<(kC S).length:=by omega
   have eR:=ayL (v:=v) hjl;have hTR:RA.flatten.length=(rT (V8 S v j)).length:=by rw [flat3 hRA,afG,WV hj];omega
   generalize aDC:rT (V8 S v j)=TR at *;obtain⟨u,hu⟩:∃u,(kC S).getD j 0=u:=⟨_,rfl⟩;rw [show (kC S).getD j default=u from hu]at eR;have PI:=Vf h.Pv (v:=v) (u:=u) hb hl;generalize imP S v u S.length=X at *;refine Af @hcj @hu ?_;refine nK PI (by (refine ew ?_;try with_reducible exact aC)) ?_;intro r q1 o1 G;obtain⟨_,rfl,Yc⟩:=G.ow.lJ;obtain⟨x1,x2,rfl⟩:=Yc.rat
   have E1:=E.got (s1:=(s++[none])++[none]) (fun o ho=>by simp only [cO];exact pq ho) (by simp) Yc G.nd G.fresh G.old;have gl:s.length+2<=q1.length:=by simpa using G.len
   have l1:=ni.leaf Yc rfl;simp only [dF,dS,dI,aH]at l1;have hCl:(RA.flatten++OA.flatten).length=(TR++TO).length:=by rw [aS,aS,hTR,hTO]
   obtain⟨os2,E3,hm2⟩:=Ep.swap (a:=RA.flatten++OA.flatten) (b:=[.bool X.neg,x1,x2]) (c:=[]) (ta:=TR++TO) (tb:=X.cells) (tc:=[]) (by simpa only [aW]using E1) hCl rfl;simp only [aW]at E3;obtain⟨os',E5,hm5⟩:=Ep.swap (a:=[.bool X.neg,x1,x2]) (b:=RA.flatten) (c:=OA.flatten) (ta:=X.cells) (tb:=TR) (tc:=TO) E3 rfl hTR;have E5:Ep q1 ((RA++[[.bool X.neg,x1,x2]]).flatten++OA.flatten) ((TR++X.cells)++TO) os' (N++M):=by simpa [gV]using E5
   have hos:∀o∈os',o<s.length\/s.length+2<=o:=fun o ho=>by
    have:=(hm2 o).1 ((hm5 o).1 ho);rcases aN.1 this with h|h
    ·exact .inl (E.adu o h)
    have:=G.fresh o h;simp at this;exact .inr (by omega)
   have hLM:∀q∈N++M,q.1<s.length/\q.1∉os':=fun q hq=>⟨E.lt q hq,(E5.l q hq).2⟩;have hR':=ahf hRA (show ([.bool X.neg,x1,x2]:List V).length=3 from rfl);have hstep:∀(S':Store) (q:Nat),(∀o∈os',jX S' o=jX q1 o)->(∀z∈M,jX S' z.1=jX q1 z.1)->s.length<=q->q<s.length+2->jX S' q=some ⟨3,RA++[[.bool X.neg,x1,x2]]⟩ ->
     Ep S' ((RA++[[.bool X.neg,x1,x2]]).flatten++OA.flatten) (rT (V8 S v j++[X])++TO) os' ([(q,⟨3,RA++[[.bool X.neg,x1,x2]]⟩)]++M):=by
    intro S' q h1 h2 h3 h3' h4;rw [afF,aDC];refine E5.to h1 fun z hz=>?_;rcases aN.1 hz with hz|hz
    ·rw [bD.1 hz];exact .inr ⟨h4,fun hm=>by have:=hos _ hm;dsimp only at this;omega⟩
    exact .inl ⟨by simp [hz],h2 z hz⟩
   rcases hv8 with ⟨rfl,rfl,rfl⟩|⟨pr,rfl,rfl⟩
   ·refine EN @hcj @l1 @gl ?_;refine⟨by omega,?_⟩;refine⟨(j+1,?st,.lG (s.length+1) 0 1,[]++[[.bool X.neg,x1,x2]],os',[(s.length+1,⟨3,[]++[[.bool X.neg,x1,x2]]⟩)]),?c1,⟨⟨?c2,.inr ⟨_,rfl,rfl⟩,hR',?c4⟩,?c6⟩,?c3⟩
    case c3=>dsimp only;(refine kN ?_;exact uT)
    case c1=>dsimp only;omega
    case c2=>dsimp only;omega
    case c4=>dsimp only;simp at hRl ⊢;omega
    case c6 =>
     dsimp only;rw [eR];refine hstep _ _ (fun o ho=>?_) (fun z hz=>?_) (by omega) (by omega) ?_
     ·have:=hos o ho;have n1:o≠s.length:=by omega
      have n2:o≠s.length+1:=by omega
      exact Ib
     ·have:=(hLM z (by simp [hz])).1;exact Ib
     exact kT (by simp<;>omega)
   have Lr:=E.at0 (p:=pr) (ob:=⟨3,RA⟩) (by simp);have Lr2:jX q1 pr=some ⟨3,RA⟩:=(G.old pr (by simp;omega)).trans ((by simp only [cO];exact pq Lr.2:_=jX s pr).trans Lr.1);have hpq:pr<q1.length:=by omega
   refine Jg @hcj @l1 @gl @Lr2 @hpq ?_;refine⟨by omega,?_⟩;refine⟨(j+1,?st2,.lG (s.length+1) 0 (RA.length+1),RA++[[.bool X.neg,x1,x2]],os',[(s.length+1,⟨3,RA++[[.bool X.neg,x1,x2]]⟩)]),?c1,⟨⟨?c2,.inr ⟨_,by dsimp only;rw [List.length_append];rfl,rfl⟩,hR',?c4⟩,?c6⟩,?c3⟩
   case c3=>dsimp only;(refine kN ?_;exact uT)
   case c1=>dsimp only;omega
   case c2=>dsimp only;omega
   case c4=>dsimp only;simp at hRl ⊢;omega
   case c6 =>
    dsimp only;rw [eR];refine hstep _ _ (fun o ho=>?_) (fun z hz=>?_) (by omega) (by omega) ?_
    ·have:=hos o ho;have n1:o≠s.length:=by omega
     have n2:o≠s.length+1:=by omega
     have ha:o≠pr:=fun e=>(hLM (pr,⟨3,RA⟩) (by simp)).2 (e▸ho);exact Ib
    ·have:=(hLM z (by simp [hz])).1;have hne:z.1≠pr:=fun e=>by
      have k1:=(E.l z (by simp [hz])).1;rw [e,Lr.1]at k1;rcases hv6 with ⟨_,_,rfl⟩|⟨po,_,rfl⟩
      ·cases hz
      rw [bD.1 hz]at k1;cases k1
     exact Ib
    exact kT (by simp<;>omega)
  have hje:j=(kC S).length:=by omega
  rcases hv8 with ⟨rfl,rfl,rfl⟩|⟨pr,rfl,rfl⟩
  ·simp at hRl;omega
  have Lr:=E.at0 (p:=pr) (ob:=⟨3,RA⟩) (by simp);rw [hje]at E;have aDE:=ang S v (kC S).length;have hRow:(V8 S v (kC S).length).length=RA.length:=by rw [WV (aK _)];omega
  have eO2:tO (YJ S (i+1))=TO++[oZ (V8 S v (kC S).length)]:=by rw [eO,at6,aDA]
  generalize V8 S v (kC S).length=row at *;have cg:=LU h.tJ aDE (by omega);have hRr:∀r∈row.map R.cells,r.length=3:=fun r hr=>by obtain⟨x,_,rfl⟩:=bC.1 hr;rfl
  have E':Ep s (RA.flatten++OA.flatten) ((row.map R.cells).flatten++TO) os ([(pr,⟨3,RA⟩)]++M):=E;have Rf:=E'.abl (p:=pr) (n:=3) (by simp) hRA hRr (by simp [hRow]) FD (Hw _ _)
  cases hg:row.all R.ok
  ·rw [abP (hbad hg)];rw [hg]at cg;refine Du @hcj @Rf @kP @lH ?_;refine jM cg ?_;refine ew ?_;exact qC
  have ayP:=hok2 hg;rw [hg]at cg;obtain⟨os1,E1⟩:=E'.close (p:=pr) (n:=3) (by simp) hRA hRr (by simp [hRow]);obtain⟨os2,E2,_⟩:=Ep.swap (a:=[.lG pr 0 RA.length]) (b:=OA.flatten) (c:=[]) (ta:=[oZ row]) (tb:=TO) (tc:=[]) (show Ep s ([V.lG pr 0 RA.length]++(OA.flatten++[])) ([oZ row]++(TO++[])) _ _ from by rw [aW,aW];exact E1) rfl hTO;simp only [aW]at E2;have hlt':∀o∈os2,o<s.length:=E2.adu;have hO':=ahf hOA (show ([.lG pr 0 RA.length]:List V).length=1 from rfl);have hstep:∀(S':Store) (q:Nat),(∀o∈os2,jX S' o=jX s o)->s.length<=q->jX S' q=some ⟨1,OA++[[.lG pr 0 RA.length]]⟩ ->
    Ep S' (OA++[[V.lG pr 0 RA.length]]).flatten (tO (YJ S (i+1))) os2 [(q,⟨1,OA++[[.lG pr 0 RA.length]]⟩)]:=by
   intro S' q h1 h3 h4;rw [eO2,gV,show ([[V.lG pr 0 RA.length]]:List (List V)).flatten=[V.lG pr 0 RA.length]from rfl];refine E2.to h1 fun z hz=>?_;rw [bD.1 hz];exact .inr ⟨h4,fun hm=>by have:=hlt' _ hm;dsimp only at this;omega⟩
  refine Du @hcj @Rf @kP @lH ?_;refine jM cg ?_;rcases hv6 with ⟨rfl,rfl,rfl⟩|⟨po,rfl,rfl⟩
  ·refine y8 @Lr ?_;refine⟨by omega,?_⟩;refine⟨(i+1,?st3,.lG (s.length+1) 0 1,[]++[[.lG pr 0 RA.length]],os2,[(s.length+1,⟨1,[]++[[.lG pr 0 RA.length]]⟩)]),?c1,⟨⟨?c2,.inr ⟨_,rfl,rfl⟩,hO',?c4,ayP⟩,?c6⟩,?c3⟩
   case c3=>dsimp only;(refine kN ?_;exact uT)
   case c1=>dsimp only;omega
   case c2=>dsimp only;omega
   case c4=>dsimp only;simp at hOl ⊢;omega
   case c6 =>
    refine hstep _ _ (fun o ho=>?_) (by omega) ?_
    ·have:=hlt' o ho;exact Ib
    exact kT (by simp<;>omega)
  have Lo:=E.at0 (p:=po) (ob:=⟨1,OA⟩) (by simp);have npo:po≠pr:=fun e=>by have:=Lr.1;rw [<-e,Lo.1]at this;cases this
  have hno:po∉os2:=(E2.l (po,⟨1,OA⟩) (by simp;exact fun e=>npo e)).2;refine Af @Lr @Lo ?_;refine⟨by omega,?_⟩;refine⟨(i+1,?st4,.lG (s.length+1) 0 (OA.length+1),OA++[[.lG pr 0 RA.length]],os2,[(s.length+1,⟨1,OA++[[.lG pr 0 RA.length]]⟩)]),?c1,⟨⟨?c2,.inr ⟨_,by dsimp only;rw [List.length_append];rfl,rfl⟩,hO',?c4,ayP⟩,?c6⟩,?c3⟩
  case c3=>dsimp only;(refine kN ?_;exact uT)
  case c1=>dsimp only;omega
  case c2=>dsimp only;omega
  case c4=>dsimp only;simp at hOl ⊢;omega
  case c6 =>
   refine hstep _ _ (fun o ho=>?_) (by omega) ?_
   ·have:=hlt' o ho;have ha:o≠po:=fun e=>hno (e▸ho);exact Ib
   exact kT (by simp<;>omega)
 have hie:i=(kC S).length:=by omega
 rw [hie]at E hok;rw [YK (aqz hb hok)];have hl2:(YJ S (kC S).length).length=OA.length:=by rw [WW (aK _)];omega
 generalize YJ S (kC S).length=mm at *;rcases hv6 with ⟨rfl,rfl,rfl⟩|⟨po,rfl,rfl⟩
 ·have:mm=[]:=aY (by simpa using hl2);subst this;refine y8 @hcc ?_;exact qC
 have hTr:∀r∈mm.map fun r=>[oZ r],r.length=1:=fun r hr=>by obtain⟨x,_,rfl⟩:=bC.1 hr;rfl
 obtain⟨os1,E1⟩:=Ep.close (A:=OA) (T:=mm.map fun r=>[oZ r]) (c:=[]) (tc:=[]) (p:=po) (n:=1) (by simpa only [aW,tO]using E) (by simp) hOA hTr (by simp [hl2]);refine y8 @hcc ?_;obtain⟨v,vs,o1,o2,e,rfl,k1,k2⟩:=E1.c.ow.inv;simp only [jH]at e;obtain⟨rfl,rfl⟩:=e;obtain⟨_,rfl⟩:=k2.Dt;exact wZ k1 (by have:=E1.c.nd;simpa using this)
def abQ(n:Nat)(rp:Nat->Nat)(M:MF):List (List V):=(List.range n).map fun x=>[.lG (rp x) 0 (M x).length]
theorem aej(n:Nat)(rp:Nat->Nat)(M:MF):(abQ n rp M).length=n:=by simp [abQ]
theorem ani{n:Nat}{rp:Nat->Nat}{M:MF}{i p:Nat}{r:List R}:(abQ n rp M).set i [.lG p 0 r.length]=abQ n (fun x=>if x=i then p else rp x) (adF M i r):=by
 apply fP
 intro x;unfold abQ adF;rw [fB];simp only [aU,jG,bM];by_cases h:i=x
 ·subst h;by_cases hn:i<n
  ·simp [hn]
  rw [aQ rfl,aO hn,aZ (by simpa using hn)];rfl
 rw [aO h];by_cases hn:x<n
 ·rw [dJ hn];simp only [dh];rw [aO (fun e:x=i=>h e.symm),aO fun e:x=i=>h e.symm]
 rw [aZ (by simpa using hn)];rfl
structure V9 (s:Store) (q n:Nat) (rp:Nat->Nat) (M:MF):Prop where
 inj:∀i j,i<n->j<n->rp i=rp j->i=j
 out:jX s q=some ⟨1,abQ n rp M⟩
 row:∀i,i<n->jX s (rp i)=some ⟨3,(M i).map R.cells⟩
theorem V9.lt{s:Store}{q n:Nat}{rp:Nat->Nat}{M:MF}(h:V9 s q n rp M):q<s.length/\∀i,i<n->rp i<s.length:=⟨kX h.out,fun i hi=>kX (h.row i hi)⟩
theorem V9.ne{s:Store}{q n:Nat}{rp:Nat->Nat}{M:MF}(h:V9 s q n rp M){i:Nat}(hi:i<n):rp i≠q:=fun e=>by
 have:=h.row i hi;rw [e,h.out]at this;cases this
theorem V9.ext{s:Store}{q n:Nat}{rp:Nat->Nat}{M M2:MF}(h:V9 s q n rp M)(e:∀i,M i=M2 i):V9 s q n rp M2:=by
 have:M=M2:=funext e;subst this;exact h
theorem V9.res{s:Store}{q n:Nat}{rp:Nat->Nat}{M:MF}(h:V9 s q n rp M):resolve s FD (.lG q 0 n)=some (rG ((List.range n).map M)):=by
 show resolve s (11+1) _=_;rw [resolve];simp only [h.out];rw [aQ (by rw [aej];omega),bZ,bH (by rw [aej];omega)];have:((abQ n rp M).mapM fun (r:List V)=>r.mapM (resolve s 11))=some ((List.range n).map fun i=>[oZ (M i)]):=by
  unfold abQ;rw [List.mapM_map];refine mapM_some fun i hi=>?_;have hi:=eG.1 hi;have h1:=(abq (s:=s) (M i)).alV (h.row i hi) 7;simp only [Function.comp,bU,List.mapM_nil];rw [h1];rfl
 rw [this,dh];unfold rG;rw [fG];rfl
theorem V9.put{s s2:Store}{q n i p:Nat}{rp:Nat->Nat}{M:MF}{r:List R}(h:V9 s q n rp M)(hi:i<n)(hq:jX s2 q=some ⟨1,(abQ n rp M).set i [.lG p 0 r.length]⟩)(hp:jX s2 p=some ⟨3,r.map R.cells⟩)(hpl:s.length<=p)
  (ho:∀o,o<s.length->o≠q->o≠rp i->jX s2 o=jX s o):V9 s2 q n (fun x=>if x=i then p else rp x) (adF M i r):=by
 refine⟨fun x y hx hy e=>?_,by rw [hq,ani],fun x hx=>?_⟩
 ·by_cases h1:x=i<;>by_cases h2:y=i
  ·omega
  ·rw [aQ h1,aO h2]at e;have:=h.lt.2 y hy;omega
  ·rw [aO h1,aQ h2]at e;have:=h.lt.2 x hx;omega
  rw [aO h1,aO h2]at e;exact h.inj x y hx hy e
 by_cases h1:x=i
 ·subst h1;rw [aQ rfl,apQ];exact hp
 rw [aO h1,apR h1,ho _ (h.lt.2 x hx) (h.ne hx) fun e=>h1 (h.inj x i hx hi e)];exact h.row x hx
theorem MH.snoc{s s2:Store}{q q2 p2 i c:Nat}{rp:Nat->Nat}{A:Nat->List (List V)}{M:MF}(h:i=0\/(0<i/\MH s q i c rp A M))(hq:jX s2 q2=some ⟨1,BF i c rp++[[.lG p2 0 c]]⟩)(hp:jX s2 p2=some ⟨3,A i⟩)(hok:Ee s2 (A i) (M i))(hpl:s.length<=p2)
  (old:∀o,o<s.length->o≠q->jX s2 o=jX s o):MH s2 q2 (i+1) c (fun x=>if x=i then p2 else rp x) A M:=by
 have hlt:∀x,x<i->rp x<s.length/\rp x≠q:=fun x hx=>by
  rcases h with h|⟨_,h⟩
  ·omega
  exact⟨h.lt.2 x hx,h.ne hx⟩
 refine⟨fun x y hx hy e=>?_,?_,fun x hx=>?_,fun x hx=>?_⟩
 ·by_cases h1:x=i
  ·by_cases h2:y=i
   ·omega
   rw [aQ h1,aO h2]at e;have:=(hlt y (by omega)).1;omega
  by_cases h2:y=i
  ·rw [aO h1,aQ h2]at e;have:=(hlt x (by omega)).1;omega
  rw [aO h1,aO h2]at e;rcases h with h|⟨_,h⟩
  ·omega
  exact h.inj x y (by omega) (by omega) e
 ·rw [hq];unfold BF;rw [iY,bT]
  congr 2
  congr 1
  ·refine fZ fun x hx=>?_;have:=eG.1 hx;show [V.lG (rp x) 0 c]=[V.lG (if x=i then p2 else rp x) 0 c];rw [aO (by omega)]
  simp
 ·by_cases h1:x=i
  ·subst h1;rw [aQ rfl];exact hp
  rw [aO h1];have hxi:x<i:=by omega
  rcases h with h|⟨_,h⟩
  ·omega
  exact(old _ (hlt x hxi).1 (hlt x hxi).2).trans (h.row x hxi)
 by_cases h1:x=i
 ·subst h1;exact hok
 rcases h with h|⟨hi0,h⟩
 ·omega
 exact(h.cel x (by omega)).fr (h.kpq hi0 fun o h1 h2=>old o h2 h1)
theorem Ee.drop{s:Store}{A:List (List V)}{r:List R}(h:Ee s A r)(d:Nat):Ee s (A.drop d) (r.drop d):=by
 refine⟨by rw [iQ,iQ,h.1],fun j hj=>?_⟩;rw [iQ]at hj;have:=h.2 (d+j) (by omega);rw [aj,dY,aj,dY,<-aj,<-aj];exact this
theorem abo.res1{s:Store}{q:Nat}{Z:List (Nat×List R)}(h:∀x∈Z,jX s x.1=some ⟨3,x.2.map R.cells⟩)(hq:jX s q=some ⟨1,Z.map afJ⟩):Qq s 0 Z.length (some ⟨1,Z.map afJ⟩)=some (rG (Z.map (·.2))):=by
 have:resolve s 11 (.lG q 0 Z.length)=some (rG (Z.map (·.2))):=by
  show resolve s (8+2+1) _=_;unfold resolve;simp only [hq];rw [aQ (by simp),bZ,bH (by simp),abo.map h];rfl
 rw [<-this,agV,hq]
def pI:Fn:=⟨1,101,[.tmp 2,.tmp 3],(sr [oN 2 mN,oN 3 mF] (.seq (sr [oW 16 0,oN 17 (cl 89 [16]),oN 18 (nt 17)] (cd 18 (sr [oN 2 mN,oN 3 mF] .ret) .skip)) (sr [oW 19 0,oN 20 (cl 180 [19]),oW 4 20] (sr [oW 21 0,oN 22 (cl 275 [21]),oW 5 22] (sr [oW 24 0,oN 25 (cl 276 [24]),oW 23 25,oN 26 (ex 0 23),oN 27 (ex 1 23),oW 6 26,oW 7 27] (.seq (sr [oW 28 5,oN 29 (ln 28),oW 30 4,oN 31 (ln 30),oN 32 (bt .neq 29 31),oW 33 32,oG 33 false 34 (oV 6),oG 33 false 35 (ln 34),oG 33 false 36 (oV 4),oG 33 false 37 (ln 36),oG 33 false 38 (bt .neq 35 37),oN 39 (.pick (.t 33) (.c (.bool true)) (.t 38)),oW 40 39,oG 40 false 41 (oV 7),oG 40 false 42 (ln 41),oG 40 false 43 (oV 4),oG 40 false 44 (ln 43),oG 40 false 45 (bt .neq 42 44),oN 46 (.pick (.t 40) (.c (.bool true)) (.t 45))] (cd 46 (sr [oN 2 mN,oN 3 mF] .ret) .skip)) (sr [oW 48 5,oW 49 6,oN 50 (cl 231 [48,49]),oW 47 50,oN 51 (ex 0 47),oN 52 (ex 1 47),oW 8 51,oW 9 52] (sr [oW 54 5,oW 55 7,oN 56 (cl 231 [54,55]),oW 53 56,oN 57 (ex 0 53),oN 58 (ex 1 53),oW 10 57,oW 11 58] (.seq (sr [oW 59 9,oN 60 (nt 59),oW 61 60,oG 61 false 62 (oV 11),oG 61 false 63 (nt 62),oN 64 (.pick (.t 61) (.c (.bool true)) (.t 63))] (cd 64 (sr [oN 2 mN,oN 3 mF] .ret) .skip)) (sr [oN 12 (.qw (cI 1))] (.seq (sr [oW 65 4,oN 66 (ln 65),oN 67 (bc .gtr 66 0)] (cd 67 (rg [oW 68 4,oW 69 4,oN 70 (ln 69),oN 71 (bc .sub 70 1),oN 72 (ix 1 68 71),oN 73 (lF 1 72),oN 74 (bc .add 73 1),oW 12 74]) .skip)) (.seq (rf 1 [oK 75 1 (oV 12),oN 76 (.make zz6 112 (.t 75)),oK 13 1 (oV 76)]) (sr [oW 77 13,oN 78 (.call 186 []),oN 79 (.idx 6 (.t 77) (cI 0)),oS (.store 6 (.t 79) (.t 78))] (.seq (sr [oW 80 4,oN 81 (ln 80),oN 82 (.qw (cI 0))] (.block 0 (.loop (sr [oN 83 (bt .lss 82 81)] (.seq (cd 83 .skip (.exit 0)) (.seq (.block 1 (sr [oW 84 82,oN 85 (ix 1 80 82),oN 86 (lF 1 85),oW 14 84,oW 15 86] (rt 0 [oW 87 13,oW 88 15,oW 89 8,oW 90 14,oA 91 0 (ix 3 89 90) [2,3],oA 92 0 (lT 3 91) [4],oW 93 10,oW 94 14,oA 95 0 (ix 3 93 94) [6,7],oA 96 0 (lT 3 95) [8],oA 97 0 (.build zz6 [(0,3,(.t 92)),(3,3,(.t 96))]) [5,9],oA 98 0 (ix 6 87 88) [0,1,0,1,2,3,4,5,6,7,8,9,10],⟨none,none,0,.store 6 (.t 98) (.t 97),[11,10,0,1,2,3,4,5,6,7,8,9,10]⟩]))) (rg [oN 99 (bc .add 82 1),oW 82 99]))))))) (sr [oW 100 13,oW 2 100,oN 3 mT] .ret)))))))))))))))⟩
structure Aa (T:Tb):Prop where
 hT:T 269=some pI
 pK:rU T
 vk:xC T
 Me:FN T
 JC:C9 T
 Ld:wO T
 JF:vK T
def ayQ(σ:Store)(r t:V):Prop:=∃(W:PD) (σ2:Store) (r2:V) (os:List Nat),ReS W σ σ2/\yu W σ r r2/\mJ σ2 r2 t os/\os.Nodup
theorem aqA{T:Tb}{f:Nat}{F:Fn}{args:List V}{t:V}(rf:Nat->Nat->Bool)(hT:T f=some F)
  (h:wp T rf F.body (fun e st=>endW F.res e (fun r σ=>ayQ σ r t) st) (St.enter args [])) (hl:args.length=F.nargs:=by rfl) (hk:F.body.okC=true:=by rfl):PO T f args t:=by
 obtain⟨r,σ',h1,W,σ2,r2,os,h2,h3,h4,h5⟩:=run_end rf hT h hl hk;exact .of (.reF W (yH _) h1 h2 h3) h4 h5
theorem aqB{p n:Nat}{σ:Store}{A A':List (List V)}{os:List Nat}(h:jX σ p=some ⟨n,A⟩)(hl:A'.length=A.length)(hs:∀o∈os,∀ob,jX σ o=some ob->nN ob.rows)
  (hr:∀(i:Nat) (r r2:List V),A[i]? = some r->A'[i]? = some r2->Ad (keepW σ p A.length os) σ r r2):ReS (keepW σ p A.length os) σ (J8 σ p ⟨n,A'⟩ os):=by
 refine⟨by unfold J8 keepW;simp,?_,?_,?_⟩
 ·intro i j o s l s' l' hi hj;rw [<-(FW hi).2.1,<-(FW hj).2.1]
 ·intro k o s l hk;obtain⟨hlt,rfl,rfl,hk2⟩:=FW hk;rcases hk2 with ⟨rfl,rfl⟩|⟨e,m,ob,h1,rfl⟩
  ·refine⟨_,⟨n,A'⟩,h,by simp,by show jX (J8 _ _ _ _) _=_;rw [zW hlt,aQ rfl],rfl,hl,fun i r r2 h1 h2=>hr i r r2 (by simpa using h1) h2⟩
  refine⟨ob,ob,h1,by simp,by show jX (J8 _ _ _ _) _=_;rw [zW hlt,aO e,aQ m,h1],rfl,rfl,fun i r r2 h2 h3=>?_⟩;rw [aV,h3]at h2;simp only [aB]at h2;subst h2;exact Jf fun v hv=>hs o m ob h1 r2 (bg h3) v hv
 intro k hk;have hlt:k<σ.length:=by
  have:=(aP.1 hk).1;unfold keepW at this;simpa using this
 rw [HY hlt]at hk;show jX (J8 _ _ _ _) _=_;rw [zW hlt];by_cases e:k=p
 ·rw [aQ e]at hk;cases hk
 rw [aO e]at hk ⊢;by_cases m:k∈os
 ·rw [aQ m]at hk ⊢
  cases ho:jX σ k
  ·rfl
  rw [ho]at hk;cases hk
 rw [aO m]
theorem Vg{σ:Store}:∀{ts rows:List (List V)} {os:List Nat},rZ σ rows ts os->os.Nodup->∃f:Nat->List Nat,(∀i,i<ts.length->ni σ (rows.getD i []) (ts.getD i []) (f i)/\(f i).Nodup/\∀o∈f i,o∈os)/\∀i j,i<ts.length->j<ts.length->i≠j->∀o∈f i,o∉f j
 | [],rows,os,h,_=>⟨fun _=>[],fun i hi=>absurd hi (dA _),fun i j hi=>absurd hi (dA _)⟩
 |
  t::ts,rows,os,h,hn=>by
  simp only [rZ]at h;obtain⟨v,vs',o1,o2,rfl,rfl,h1,h2⟩:=h;rw [bF]at hn;obtain⟨n1,n2,n3⟩:=hn;obtain⟨f,k1,k2⟩:=Vg h2 n2;refine⟨fun i=>match i with|0=>o1|i+1=>f i,fun i hi=>?_,fun i j hi hj hne o h1 h2=>?_⟩
  ·cases i with
   |zero=>exact⟨h1,n1,fun o h=>by simp [show o∈o1 from h]⟩
   |
    succ i =>
    obtain⟨a,b,c⟩:=k1 i (by simpa using hi);exact⟨a,b,fun o h=>by simp [c o h]⟩
  cases i with
  |
   zero =>
   cases j with
   |zero=>exact hne rfl
   |succ j=>exact n3 o h1 o ((k1 j (by simpa using hj)).2.2 o h2) rfl
  |
   succ i =>
   cases j with
   |zero=>exact n3 o h2 o ((k1 i (by simpa using hi)).2.2 o h1) rfl
   |succ j=>exact k2 i j (by simpa using hi) (by simpa using hj) (by omega) o h1 h2
theorem ah2{σ:Store}{c t:Nat->List V}{f:Nat->List Nat}:∀m:Nat,(∀j,j<m->ni σ (c j) (t j) (f j))->(∀j,j<m->(f j).Nodup)->(∀i j,i<m->j<m->i≠j->∀o∈f i,o∉f j) ->
  ∃os,rZ σ ((List.range m).map c) ((List.range m).map t) os/\os.Nodup/\∀o,o∈os↔∃j,j<m/\o∈f j
 |0,_,_,_=>⟨[],by simp [rZ],.nil,by simp⟩
 |
  m+1,h1,h2,h3=>by
  obtain⟨os,k1,k2,k3⟩:=ah2 m (fun j hj=>h1 j (by omega)) (fun j hj=>h2 j (by omega)) fun i j hi hj=>h3 i j (by omega) (by omega);refine⟨os++f m,?_,?_,fun o=>⟨fun h=>?_,fun h=>?_⟩⟩
  ·rw [iY,bT,bT];exact CS k1 (ZR (h1 m (Nat.lt_succ_self _)))
  ·rw [bF];refine⟨k2,h2 m (Nat.lt_succ_self _),fun x hx y hy e=>?_⟩;subst e;obtain⟨i,hi,hi2⟩:=(k3 x).1 hx;exact h3 i m (by omega) (Nat.lt_succ_self _) (by omega) x hi2 hy
  ·rcases aN.1 h with h|h
   ·obtain⟨i,hi,k⟩:=(k3 o).1 h;exact⟨i,by omega,k⟩
   exact⟨m,Nat.lt_succ_self _,h⟩
  obtain⟨i,hi,k⟩:=h;by_cases e:i=m
  ·subst e;exact eP _ k
  exact iw _ ((k3 o).2 ⟨i,by omega,k⟩)
def dsC(s:List Lk):Bool:=lI s&&decide ((J9 s).length=(kC s).length)&&decide ((Rl s).length=(kC s).length)&&decide ((Rn s).length=(kC s).length)
def dsB(s:List Lk):Bool:=dsC s&&Yi (J9 s) (Rl s)&&Yi (J9 s) (Rn s)
def MC(ns:List Int)(xs ys:List R):Nat->Nat->Pt
 |0,j=>if j=0 then⟨kZ 0,kZ 0⟩else⟨R0,R0⟩
 |k+1,j=>if (j:Int)=ns.getD k default then⟨xs.getD k default,ys.getD k default⟩else MC ns xs ys k j
def Wh(ns:List Int):Nat->Nat
 |0=>1
 |k+1=>(ns.getD k default).toNat+1
def Qh(s:List Lk):List Pt:=(List.range (Wh (kC s) (kC s).length)).map (MC (kC s) (Qx (J9 s) (Rl s)) (Qx (J9 s) (Rn s)) (kC s).length)
def Wi(s:List Lk):List Pt:=if dsB s=true then Qh s else []
theorem anj{s:List Lk}(h:dsB s=false):Wi s=[]:=by unfold Wi;rw [h];rfl
theorem ah3{s:List Lk}(h:dsB s=true):Wi s=Qh s:=aQ h
theorem ah4{m:List (List R)}{b:List R}(h:Yi m b=true):(Qx m b).length=m.length:=by
 have h':=h;unfold Yi at h';simp only [aH]at h';obtain⟨M,e,_,_⟩:=afN h'.2;rw [(adH h'.1 h'.2).1,e];simp [show (Yh m b).length=m.length from LX _ _]
theorem ah5{l:List R}(h:∀r∈l,r.cn)(i:Nat):(l.getD i default).cn:=by
 rcases dV i l.length with hi|hi
 ·exact h _ (getD_mem hi)
 rw [aj,aZ hi];exact afu
theorem ah6{ns:List Int}{xs ys:List R}(hx:∀r∈xs,r.cn)(hy:∀r∈ys,r.cn):∀k j,(MC ns xs ys k j).x.cn/\(MC ns xs ys k j).y.cn
 |
  0,j=>by
  simp only [MC];split
  ·exact⟨zl (by decide),zl (by decide)⟩
  exact⟨afu,afu⟩
 |
  k+1,j=>by
  simp only [MC];split
  ·exact⟨ah5 hx k,ah5 hy k⟩
  exact ah6 hx hy k j
theorem agv(s:List Lk)(k:Nat)(hk:k<=(kC s).length):1<=Wh (kC s) k/\Wh (kC s) k<=10:=by
 cases k with
 |zero=>exact⟨aK _,by simp only [Wh];omega⟩
 |
  succ k =>
  have:=vC (l:=s) (getD_mem (l:=kC s) (i:=k) (by omega));simp only [Wh];omega
theorem au1(s:List Lk){k:Nat}(hk:k<(kC s).length):(Wh (kC s) k:Int)<=(kC s).getD k default:=by
 have ha:=CX s;have hr:=vC (l:=s) (getD_mem (l:=kC s) (i:=k) hk)
 cases k with
 |zero=>simp only [Wh];omega
 |
  succ k =>
  have h0:=vC (l:=s) (getD_mem (l:=kC s) (i:=k) (by omega));unfold Asc at ha;have:=fO.1 ha k (k+1) (by omega) hk (by omega);have e1:(kC s).getD k default=(kC s)[k]'(by omega):=by rw [aj,au (by omega)];rfl
  have e2:(kC s).getD (k+1) default=(kC s)[k+1]'hk:=by rw [aj,au hk];rfl
  simp only [Wh];omega
theorem ank(s:List Lk):PS Pt.sz (Wi s)<=100000/\Iz Pt.wf (Wi s):=by
 unfold Wi;split
 ·have h1:=al3 (J9 s) (Rl s);have h2:=al3 (J9 s) (Rn s);have hl:=agv s (kC s).length (aK _);have hc:∀p∈Qh s,p.x.cn/\p.y.cn:=fun p hp=>by
   obtain⟨j,_,rfl⟩:=bC.1 hp;exact ah6 h1.1 h2.1 _ _
  have hlen:(Qh s).length<=10:=by unfold Qh;simp;omega
  refine⟨?_,by omega,fun p hp=>⟨uq (hc p hp).1,uq (hc p hp).2⟩⟩;have:=Uz (f:=Pt.sz) (k:=96) (l:=Qh s) fun p hp=>by
   have a:=OZ (hc p hp).1;have b:=OZ (hc p hp).2;unfold Pt.sz R.sz;omega
  have:(Qh s).length*97<=10*97:=dG _ hlen;omega
 exact⟨by simp [PS],by simp [Iz]⟩
def EF(f:Int->Rat):List Int->Rat
 | []=>0
 |u::l=>f u+EF f l
theorem Px(f g:Int->Rat):∀l,EF (fun u=>f u+g u) l=EF f l+EF g l
 | []=>(dU 0).symm
 |u::l=>by simp only [EF];rw [Px f g l];grind
theorem Ac{f g:Int->Rat}:∀{l:List Int},(∀u∈l,f u=g u)->EF f l=EF g l
 | [],_=>rfl
 |u::l,h=>by simp only [EF];rw [h u (by simp),Ac (l:=l) fun x hx=>h x (by simp [hx])]
theorem Vh:∀l:List Int,EF (fun _=>0) l=0
 | []=>rfl
 |u::l=>by simp only [EF];rw [Vh l,dU]
theorem abR(x:Int)(c:Rat):∀{l:List Int},x∉l->EF (fun u=>if x=u then c else 0) l=0
 | [],_=>rfl
 |
  u::l,h=>by
  simp only [EF];rw [aO fun e=>h (by simp [e]),abR x c fun k=>h (by simp [k]),dU]
theorem ah7(x:Int)(c:Rat):∀{l:List Int},l.Nodup->x∈l->EF (fun u=>if x=u then c else 0) l=c
 | [],_,h=>by cases h
 |
  u::l,hn,h=>by
  rw [dX]at hn;simp only [EF];by_cases e:x=u
  ·rw [aQ e,abR x c (e▸hn.1),dU]
  rw [aO e,ah7 x c hn.2 ((aI.1 h).resolve_left e),iO]
theorem Vj{f:Int->Rat}(h0:f 0=0){x:Int}{l:List Int}(hn:l.Nodup)(hx:x=0\/x∈l)(c:Rat):EF (fun u=>if x=u then c*f u else 0) l=c*f x:=by
 have e:EF (fun u=>if x=u then c*f u else 0) l=EF (fun u=>if x=u then c*f x else 0) l:=Ac fun u _=>by
  by_cases e:x=u
  ·rw [aQ e,aQ e,e]
  rw [aO e,aO e]
 rw [e];by_cases hm:x∈l
 ·exact ah7 x _ hn hm
 rw [abR x _ hm,hx.resolve_right hm,h0,Rat.mul_zero]
theorem YL(g:Int->Lk->Rat):∀(S:List Lk) (l:List Int),EF (fun u=>tot (g u) S) l=tot (fun x=>EF (fun u=>g u x) l) S
 | [],l=>Vh l
 |
  x::S,l=>by
  simp only [tot];rw [Px,YL g S l]
theorem abS(c:Rat)(f:Lk->Rat):∀l,tot (fun u=>f u*c) l=tot f l*c
 | []=>(iU c).symm
 |u::l=>by simp only [tot];rw [abS c f l,Rat.add_mul]
theorem abT(f g:Lk->Rat):∀l,tot (fun u=>f u-g u) l=tot f l-tot g l
 | []=>by simp only [tot];grind
 |u::l=>by simp only [tot];rw [abT f g l];grind
theorem aaq(f:Int->Rat):∀l:List Int,EF f l=AA (fun j=>f (l.getD j 0)) l.length:=by
 intro l;have key:∀k,k<=l.length->AA (fun j=>f (l.getD j 0)) k=EF f (l.take k):=fun k=>by
  induction k with
  |zero=>intro _;rfl
  |
   succ k ih =>
   intro hk;show AA _ k+f (l.getD k 0)=_;rw [ih (by omega)];have app:∀a b:List Int,EF f (a++b)=EF f a+EF f b:=fun a b=>by
    induction a with
    |nil=>simp only [iW,EF,iO]
    |cons x a ih=>simp only [dL,EF];rw [ih,Rat.add_assoc]
   have e:l.take (k+1)=l.take k++[l.getD k 0]:=by
    rw [jf,au (by omega),aj,au (by omega)];rfl
   rw [e,app];simp only [EF,dU]
 have:=key l.length (aK _);rw [bK]at this;exact this.symm
def VK(h:Lk->Rat)(v:Int)(l:Lk):Rat:=if l.b=v then h l else if l.a=v then -h l else 0
def imq(v u:Int)(l:Lk):Rat:=if (l.a=v/\l.b=u)\/(l.a=u/\l.b=v)then -l.w.v else if v=u/\(l.a=v\/l.b=v)then l.w.v else 0
structure Nds (S:List Lk) (ns:List Int):Prop where
 nd:ns.Nodup
 n0:∀u∈ns,u≠0
 l:∀x∈S,(x.a=0\/x.a∈ns)/\(x.b=0\/x.b∈ns)/\x.a≠x.b
theorem agw{S:List Lk}{ns:List Int}(h:Nds S ns){f:Int->Rat}(h0:f 0=0)(p:Lk->Rat):EF (fun v=>tot (VK p v) S*f v) ns=tot (fun l=>p l*(f l.b-f l.a)) S:=by
 rw [Ac (g:=fun v=>tot (fun l=>VK p v l*f v) S) fun v _=>(abS (f v) (VK p v) S).symm,YL];refine FX fun x hx=>?_;have hl:=h.l x hx;rw [Ac (g:=fun u=>(if x.b=u then p x*f u else 0)+(if x.a=u then -p x*f u else 0)) fun u _=>?_,Px,Vj h0 h.nd hl.2.1,Vj h0 h.nd hl.1]
 ·grind
 unfold VK;by_cases e1:x.b=u
 ·rw [aQ e1,aQ e1,aO (c:=x.a=u) fun e=>hl.2.2 (e.trans e1.symm),dU]
 rw [aO e1,aO e1,iO];by_cases e2:x.a=u
 ·rw [aQ e2,aQ e2]
 rw [aO e2,aO e2,iU]
theorem anl{S:List Lk}{ns:List Int}(h:Nds S ns){f:Int->Rat}(h0:f 0=0){v:Int}(hv:v∈ns):EF (fun u=>tot (imq v u) S*f u) ns=tot (VK (fun l=>l.w.v*(f l.b-f l.a)) v) S:=by
 rw [Ac (g:=fun u=>tot (fun l=>imq v u l*f u) S) fun u _=>(abS (f u) (imq v u) S).symm,YL];refine FX fun x hx=>?_;have hl:=h.l x hx;have hv0:=h.n0 v hv;unfold VK;by_cases e1:x.b=v
 ·have e2:x.a≠v:=fun e=>hl.2.2 (e.trans e1.symm);rw [aQ e1,Ac (g:=fun u=>(if x.a=u then -x.w.v*f u else 0)+(if v=u then x.w.v*f u else 0)) fun u _=>?_,Px,Vj h0 h.nd hl.1,Vj h0 h.nd (.inr hv)]
  ·dsimp only;rw [e1];grind
  unfold imq;by_cases e3:x.a=u
  ·rw [aQ (.inr ⟨e3,e1⟩),aQ e3,aO (c:=v=u) fun e=>e2 (e3.trans e.symm),dU]
  rw [aO (by rintro(⟨a,_⟩|⟨a,_⟩);exact e2 a;exact e3 a),aO e3,iO];by_cases e4:v=u
  ·rw [aQ ⟨e4,.inr e1⟩,aQ e4]
  rw [aO fun c=>e4 c.1,aO e4,iU]
 rw [aO e1];by_cases e2:x.a=v
 ·rw [aQ e2,Ac (g:=fun u=>(if x.b=u then -x.w.v*f u else 0)+(if v=u then x.w.v*f u else 0)) fun u _=>?_,Px,Vj h0 h.nd hl.2.1,Vj h0 h.nd (.inr hv)]
  ·dsimp only;rw [e2];grind
  unfold imq;by_cases e3:x.b=u
  ·rw [aQ (.inl ⟨e2,e3⟩),aQ e3,aO (c:=v=u) fun e=>e1 (e3.trans e.symm),dU]
  rw [aO (by rintro(⟨_,a⟩|⟨_,a⟩);exact e3 a;exact e1 a),aO e3,iO];by_cases e4:v=u
  ·rw [aQ ⟨e4,.inl e2⟩,aQ e4]
  rw [aO fun c=>e4 c.1,aO e4,iU]
 rw [aO e2,Ac (g:=fun _=>0) fun u _=>?_,Vh];unfold imq;rw [aO (by rintro(⟨a,_⟩|⟨_,a⟩);exact e2 a;exact e1 a),aO (by rintro⟨_,a|a⟩;exact e2 a;exact e1 a),iU]
theorem abU{f:Lk->Rat}:∀{S:List Lk},(∀x∈S,0<=f x)->0<=tot f S/\(tot f S=0->∀x∈S,f x=0)
 | [],_=>⟨Rat.le_refl,fun _ x hx=>by cases hx⟩
 |
  x::S,h=>by
  have h1:=h x (by simp);obtain⟨h2,h3⟩:=abU (S:=S) fun y hy=>h y (by simp [hy]);simp only [tot];refine⟨by grind,fun e=>?_⟩;have e1:f x=0:=by grind
  have e2:tot f S=0:=by grind
  intro y hy;rcases aI.1 hy with rfl|hy
  ·exact e1
  exact h3 e2 y hy
theorem au2{S:List Lk}{ns:List Int}(h:Nds S ns)(hw:∀x∈S,0<x.w.v)(hc:∀u∈ns,Cn S u){f:Int->Rat}(h0:f 0=0)(hz:∀v∈ns,tot (VK (fun l=>l.w.v*(f l.b-f l.a)) v) S=0):∀u∈ns,f u=0:=by
 have hs:=agw h h0 fun l=>l.w.v*(f l.b-f l.a);rw [Ac (g:=fun _=>0) fun v hv=>by rw [hz v hv,iU],Vh]at hs;obtain⟨_,k⟩:=abU (f:=fun l=>l.w.v*(f l.b-f l.a)*(f l.b-f l.a)) (S:=S) fun x hx=>by
  have:=Rat.mul_nonneg (Rat.le_of_lt (hw x hx)) (aef (f x.b-f x.a))
  rwa [<-Rat.mul_assoc]at this
 have k:=k hs.symm;have ke:∀x∈S,f x.b=f x.a:=fun x hx=>by
  have h1:x.w.v*(f x.b-f x.a)*(f x.b-f x.a)=0:=k x hx;have h2:=hw x hx;generalize x.w.v=w at h1 h2;generalize f x.b-f x.a=d at h1;have hw0:w≠0:=fun e=>by rw [e]at h2;exact absurd h2 Rat.lt_irrefl
  have:d=0:=by grind
  grind
 have hall:∀u,Cn S u->f u=0:=fun u hu=>by
  induction hu with
  |z=>exact h0
  |
   @s u w x hx hxe _ ih =>
   have:=ke x hx;rcases hxe with ⟨e1,e2⟩|⟨e1,e2⟩
   ·rw [<-e1,<-this,e2];exact ih
   rw [<-e2,this,e1];exact ih
 exact fun u hu=>hall u (hc u hu)
end Go.Ml
end
