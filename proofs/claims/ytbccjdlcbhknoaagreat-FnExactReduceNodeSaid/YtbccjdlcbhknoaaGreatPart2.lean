/- A small language for the functions of this claim, its soundness, contracts. -/
import Derived.Test.YtbccjdlcbhknoaaGreatPart1
set_option linter.unusedSimpArgs false
set_option linter.unusedVariables false
set_option maxRecDepth 100000
set_option maxHeartbeats 16000000
section
namespace Go.Ml
def nS : Fn:=⟨1,6,[.tmp 2],(sr [oN 2 mN] (.seq (rf 2 [oN 3 (.eG 1 FU 0 []),oK 4 2 (oV 0),oK 5 1 (.app 1 8 (.t 3) (.t 4)),oK 2 2 (oV 5)]) .ret))⟩
structure kN (T : Tb) : Prop where
 hT : T 139 = some nS
def zk : Fn:=⟨2,43,[.tmp 4],(sr [oN 4 mN] (.seq (.block 0 (.loop (.seq (sr [oW 9 1,oN 10 (ln 9),oN 11 (bc .gtr 10 0)] (cd 11 .skip (.exit 0))) (.block 1 (.seq (sr [oW 12 0,oN 13 (ln 12),oN 14 (bc .leq 13 2),oW 15 14,oG 15 true 16 (oV 1),oG 15 true 17 (ln 16),oG 15 true 18 (bc .leq 17 2),oN 19 (.pick (.t 15) (.t 18) (.c (.bool false)))] (cd 19 (sr [oW 20 0,oN 21 (cl 137 [20]),oW 22 1,oN 23 (cl 137 [22]),oW 5 21,oW 6 23] (.seq (.block 2 (.loop (.seq (sr [oW 24 6,oN 25 (bc .gtr 24 0)] (cd 25 .skip (.exit 2))) (.block 3 (rt 0 [oW 26 6,oW 27 5,oW 28 6,oA 29 0 (bt .rem 27 28) [1,2],oA 5 0 (oV 26) [0,0,1],oA 6 0 (oV 29) [3,4,0,1,2,3,4]]))))) (sr [oW 30 5,oN 31 (.conv .u64 (.t 30)),oN 32 (cl 69 [31]),oW 4 32] .ret))) .skip)) (sr [oW 34 0,oW 35 1,oN 36 (cl 138 [34,35]),oW 33 36,oN 37 (ex 0 33),oN 38 (ex 1 33),oW 7 37,oW 8 38] (rg [oW 39 1,oW 40 8,oW 0 39,oW 1 40]))))))) (sr [oW 41 0,oN 42 (cl 139 [41]),oW 4 42] .ret)))⟩
structure zl (T : Tb) : Prop where
 hT : T 127 = some zk
 cO : jS T
 jB : tX T
 nZ : rO T
 jC : kN T
theorem JM {T : Tb} (h : kN T) {l : List Int} (hl : l.length ≤ 1048576:=by exact dD) : PF T 139 [ints l] (ints l):=by
 refine aK nR h.hT ?_
 simp only [nS,Lz]
 refine ev ?_
 refine ⟨fun e=>?_,fun e=>⟨by omega,aC _⟩⟩
 show bQ (.sl 1 (aN l)) .ak
 rw [e];exact of_eq_true (gZ 1)
theorem Qm {T : Tb} (h : zl T) {m n : Nat} (la : (mk m).length ≤ 900:=by exact dD) (lb : (mk n).length ≤ 900:=by exact dD) :
  PF T 127 [ints (mk m),ints (mk n)] (ints (mk (Nat.gcd m n))):=by
 refine aK nR h.hT ?_
 simp only [zk,Lz]
 refine ev ?_
 refine aQ (fun _ _=>false) (α:=Nat × Nat) (fun q=>⟨bM [ints (mk q.1),ints (mk q.2)],[],0,0,[],[]⟩) (fun q=>Nat.gcd q.1 q.2 = Nat.gcd m n ∧ (mk q.1).length ≤ 900 ∧ (mk q.2).length ≤ 900) (fun q=>q.2) rfl (m,n) ?_ ?_ ?_
 ·exact ⟨rfl,la,lb⟩
 ·exact JK
 ·rintro ⟨x,y⟩ ⟨hg,lx,ly⟩
  dsimp only at hg lx ly
  rw [← hg]
  clear hg la lb
  refine ev ?_
  refine aG (fun c1=>?_) fun c1=>?_ <;> (refine ev1 @c1 ?_;try with_reducible exact True.intro)
  ·have hy : 0 < y:=by
    rcases Nat.eq_zero_or_pos y with rfl | h
    ·rw [mk_zero] at c1;simp at c1
    ·exact h
   have cas : ((((mk x).length : Nat) : Int) ≤ 2 ∧ (((mk y).length : Nat) : Int) ≤ 2) ∨ (((((mk x).length : Nat) : Int) ≤ 2 ∧ ¬ (((mk y).length : Nat) : Int) ≤ 2) ∨ ¬ (((mk x).length : Nat) : Int) ≤ 2):=by omega
   rcases cas with ⟨c2,c3⟩ | big
   ·have sx : x < 1000000000000000000:=by have:=aZ (n:=x) (k:=2);omega
    have sy : y < 1000000000000000000:=by have:=aZ (n:=y) (k:=2);omega
    refine iW @c2 @c3 ?_
    refine ah (yC h.jB sx) ?_
    refine ev ?_
    refine ah (yC h.jB sy) ?_
    refine ev ?_
    refine aQ (fun _ _=>false) (α:=Nat × Nat) (fun q=>⟨bM [.any,.any,.any,.any,.any,iv (q.1 : Nat),iv (q.2 : Nat)],[],0,0,[],[]⟩) (fun q=>Nat.gcd q.1 q.2 = Nat.gcd x y ∧ q.1 < 1000000000000000000 ∧ q.2 < 1000000000000000000) (fun q=>q.2) rfl (x,y) ?_ ?_ ?_
    ·exact ⟨rfl,sx,sy⟩
    ·exact JK
    ·rintro ⟨u,v⟩ ⟨hg,su,sv⟩
     dsimp only at hg su sv
     rw [← hg]
     clear hg
     refine ev ?_
     refine aG (fun c4=>?_) fun c4=>?_ <;> (refine ev1 @c4 ?_;try with_reducible exact True.intro)
     ·have v0 : 0 < v:=by omega
      have er : ((u : Nat) : Int).tmod (v : Nat) = ((u % v : Nat) : Int):=by rw [Int.tmod_eq_emod_of_nonneg (by omega),Int.natCast_emod]
      have lr:=Nat.mod_lt u v0
      have eg : Nat.gcd v (u % v) = Nat.gcd u v:=by rw [Nat.gcd_comm u v,Nat.gcd_rec v u,Nat.gcd_comm]
      exact ⟨(v,u % v),lr,⟨eg,sv,by dsimp only;omega⟩,by (refine aI ?_) <;> (try (refine ev1 @er ?_;try with_reducible exact True.intro)) <;> (repeat' (first | refine ⟨?_,?_⟩ | exact kE (by omega) | exact mV (by simp) | exact kF _))⟩
     ·have v0 : v = 0:=by omega
      have cu:=pX h.cO (n:=((u : Nat) : Int)) (by omega)
      rw [Int.toNat_natCast] at cu
      refine ah cu ?_
      refine ev ?_
      rw [v0,Nat.gcd_zero_right]
      exact aC _
   ·have lr:=Nat.mod_lt x hy
    have lr2 : (mk (x % y)).length ≤ 900:=Nat.le_trans (aZ.2 (Nat.lt_trans lr (aZ.1 (Nat.le_refl _)))) ly
    have eg : Nat.gcd y (x % y) = Nat.gcd x y:=by rw [Nat.gcd_comm x y,Nat.gcd_rec y x,Nat.gcd_comm]
    rcases big with ⟨c2,c3⟩ | c2
    case' inl=>(refine iW @c2 @c3 ?_;try with_reducible exact True.intro)
    case' inr=>(refine ev1 @c2 ?_;try with_reducible exact True.intro)
    all_goals
     refine ah (Ql h.nZ hy lx ly) ?_
     refine ev ?_
     exact ⟨(y,x % y),lr,⟨eg,ly,lr2⟩,by (refine aI ?_;exact yB)⟩
  ·have y0 : y = 0:=by
    rcases Nat.eq_zero_or_pos y with h | h
    ·exact h
    ·have:=adv (n:=y) (by omega);omega
   refine ah (JM h.jC (l:=mk x) (by omega)) ?_
   refine ev ?_
   rw [y0,Nat.gcd_zero_right]
   exact aC _
abbrev bi (z : Int) : Bi:=⟨decide (z < 0),mk z.natAbs⟩
abbrev sg (neg : Bool) (n : Nat) : Int:=if neg = true then -(n : Int) else n
theorem WT (n : Nat) : n < 1000000000 ^ (mk n).length:=aZ.1 (Nat.le_refl _)
theorem FY {m n : Nat} (h : m ≤ n) : (mk m).length ≤ (mk n).length:=aZ.2 (Nat.lt_of_le_of_lt h (WT n))
theorem DY (m n : Nat) : (mk (m * n)).length ≤ (mk m).length + (mk n).length:=by
 rw [aZ,Nat.pow_add]
 exact Nat.mul_lt_mul_of_lt_of_lt (WT m) (WT n)
theorem Y2 (m n : Nat) : (mk (m + n)).length ≤ max (mk m).length (mk n).length + 1:=by
 rw [aZ,Nat.pow_succ]
 have h1:=Nat.lt_of_lt_of_le (WT m) (Nat.pow_le_pow_right (n:=1000000000) (by omega) (Nat.le_max_left (mk m).length (mk n).length))
 have h2:=Nat.lt_of_lt_of_le (WT n) (Nat.pow_le_pow_right (n:=1000000000) (by omega) (Nat.le_max_right (mk m).length (mk n).length))
 omega
theorem UJ (m n : Nat) : (mk (m - n)).length ≤ (mk m).length:=FY (Nat.sub_le m n)
theorem MR (m n : Nat) : (mk (m / n)).length ≤ (mk m).length:=FY (Nat.div_le_self m n)
theorem UK : (mk 0).length = 0:=by rw [mk_zero];rfl
theorem Au {n : Nat} : 0 < (mk n).length ↔ 0 < n:=by
 constructor
 ·intro h;rcases Nat.eq_zero_or_pos n with rfl | h1
  ·rw [mk_zero] at h;simp at h
  ·exact h1
 ·intro h;have:=adv (n:=n) (by omega);omega
theorem abI {n : Nat} : (mk n).length = 0 ↔ n = 0:=by
 have:=@Au n;omega
theorem gJ (x y : Int) : (mk (x * y).natAbs).length ≤ (mk x.natAbs).length + (mk y.natAbs).length:=by
 rw [Int.natAbs_mul];exact DY _ _
theorem Dx (x y : Int) : (mk (x + y).natAbs).length ≤ max (mk x.natAbs).length (mk y.natAbs).length + 1 :=
 Nat.le_trans (FY (Int.natAbs_add_le x y)) (Y2 _ _)
theorem ad3 (neg : Bool) (n : Nat) (h : 0 < n) : bi (sg neg n) = ⟨neg,mk n⟩:=by
 cases neg
 ·simp [bi,sg]
 ·simp [bi,sg,h]
theorem aam : bi 0 = ⟨false,[]⟩:=by simp [bi,mk_zero]
theorem KJ (neg : Bool) : sg neg 0 = 0:=by cases neg <;> simp [sg]
theorem aks (n : Nat) : bi (n : Int) = ⟨false,mk n⟩:=by simp [bi]
theorem Qn (x y : Int) : sg (decide (x < 0) != decide (y < 0)) (x.natAbs * y.natAbs) = x * y:=by
 rw [← Int.natAbs_mul]
 by_cases x0 : x = 0
 ·subst x0;simp [sg]
 by_cases y0 : y = 0
 ·subst y0;simp [sg]
 rcases (show x < 0 ∨ 0 < x by omega) with h | h <;> rcases (show y < 0 ∨ 0 < y by omega) with k | k
 ·have:=Int.mul_pos_of_neg_of_neg h k
  simp only [sg,h,k,decide_true,bne_self_eq_false,Bool.false_eq_true,if_false];omega
 ·have:=Int.mul_neg_of_neg_of_pos h k
  have k' : ¬ y < 0:=by omega
  simp only [sg,h,k',decide_true,decide_false,Bool.bne_false,if_true];omega
 ·have:=Int.mul_neg_of_pos_of_neg h k
  have h' : ¬ x < 0:=by omega
  simp only [sg,h',k,decide_true,decide_false,Bool.false_bne,if_true];omega
 ·have:=Int.mul_pos h k
  have k' : ¬ y < 0:=by omega
  have h' : ¬ x < 0:=by omega
  simp only [sg,h',k',decide_false,bne_self_eq_false,Bool.false_eq_true,if_false];omega
theorem NU {x y : Int} (h : decide (x < 0) = decide (y < 0)) : sg (decide (x < 0)) (x.natAbs + y.natAbs) = x + y:=by
 have h' : x < 0 ↔ y < 0:=by simpa using h
 by_cases k : x < 0
 ·have:=h'.1 k;simp only [sg,k,decide_true,if_true];omega
 ·have : ¬ y < 0:=fun q=>k (h'.2 q)
  simp only [sg,k,decide_false,Bool.false_eq_true,if_false];omega
theorem Dy {x y : Int} (h : decide (x < 0) ≠ decide (y < 0)) (hl : y.natAbs ≤ x.natAbs) : sg (decide (x < 0)) (x.natAbs - y.natAbs) = x + y:=by
 have h' : ¬ (x < 0 ↔ y < 0):=by simpa using h
 by_cases k : x < 0
 ·have : ¬ y < 0:=fun q=>h' ⟨fun _=>q,fun _=>k⟩
  simp only [sg,k,decide_true,if_true];omega
 ·have : y < 0:=Classical.byContradiction fun q=>h' ⟨fun a=>absurd a k,fun a=>absurd a q⟩
  simp only [sg,k,decide_false,Bool.false_eq_true,if_false];omega
def tY : Fn:=⟨2,39,[.tmp 4,.tmp 5],(sr [oN 4 mN,oN 5 (.bZ (cI 0))] (.seq (rf 1 [oK 10 1 (oV 0),oK 11 1 (ln 10),oN 12 (.make FU 8 (.t 11)),oK 6 1 (oV 12)]) (sr [oN 7 (.bZ (cI 0))] (.seq (sr [oW 13 0,oN 14 (ln 13),oN 15 (bc .sub 14 1),oW 8 15] (.block 0 (.loop (.seq (sr [oW 16 8,oN 17 (bc .geq 16 0)] (cd 17 .skip (.exit 0))) (.seq (.block 1 (sr [oW 20 7,oN 21 (bc .mul 20 1000000000),oW 22 0,oW 23 8,oN 24 (ix 1 22 23),oN 25 (lF 1 24),oN 26 (bt .add 21 25),oW 9 26] (sr [oW 27 6,oW 28 8,oW 29 9,oW 30 1,oN 31 (bt .quo 29 30),oN 32 (ix 1 27 28),oS (.store 1 (.t 32) (.t 31))] (rg [oW 33 9,oW 34 1,oN 35 (bt .rem 33 34),oW 7 35])))) (rg [oW 18 8,oN 19 (bc .sub 18 1),oW 8 19])))))) (sr [oW 36 6,oN 37 (cl 71 [36]),oW 38 7,oW 4 37,oW 5 38] .ret)))))⟩
structure Aw (T : Tb) : Prop where
 hT : T 147 = some tY
 dF : jd T
def tZ : Fn:=⟨2,27,[.tmp 4],(sr [oN 4 (.bZ (cI 0))] (sr [oN 5 (.bZ (cI 0))] (sr [oN 6 (.bZ (cI 999999999))] (.seq (.block 0 (.loop (.seq (sr [oW 8 5,oW 9 6,oN 10 (bt .lss 8 9)] (cd 10 .skip (.exit 0))) (.block 1 (sr [oW 11 5,oW 12 6,oN 13 (bt .add 11 12),oN 14 (bc .add 13 1),oN 15 (bc .quo 14 2),oW 7 15] (sr [oW 16 1,oW 17 7,oN 18 (cl 67 [17]),oN 19 (cl 150 [16,18]),oW 20 0,oN 21 (cl 146 [19,20]),oN 22 (bc .leq 21 0)] (cd 22 (rg [oW 23 7,oW 5 23]) (rg [oW 24 7,oN 25 (bc .sub 24 1),oW 6 25])))))))) (sr [oW 26 5,oW 4 26] .ret)))))⟩
structure Az (T : Tb) : Prop where
 hT : T 148 = some tZ
 jJ : qG T
 lJ : nY T
 dR : lI T
def rQ : Fn:=⟨2,65,[.tmp 4,.tmp 5],(sr [oN 4 mN,oN 5 mN] (.seq (sr [oW 12 1,oN 13 (ln 12),oN 14 (bc .eql 13 1)] (cd 14 (sr [oW 16 0,oW 17 1,oN 18 (.idx 1 (.t 17) (cI 0)),oN 19 (lF 1 18),oN 20 (cl 147 [16,19]),oW 15 20,oN 21 (ex 0 15),oN 22 (ex 1 15),oW 6 21,oW 7 22] (sr [oW 23 6,oW 24 7,oN 25 (cl 67 [24]),oW 4 23,oW 5 25] .ret)) .skip)) (.seq (rf 1 [oK 26 1 (oV 0),oK 27 1 (ln 26),oN 28 (.make FU 8 (.t 27)),oK 8 1 (oV 28)]) (.seq (rf 1 [oN 29 (.eG 1 FU 0 []),oK 9 1 (oV 29)]) (.seq (sr [oW 30 0,oN 31 (ln 30),oN 32 (bc .sub 31 1),oW 10 32] (.block 0 (.loop (.seq (sr [oW 33 10,oN 34 (bc .geq 33 0)] (cd 34 .skip (.exit 0))) (.seq (.block 1 (.seq (rf 2 [oK 37 2 (oV 0),oK 38 2 (oV 10),oK 39 2 (ix 1 37 38),oK 40 2 (lF 1 39),oN 41 (.eG 1 FU 1 [(0,(.t 40))]),oK 42 2 (oV 9),oK 43 1 (.app 1 8 (.t 41) (.t 42)),oK 44 2 (cl 71 [43]),oK 9 2 (oV 44)]) (.seq (sr [oW 45 9,oW 46 1,oN 47 (cl 146 [45,46]),oN 48 (bc .lss 47 0)] (cd 48 (.exit 1) .skip)) (sr [oW 49 9,oW 50 1,oN 51 (cl 148 [49,50]),oW 11 51] (sr [oW 52 8,oW 53 10,oW 54 11,oN 55 (ix 1 52 53),oS (.store 1 (.t 55) (.t 54))] (rg [oW 56 9,oW 57 1,oW 58 11,oN 59 (cl 67 [58]),oN 60 (cl 150 [57,59]),oN 61 (cl 149 [56,60]),oW 9 61])))))) (rg [oW 35 10,oN 36 (bc .sub 35 1),oW 10 36])))))) (sr [oW 62 8,oN 63 (cl 71 [62]),oW 64 9,oW 4 63,oW 5 64] .ret))))))⟩
structure zn (T : Tb) : Prop where
 hT : T 136 = some rQ
 jJ : qG T
 dF : jd T
 lJ : nY T
 Oe : Aw T
 Og : Az T
 zo : y8 T
 dR : lI T
def uf : Fn:=⟨2,15,[.tmp 4],(sr [oN 4 mN] (.seq (.block 0 (.loop (.seq (sr [oW 6 1,oN 7 (bc .gtr 6 0)] (cd 7 .skip (.exit 0))) (.block 1 (sr [oW 8 0,oW 9 1,oN 10 (bt .rem 8 9),oW 5 10] (sr [oW 11 1,oW 0 11] (rg [oW 12 5,oW 1 12]))))))) (sr [oW 13 0,oN 14 (cl 67 [13]),oW 4 14] .ret)))⟩
structure AA (T : Tb) : Prop where
 hT : T 135 = some uf
 jJ : qG T
def uh : Fn:=⟨1,30,[.tmp 2,.tmp 3],(sr [oN 2 (.bZ (cI 0)),oN 3 mF] (.seq (.seq (rf 1 [oK 6 1 (oV 0),oK 7 1 (cl 121 [6]),oK 8 1 (nt 7),oK 9 1 (oV 8),oH 9 false 10 1 (oV 0) [],oG 9 false 11 (.eG 1 FU 3 [(0,(cI 854775807)),(1,(cI 223372036)),(2,(cI 9))]),oH 9 false 12 1 (cl 146 [10,11]) [],oH 9 false 13 1 (bc .gtr 12 0) [],oK 14 1 (.pick (.t 9) (.c (.bool true)) (.t 13))]) (cd 14 (sr [oN 2 (.bZ (cI 0)),oN 3 mF] .ret) .skip)) (sr [oN 4 (.bZ (cI 0))] (.seq (sr [oW 15 0,oN 16 (ln 15),oN 17 (bc .sub 16 1),oW 5 17] (.block 0 (.loop (.seq (sr [oW 18 5,oN 19 (bc .geq 18 0)] (cd 19 .skip (.exit 0))) (.seq (.block 1 (rg [oW 22 4,oN 23 (bc .mul 22 1000000000),oW 24 0,oW 25 5,oN 26 (ix 1 24 25),oN 27 (lF 1 26),oN 28 (bt .add 23 27),oW 4 28])) (rg [oW 20 5,oN 21 (bc .sub 20 1),oW 5 21])))))) (sr [oW 29 4,oW 2 29,oN 3 mT] .ret)))))⟩
structure AB (T : Tb) : Prop where
 hT : T 134 = some uh
 vT : vP T
 lJ : nY T
def zq : Fn:=⟨2,52,[.tmp 4],(sr [oN 4 mN] (.seq (rf 2 [oN 13 (.eG 1 FU 0 []),oK 14 2 (oV 0),oK 15 1 (.app 1 8 (.t 13) (.t 14)),oK 5 2 (oV 15)]) (.seq (rf 2 [oN 16 (.eG 1 FU 0 []),oK 17 2 (oV 1),oK 18 1 (.app 1 8 (.t 16) (.t 17)),oK 6 2 (oV 18)]) (.seq (.block 0 (.loop (.seq (sr [oW 19 6,oN 20 (ln 19),oN 21 (bc .gtr 20 0)] (cd 21 .skip (.exit 0))) (.block 1 (.seq (sr [oW 22 5,oN 23 (ln 22),oN 24 (bc .lss 23 3),oW 25 24,oG 25 true 26 (oV 6),oG 25 true 27 (ln 26),oG 25 true 28 (bc .lss 27 3),oN 29 (.pick (.t 25) (.t 28) (.c (.bool false)))] (cd 29 (sr [oW 31 5,oN 32 (cl 134 [31]),oW 30 32,oN 33 (ex 0 30),oN 34 (ex 1 30),oW 7 33,oW 8 34] (sr [oW 36 6,oN 37 (cl 134 [36]),oW 35 37,oN 38 (ex 0 35),oN 39 (ex 1 35),oW 9 38,oW 10 39] (sr [oW 40 7,oW 41 9,oN 42 (cl 135 [40,41]),oW 4 42] .ret))) .skip)) (sr [oW 44 5,oW 45 6,oN 46 (cl 136 [44,45]),oW 43 46,oN 47 (ex 0 43),oN 48 (ex 1 43),oW 11 47,oW 12 48] (sr [oW 49 6,oW 5 49] (rg [oW 50 12,oW 6 50])))))))) (sr [oW 51 5,oW 4 51] .ret)))))⟩
structure zu (T : Tb) : Prop where
 hT : T 123 = some zq
 GK : AB T
 Oh : AA T
 zx : zn T
theorem Qo {T : Tb} (h : y8 T) {m n : Nat} (hle : n ≤ m) (la : (mk m).length ≤ 1000:=by exact dD) (lb : (mk n).length ≤ 1000:=by exact dD) : PF T 149 [ints (mk m),ints (mk n)] (ints (mk (m - n))):=by
 obtain ⟨a,hA⟩ : ∃ a,mk m = a:=⟨_,rfl⟩
 obtain ⟨b,hB⟩ : ∃ b,mk n = b:=⟨_,rfl⟩
 have hva : val a = m:=by rw [← hA,val_mk]
 have hvb : val b = n:=by rw [← hB,val_mk]
 have hba : Lb a:=hA ▸ kH m
 have hbb : Lb b:=hB ▸ kH n
 have hlen : b.length ≤ a.length:=by
  rcases Nat.lt_or_ge a.length b.length with k | k
  ·have:=nX hba (hB ▸ lG n) k
   omega
  ·exact k
 rw [hA] at la ⊢
 rw [hB] at lb ⊢
 refine aK nR h.hT ?_
 simp only [y7,Lz]
 refine ev ?_
 refine aQ (fun _ _=>false) (α:=Nat × Int × List Int) (fun q=>⟨bM [ints a,ints b,.any,.any,.any,slV q.2.2.length,iv q.2.1,.any,.any,.any,ints a,iv (a.length : Nat),iv (q.1 : Nat)],Yk 1 (aN q.2.2),0,0,[],[]⟩) (fun q=>q.1 ≤ a.length ∧ q.2.2.length = q.1 ∧ Lb q.2.2 ∧ (q.2.1 = 0 ∨ q.2.1 = 1) ∧ val q.2.2 + val (b.take q.1) = val (a.take q.1) + q.2.1.toNat * 1000000000 ^ q.1) (fun q=>a.length - q.1) rfl (0,0,[]) ?_ ?_ ?_
 ·exact ⟨by omega,rfl,YP,.inl rfl,by simp [val]⟩
 ·exact JK
 ·rintro ⟨i,bo,xs⟩ ⟨hi,hD,JL,hbo,hv⟩
  dsimp only at hi hD JL hbo hv
  have ga:=kJ hba i
  have gb:=kJ hbb i
  have zb : b.length ≤ i → b.getD i 0 = 0:=FX
  have hx : xs.length ≤ 1000:=by omega
  by_cases c1 : (i : Int) < (a.length : Nat)
  ·have key : ∀ d WR : Int,d + b.getD i 0 + bo = a.getD i 0 + WR * 1000000000 → 0 ≤ d → d < 1000000000 → (WR = 0 ∨ WR = 1) → ∃ a' : Nat × Int × List Int,a' = (i + 1,WR,xs ++ [d]) ∧
     a.length - a'.1 < a.length - i ∧ (a'.1 ≤ a.length ∧ a'.2.2.length = a'.1 ∧ Lb a'.2.2 ∧ (a'.2.1 = 0 ∨ a'.2.1 = 1) ∧ val a'.2.2 + val (b.take a'.1) = val (a.take a'.1) + a'.2.1.toNat * 1000000000 ^ a'.1):=by
    intro d WR hd d0 d1 hb'
    refine ⟨_,rfl,by dsimp only;omega,by dsimp only;omega,by simp [hD],Uz d0 d1 JL,hb',?_⟩
    dsimp only
    have e2 : (a.take i).length = i:=by simp;omega
    rw [nO,hD,dP (l:=a) (by omega),nO,e2]
    have e3 : val (b.take (i + 1)) = val (b.take i) + 1000000000 ^ i * (b.getD i 0).toNat:=by
     by_cases hb2 : i < b.length
     ·rw [dP hb2,nO];congr 3;simp;omega
     ·rw [List.take_of_length_le (by omega),List.take_of_length_le (by omega),zb (by omega)];simp
    rw [e3,Nat.pow_succ]
    exact WQ hv (by omega)
   by_cases c2 : (i : Int) < (b.length : Nat)
   ·by_cases c3 : a.getD i 0 - bo - b.getD i 0 < 0
    ·obtain ⟨_,rfl,k1,k2⟩:=key (a.getD i 0 - bo - b.getD i 0 + 1000000000) 1 (by omega) (by omega) (by omega) (.inr rfl)
     clear key hv zb hba hbb JL
     (rcases xs with _ | ⟨x,xs⟩ <;> simp only [List.length_nil,List.length_cons,kT,jW,gI,dW] at hx ⊢)
     ·refine uO @c1 @c2 @c3 ?_
      exact ⟨by omega,_,k1,k2,by exact EN⟩
     ·refine uO @c1 @c2 @c3 ?_
      exact ⟨by omega,_,k1,k2,by exact EO⟩
    ·obtain ⟨_,rfl,k1,k2⟩:=key (a.getD i 0 - bo - b.getD i 0) 0 (by omega) (by omega) (by omega) (.inl rfl)
     clear key hv zb hba hbb JL
     (rcases xs with _ | ⟨x,xs⟩ <;> simp only [List.length_nil,List.length_cons,kT,jW,gI,dW] at hx ⊢)
     ·refine uO @c1 @c2 @c3 ?_
      exact ⟨by omega,_,k1,k2,by exact EN⟩
     ·refine uO @c1 @c2 @c3 ?_
      exact ⟨by omega,_,k1,k2,by exact EO⟩
   ·have z:=zb (by omega)
    by_cases c3 : a.getD i 0 - bo < 0
    ·obtain ⟨_,rfl,k1,k2⟩:=key (a.getD i 0 - bo + 1000000000) 1 (by omega) (by omega) (by omega) (.inr rfl)
     clear key hv zb hba hbb JL
     (rcases xs with _ | ⟨x,xs⟩ <;> simp only [List.length_nil,List.length_cons,kT,jW,gI,dW] at hx ⊢)
     ·refine uO @c1 @c2 @c3 ?_
      exact ⟨by omega,_,k1,k2,by exact EN⟩
     ·refine uO @c1 @c2 @c3 ?_
      exact ⟨by omega,_,k1,k2,by exact EO⟩
    ·obtain ⟨_,rfl,k1,k2⟩:=key (a.getD i 0 - bo) 0 (by omega) (by omega) (by omega) (.inl rfl)
     clear key hv zb hba hbb JL
     (rcases xs with _ | ⟨x,xs⟩ <;> simp only [List.length_nil,List.length_cons,kT,jW,gI,dW] at hx ⊢)
     ·refine uO @c1 @c2 @c3 ?_
      exact ⟨by omega,_,k1,k2,by exact EN⟩
     ·refine uO @c1 @c2 @c3 ?_
      exact ⟨by omega,_,k1,k2,by exact EO⟩
  ·have hi2 : i = a.length:=by omega
   subst hi2
   rw [List.take_length,List.take_of_length_le (by omega)] at hv
   have hlt:=oP JL
   rw [hD] at hlt
   have hz : bo = 0:=by
    rcases hbo with h | h
    ·exact h
    ·rw [h] at hv
     simp at hv
     omega
   subst hz
   have ct:=vF h.dF (l:=xs) (by omega)
   have e : mk (val xs) = mk (m - n):=by
    congr 1
    simp at hv
    omega
   rw [tN JL,e] at ct
   (rcases xs with _ | ⟨x,xs⟩ <;> simp only [List.length_nil,List.length_cons,kT,jW,gI,dW] at hx ⊢)
   ·refine ev1 @c1 ?_
    refine ahj (as':=[.sl 1 []]) ct (by simp only [MQ,MP,gZ,and_true]) ?_
    refine ev ?_
    exact aC _
   ·refine ev1 @c1 ?_
    refine ah ct ?_
    refine ev ?_
    exact aC _
theorem Y3 {T : Tb} (h : Aw T) {m d : Nat} (d0 : 0 < d) (d1 : d < 1000000000) (la : (mk m).length ≤ 1000:=by exact dD) : PF T 147 [ints (mk m),iv (d : Nat)] (.eF [ints (mk (m / d)),iv (m % d : Nat)]):=by
 obtain ⟨A,hA⟩ : ∃ A,mk m = A:=⟨_,rfl⟩
 have hva : val A = m:=by rw [← hA,val_mk]
 have hbA : Lb A:=hA ▸ kH m
 rw [hA] at la ⊢
 refine aK nR h.hT ?_
 simp only [tY,Lz]
 refine ev ?_
 refine ⟨by omega,?_⟩
 rw [FN]
 refine aQ (fun _ _=>false) (α:=Nat × List Int × Nat) (fun q=>⟨bM [ints A,iv (d : Nat),.any,.any,.any,.any,.bC 0 0 A.length,iv (q.2.2 : Nat),iv ((q.1 : Nat) - 1)],[some ⟨1,aN q.2.1⟩],0,0,[],[]⟩) (fun q=>q.1 ≤ A.length ∧ q.2.1.length = A.length ∧ Lb q.2.1 ∧ q.2.2 < d ∧ val (A.drop q.1) = val (q.2.1.drop q.1) * d + q.2.2) (fun q=>q.1) rfl (A.length,List.replicate A.length 0,0) ?_ ?_ ?_
 ·exact ⟨by omega,by simp,JE _,d0,by dsimp only;rw [bW (Nat.le_refl _),bW (by simp)];simp⟩
 ·(refine aI ?_;exact yB)
 ·rintro ⟨k,Q,x⟩ ⟨hk,hQ,hQb,hx,hv⟩
  dsimp only at hk hQ hQb hx hv
  by_cases k0 : k = 0
  ·subst k0
   rw [List.drop_zero,List.drop_zero,hva] at hv
   obtain ⟨q1,q2⟩:=FW hv hx
   have e0 : ¬ (0 : Int) ≤ ((0 : Nat) : Int) - 1:=by omega
   refine ev1 @e0 ?_
   refine ah (vF h.dF (l:=Q) (by omega)) ?_
   refine ev ?_
   rw [tN hQb,← q1,← q2]
   exact aC _
  ·obtain ⟨i,rfl⟩ : ∃ i,k = i + 1:=⟨k - 1,by omega⟩
   have e0 : (((i + 1 : Nat) : Int) - 1) = (i : Nat):=by omega
   have e1 : ((i : Nat) : Int) < (A.length : Nat):=by omega
   have e2 : (0 : Int) ≤ (i : Nat):=by omega
   rw [e0]
   have ga:=kJ hbA i
   have hvi:=fZ A i
   obtain ⟨t,ht⟩ : ∃ t : Nat,t = x * 1000000000 + (A.getD i 0).toNat:=⟨_,rfl⟩
   have ht' : (x : Int) * 1000000000 + A.getD i 0 = (t : Nat):=by omega
   have tq : t / d < 1000000000:=by
    have t1 : t < (x + 1) * 1000000000:=by omega
    exact Nat.div_lt_of_lt_mul (Nat.lt_of_lt_of_le t1 (Nat.mul_le_mul_right 1000000000 hx))
   have tr : t % d < d:=Nat.mod_lt _ d0
   have f1 : ((t : Nat) : Int).tdiv (d : Nat) = ((t / d : Nat) : Int):=by rw [Int.tdiv_eq_ediv_of_nonneg (by omega),Int.natCast_ediv]
   have f2 : ((t : Nat) : Int).tmod (d : Nat) = ((t % d : Nat) : Int):=by rw [Int.tmod_eq_emod_of_nonneg (by omega),Int.natCast_emod]
   have hdm:=Nat.div_add_mod t d
   have nz : ¬ ((d : Nat) : Int) = 0:=by omega
   have tb : t < 1000000000000000000:=by
    have t1 : t < (x + 1) * 1000000000:=by omega
    have t2 : (x + 1) * 1000000000 ≤ 1000000000 * 1000000000:=Nat.mul_le_mul_right 1000000000 (by omega)
    exact Nat.lt_of_lt_of_le t1 t2
   generalize t / d = q at *
   generalize t % d = r at *
   have k1:=FT (l:=Q) (i:=i) (d:=((q : Nat) : Int)) (by omega) (by omega) hQb
   have k2 : val (A.drop i) = val ((Q.set i (q : Nat)).drop i) * d + r:=by
    rw [hvi,hv,drop_set_self (by omega),val,Nat.add_mul,Nat.mul_add,Nat.mul_assoc,Nat.mul_comm d q] at *
    rw [show ((q : Nat) : Int).toNat = q by omega]
    omega
   clear hvi hv hdm ht
   simp (disch:=first | omega | assumption | (simp;done) | (simp;omega)) only [↓WJ,WL,splice,Nat.reduceAdd,Nat.reduceEqDiff,Nat.reduceMul,Nat.reduceLT,Nat.reduceLeDiff,reduceIte,V.leaf,EF,FM,H8,Bool.true_and,Bool.false_and,Bool.or_false,Bool.false_or,Bool.true_or,reduceCtorEq,e2,e1,ht',f1,f2,nz,hQ]
   exact ⟨(i,Q.set i (q : Nat),r),by dsimp only;omega,⟨by dsimp only;omega,by simp [hQ],k1,tr,k2⟩,by (refine aI ?_;exact yB)⟩
theorem Y4 {T : Tb} (h : Az T) {r b : Nat} (b0 : 0 < b) (hr : r < b * 1000000000) (la : (mk r).length ≤ 900:=by exact dD) (lb : (mk b).length ≤ 900:=by exact dD) : PF T 148 [ints (mk r),ints (mk b)] (iv (r / b : Nat)):=by
 have hq : r / b < 1000000000:=Nat.div_lt_of_lt_mul (by omega)
 have key : ∀ q,b * q ≤ r ↔ q ≤ r / b:=fun q=>by rw [Nat.le_div_iff_mul_le b0,Nat.mul_comm]
 refine aT nR h.hT ?_
 simp only [tZ,Lz]
 refine ev ?_
 generalize r / b = z at *
 refine aQ (fun _ _=>false) (α:=Nat × Nat) (fun q=>⟨bM [ints (mk r),ints (mk b),.any,.any,.any,iv (q.1 : Nat),iv (q.2 : Nat)],[],0,0,[],[]⟩) (fun q=>q.1 ≤ z ∧ z ≤ q.2 ∧ q.2 ≤ 999999999) (fun q=>q.2 - q.1) rfl (0,999999999) ?_ ?_ ?_
 ·exact ⟨by omega,by dsimp only;omega,by dsimp only;omega⟩
 ·(refine aI ?_;exact yB)
 ·rintro ⟨lo,hi⟩ ⟨h1,h2,h3⟩
  dsimp only at h1 h2 h3
  refine ev ?_
  refine aG (fun c1=>?_) fun c1=>?_ <;> (refine ev1 @c1 ?_;try with_reducible exact True.intro)
  ·have e1 : ((lo : Int) + hi + 1).tdiv 2 = (((lo + hi + 1) / 2 : Nat) : Int):=by rw [Int.tdiv_eq_ediv_of_nonneg (by omega)];omega
   have q1 : lo < (lo + hi + 1) / 2:=by omega
   have q2 : (lo + hi + 1) / 2 ≤ hi:=by omega
   generalize (lo + hi + 1) / 2 = q at *
   have cn:=IU h.jJ (n:=((q : Nat) : Int)) (by omega)
   rw [Int.toNat_natCast] at cn
   have lq : (mk q).length ≤ 1:=aZ.2 (by omega)
   have lm:=DY b q
   have cc:=KI h.lJ (lG (b * q)) (lG r) (by omega) (by omega)
   rw [val_mk,val_mk] at cc
   refine ev1 @e1 ?_
   refine ah cn ?_
   refine ev ?_
   refine ah (vS h.dR (m:=b) (n:=q) (by omega) (by omega)) ?_
   refine ev ?_
   refine ah cc ?_
   refine ev ?_
   have ck : EH (b * q) r ≤ 0 ↔ b * q ≤ r:=by unfold EH;repeat' split <;> omega
   refine aG (fun c2=>?_) fun c2=>?_ <;> (refine ev1 @c2 ?_;try with_reducible exact True.intro)
   ·have:=(key q).1 (ck.1 c2)
    exact ⟨(q,hi),by dsimp only;omega,⟨by dsimp only;omega,by dsimp only;omega,h3⟩,by (refine aI ?_;exact yB)⟩
   ·have : ¬ q ≤ z:=fun k=>c2 (ck.2 ((key q).2 k))
    have e2 : ((q : Nat) : Int) - 1 = ((q - 1 : Nat) : Int):=by omega
    exact ⟨(lo,q - 1),by dsimp only;omega,⟨h1,by dsimp only;omega,by dsimp only;omega⟩,by (refine aI ?_) <;> (try (refine ev1 @e2 ?_;try with_reducible exact True.intro)) <;> (repeat' (first | refine ⟨?_,?_⟩ | exact kE (by omega) | exact mV (by simp) | exact kF _))⟩
  ·have : lo = z:=by omega
   rw [this]
theorem Y5 {T : Tb} (h : AA T) {x y : Nat} (hx : x < 1000000000000000000:=by exact dD) (hy : y < 1000000000000000000:=by exact dD) : PF T 135 [iv (x : Nat),iv (y : Nat)] (ints (mk (Nat.gcd x y))):=by
 refine aK nR h.hT ?_
 simp only [uf,Lz]
 refine ev ?_
 refine aQ (fun _ _=>false) (α:=Nat × Nat) (fun q=>⟨bM [iv (q.1 : Nat),iv (q.2 : Nat)],[],0,0,[],[]⟩) (fun q=>Nat.gcd q.1 q.2 = Nat.gcd x y ∧ q.1 < 1000000000000000000 ∧ q.2 < 1000000000000000000) (fun q=>q.2) rfl (x,y) ?_ ?_ ?_
 ·exact ⟨rfl,hx,hy⟩
 ·exact JK
 ·rintro ⟨u,v⟩ ⟨hg,su,sv⟩
  dsimp only at hg su sv
  rw [← hg]
  clear hg
  refine ev ?_
  refine aG (fun c4=>?_) fun c4=>?_ <;> (refine ev1 @c4 ?_;try with_reducible exact True.intro)
  ·have v0 : 0 < v:=by omega
   have er : ((u : Nat) : Int).tmod (v : Nat) = ((u % v : Nat) : Int):=by rw [Int.tmod_eq_emod_of_nonneg (by omega),Int.natCast_emod]
   have lr:=Nat.mod_lt u v0
   have eg : Nat.gcd v (u % v) = Nat.gcd u v:=by rw [Nat.gcd_comm u v,Nat.gcd_rec v u,Nat.gcd_comm]
   exact ⟨(v,u % v),lr,⟨eg,sv,by dsimp only;omega⟩,by (refine aI ?_) <;> (try (refine ev1 @er ?_;try with_reducible exact True.intro)) <;> (repeat' (first | refine ⟨?_,?_⟩ | exact kE (by omega) | exact mV (by simp) | exact kF _))⟩
  ·have v0 : v = 0:=by omega
   have cu:=IU h.jJ (n:=((u : Nat) : Int)) (by omega)
   rw [Int.toNat_natCast] at cu
   refine ah cu ?_
   refine ev ?_
   rw [v0,Nat.gcd_zero_right]
   exact aC _
theorem Qp {T : Tb} (h : zn T) {m n : Nat} (hn : 0 < n) (la : (mk m).length ≤ 900:=by exact dD) (lb : (mk n).length ≤ 890:=by exact dD) :
  PF T 136 [ints (mk m),ints (mk n)] (.eF [ints (mk (m / n)),ints (mk (m % n))]):=by
 by_cases big : (mk n).length = 1
 ·have n1 : n < 1000000000:=by have:=(aZ (n:=n) (k:=1)).1 (by omega);omega
  have cs:=Y3 h.Oe (m:=m) hn n1 (by omega)
  have lr:=Nat.mod_lt m hn
  have cn:=IU h.jJ (n:=((m % n : Nat) : Int)) (by omega)
  rw [Int.toNat_natCast] at cn
  rw [mk_one hn n1]
  have c0 : ((1 : Nat) : Int) = 1:=rfl
  refine aK nR h.hT ?_
  simp only [rQ,Lz]
  refine ev ?_
  refine ev1 @c0 ?_
  refine ah cs ?_
  refine ev ?_
  refine ah cn ?_
  refine ev ?_
  exact aC _
 obtain ⟨A,hA⟩ : ∃ A,mk m = A:=⟨_,rfl⟩
 obtain ⟨B,hB⟩ : ∃ B,mk n = B:=⟨_,rfl⟩
 have hva : val A = m:=by rw [← hA,val_mk]
 have hbA : Lb A:=hA ▸ kH m
 have hbB : Lb B:=hB ▸ kH n
 rw [hA] at la ⊢
 rw [hB] at lb big ⊢
 have c1 : ¬ ((B.length : Nat) : Int) = 1:=by omega
 refine aK nR h.hT ?_
 simp only [rQ,Lz]
 refine ev ?_
 refine ev1 @c1 ?_
 refine ⟨by omega,?_⟩
 rw [FN]
 refine aQ (fun _ _=>false) (α:=Nat × List Int × Nat) (fun q=>⟨bM [ints A,ints B,.any,.any,.any,.any,.any,.any,.bC 0 0 A.length,ints (mk q.2.2),iv ((q.1 : Nat) - 1)],[some ⟨1,aN q.2.1⟩],0,0,[],[]⟩) (fun q=>q.1 ≤ A.length ∧ q.2.1.length = A.length ∧ Lb q.2.1 ∧ (∀ j,j < q.1 → q.2.1.getD j 0 = 0) ∧ q.2.2 < n ∧ val (A.drop q.1) = val (q.2.1.drop q.1) * n + q.2.2) (fun q=>q.1) rfl (A.length,List.replicate A.length 0,0) ?_ ?_ ?_
 ·exact ⟨by omega,by simp,JE _,by intro j _;simp [List.getD_eq_getElem?_getD,List.getElem?_replicate];split <;> rfl,hn,by dsimp only;rw [bW (Nat.le_refl _),bW (by simp)];simp⟩
 ·rw [mk_zero]
  exact Y1
 ·rintro ⟨k,Q,x⟩ ⟨hk,hQ,hQb,hz,hx,hv⟩
  dsimp only at hk hQ hQb hz hx hv
  by_cases k0 : k = 0
  ·subst k0
   rw [List.drop_zero,List.drop_zero,hva] at hv
   obtain ⟨q1,q2⟩:=FW hv hx
   have e0 : ¬ (0 : Int) ≤ ((0 : Nat) : Int) - 1:=by omega
   refine ev1 @e0 ?_
   refine ah (vF h.dF (l:=Q) (by omega)) ?_
   refine ev ?_
   rw [tN hQb,← q1,← q2]
   exact aC _
  ·obtain ⟨i,rfl⟩ : ∃ i,k = i + 1:=⟨k - 1,by omega⟩
   have e0 : (((i + 1 : Nat) : Int) - 1) = (i : Nat):=by omega
   have e1 : ((i : Nat) : Int) < (A.length : Nat):=by omega
   have e2 : (0 : Int) ≤ (i : Nat):=by omega
   rw [e0]
   have ga:=kJ hbA i
   have hvi:=fZ A i
   obtain ⟨t,ht⟩ : ∃ t,(A.getD i 0).toNat + 1000000000 * x = t:=⟨_,rfl⟩
   have htn : t < n * 1000000000:=by omega
   have lt' : (A.getD i 0 :: mk x).length ≤ 1048576:=by
    have : (mk x).length ≤ B.length:=by rw [aZ];exact Nat.lt_trans hx (by have:=oP hbB;rw [← hB,val_mk,hB] at this;exact this)
    simp only [List.length_cons];omega
   have tr : trim (A.getD i 0 :: mk x) = mk t:=by
    rw [tN (by intro y hy;rcases List.mem_cons.1 hy with rfl | hy;exact ga;exact kH x y hy),← ht,val,val_mk]
   have ct:=vF h.dF (l:=A.getD i 0 :: mk x) lt'
   rw [tr] at ct
   have ely : ∀ y,y ≤ t → (mk y).length ≤ 891:=by
    intro y hy
    have : (mk y).length ≤ B.length + 1:=by
     rw [aZ,Nat.pow_succ]
     have:=oP hbB
     rw [← hB,val_mk,hB] at this
     exact Nat.lt_of_lt_of_le (Nat.lt_of_le_of_lt hy htn) (Nat.mul_le_mul_right _ (Nat.le_of_lt this))
    omega
   have lx:=ely
   refine iW @e2 @e1 ?_
   refine ⟨fun e3=>?_,fun e3=>?_⟩
   case' refine_1 =>
    have x0 : mk x = []:=by cases hm : mk x with | nil=>rfl | cons a l=>rw [hm] at e3;cases e3
    rw [x0] at ct
    rw [show [[V.int IntKind.i64 (A.getD i 0)]] = aN [A.getD i 0] from rfl]
    (refine ev ?_;try with_reducible exact True.intro)
   case' refine_2 =>
    refine ev1 @e3 ?_
    rw [show [V.int IntKind.i64 (A.getD i 0)] :: aN (mk x) = aN (A.getD i 0 :: mk x) from rfl]
    refine ev ?_
    have lm:=lt'
    simp only [List.length_cons] at lm
    refine ⟨by omega,?_⟩
   all_goals
    clear lt'
    refine ah ct ?_
    refine ev ?_
    have ly:=ely t (Nat.le_refl _)
    have cc:=KI h.lJ (lG t) (lG n) (by omega) (by rw [hB];omega)
    rw [val_mk,val_mk,hB] at cc
    refine ah cc ?_
    refine ev ?_
    have gk : EH t n < 0 ↔ t < n:=by unfold EH;repeat' split <;> omega
    have k0:=hz i (by omega)
    have k1:=fZ Q i
    refine aG (fun c3=>?_) fun c3=>?_ <;> (refine ev1 @c3 ?_;try with_reducible exact True.intro)
    ·have hny:=gk.1 c3
     have k2 : val (A.drop i) = val (Q.drop i) * n + t:=by
      rw [hvi,hv,k1,k0,Nat.add_mul,Nat.mul_add,← Nat.mul_assoc];simp only [Int.toNat_zero,Nat.zero_mul,Nat.zero_add,← ht];omega
     exact ⟨(i,Q,t),by dsimp only;omega,⟨by dsimp only;omega,hQ,hQb,fun j hj=>hz j (by dsimp only at hj;omega),hny,k2⟩,by exact Y1⟩
    ·have hny : n ≤ t:=by omega
     have cd:=Y4 h.Og (r:=t) (b:=n) hn htn (by omega) (by rw [hB];omega)
     rw [hB] at cd
     have hdm:=Nat.div_add_mod t n
     have hml:=Nat.mod_lt t hn
     have hq : t / n < 1000000000:=Nat.div_lt_of_lt_mul (by omega)
     obtain ⟨d,hd⟩ : ∃ d,t / n = d:=⟨_,rfl⟩
     rw [hd] at cd hdm hq
     have cn:=IU h.jJ (n:=((d : Nat) : Int)) (by omega)
     rw [Int.toNat_natCast] at cn
     have lq : (mk d).length ≤ 1:=aZ.2 (by omega)
     have pm:=vS h.dR (m:=n) (n:=d) (by rw [hB];omega) (by omega)
     rw [hB] at pm
     have lnd:=ely (n * d) (by omega)
     have ps:=Qo h.zo (m:=t) (n:=n * d) (by omega) (by omega) (by omega)
     have k3:=FT (l:=Q) (i:=i) (d:=((d : Nat) : Int)) (by omega) (by omega) hQb
     have k4 : ∀ j,j < i → (Q.set i (d : Nat)).getD j 0 = 0:=by
      intro j hj
      rw [iP,if_neg (by omega)]
      exact hz j (by omega)
     have k5 : val (A.drop i) = val ((Q.set i (d : Nat)).drop i) * n + (t - n * d):=by
      rw [hvi,hv,drop_set_self (by omega),val,Nat.add_mul,Nat.mul_add,← Nat.mul_assoc]
      rw [show ((d : Nat) : Int).toNat = d by omega,Nat.mul_comm d n]
      omega
     have k6 : t - n * d < n:=by omega
     clear hdm hv hvi k1 k0 hz lx ely ht hd hml hx
     refine ah cd ?_
     refine iW @e1 @hQ ?_
     refine ah cn ?_
     refine ev ?_
     refine ah pm ?_
     refine ev ?_
     refine ah ps ?_
     refine ev ?_
     exact ⟨(i,Q.set i (d : Nat),t - n * d),by dsimp only;omega,⟨by dsimp only;omega,by simp [hQ],k3,k4,k6,k5⟩,by exact Y1⟩
theorem Qq {T : Tb} (h : AB T) {n : Nat} (hn : n < 1000000000000000000:=by exact dD) : PF T 134 [ints (mk n)] (.eF [iv (n : Nat),.bool true]):=by
 have hl : (mk n).length ≤ 2:=aZ.2 (by omega)
 have hv:=val_mk n
 have c1:=Qj h.vT (l:=mk n) (by omega)
 rw [P5 (Nat.lt_of_lt_of_le hn (by omega))] at c1
 have cb : Can [854775807,223372036,9]:=⟨by intro x hx;simp at hx;omega,by simp⟩
 have c2:=KI h.lJ (lG n) cb (by omega) (by simp)
 have e2 : EH (val (mk n)) (val [854775807,223372036,9]) = -1:=by
  have : val [854775807,223372036,9] = 9223372036854775807:=by simp [val]
  rw [this,val_mk];unfold EH;rw [if_pos (by omega)]
 rw [e2] at c2
 refine aT nR h.hT ?_
 simp only [uh,Lz]
 refine ev ?_
 refine ah c1 ?_
 refine ev ?_
 refine ah c2 ?_
 have c3 : ¬ (0 : Int) < -1:=by omega
 refine ev1 @c3 ?_
 refine aQ (fun _ _=>false) (α:=Nat) (fun k=>⟨bM [ints (mk n),.any,.any,.any,iv (val ((mk n).drop k) : Nat),iv ((k : Int) - 1)],[],0,0,[],[]⟩) (fun k=>k ≤ (mk n).length) (fun k=>k) rfl (mk n).length ?_ ?_ ?_
 ·omega
 ·have e : val ((mk n).drop (mk n).length) = 0:=bW (Nat.le_refl _)
  simp only [e]
  exact JK
 ·intro k hk
  refine ev ?_
  refine aG (fun h3=>?_) fun h3=>?_ <;> (refine ev1 @h3 ?_;try with_reducible exact True.intro)
  ·obtain ⟨m,rfl⟩ : ∃ m,k = m + 1:=⟨k - 1,by omega⟩
   have e1 : ((m + 1 : Nat) : Int) - 1 = (m : Nat):=by omega
   have e2:=fZ (mk n) m
   have e3:=NT (l:=mk n) m
   have e4:=kJ (kH n) m
   refine ev1 @e1 ?_
   exact ⟨m,by omega,by omega,by (refine aI ?_;exact yB)⟩
  ·have : k = 0:=by omega
   subst this
   rw [List.drop_zero,hv]
theorem WU {T : Tb} (h : zu T) {m n : Nat} (la : (mk m).length ≤ 800:=by exact dD) (lb : (mk n).length ≤ 800:=by exact dD) :
  PF T 123 [ints (mk m),ints (mk n)] (ints (mk (Nat.gcd m n))):=by
 have em : ∀ k,aN (mk k) = [] → mk k = []:=fun k e=>by cases hm : mk k with | nil=>rfl | cons a l=>rw [hm] at e;cases e
 refine aK nR h.hT ?_
 simp only [zq,Lz]
 refine ev ?_
 refine ⟨fun e1=>⟨fun e2=>?_,fun e2=>?_⟩,fun e1=>⟨by omega,fun e2=>?_,fun e2=>?_⟩⟩
 case' refine_1=>have x0:=em m e1;have y0:=em n e2
 case' refine_2=>have x0:=em m e1;refine ⟨by omega,?_⟩
 case' refine_3=>have y0:=em n e2
 case' refine_4=>refine ⟨by omega,?_⟩
 all_goals
  refine aQ (fun _ _=>false) (α:=Nat × Nat) (fun q=>⟨bM [.any,.any,.any,.any,.any,ints (mk q.1),ints (mk q.2)],[],0,0,[],[]⟩) (fun q=>Nat.gcd q.1 q.2 = Nat.gcd m n ∧ (mk q.1).length ≤ 800 ∧ (mk q.2).length ≤ 800) (fun q=>q.2) rfl (m,n) ?_ ?_ ?_
  ·exact ⟨rfl,la,lb⟩
  ·dsimp only
   try rw [x0]
   try rw [y0]
   exact Y0
  ·rintro ⟨x,y⟩ ⟨hg,lx,ly⟩
   dsimp only at hg lx ly
   rw [← hg]
   clear hg la lb em e1 e2
   refine ev ?_
   refine aG (fun c1=>?_) fun c1=>?_ <;> (refine ev1 @c1 ?_;try with_reducible exact True.intro)
   ·have hy : 0 < y:=Au.1 (by omega)
    by_cases c2 : (((mk x).length : Nat) : Int) < 3 ∧ (((mk y).length : Nat) : Int) < 3
    ·obtain ⟨c2,c3⟩:=c2
     have sx : x < 1000000000000000000:=by have:=aZ (n:=x) (k:=2);omega
     have sy : y < 1000000000000000000:=by have:=aZ (n:=y) (k:=2);omega
     refine iW @c2 @c3 ?_
     refine ah (Qq h.GK sx) ?_
     refine ev ?_
     refine ah (Qq h.GK sy) ?_
     refine ev ?_
     refine ah (Y5 h.Oh sx sy) ?_
     refine ev ?_
     exact aC _
    ·have lr:=Nat.mod_lt x hy
     have lr2 : (mk (x % y)).length ≤ 800:=Nat.le_trans (FY (Nat.le_of_lt lr)) ly
     have eg : Nat.gcd y (x % y) = Nat.gcd x y:=by rw [Nat.gcd_comm x y,Nat.gcd_rec y x,Nat.gcd_comm]
     have big : ((((mk x).length : Nat) : Int) < 3 ∧ ¬ (((mk y).length : Nat) : Int) < 3) ∨ ¬ (((mk x).length : Nat) : Int) < 3:=by omega
     clear c2
     rcases big with ⟨c2,c3⟩ | c2
     case' inl=>(refine iW @c2 @c3 ?_;try with_reducible exact True.intro)
     case' inr=>(refine ev1 @c2 ?_;try with_reducible exact True.intro)
     all_goals
      refine ah (Qp h.zx hy (by omega) (by omega)) ?_
      refine ev ?_
      exact ⟨(y,x % y),lr,⟨eg,ly,lr2⟩,by (refine aI ?_;exact yB)⟩
   ·have y0 : y = 0:=by have:=@Au y;omega
    rw [y0,Nat.gcd_zero_right]
    exact aC _
def jX : Fn:=⟨2,17,[.cell 4 2 true],(.seq (rf 1 [oN 4 (.alloc Ro)]) (.seq (sr [oW 5 1,oN 6 (ln 5),oN 7 (bc .eql 6 0),oW 8 7,oG 8 false 9 (oV 1),oG 8 false 10 (ln 9),oG 8 false 11 (bc .gtr 10 60),oN 12 (.pick (.t 8) (.c (.bool true)) (.t 11))] (cd 12 (sr [oN 13 (.build Ro []),oS (.store 2 (.t 4) (.t 13))] .ret) .skip)) (sr [oW 14 0,oW 15 1,oN 16 (.build Ro [(0,1,(.t 14)),(1,1,(.t 15))]),oS (.store 2 (.t 4) (.t 16))] .ret)))⟩
structure eH (T : Tb) : Prop where
 hT : T 68 = some jX
def zy : Fn:=⟨2,16,[.cell 4 2 true],(.seq (rf 3 [oN 2 (.box (.t 0)),oK 3 1 (.box (.t 1)),oK 4 2 (.alloc Ro)]) (.seq (rt 0 [oN 5 (fd 0 2),oA 6 0 (lF 1 5) [0],oN 7 (fd 0 3),oA 8 0 (lF 1 7) [2],oA 9 0 (.beq true (.t 6) (.t 8)) [1,3],oN 10 (fd 1 2),oA 11 0 (lF 1 10) [5],oN 12 (fd 1 3),oA 13 0 (lF 1 12) [7],oA 14 0 (cl 155 [11,13]) [6,8],oA 15 0 (cl 68 [9,14]) [4,9,9],⟨none,none,0,.store 2 (.t 4) (.t 15),[10,10,0,1,2,3,4,5,6,7,8,9,10]⟩]) .ret))⟩
structure rU (T : Tb) : Prop where
 hT : T 142 = some zy
 bG : eH T
 zi : yX T
def zA : Fn:=⟨2,40,[.cell 4 2 true],(.seq (rf 3 [oN 2 (.box (.t 0)),oK 3 1 (.box (.t 1)),oK 4 2 (.alloc Ro)]) (.seq (sr [oN 5 (fd 0 2),oN 6 (lF 1 5),oN 7 (fd 0 3),oN 8 (lF 1 7),oN 9 (.beq false (.t 6) (.t 8))] (cd 9 (.seq (rt 0 [oN 10 (fd 0 2),oA 11 0 (lF 1 10) [0],oN 12 (fd 1 2),oA 13 0 (lF 1 12) [2],oN 14 (fd 1 3),oA 15 0 (lF 1 14) [4],oA 16 0 (cl 160 [13,15]) [3,5],oA 17 0 (cl 68 [11,16]) [1,6,6],⟨none,none,0,.store 2 (.t 4) (.t 17),[7,7,0,1,2,3,4,5,6,7]⟩]) .ret) .skip)) (.seq (sr [oN 18 (fd 1 2),oN 19 (lF 1 18),oN 20 (fd 1 3),oN 21 (lF 1 20),oN 22 (cl 152 [19,21]),oN 23 (bc .geq 22 0)] (cd 23 (.seq (rt 0 [oN 24 (fd 0 2),oA 25 0 (lF 1 24) [0],oN 26 (fd 1 2),oA 27 0 (lF 1 26) [2],oN 28 (fd 1 3),oA 29 0 (lF 1 28) [4],oA 30 0 (cl 154 [27,29]) [3,5],oA 31 0 (cl 68 [25,30]) [1,6,6],⟨none,none,0,.store 2 (.t 4) (.t 31),[7,7,0,1,2,3,4,5,6,7]⟩]) .ret) .skip)) (.seq (rt 0 [oN 32 (fd 0 3),oA 33 0 (lF 1 32) [0],oN 34 (fd 1 3),oA 35 0 (lF 1 34) [2],oN 36 (fd 1 2),oA 37 0 (lF 1 36) [4],oA 38 0 (cl 154 [35,37]) [3,5],oA 39 0 (cl 68 [33,38]) [1,6,6],⟨none,none,0,.store 2 (.t 4) (.t 39),[7,7,0,1,2,3,4,5,6,7]⟩]) .ret))))⟩
structure DZ (T : Tb) : Prop where
 hT : T 141 = some zA
 bG : eH T
 zh : yR T
 rP : yU T
 RI : DV T
def uj : Fn:=⟨1,17,[.tmp 2],(.seq (rf 1 [oN 1 (.box (.t 0)),oK 2 1 mF]) (sr [oN 3 (fd 1 1),oN 4 (lF 1 3),oN 5 (cl 126 [4]),oW 6 5,oG 6 true 7 (fd 0 1),oG 6 true 8 (lF 1 7),oG 6 true 9 (oV 8),oG 9 true 10 (fd 1 1),oG 9 true 11 (lF 1 10),oG 9 true 12 (ln 11),oG 9 true 13 (bc .eql 12 0),oG 6 true 14 (.pick (.t 9) (.t 13) (.c (.bool false))),oG 6 true 15 (nt 14),oN 16 (.pick (.t 6) (.t 15) (.c (.bool false))),oW 2 16] .ret))⟩
structure AL (T : Tb) : Prop where
 hT : T 125 = some uj
 FZ : Bo T
def BA : Fn:=⟨1,6,[.cell 2 2 true],(.seq (rf 2 [oN 1 (.box (.t 0)),oK 2 1 (.alloc Ro)]) (sr [oN 3 (fd 2 1),oN 4 (lF 1 3),oN 5 (.build Ro [(1,1,(.t 4))]),oS (.store 2 (.t 2) (.t 5))] .ret))⟩
structure qI (T : Tb) : Prop where
 hT : T 143 = some BA
def Dz : Fn:=⟨1,7,[.tmp 2],(.seq (rf 1 [oN 1 (.box (.t 0)),oK 2 1 mF]) (sr [oN 3 (fd 2 1),oN 4 (lF 1 3),oN 5 (ln 4),oN 6 (bc .gtr 5 0),oW 2 6] .ret))⟩
structure gq (T : Tb) : Prop where
 hT : T 132 = some Dz
theorem UL : bQ (Ie ⟨false,[]⟩) (.agg [.bool false,.ak]):=by
 show bQ (.agg [.bool false,.sl 1 []]) (.agg [.bool false,.ak])
 simp only [Ih,MQ,MP,EK,gZ,and_true]
theorem jq : bQ (aU ⟨false,[],[]⟩) (.agg [.bool false,.ak,.ak]):=by
 show bQ (.agg [.bool false,.sl 1 [],.sl 1 []]) (.agg [.bool false,.ak,.ak])
 simp only [Ih,MQ,MP,EK,gZ,and_true]
theorem vG {T : Tb} (h : eH T) {neg : Bool} {n : Nat} (hl : (mk n).length ≤ 60:=by exact dD) : PF T 68 [.bool neg,ints (mk n)] (Ie (bi (sg neg n))):=by
 refine aK nR h.hT ?_
 simp only [jX,Lz]
 refine ev ?_
 refine aG (fun h1=>?_) fun h1=>?_ <;> (refine ev1 @h1 ?_;try with_reducible exact True.intro)
 ·have n0 : n = 0:=abI.1 (by omega)
  subst n0
  rw [KJ,aam]
  exact UL
 ·have h2 : ¬ (60 : Int) < ((mk n).length : Nat):=by omega
  refine ev1 @h2 ?_
  rw [ad3 neg n (Au.1 (by omega))]
  exact aC _
theorem ahl {T : Tb} (h : qI T) {r : R} : PF T 143 [aU r] (Ie ⟨false,r.den⟩):=by
 refine aK nR h.hT ?_
 simp only [BA,Lz]
 refine ev ?_
 exact aC _
theorem KL (a b : Bool) : (!decide (a = b)) = (a != b):=by cases a <;> cases b <;> rfl
theorem kU {T : Tb} (h : rU T) {x y : Int} (lx : (mk x.natAbs).length ≤ 30:=by exact dD) (ly : (mk y.natAbs).length ≤ 30:=by exact dD) : PF T 142 [Ie (bi x),Ie (bi y)] (Ie (bi (x * y))):=by
 have l1:=DY x.natAbs y.natAbs
 refine aK nR h.hT ?_
 simp only [zy,Lz]
 refine ev ?_
 refine ah (Qi h.zi (by omega) (by omega)) ?_
 refine ev ?_
 refine ah (vG h.bG (by omega)) ?_
 refine ev ?_
 refine ⟨by unfold jl;decide +kernel,?_⟩
 rw [KL,Qn]
 exact aC _
theorem WV {T : Tb} (h : DZ T) {x y : Int} (lx : (mk x.natAbs).length ≤ 59:=by exact dD) (ly : (mk y.natAbs).length ≤ 59:=by exact dD) : PF T 141 [Ie (bi x),Ie (bi y)] (Ie (bi (x + y))):=by
 have l1:=Y2 x.natAbs y.natAbs
 have l2:=UJ x.natAbs y.natAbs
 have l3:=UJ y.natAbs x.natAbs
 refine aK nR h.hT ?_
 simp only [zA,Lz]
 refine ev ?_
 refine aG (fun h1=>?_) fun h1=>?_ <;> (refine ev1 @h1 ?_;try with_reducible exact True.intro)
 ·refine ah (adY h.RI (by omega) (by omega)) ?_
  refine ev ?_
  refine ah (vG h.bG (by omega)) ?_
  refine ev ?_
  refine ⟨by unfold jl;decide +kernel,?_⟩
  rw [← h1,NU h1]
  exact aC _
 ·have cc:=Qh h.zh (lG x.natAbs) (lG y.natAbs) (by omega) (by omega)
  rw [val_mk,val_mk] at cc
  refine ah cc ?_
  refine ev ?_
  refine aG (fun h2=>?_) fun h2=>?_ <;> (refine ev1 @h2 ?_;try with_reducible exact True.intro)
  ·have h3:=mQ.1 h2
   refine ah (KH h.rP h3 (by omega) (by omega)) ?_
   refine ev ?_
   refine ah (vG h.bG (by omega)) ?_
   refine ev ?_
   refine ⟨by unfold jl;decide +kernel,?_⟩
   rw [Dy h1 h3]
   exact aC _
  ·have h3 : x.natAbs ≤ y.natAbs:=by have:=@mQ x.natAbs y.natAbs;omega
   refine ah (KH h.rP h3 (by omega) (by omega)) ?_
   refine ev ?_
   refine ah (vG h.bG (by omega)) ?_
   refine ev ?_
   refine ⟨by unfold jl;decide +kernel,?_⟩
   rw [Dy (fun e=>h1 e.symm) h3,Int.add_comm]
   exact aC _
theorem Y6 {T : Tb} (h : AL T) {z : Bi} (hl : z.mag.length ≤ 9223372036854775807:=by exact dD) : PF T 125 [Ie z] (.bool (nP z.mag && !(z.neg && z.mag.isEmpty))):=by
 obtain ⟨neg,mag⟩:=z
 have cn:=aaj h.FZ hl
 dsimp only at cn ⊢
 cases hn : nP mag <;> rw [hn] at cn <;> cases neg
 all_goals
  refine aT nR h.hT ?_
  simp only [uj,Lz]
  refine ev ?_
  refine ah cn ?_
  (refine ev ?_;try with_reducible exact True.intro)
 all_goals
  cases mag <;> simp <;> omega
theorem akt {T : Tb} (h : gq T) {r : R} : PF T 132 [aU r] (.bool (!r.den.isEmpty)):=by
 refine aT nR h.hT ?_
 simp only [Dz,Lz]
 refine ev ?_
 cases r.den <;> simp
def pY : Fn:=⟨2,18,[.cell 4 2 true],(.seq (rf 1 [oN 4 (.alloc Ro)]) (sr [oW 6 1,oN 7 (cl 70 [6]),oW 5 7] (.seq (rf 2 [oK 8 2 (oV 0),oK 9 2 (oV 8),oH 9 true 10 2 (oV 5) [],oH 9 true 11 2 (ln 10) [],oH 9 true 12 2 (bc .gtr 11 0) [],oK 13 2 (.pick (.t 9) (.t 12) (.c (.bool false))),oN 14 (.eG 1 FU 0 []),oK 15 2 (oV 5),oK 16 1 (.app 1 8 (.t 14) (.t 15)),oK 17 2 (.build Ro [(0,1,(.t 13)),(1,1,(.t 16))]),⟨none,none,2,.store 2 (.t 4) (.t 17),[]⟩]) .ret)))⟩
structure jY (T : Tb) : Prop where
 hT : T 66 = some pY
 RJ : DX T
def zB : Fn:=⟨2,40,[.cell 4 2 true],(.seq (rf 3 [oN 2 (.box (.t 0)),oK 3 1 (.box (.t 1)),oK 4 2 (.alloc Ro)]) (.seq (sr [oN 5 (fd 0 2),oN 6 (lF 1 5),oN 7 (fd 0 3),oN 8 (lF 1 7),oN 9 (.beq false (.t 6) (.t 8))] (cd 9 (.seq (rt 0 [oN 10 (fd 0 2),oA 11 0 (lF 1 10) [0],oN 12 (fd 1 2),oA 13 0 (lF 1 12) [2],oN 14 (fd 1 3),oA 15 0 (lF 1 14) [4],oA 16 0 (cl 209 [13,15]) [3,5],oA 17 0 (cl 66 [11,16]) [1,6,6],⟨none,none,0,.store 2 (.t 4) (.t 17),[7,7,0,1,2,3,4,5,6,7]⟩]) .ret) .skip)) (.seq (sr [oN 18 (fd 1 2),oN 19 (lF 1 18),oN 20 (fd 1 3),oN 21 (lF 1 20),oN 22 (cl 146 [19,21]),oN 23 (bc .geq 22 0)] (cd 23 (.seq (rt 0 [oN 24 (fd 0 2),oA 25 0 (lF 1 24) [0],oN 26 (fd 1 2),oA 27 0 (lF 1 26) [2],oN 28 (fd 1 3),oA 29 0 (lF 1 28) [4],oA 30 0 (cl 149 [27,29]) [3,5],oA 31 0 (cl 66 [25,30]) [1,6,6],⟨none,none,0,.store 2 (.t 4) (.t 31),[7,7,0,1,2,3,4,5,6,7]⟩]) .ret) .skip)) (.seq (rt 0 [oN 32 (fd 0 3),oA 33 0 (lF 1 32) [0],oN 34 (fd 1 3),oA 35 0 (lF 1 34) [2],oN 36 (fd 1 2),oA 37 0 (lF 1 36) [4],oA 38 0 (cl 149 [35,37]) [3,5],oA 39 0 (cl 66 [33,38]) [1,6,6],⟨none,none,0,.store 2 (.t 4) (.t 39),[7,7,0,1,2,3,4,5,6,7]⟩]) .ret))))⟩
structure D5 (T : Tb) : Prop where
 hT : T 205 = some zB
 dG : jY T
 lJ : nY T
 zo : y8 T
 RN : DW T
def um : Fn:=⟨1,17,[.tmp 2],(.seq (rf 1 [oN 1 (.box (.t 0)),oK 2 1 mF]) (sr [oN 3 (fd 1 1),oN 4 (lF 1 3),oN 5 (cl 121 [4]),oW 6 5,oG 6 true 7 (fd 0 1),oG 6 true 8 (lF 1 7),oG 6 true 9 (nt 8),oG 6 true 10 (oV 9),oG 10 false 11 (fd 1 1),oG 10 false 12 (lF 1 11),oG 10 false 13 (ln 12),oG 10 false 14 (bc .gtr 13 0),oG 6 true 15 (.pick (.t 10) (.c (.bool true)) (.t 14)),oN 16 (.pick (.t 6) (.t 15) (.c (.bool false))),oW 2 16] .ret))⟩
structure AO (T : Tb) : Prop where
 hT : T 120 = some um
 vT : vP T
def rV : Fn:=⟨1,12,[.tmp 2],(sr [oN 2 mF] (sr [oW 3 0,oN 4 (ln 3),oN 5 (bc .eql 4 1),oW 6 5,oG 6 true 7 (oV 0),oG 6 true 8 (.idx 1 (.t 7) (cI 0)),oG 6 true 9 (lF 1 8),oG 6 true 10 (bc .eql 9 1),oN 11 (.pick (.t 6) (.t 10) (.c (.bool false))),oW 2 11] .ret))⟩
structure rW (T : Tb) : Prop where
 hT : T 122 = some rV
theorem qJ {T : Tb} (h : jY T) {neg : Bool} {n : Nat} (hl : (mk n).length ≤ 60:=by exact dD) : PF T 66 [.bool neg,ints (mk n)] (Ie (bi (sg neg n))):=by
 have ct:=ad1 h.RJ (n:=n) (by omega)
 by_cases n0 : n = 0
 ·subst n0
  rw [mk_zero] at *
  rw [KJ,aam]
  refine aK nR h.hT ?_
  simp only [pY,Lz]
  refine ev ?_
  refine ah ct ?_
  cases neg
  ·refine ev ?_
   exact ⟨fun _=>UL,fun e=>absurd rfl e⟩
  ·refine ev ?_
   exact ⟨fun _=>UL,fun e=>absurd rfl e⟩
 ·have hp:=Au.2 (Nat.pos_of_ne_zero n0)
  have ne : aN (mk n) ≠ []:=by intro e;rw [← Ak,e] at hp;simp at hp
  rw [ad3 neg n (by omega)]
  refine aK nR h.hT ?_
  simp only [pY,Lz]
  refine ev ?_
  refine ah ct ?_
  cases neg
  ·refine ev1 @ne ?_
   exact ⟨by omega,aC _⟩
  ·have c1 : (0 : Int) < ((mk n).length : Nat):=by omega
   refine iW @ne @c1 ?_
   exact ⟨by omega,aC _⟩
theorem WW {T : Tb} (h : D5 T) {x y : Int} (lx : (mk x.natAbs).length ≤ 59:=by exact dD) (ly : (mk y.natAbs).length ≤ 59:=by exact dD) : PF T 205 [Ie (bi x),Ie (bi y)] (Ie (bi (x + y))):=by
 have l1:=Y2 x.natAbs y.natAbs
 have l2:=UJ x.natAbs y.natAbs
 have l3:=UJ y.natAbs x.natAbs
 refine aK nR h.hT ?_
 simp only [zB,Lz]
 refine ev ?_
 refine aG (fun h1=>?_) fun h1=>?_ <;> (refine ev1 @h1 ?_;try with_reducible exact True.intro)
 ·refine ah (ad2 h.RN (by omega) (by omega)) ?_
  refine ev ?_
  refine ah (qJ h.dG (by omega)) ?_
  refine ev ?_
  refine ⟨by unfold jl;decide +kernel,?_⟩
  rw [← h1,NU h1]
  exact aC _
 ·have cc:=KI h.lJ (lG x.natAbs) (lG y.natAbs) (by omega) (by omega)
  rw [val_mk,val_mk] at cc
  refine ah cc ?_
  refine ev ?_
  refine aG (fun h2=>?_) fun h2=>?_ <;> (refine ev1 @h2 ?_;try with_reducible exact True.intro)
  ·have h3:=mQ.1 h2
   refine ah (Qo h.zo h3 (by omega) (by omega)) ?_
   refine ev ?_
   refine ah (qJ h.dG (by omega)) ?_
   refine ev ?_
   refine ⟨by unfold jl;decide +kernel,?_⟩
   rw [Dy h1 h3]
   exact aC _
  ·have h3 : x.natAbs ≤ y.natAbs:=by have:=@mQ x.natAbs y.natAbs;omega
   refine ah (Qo h.zo h3 (by omega) (by omega)) ?_
   refine ev ?_
   refine ah (qJ h.dG (by omega)) ?_
   refine ev ?_
   refine ⟨by unfold jl;decide +kernel,?_⟩
   rw [Dy (fun e=>h1 e.symm) h3,Int.add_comm]
   exact aC _
theorem WX {T : Tb} (h : AO T) {z : Bi} (hl : z.mag.length ≤ 9223372036854775807:=by exact dD) : PF T 120 [Ie z] (.bool (nP z.mag && !(z.neg && z.mag.isEmpty))):=by
 obtain ⟨neg,mag⟩:=z
 have cn:=Qj h.vT hl
 dsimp only at cn ⊢
 cases hn : nP mag <;> rw [hn] at cn <;> cases neg
 all_goals
  refine aT nR h.hT ?_
  simp only [um,Lz]
  refine ev ?_
  refine ah cn ?_
  (refine ev ?_;try with_reducible exact True.intro)
 all_goals
  cases mag <;> simp <;> omega
theorem Ii {T : Tb} (h : rW T) {n : Nat} : PF T 122 [ints (mk n)] (.bool (decide (n = 1))):=by
 by_cases n1 : n = 1
 ·subst n1
  rw [mk_one (by omega) (by omega)]
  have c0 : ((1 : Nat) : Int) = 1:=rfl
  refine aT nR h.hT ?_
  simp only [rV,Lz]
  refine ev ?_
  refine ev1 @c0 ?_
  rfl
 ·have key : ¬ ((mk n).length = 1 ∧ (mk n).getD 0 0 = 1):=by
   rintro ⟨k,e⟩
   have:=val_mk n
   cases hm : mk n with
   | nil=>rw [hm] at k;simp at k
   |
    cons x l =>
    rw [hm] at k e this
    have : l = []:=by simpa using k
    subst this
    simp [val] at *
    omega
  refine aT nR h.hT ?_
  simp only [rV,Lz]
  refine ev ?_
  by_cases k : (((mk n).length : Nat) : Int) = 1
  ·have k':=iff_true_intro k
   have e : ¬ (mk n).getD 0 0 = 1:=fun e=>key ⟨by omega,e⟩
   refine iW @k' @e ?_
   simp [n1]
  ·refine ev1 @k ?_
   simp [n1]
theorem KN {q : Rat} : fits q = true ↔ (mk q.num.natAbs).length ≤ 24 ∧ (mk q.den).length ≤ 24:=by
 rw [aZ,aZ];simp [fits]
theorem EP (neg : Bool) (m : Nat) : (sg neg m).natAbs = m:=by cases neg <;> simp [sg]
theorem UM {n d : Int} (hd : d ≠ 0) : Q.raw (Kt n d) =
  if (mk (n.natAbs / Nat.gcd n.natAbs d.natAbs)).length ≤ 24 ∧ (mk (d.natAbs / Nat.gcd n.natAbs d.natAbs)).length ≤ 24 then
   ⟨(bi (sg (decide (n < 0) != decide (d < 0)) (n.natAbs / Nat.gcd n.natAbs d.natAbs))).neg,mk (n.natAbs / Nat.gcd n.natAbs d.natAbs),mk (d.natAbs / Nat.gcd n.natAbs d.natAbs)⟩
  else ⟨false,[],[]⟩:=by
 obtain ⟨h1,h2,h3⟩:=YR (n:=n) hd
 unfold Kt
 rw [if_neg hd]
 have hg : 0 < Nat.gcd n.natAbs d.natAbs:=Nat.gcd_pos_of_pos_right _ (by omega)
 have h4 : n.natAbs / Nat.gcd n.natAbs d.natAbs = 0 ↔ n = 0:=by
  constructor
  ·intro h
   have:=Nat.div_mul_cancel (Nat.gcd_dvd_left n.natAbs d.natAbs)
   rw [h] at this;omega
  ·intro h;subst h;simp
 have h5 : decide ((Rat.divInt n d).num < 0) = decide (sg (decide (n < 0) != decide (d < 0)) (n.natAbs / Nat.gcd n.natAbs d.natAbs) < 0):=by
  rw [h3]
  generalize n.natAbs / Nat.gcd n.natAbs d.natAbs = m at h4
  cases hb : (decide (n < 0) != decide (d < 0))
  ·simp [sg]
  ·by_cases hn : n = 0
   ·have:=h4.2 hn
    subst this;simp [sg,hn]
   ·have : m ≠ 0:=fun e=>hn (h4.1 e)
    simp [sg,hn];omega
 by_cases hf : fits (Rat.divInt n d) = true
 ·have hf2:=KN.1 hf
  rw [h1,h2] at hf2
  rw [Tj hf,if_pos hf2]
  simp only [Q.raw,h1,h2,h5]
 ·have hf2:=fun h=>hf (KN.2 h)
  rw [h1,h2] at hf2
  rw [Tm (by simpa using hf),if_neg hf2]
  rfl
def jZ : Fn:=⟨2,52,[.cell 4 3 true],(.seq (rf 3 [oN 2 (.box (.t 0)),oK 3 1 (.box (.t 1)),oK 4 2 (.alloc kK)]) (.seq (sr [oN 10 (fd 1 3),oN 11 (lF 1 10),oN 12 (ln 11),oN 13 (bc .eql 12 0)] (cd 13 (sr [oN 14 (.build kK []),oS (.store 3 (.t 4) (.t 14))] .ret) .skip)) (sr [oN 15 (fd 1 2),oN 16 (lF 1 15),oN 17 (fd 1 3),oN 18 (lF 1 17),oN 19 (cl 127 [16,18]),oW 5 19] (sr [oN 21 (fd 1 2),oN 22 (lF 1 21),oW 23 5,oN 24 (cl 138 [22,23]),oW 20 24,oN 25 (ex 0 20),oN 26 (ex 1 20),oW 6 25,oW 7 26] (sr [oN 28 (fd 1 3),oN 29 (lF 1 28),oW 30 5,oN 31 (cl 138 [29,30]),oW 27 31,oN 32 (ex 0 27),oN 33 (ex 1 27),oW 8 32,oW 9 33] (.seq (sr [oW 34 6,oN 35 (ln 34),oN 36 (bc .gtr 35 24),oW 37 36,oG 37 false 38 (oV 8),oG 37 false 39 (ln 38),oG 37 false 40 (bc .gtr 39 24),oN 41 (.pick (.t 37) (.c (.bool true)) (.t 40))] (cd 41 (sr [oN 42 (.build kK []),oS (.store 3 (.t 4) (.t 42))] .ret) .skip)) (sr [oN 43 (fd 0 2),oN 44 (lF 1 43),oN 45 (fd 0 3),oN 46 (lF 1 45),oN 47 (.beq true (.t 44) (.t 46)),oW 48 6,oN 49 (cl 68 [47,48]),oW 50 8,oN 51 (.build kK [(0,2,(.t 49)),(2,1,(.t 50))]),oS (.store 3 (.t 4) (.t 51))] .ret)))))))⟩
structure l7 (T : Tb) : Prop where
 hT : T 144 = some jZ
 bG : eH T
 zC : zl T
 nZ : rO T
def iQ : Fn:=⟨2,33,[.cell 4 3 true],(.seq (rf 3 [oN 2 (.box (.t 0)),oK 3 1 (.box (.t 1)),oK 4 2 (.alloc kK)]) (.seq (sr [oN 6 (lT 3 2),oN 7 (cl 132 [6]),oN 8 (nt 7),oW 9 8,oG 9 false 10 (lT 3 3),oG 9 false 11 (cl 132 [10]),oG 9 false 12 (nt 11),oN 13 (.pick (.t 9) (.c (.bool true)) (.t 12))] (cd 13 (sr [oN 14 (.build kK []),oS (.store 3 (.t 4) (.t 14))] .ret) .skip)) (.seq (rt 1 [oK 15 1 (fd 0 2),oA 16 1 (lT 2 15) [0],oK 17 1 (lT 3 3),oA 18 1 (cl 143 [17]) [2],oA 19 1 (cl 142 [16,18]) [1,3,3],oK 20 1 (fd 0 3),oA 21 1 (lT 2 20) [5],oK 22 1 (lT 3 2),oA 23 1 (cl 143 [22]) [7,4],oA 24 1 (cl 142 [21,23]) [6,8,8],oA 25 1 (cl 141 [19,24]) [4,9,9],oN 5 (.alloc Ro),⟨none,none,1,.store 2 (.t 5) (.t 25),[11,10,10,0,1,2,3,4,5,6,7,8,9,10,11]⟩]) (.seq (rt 0 [oN 26 (lT 2 5),oN 27 (lT 3 2),oA 28 0 (cl 143 [27]) [1],oN 29 (lT 3 3),oA 30 0 (cl 143 [29]) [3,2],oA 31 0 (cl 142 [28,30]) [2,4,4],oA 32 0 (cl 144 [26,31]) [0,5,5],⟨none,none,0,.store 3 (.t 4) (.t 32),[6,6,0,1,2,3,4,5,6]⟩]) .ret))))⟩
structure fH (T : Tb) : Prop where
 hT : T 131 = some iQ
 aP : gq T
 Ji : DZ T
 bY : rU T
 bV : qI T
 jf : l7 T
def rX : Fn:=⟨1,20,[.cell 2 3 true],(.seq (rf 2 [oN 1 (.box (.t 0)),oK 2 1 (.alloc kK)]) (.seq (sr [oN 3 (lT 3 1),oN 4 (cl 132 [3]),oN 5 (nt 4)] (cd 5 (sr [oN 6 (.build kK []),oS (.store 3 (.t 2) (.t 6))] .ret) .skip)) (.seq (rt 0 [oN 7 (fd 0 1),oA 8 0 (fd 0 7) [0],oA 9 0 (lF 1 8) [1],oA 10 0 (nt 9) [2],oN 11 (fd 0 1),oA 12 0 (fd 1 11) [4],oA 13 0 (lF 1 12) [5],oA 14 0 (cl 139 [13]) [6],oA 15 0 (cl 68 [10,14]) [3,7,7],oN 16 (fd 2 1),oA 17 0 (lF 1 16) [9],oA 18 0 (cl 139 [17]) [10,8],oA 19 0 (.build kK [(0,2,(.t 15)),(2,1,(.t 18))]) [8,11],⟨none,none,0,.store 3 (.t 2) (.t 19),[12,11,0,1,2,3,4,5,6,7,8,9,10,11,12]⟩]) .ret)))⟩
structure rY (T : Tb) : Prop where
 hT : T 161 = some rX
 bG : eH T
 aP : gq T
 jC : kN T
def zD : Fn:=⟨2,9,[.cell 4 3 true],(.seq (rf 3 [oN 2 (.box (.t 0)),oK 3 1 (.box (.t 1)),oK 4 2 (.alloc kK)]) (.seq (rt 0 [oN 5 (lT 3 2),oN 6 (lT 3 3),oA 7 0 (cl 161 [6]) [1],oA 8 0 (cl 131 [5,7]) [0,2,2],⟨none,none,0,.store 3 (.t 4) (.t 8),[3,3,0,1,2,3]⟩]) .ret))⟩
structure rZ (T : Tb) : Prop where
 hT : T 159 = some zD
 dA : fH T
 zF : rY T
def iR : Fn:=⟨2,25,[.cell 4 3 true],(.seq (rf 3 [oN 2 (.box (.t 0)),oK 3 1 (.box (.t 1)),oK 4 2 (.alloc kK)]) (.seq (sr [oN 5 (lT 3 2),oN 6 (cl 132 [5]),oN 7 (nt 6),oW 8 7,oG 8 false 9 (lT 3 3),oG 8 false 10 (cl 132 [9]),oG 8 false 11 (nt 10),oN 12 (.pick (.t 8) (.c (.bool true)) (.t 11))] (cd 12 (sr [oN 13 (.build kK []),oS (.store 3 (.t 4) (.t 13))] .ret) .skip)) (.seq (rt 0 [oN 14 (fd 0 2),oA 15 0 (lT 2 14) [0],oN 16 (fd 0 3),oA 17 0 (lT 2 16) [2],oA 18 0 (cl 142 [15,17]) [1,3],oN 19 (lT 3 2),oA 20 0 (cl 143 [19]) [5,4],oN 21 (lT 3 3),oA 22 0 (cl 143 [21]) [7,6],oA 23 0 (cl 142 [20,22]) [6,8,8],oA 24 0 (cl 144 [18,23]) [4,9,9],⟨none,none,0,.store 3 (.t 4) (.t 24),[10,10,0,1,2,3,4,5,6,7,8,9,10]⟩]) .ret)))⟩
structure jQ (T : Tb) : Prop where
 hT : T 157 = some iR
 aP : gq T
 bY : rU T
 bV : qI T
 jf : l7 T
def iT : Fn:=⟨2,25,[.cell 4 3 true],(.seq (rf 3 [oN 2 (.box (.t 0)),oK 3 1 (.box (.t 1)),oK 4 2 (.alloc kK)]) (.seq (sr [oN 5 (lT 3 2),oN 6 (cl 132 [5]),oN 7 (nt 6),oW 8 7,oG 8 false 9 (lT 3 3),oG 8 false 10 (cl 132 [9]),oG 8 false 11 (nt 10),oN 12 (.pick (.t 8) (.c (.bool true)) (.t 11))] (cd 12 (sr [oN 13 (.build kK []),oS (.store 3 (.t 4) (.t 13))] .ret) .skip)) (.seq (rt 0 [oN 14 (fd 0 2),oA 15 0 (lT 2 14) [0],oN 16 (lT 3 3),oA 17 0 (cl 143 [16]) [2],oA 18 0 (cl 142 [15,17]) [1,3,3],oN 19 (fd 0 3),oA 20 0 (lT 2 19) [5],oN 21 (lT 3 2),oA 22 0 (cl 143 [21]) [7,4],oA 23 0 (cl 142 [20,22]) [6,8,8],oA 24 0 (cl 144 [18,23]) [4,9,9],⟨none,none,0,.store 3 (.t 4) (.t 24),[10,10,0,1,2,3,4,5,6,7,8,9,10]⟩]) .ret)))⟩
structure lK (T : Tb) : Prop where
 hT : T 156 = some iT
 aP : gq T
 bY : rU T
 bV : qI T
 jf : l7 T
def qg : Fn:=⟨1,16,[.tmp 2],(.seq (rf 1 [oN 1 (.box (.t 0)),oK 2 1 (.bZ (cI 0))]) (.seq (sr [oN 3 (lT 3 1),oN 4 (cl 132 [3]),oN 5 (nt 4),oW 6 5,oG 6 false 7 (fd 0 1),oG 6 false 8 (fd 1 7),oG 6 false 9 (lF 1 8),oG 6 false 10 (ln 9),oG 6 false 11 (bc .eql 10 0),oN 12 (.pick (.t 6) (.c (.bool true)) (.t 11))] (cd 12 (sr [oN 2 (.bZ (cI 0))] .ret) .skip)) (.seq (sr [oN 13 (fd 0 1),oN 14 (fd 0 13),oN 15 (lF 1 14)] (cd 15 (sr [oN 2 (.bZ (cI (-1)))] .ret) .skip)) (sr [oN 2 (.bZ (cI 1))] .ret))))⟩
structure Cm (T : Tb) : Prop where
 hT : T 124 = some qg
 aP : gq T
def jK : Fn:=⟨1,46,[.tmp 2],(.seq (rf 1 [oN 1 (.box (.t 0)),oK 2 1 mF]) (.seq (sr [oN 4 (fd 0 1),oN 5 (lT 2 4),oN 6 (cl 125 [5]),oN 7 (nt 6),oW 8 7,oG 8 false 9 (fd 2 1),oG 8 false 10 (lF 1 9),oG 8 false 11 (cl 126 [10]),oG 8 false 12 (nt 11),oN 13 (.pick (.t 8) (.c (.bool true)) (.t 12)),oW 14 13,oG 14 false 15 (fd 2 1),oG 14 false 16 (lF 1 15),oG 14 false 17 (ln 16),oG 14 false 18 (bc .eql 17 0),oN 19 (.pick (.t 14) (.c (.bool true)) (.t 18))] (cd 19 (sr [oN 2 mF] .ret) .skip)) (.seq (sr [oN 20 (fd 0 1),oN 21 (fd 1 20),oN 22 (lF 1 21),oN 23 (ln 22),oN 24 (bc .gtr 23 24),oW 25 24,oG 25 false 26 (fd 2 1),oG 25 false 27 (lF 1 26),oG 25 false 28 (ln 27),oG 25 false 29 (bc .gtr 28 24),oN 30 (.pick (.t 25) (.c (.bool true)) (.t 29))] (cd 30 (sr [oN 2 mF] .ret) .skip)) (sr [oN 31 (fd 0 1),oN 32 (fd 1 31),oN 33 (lF 1 32),oN 34 (fd 2 1),oN 35 (lF 1 34),oN 36 (cl 127 [33,35]),oW 3 36] (sr [oW 37 3,oN 38 (ln 37),oN 39 (bc .eql 38 1),oW 40 39,oG 40 true 41 (oV 3),oG 40 true 42 (.idx 1 (.t 41) (cI 0)),oG 40 true 43 (lF 1 42),oG 40 true 44 (bc .eql 43 1),oN 45 (.pick (.t 40) (.t 44) (.c (.bool false))),oW 2 45] .ret)))))⟩
structure vU (T : Tb) : Prop where
 hT : T 102 = some jK
 GL : AL T
 FZ : Bo T
 zC : zl T
theorem rE {T : Tb} (h : qI T) {q : Rat} : PF T 143 [aU (Q.raw (some q))] (Ie (bi q.den)):=by
 have:=ahl h (r:=Q.raw (some q))
 rw [aks]
 exact this
theorem UN {T : Tb} (h : gq T) {a : Q} : PF T 132 [aU (Q.raw a)] (.bool a.isSome):=by
 have:=akt h (r:=Q.raw a)
 cases a with
 | none=>exact this
 |
  some q =>
  have hp:=Au.2 q.den_pos
  have e : (Q.raw (some q)).den.isEmpty = false:=by
   show (mk q.den).isEmpty = false
   cases hm : mk q.den with
   | nil=>rw [hm] at hp;simp at hp
   | cons x l=>rfl
  rw [e] at this
  exact this
theorem jr {T : Tb} (h : gq T) {q : Rat} : PF T 132 [aU (Q.raw (some q))] (.bool true):=UN h (a:=some q)
theorem oZ {T : Tb} (h : gq T) : PF T 132 [aU (Q.raw none)] (.bool false):=UN h (a:=none)
theorem MS {T : Tb} (h : l7 T) {n d : Int} (ln : (mk n.natAbs).length ≤ 60:=by exact dD) (ld : (mk d.natAbs).length ≤ 60:=by exact dD) :
  PF T 144 [Ie (bi n),Ie (bi d)] (aU (Q.raw (Kt n d))):=by
 by_cases hd : d = 0
 ·subst hd
  have e : Kt n 0 = none:=rfl
  rw [e]
  refine aK nR h.hT ?_
  simp only [jZ,Lz]
  refine ev ?_
  have c1 : (((mk (0 : Int).natAbs).length : Nat) : Int) = 0:=by
   show (((mk 0).length : Nat) : Int) = 0
   rw [UK];rfl
  refine ev1 @c1 ?_
  exact jq
 ·rw [UM hd]
  have hg : 0 < Nat.gcd n.natAbs d.natAbs:=Nat.gcd_pos_of_pos_right _ (by omega)
  have cg:=Qm h.zC (m:=n.natAbs) (n:=d.natAbs) (by omega) (by omega)
  have lg : (mk (Nat.gcd n.natAbs d.natAbs)).length ≤ 60:=Nat.le_trans (FY (Nat.le_of_dvd (by omega) (Nat.gcd_dvd_right _ _))) ld
  have l1:=MR n.natAbs (Nat.gcd n.natAbs d.natAbs)
  have l2:=MR d.natAbs (Nat.gcd n.natAbs d.natAbs)
  have cn:=Ql h.nZ (m:=n.natAbs) hg (by omega) (by omega)
  have cd:=Ql h.nZ (m:=d.natAbs) hg (by omega) (by omega)
  have c1 : ¬ (((mk d.natAbs).length : Nat) : Int) = 0:=by have:=@abI d.natAbs;omega
  clear hg lg
  generalize n.natAbs / Nat.gcd n.natAbs d.natAbs = u at *
  generalize d.natAbs / Nat.gcd n.natAbs d.natAbs = v at *
  have cm:=vG h.bG (neg:=!decide (decide (n < 0) = decide (d < 0))) (n:=u) (by omega)
  refine aK nR h.hT ?_
  simp only [jZ,Lz]
  refine ev ?_
  refine ev1 @c1 ?_
  refine ah cg ?_
  refine ev ?_
  refine ah cn ?_
  refine ev ?_
  refine ah cd ?_
  refine ev ?_
  by_cases k1 : (24 : Int) < ((mk u).length : Nat)
  ·refine ev1 @k1 ?_
   rw [if_neg (by omega)]
   exact jq
  ·by_cases k2 : (24 : Int) < ((mk v).length : Nat)
   ·refine iW @k1 @k2 ?_
    rw [if_neg (by omega)]
    exact jq
   ·refine iW @k1 @k2 ?_
    refine ah cm ?_
    refine ev ?_
    rw [if_pos (by omega),KL]
    rw [EP]
    exact aC _
theorem ER {q : Rat} (h : Q.ok (some q)) : (mk q.num.natAbs).length ≤ 24 ∧ (mk q.den).length ≤ 24:=KN.1 h
theorem WY {T : Tb} (h : fH T) {a b : Q} (ha : a.ok:=by assumption) (hb : b.ok:=by assumption) : PF T 131 [aU (Q.raw a),aU (Q.raw b)] (aU (Q.raw (JF a b))):=by
 cases a with
 |
  none =>
  refine aK nR h.hT ?_
  simp only [iQ,Lz]
  refine ev ?_
  refine ah (oZ h.aP) ?_
  refine ev ?_
  exact jq
 |
  some q=>cases b with
  |
   none =>
   refine aK nR h.hT ?_
   simp only [iQ,Lz]
   refine ev ?_
   refine ah (jr h.aP) ?_
   refine ev ?_
   refine ah (oZ h.aP) ?_
   refine ev ?_
   exact jq
  |
   some s =>
   obtain ⟨l1,l2⟩:=ER ha
   obtain ⟨l3,l4⟩:=ER hb
   have e : JF (some q) (some s) = Kt (q.num * s.den + s.num * q.den) (q.den * s.den):=(UE q s).symm
   rw [e]
   have t1:=gJ q.num s.den
   have t2:=gJ s.num q.den
   have t3:=gJ q.den s.den
   have t5:=gJ q.num s.num
   have t4:=Dx (q.num * s.den) (s.num * q.den)
   have n1 : (mk (q.den : Int).natAbs).length ≤ 24:=by rw [Int.natAbs_natCast];exact l2
   have n2 : (mk (s.den : Int).natAbs).length ≤ 24:=by rw [Int.natAbs_natCast];exact l4
   refine aK nR h.hT ?_
   simp only [iQ,Lz]
   refine ev ?_
   refine ah (jr h.aP) ?_
   refine ev ?_
   refine ah (jr h.aP) ?_
   refine ev ?_
   refine ah (rE h.bV (q:=s)) ?_
   refine ev ?_
   refine ah (kU h.bY (x:=q.num) (y:=s.den) (by omega) (by omega)) ?_
   refine ev ?_
   refine ah (rE h.bV (q:=q)) ?_
   refine ev ?_
   refine ah (kU h.bY (x:=s.num) (y:=q.den) (by omega) (by omega)) ?_
   refine ev ?_
   refine ah (WV h.Ji (x:=q.num * s.den) (y:=s.num * q.den) (by omega) (by omega)) ?_
   refine ev ?_
   refine ⟨by unfold jl;decide +kernel,?_⟩
   refine ah (rE h.bV (q:=q)) ?_
   refine ev ?_
   refine ah (rE h.bV (q:=s)) ?_
   refine ev ?_
   refine ah (kU h.bY (x:=q.den) (y:=s.den) (by omega) (by omega)) ?_
   refine ev ?_
   refine ah (MS h.jf (n:=q.num * s.den + s.num * q.den) (d:=q.den * s.den) (by omega) (by omega)) ?_
   refine ev ?_
   refine ⟨by unfold jl;decide +kernel,?_⟩
   exact aC _
theorem ad4 {T : Tb} (h : jQ T) {a b : Q} (ha : a.ok:=by assumption) (hb : b.ok:=by assumption) : PF T 157 [aU (Q.raw a),aU (Q.raw b)] (aU (Q.raw (PY a b))):=by
 cases a with
 |
  none =>
  refine aK nR h.hT ?_
  simp only [iR,Lz]
  refine ev ?_
  refine ah (oZ h.aP) ?_
  refine ev ?_
  exact jq
 |
  some q=>cases b with
  |
   none =>
   refine aK nR h.hT ?_
   simp only [iR,Lz]
   refine ev ?_
   refine ah (jr h.aP) ?_
   refine ev ?_
   refine ah (oZ h.aP) ?_
   refine ev ?_
   exact jq
  |
   some s =>
   obtain ⟨l1,l2⟩:=ER ha
   obtain ⟨l3,l4⟩:=ER hb
   have e : PY (some q) (some s) = Kt (q.num * s.num) (q.den * s.den):=(UF q s).symm
   rw [e]
   have t1:=gJ q.num s.den
   have t2:=gJ s.num q.den
   have t3:=gJ q.den s.den
   have t5:=gJ q.num s.num
   have t4:=Dx (q.num * s.den) (s.num * q.den)
   have n1 : (mk (q.den : Int).natAbs).length ≤ 24:=by rw [Int.natAbs_natCast];exact l2
   have n2 : (mk (s.den : Int).natAbs).length ≤ 24:=by rw [Int.natAbs_natCast];exact l4
   refine aK nR h.hT ?_
   simp only [iR,Lz]
   refine ev ?_
   refine ah (jr h.aP) ?_
   refine ev ?_
   refine ah (jr h.aP) ?_
   refine ev ?_
   refine ah (kU h.bY (x:=q.num) (y:=s.num) (by omega) (by omega)) ?_
   refine ev ?_
   refine ah (rE h.bV (q:=q)) ?_
   refine ev ?_
   refine ah (rE h.bV (q:=s)) ?_
   refine ev ?_
   refine ah (kU h.bY (x:=q.den) (y:=s.den) (by omega) (by omega)) ?_
   refine ev ?_
   refine ah (MS h.jf (n:=q.num * s.num) (d:=q.den * s.den) (by omega) (by omega)) ?_
   refine ev ?_
   refine ⟨by unfold jl;decide +kernel,?_⟩
   exact aC _
theorem ad5 {T : Tb} (h : lK T) {a b : Q} (ha : a.ok:=by assumption) (hb : b.ok:=by assumption) : PF T 156 [aU (Q.raw a),aU (Q.raw b)] (aU (Q.raw (PZ a b))):=by
 cases a with
 |
  none =>
  refine aK nR h.hT ?_
  simp only [iT,Lz]
  refine ev ?_
  refine ah (oZ h.aP) ?_
  refine ev ?_
  exact jq
 |
  some q=>cases b with
  |
   none =>
   refine aK nR h.hT ?_
   simp only [iT,Lz]
   refine ev ?_
   refine ah (jr h.aP) ?_
   refine ev ?_
   refine ah (oZ h.aP) ?_
   refine ev ?_
   exact jq
  |
   some s =>
   obtain ⟨l1,l2⟩:=ER ha
   obtain ⟨l3,l4⟩:=ER hb
   have e : PZ (some q) (some s) = Kt (q.num * s.den) (s.num * q.den):=(UG q s).symm
   rw [e]
   have t1:=gJ q.num s.den
   have t2:=gJ s.num q.den
   have t3:=gJ q.den s.den
   have t5:=gJ q.num s.num
   have t4:=Dx (q.num * s.den) (s.num * q.den)
   have n1 : (mk (q.den : Int).natAbs).length ≤ 24:=by rw [Int.natAbs_natCast];exact l2
   have n2 : (mk (s.den : Int).natAbs).length ≤ 24:=by rw [Int.natAbs_natCast];exact l4
   refine aK nR h.hT ?_
   simp only [iT,Lz]
   refine ev ?_
   refine ah (jr h.aP) ?_
   refine ev ?_
   refine ah (jr h.aP) ?_
   refine ev ?_
   refine ah (rE h.bV (q:=s)) ?_
   refine ev ?_
   refine ah (kU h.bY (x:=q.num) (y:=s.den) (by omega) (by omega)) ?_
   refine ev ?_
   refine ah (rE h.bV (q:=q)) ?_
   refine ev ?_
   refine ah (kU h.bY (x:=s.num) (y:=q.den) (by omega) (by omega)) ?_
   refine ev ?_
   refine ah (MS h.jf (n:=q.num * s.den) (d:=s.num * q.den) (by omega) (by omega)) ?_
   refine ev ?_
   refine ⟨by unfold jl;decide +kernel,?_⟩
   exact aC _
theorem WZ {T : Tb} (h : rY T) {a : Q} (ha : a.ok:=by assumption) : PF T 161 [aU (Q.raw a)] (aU (Q.raw (negQ a))):=by
 cases a with
 |
  none =>
  refine aK nR h.hT ?_
  simp only [rX,Lz]
  refine ev ?_
  refine ah (oZ h.aP) ?_
  refine ev ?_
  exact jq
 |
  some q =>
  obtain ⟨l1,l2⟩:=ER ha
  refine aK nR h.hT ?_
  simp only [rX,Lz]
  refine ev ?_
  refine ah (jr h.aP) ?_
  refine ev ?_
  refine ah (JM h.jC (l:=mk q.num.natAbs) (by omega)) ?_
  refine ev ?_
  refine ah (vG h.bG (neg:=!decide (q.num < 0)) (n:=q.num.natAbs) (by omega)) ?_
  refine ev ?_
  refine ah (JM h.jC (l:=mk q.den) (by omega)) ?_
  refine ev ?_
  refine ⟨by unfold jl;decide +kernel,?_⟩
  have e : Q.raw (negQ (some q)) = ⟨(bi (sg (!decide (q.num < 0)) q.num.natAbs)).neg,mk q.num.natAbs,mk q.den⟩:=by
   simp only [negQ,Q.raw,Rat.neg_num,Rat.neg_den,Int.natAbs_neg,R.mk.injEq,and_true]
   have e2 : sg (!decide (q.num < 0)) q.num.natAbs = -q.num:=by
    by_cases h1 : q.num < 0
    ·simp [sg,h1];omega
    ·simp [sg,h1];omega
   rw [e2]
  rw [e,EP]
  exact aC _
theorem ad6 {T : Tb} (h : rZ T) {a b : Q} (ha : a.ok:=by assumption) (hb : b.ok:=by assumption) : PF T 159 [aU (Q.raw a),aU (Q.raw b)] (aU (Q.raw (adx a b))):=by
 have hn:=UC hb
 refine aK nR h.hT ?_
 simp only [zD,Lz]
 refine ev ?_
 refine ah (WZ h.zF hb) ?_
 refine ev ?_
 refine ah (WY h.dA ha hn) ?_
 refine ev ?_
 refine ⟨by unfold jl;decide +kernel,?_⟩
 exact aC _
theorem abJ {T : Tb} (h : Cm T) {a : Q} : PF T 124 [aU (Q.raw a)] (iv (lX a)):=by
 cases a with
 |
  none =>
  refine aT nR h.hT ?_
  simp only [qg,Lz]
  refine ev ?_
  refine ah (oZ h.aP) ?_
  refine ev ?_
  rfl
 |
  some q =>
  refine aT nR h.hT ?_
  simp only [qg,Lz]
  refine ev ?_
  refine ah (jr h.aP) ?_
  refine ev ?_
  have e : ((((mk q.num.natAbs).length : Nat) : Int) = 0) ↔ q.num = 0:=by have:=@abI q.num.natAbs;omega
  refine aG (fun h1=>?_) fun h1=>?_ <;> (refine ev1 @h1 ?_;try with_reducible exact True.intro)
  ·have:=e.1 h1
   simp [lX,sgn,this]
  ·have h2 : ¬ q.num = 0:=fun k=>h1 (e.2 k)
   by_cases h3 : q.num < 0
   ·have e3 : (Q.raw (some q)).neg = true:=by simp [Q.raw,h3]
    refine ev1 @e3 ?_
    simp [lX,sgn,h3]
   ·have e3 : (Q.raw (some q)).neg = false:=by simp [Q.raw,h3]
    refine ev1 @e3 ?_
    simp [lX,sgn,h3,h2]
theorem KO {T : Tb} (h : vU T) {r : R} (hw : r.wf:=by exact dD) : PF T 102 [aU r] (.bool r.ok):=by
 obtain ⟨neg,mag,den⟩:=r
 have w1 : mag.length ≤ 9223372036854775807:=hw.1
 have w2 : den.length ≤ 9223372036854775807:=hw.2
 clear hw
 have cb:=Y6 h.GL (z:=⟨neg,mag⟩) w1
 have cn:=aaj h.GL.FZ (l:=den) w2
 dsimp only at cb
 unfold R.ok
 dsimp only
 cases h1 : (nP mag && !(neg && mag.isEmpty))
 ·rw [h1] at cb
  refine aT nR h.hT ?_
  simp only [jK,Lz]
  refine ev ?_
  refine ah cb ?_
  (refine ev ?_;try with_reducible exact True.intro)
 rw [h1] at cb
 cases h2 : nP den
 ·rw [h2] at cn
  refine aT nR h.hT ?_
  simp only [jK,Lz]
  refine ev ?_
  refine ah cb ?_
  refine ev ?_
  refine ah cn ?_
  (refine ev ?_;try with_reducible exact True.intro)
 rw [h2] at cn
 by_cases h3 : ((den.length : Nat) : Int) = 0
 ·have : den = []:=List.eq_nil_of_length_eq_zero (by omega)
  refine aT nR h.hT ?_
  simp only [jK,Lz]
  refine ev ?_
  refine ah cb ?_
  refine ev ?_
  refine ah cn ?_
  refine ev1 @h3 ?_
  subst this
  rfl
 have h3' : den.isEmpty = false:=by cases den with | nil=>simp at h3 | cons=>rfl
 by_cases h4 : (24 : Int) < ((mag.length : Nat) : Int)
 ·have h4' : ¬ mag.length ≤ 24:=by omega
  refine aT nR h.hT ?_
  simp only [jK,Lz]
  refine ev ?_
  refine ah cb ?_
  refine ev ?_
  refine ah cn ?_
  refine iW @h3 @h4 ?_
  simp [h4']
 by_cases h5 : (24 : Int) < ((den.length : Nat) : Int)
 ·have h5' : ¬ den.length ≤ 24:=by omega
  refine aT nR h.hT ?_
  simp only [jK,Lz]
  refine ev ?_
  refine ah cb ?_
  refine ev ?_
  refine ah cn ?_
  refine uO @h3 @h4 @h5 ?_
  simp [h5']
 have h4' : mag.length ≤ 24:=by omega
 have h5' : den.length ≤ 24:=by omega
 have h6 : nP mag = true:=by simp only [Bool.and_eq_true] at h1;exact h1.1
 have em:=EI h6
 have ed:=EI h2
 have cg:=Qm h.zC (m:=val mag) (n:=val den) (by rw [← em];omega) (by rw [← ed];omega)
 rw [← em,← ed] at cg
 obtain ⟨g,hg⟩ : ∃ g,Nat.gcd (val mag) (val den) = g:=⟨_,rfl⟩
 have hdec : ∀ (inst : Decidable (Nat.gcd (val mag) (val den) = 1)),@decide _ inst = decide (g = 1):=by
  intro inst
  subst hg
  congr
 rw [hg] at cg
 have key : (decide (((mk g).length : Int) = 1) && (decide ((mk g).getD 0 0 = 1))) = decide (g = 1):=by
  by_cases g1 : g = 1
  ·subst g1;rw [mk_one (by omega) (by omega)];rfl
  ·simp only [g1,decide_false,Bool.and_eq_false_iff,decide_eq_false_iff_not]
   by_cases k : (mk g).length = 1
   ·right
    intro e
    have:=val_mk g
    cases hm : mk g with
    | nil=>rw [hm] at k;simp at k
    |
     cons x l =>
     rw [hm] at k e this
     have : l = []:=by simpa using k
     subst this
     simp [val] at *
     omega
   ·left;omega
 simp only [h3',h4',h5',decide_true,Bool.and_true,Bool.not_false,Bool.true_and]
 rw [hdec,← key]
 clear key
 refine aT nR h.hT ?_
 simp only [jK,Lz]
 refine ev ?_
 refine ah cb ?_
 refine ev ?_
 refine ah cn ?_
 refine uO @h3 @h4 @h5 ?_
 refine ah cg ?_
 refine ev ?_
 by_cases k : (((mk g).length : Nat) : Int) = 1
 ·(refine ev1 @k ?_;try with_reducible exact True.intro)
 ·(refine ev1 @k ?_;try with_reducible exact True.intro)
def jL : Fn:=⟨1,39,[.tmp 2],(.seq (rf 1 [oN 1 (.box (.t 0)),oK 2 1 mF]) (.seq (sr [oN 3 (fd 0 1),oN 4 (lT 2 3),oN 5 (cl 120 [4]),oN 6 (nt 5),oW 7 6,oG 7 false 8 (fd 2 1),oG 7 false 9 (lF 1 8),oG 7 false 10 (cl 121 [9]),oG 7 false 11 (nt 10),oN 12 (.pick (.t 7) (.c (.bool true)) (.t 11)),oW 13 12,oG 13 false 14 (fd 2 1),oG 13 false 15 (lF 1 14),oG 13 false 16 (ln 15),oG 13 false 17 (bc .eql 16 0),oN 18 (.pick (.t 13) (.c (.bool true)) (.t 17)),oW 19 18,oG 19 false 20 (fd 2 1),oG 19 false 21 (lF 1 20),oG 19 false 22 (ln 21),oG 19 false 23 (bc .gtr 22 24),oN 24 (.pick (.t 19) (.c (.bool true)) (.t 23)),oW 25 24,oG 25 false 26 (fd 0 1),oG 25 false 27 (fd 1 26),oG 25 false 28 (lF 1 27),oG 25 false 29 (ln 28),oG 25 false 30 (bc .gtr 29 24),oN 31 (.pick (.t 25) (.c (.bool true)) (.t 30))] (cd 31 (sr [oN 2 mF] .ret) .skip)) (sr [oN 32 (fd 0 1),oN 33 (fd 1 32),oN 34 (lF 1 33),oN 35 (fd 2 1),oN 36 (lF 1 35),oN 37 (cl 123 [34,36]),oN 38 (cl 122 [37]),oW 2 38] .ret)))⟩
structure fQ (T : Tb) : Prop where
 hT : T 100 = some jL
 GN : AO T
 vT : vP T
 lM : rW T
 D6 : zu T
def lN : Fn:=⟨3,55,[.cell 6 3 true],(.seq (rf 1 [oN 6 (.alloc kK)]) (sr [oW 10 1,oN 11 (cl 71 [10]),oW 7 11] (sr [oW 12 2,oN 13 (cl 71 [12]),oW 8 13] (.seq (sr [oW 14 8,oN 15 (ln 14),oN 16 (bc .eql 15 0)] (cd 16 (sr [oN 17 (.build kK []),oS (.store 3 (.t 6) (.t 17))] .ret) .skip)) (.seq (sr [oW 18 8,oN 19 (cl 122 [18]),oN 20 (nt 19)] (cd 20 (sr [oW 21 7,oW 22 8,oN 23 (cl 123 [21,22]),oW 9 23] (sr [oW 24 9,oN 25 (cl 122 [24]),oN 26 (nt 25)] (cd 26 (sr [oW 28 7,oW 29 9,oN 30 (cl 136 [28,29]),oW 27 30,oN 31 (ex 0 27),oN 32 (ex 1 27),oW 7 31] (rg [oW 34 8,oW 35 9,oN 36 (cl 136 [34,35]),oW 33 36,oN 37 (ex 0 33),oN 38 (ex 1 33),oW 8 37])) .skip))) .skip)) (.seq (sr [oW 39 7,oN 40 (ln 39),oN 41 (bc .gtr 40 24),oW 42 41,oG 42 false 43 (oV 8),oG 42 false 44 (ln 43),oG 42 false 45 (bc .gtr 44 24),oN 46 (.pick (.t 42) (.c (.bool true)) (.t 45))] (cd 46 (sr [oN 47 (.build kK []),oS (.store 3 (.t 6) (.t 47))] .ret) .skip)) (.seq (rf 2 [oK 48 2 (oV 0),oK 49 2 (oV 7),oK 50 2 (cl 66 [48,49]),oN 51 (.eG 1 FU 0 []),oK 52 2 (oV 8),oK 53 1 (.app 1 8 (.t 51) (.t 52)),oK 54 2 (.build kK [(0,2,(.t 50)),(2,1,(.t 53))]),⟨none,none,2,.store 3 (.t 6) (.t 54),[]⟩]) .ret)))))))⟩
structure sD (T : Tb) : Prop where
 hT : T 206 = some lN
 dG : jY T
 dF : jd T
 lM : rW T
 D6 : zu T
 zx : zn T
def zG : Fn:=⟨2,25,[.cell 4 3 true],(.seq (rf 3 [oN 2 (.box (.t 0)),oK 3 1 (.box (.t 1)),oK 4 2 (.alloc kK)]) (.seq (rt 0 [oN 5 (fd 0 2),oA 6 0 (fd 0 5) [0],oA 7 0 (lF 1 6) [1],oN 8 (fd 0 3),oA 9 0 (fd 0 8) [3],oA 10 0 (lF 1 9) [4],oA 11 0 (.beq true (.t 7) (.t 10)) [2,5],oN 12 (fd 0 2),oA 13 0 (fd 1 12) [7],oA 14 0 (lF 1 13) [8],oN 15 (fd 0 3),oA 16 0 (fd 1 15) [10],oA 17 0 (lF 1 16) [11],oA 18 0 (cl 150 [14,17]) [9,12],oN 19 (fd 2 2),oA 20 0 (lF 1 19) [14],oN 21 (fd 2 3),oA 22 0 (lF 1 21) [16],oA 23 0 (cl 150 [20,22]) [15,17,13],oA 24 0 (cl 206 [11,18,23]) [6,13,18,18],⟨none,none,0,.store 3 (.t 4) (.t 24),[19,19,0,1,2,3,4,5,6,7,8,9,10,11,12,13,14,15,16,17,18,19]⟩]) .ret))⟩
structure D7 (T : Tb) : Prop where
 hT : T 207 = some zG
 dR : lI T
 og : sD T
def oh : Fn:=⟨2,61,[.cell 4 3 true],(.seq (rf 3 [oN 2 (.box (.t 0)),oK 3 1 (.box (.t 1)),oK 4 2 (.alloc kK)]) (.seq (sr [oN 9 (fd 2 2),oN 10 (lF 1 9),oN 11 (cl 122 [10]),oW 12 11,oG 12 true 13 (fd 2 3),oG 12 true 14 (lF 1 13),oG 12 true 15 (cl 122 [14]),oN 16 (.pick (.t 12) (.t 15) (.c (.bool false)))] (cd 16 (.seq (rf 1 [oK 17 1 (fd 0 2),oK 18 1 (lT 2 17),oK 19 1 (fd 0 3),oK 20 1 (lT 2 19),oK 21 1 (cl 205 [18,20]),oN 5 (.alloc Ro),⟨none,none,1,.store 2 (.t 5) (.t 21),[]⟩]) (.seq (rf 1 [oK 22 1 (fd 0 5),oK 23 1 (lF 1 22),oK 24 1 (fd 1 5),oK 25 1 (lF 1 24),oN 26 (.eG 1 FU 1 [(0,(cI 1))]),oK 27 1 (cl 206 [23,25,26]),⟨none,none,1,.store 3 (.t 4) (.t 27),[]⟩]) .ret)) .skip)) (.seq (rt 1 [oK 28 1 (fd 0 2),oA 29 1 (fd 0 28) [0],oA 30 1 (lF 1 29) [1],oK 31 1 (fd 0 2),oA 32 1 (fd 1 31) [3],oA 33 1 (lF 1 32) [4],oK 34 1 (fd 2 3),oA 35 1 (lF 1 34) [6],oA 36 1 (cl 150 [33,35]) [5,7],oA 37 1 (cl 66 [30,36]) [2,8,8],oN 6 (.alloc Ro),⟨none,none,1,.store 2 (.t 6) (.t 37),[10,9,9,0,1,2,3,4,5,6,7,8,9,10]⟩]) (.seq (rt 1 [oK 38 1 (fd 0 3),oA 39 1 (fd 0 38) [0],oA 40 1 (lF 1 39) [1],oK 41 1 (fd 0 3),oA 42 1 (fd 1 41) [3],oA 43 1 (lF 1 42) [4],oK 44 1 (fd 2 2),oA 45 1 (lF 1 44) [6],oA 46 1 (cl 150 [43,45]) [5,7],oA 47 1 (cl 66 [40,46]) [2,8,8],oN 7 (.alloc Ro),⟨none,none,1,.store 2 (.t 7) (.t 47),[10,9,9,0,1,2,3,4,5,6,7,8,9,10]⟩]) (.seq (rf 1 [oK 48 1 (lT 2 6),oK 49 1 (lT 2 7),oK 50 1 (cl 205 [48,49]),oN 8 (.alloc Ro),⟨none,none,1,.store 2 (.t 8) (.t 50),[]⟩]) (.seq (rt 0 [oN 51 (fd 0 8),oA 52 0 (lF 1 51) [0],oN 53 (fd 1 8),oA 54 0 (lF 1 53) [2],oN 55 (fd 2 2),oA 56 0 (lF 1 55) [4],oN 57 (fd 2 3),oA 58 0 (lF 1 57) [6],oA 59 0 (cl 150 [56,58]) [5,7],oA 60 0 (cl 206 [52,54,59]) [1,3,8,8],⟨none,none,0,.store 3 (.t 4) (.t 60),[9,9,0,1,2,3,4,5,6,7,8,9]⟩]) .ret))))))⟩
structure zH (T : Tb) : Prop where
 hT : T 198 = some oh
 dG : jY T
 lM : rW T
 dR : lI T
 Jj : D5 T
 og : sD T
def zI : Fn:=⟨1,16,[.cell 2 3 true],(.seq (rf 2 [oN 1 (.box (.t 0)),oK 2 1 (.alloc kK)]) (.seq (rt 2 [oK 3 2 (fd 0 1),oA 4 2 (fd 0 3) [0],oA 5 2 (lF 1 4) [1],oA 6 2 (nt 5) [2],oK 7 2 (fd 0 1),oA 8 2 (fd 1 7) [4],oA 9 2 (lF 1 8) [5],oA 10 2 (cl 66 [6,9]) [3,6],oN 11 (.eG 1 FU 0 []),oK 12 2 (fd 2 1),oA 13 2 (lF 1 12) [9],oA 14 1 (.app 1 8 (.t 11) (.t 13)) [8,10,7],oA 15 2 (.build kK [(0,2,(.t 10)),(2,1,(.t 14))]) [7,11],⟨none,none,2,.store 3 (.t 2) (.t 15),[12,11,0,1,2,3,4,5,6,7,8,9,10,11,12]⟩]) .ret))⟩
structure zJ (T : Tb) : Prop where
 hT : T 208 = some zI
 dG : jY T
def oq : Fn:=⟨2,17,[.cell 4 3 true],(.seq (rf 3 [oN 2 (.box (.t 0)),oK 3 1 (.box (.t 1)),oK 4 2 (.alloc kK)]) (.seq (sr [oN 5 (lT 3 2),oN 6 (cl 100 [5]),oN 7 (nt 6),oW 8 7,oG 8 false 9 (lT 3 3),oG 8 false 10 (cl 100 [9]),oG 8 false 11 (nt 10),oN 12 (.pick (.t 8) (.c (.bool true)) (.t 11))] (cd 12 (sr [oN 13 (.build kK []),oS (.store 3 (.t 4) (.t 13))] .ret) .skip)) (sr [oN 14 (lT 3 2),oN 15 (lT 3 3),oN 16 (cl 198 [14,15]),oS (.store 3 (.t 4) (.t 16))] .ret)))⟩
structure lQ (T : Tb) : Prop where
 hT : T 189 = some oq
 aW : fQ T
 D8 : zH T
def ou : Fn:=⟨2,18,[.cell 4 3 true],(.seq (rf 3 [oN 2 (.box (.t 0)),oK 3 1 (.box (.t 1)),oK 4 2 (.alloc kK)]) (.seq (sr [oN 5 (lT 3 2),oN 6 (cl 100 [5]),oN 7 (nt 6),oW 8 7,oG 8 false 9 (lT 3 3),oG 8 false 10 (cl 100 [9]),oG 8 false 11 (nt 10),oN 12 (.pick (.t 8) (.c (.bool true)) (.t 11))] (cd 12 (sr [oN 13 (.build kK []),oS (.store 3 (.t 4) (.t 13))] .ret) .skip)) (.seq (rt 0 [oN 14 (lT 3 2),oN 15 (lT 3 3),oA 16 0 (cl 208 [15]) [1],oA 17 0 (cl 198 [14,16]) [0,2,2],⟨none,none,0,.store 3 (.t 4) (.t 17),[3,3,0,1,2,3]⟩]) .ret)))⟩
structure zK (T : Tb) : Prop where
 hT : T 203 = some ou
 aW : fQ T
 D8 : zH T
 D9 : zJ T
def oz : Fn:=⟨2,17,[.cell 4 3 true],(.seq (rf 3 [oN 2 (.box (.t 0)),oK 3 1 (.box (.t 1)),oK 4 2 (.alloc kK)]) (.seq (sr [oN 5 (lT 3 2),oN 6 (cl 100 [5]),oN 7 (nt 6),oW 8 7,oG 8 false 9 (lT 3 3),oG 8 false 10 (cl 100 [9]),oG 8 false 11 (nt 10),oN 12 (.pick (.t 8) (.c (.bool true)) (.t 11))] (cd 12 (sr [oN 13 (.build kK []),oS (.store 3 (.t 4) (.t 13))] .ret) .skip)) (sr [oN 14 (lT 3 2),oN 15 (lT 3 3),oN 16 (cl 207 [14,15]),oS (.store 3 (.t 4) (.t 16))] .ret)))⟩
structure sF (T : Tb) : Prop where
 hT : T 201 = some oz
 aW : fQ T
 RP : D7 T
def oC : Fn:=⟨2,34,[.cell 4 3 true],(.seq (rf 3 [oN 2 (.box (.t 0)),oK 3 1 (.box (.t 1)),oK 4 2 (.alloc kK)]) (.seq (sr [oN 5 (lT 3 2),oN 6 (cl 100 [5]),oN 7 (nt 6),oW 8 7,oG 8 false 9 (lT 3 3),oG 8 false 10 (cl 100 [9]),oG 8 false 11 (nt 10),oN 12 (.pick (.t 8) (.c (.bool true)) (.t 11))] (cd 12 (sr [oN 13 (.build kK []),oS (.store 3 (.t 4) (.t 13))] .ret) .skip)) (.seq (rt 0 [oN 14 (fd 0 2),oA 15 0 (fd 0 14) [0],oA 16 0 (lF 1 15) [1],oN 17 (fd 0 3),oA 18 0 (fd 0 17) [3],oA 19 0 (lF 1 18) [4],oA 20 0 (.beq true (.t 16) (.t 19)) [2,5],oN 21 (fd 0 2),oA 22 0 (fd 1 21) [7],oA 23 0 (lF 1 22) [8],oN 24 (fd 2 3),oA 25 0 (lF 1 24) [10],oA 26 0 (cl 150 [23,25]) [9,11],oN 27 (fd 2 2),oA 28 0 (lF 1 27) [13],oN 29 (fd 0 3),oA 30 0 (fd 1 29) [15],oA 31 0 (lF 1 30) [16],oA 32 0 (cl 150 [28,31]) [14,17,12],oA 33 0 (cl 206 [20,26,32]) [6,12,18,18],⟨none,none,0,.store 3 (.t 4) (.t 33),[19,19,0,1,2,3,4,5,6,7,8,9,10,11,12,13,14,15,16,17,18,19]⟩]) .ret)))⟩
structure zM (T : Tb) : Prop where
 hT : T 200 = some oC
 aW : fQ T
 dR : lI T
 og : sD T
def qh : Fn:=⟨1,18,[.tmp 2],(.seq (rf 1 [oN 1 (.box (.t 0)),oK 2 1 (.bZ (cI 0))]) (.seq (.block 0 (sr [oN 4 (lT 3 1),oN 5 (cl 100 [4]),oN 6 (nt 5),oW 7 6,oG 7 false 8 (fd 0 1),oG 7 false 9 (fd 1 8),oG 7 false 10 (lF 1 9),oG 7 false 11 (ln 10),oG 7 false 12 (bc .eql 11 0),oN 13 (.pick (.t 7) (.c (.bool true)) (.t 12)),oW 3 13] (cd 3 (sr [oN 2 (.bZ (cI 0))] .ret) (sr [oN 15 (fd 0 1),oN 16 (fd 0 15),oN 17 (lF 1 16),oW 14 17] (cd 14 (sr [oN 2 (.bZ (cI (-1)))] .ret) .skip))))) (sr [oN 2 (.bZ (cI 1))] .ret)))⟩
structure vV (T : Tb) : Prop where
 hT : T 99 = some qh
 aW : fQ T
theorem jF {T : Tb} (h : fQ T) {r : R} (hw : r.wf:=by exact dD) : PF T 100 [aU r] (.bool r.ok):=by
 obtain ⟨neg,mag,den⟩:=r
 have w1 : mag.length ≤ 9223372036854775807:=hw.1
 have w2 : den.length ≤ 9223372036854775807:=hw.2
 clear hw
 have cb:=WX h.GN (z:=⟨neg,mag⟩) w1
 have cn:=Qj h.GN.vT (l:=den) w2
 dsimp only at cb
 unfold R.ok
 dsimp only
 cases h1 : (nP mag && !(neg && mag.isEmpty))
 ·rw [h1] at cb
  refine aT nR h.hT ?_
  simp only [jL,Lz]
  refine ev ?_
  refine ah cb ?_
  (refine ev ?_;try with_reducible exact True.intro)
 rw [h1] at cb
 cases h2 : nP den
 ·rw [h2] at cn
  refine aT nR h.hT ?_
  simp only [jL,Lz]
  refine ev ?_
  refine ah cb ?_
  refine ev ?_
  refine ah cn ?_
  (refine ev ?_;try with_reducible exact True.intro)
 rw [h2] at cn
 by_cases h3 : ((den.length : Nat) : Int) = 0
 ·have : den = []:=List.eq_nil_of_length_eq_zero (by omega)
  refine aT nR h.hT ?_
  simp only [jL,Lz]
  refine ev ?_
  refine ah cb ?_
  refine ev ?_
  refine ah cn ?_
  refine ev1 @h3 ?_
  subst this
  rfl
 have h3' : den.isEmpty = false:=by cases den with | nil=>simp at h3 | cons=>rfl
 by_cases h5 : (24 : Int) < ((den.length : Nat) : Int)
 ·have h5' : ¬ den.length ≤ 24:=by omega
  refine aT nR h.hT ?_
  simp only [jL,Lz]
  refine ev ?_
  refine ah cb ?_
  refine ev ?_
  refine ah cn ?_
  refine iW @h3 @h5 ?_
  simp [h5']
 by_cases h4 : (24 : Int) < ((mag.length : Nat) : Int)
 ·have h4' : ¬ mag.length ≤ 24:=by omega
  refine aT nR h.hT ?_
  simp only [jL,Lz]
  refine ev ?_
  refine ah cb ?_
  refine ev ?_
  refine ah cn ?_
  refine uO @h3 @h4 @h5 ?_
  simp [h4']
 have h4' : mag.length ≤ 24:=by omega
 have h5' : den.length ≤ 24:=by omega
 have h6 : nP mag = true:=by simp only [Bool.and_eq_true] at h1;exact h1.1
 have em:=EI h6
 have ed:=EI h2
 have cg:=WU h.D6 (m:=val mag) (n:=val den) (by rw [← em];omega) (by rw [← ed];omega)
 rw [← em,← ed] at cg
 obtain ⟨g,hg⟩ : ∃ g,Nat.gcd (val mag) (val den) = g:=⟨_,rfl⟩
 have hdec : ∀ (inst : Decidable (Nat.gcd (val mag) (val den) = 1)),@decide _ inst = decide (g = 1):=by
  intro inst
  subst hg
  congr
 rw [hg] at cg
 have co:=Ii h.lM (n:=g)
 simp only [h3',h4',h5',decide_true,Bool.and_true,Bool.not_false,Bool.true_and]
 rw [hdec]
 refine aT nR h.hT ?_
 simp only [jL,Lz]
 refine ev ?_
 refine ah cb ?_
 refine ev ?_
 refine ah cn ?_
 refine uO @h3 @h4 @h5 ?_
 refine ah cg ?_
 refine ev ?_
 refine ah co ?_
 (refine ev ?_;try with_reducible exact True.intro)
def R.cn (r : R) : Prop:=Q.raw r.q = r
abbrev R0 : R:=⟨false,[],[]⟩
theorem JO {q : Q} (h : q.ok) : (Q.raw q).cn:=by unfold R.cn;rw [Cc h]
theorem xX {r : R} (h : r.ok = true) : r.cn:=aoc h
theorem ahm : R0.cn:=JO (q:=none) trivial
def qj (r s : R) : R:=Q.raw (JF r.q s.q)
def ES (r s : R) : R:=Q.raw (adx r.q s.q)
def mulR (r s : R) : R:=Q.raw (PY r.q s.q)
def uP (r s : R) : R:=Q.raw (PZ r.q s.q)
def negR (r : R) : R:=Q.raw (negQ r.q)
def iU (n : Int) : R:=Q.raw (aoa n)
def sG (r : R) : Int:=lX r.q
theorem ad7 (r s : R) : (qj r s).q = JF r.q s.q:=Cc (UD _ _)
theorem IV (r s : R) : (qj r s).cn:=JO (UD _ _)
theorem OI (r s : R) : (ES r s).cn:=JO (agK _ _)
theorem OJ (r s : R) : (mulR r s).cn:=JO (agL _ _)
theorem DC (r s : R) : (uP r s).cn:=JO (agM _ _)
theorem UO (r : R) : (negR r).cn:=JO (UC (Ib r))
theorem IW {n : Int} (h : n.natAbs < 1000000000 ^ 24) : (iU n).cn:=JO (agN h)
theorem ad8 {r : R} : r.ok = true ↔ r.q ≠ none:=by
 rw [← YS];cases r.q <;> simp
theorem uo {r : R} : r.ok = false ↔ r.q = none:=by
 rw [← YS];cases r.q <;> simp
theorem ahn {r : R} (h : r.cn) (hq : r.q = none) : r = R0:=by
 unfold R.cn at h;rw [hq] at h;exact h.symm
theorem MV {r : R} (h : r.cn) : r.mag.length ≤ 24 ∧ r.den.length ≤ 24:=by
 cases hq : r.q with
 | none=>rw [ahn h hq];simp
 |
  some q =>
  have hk : Q.ok (some q):=by rw [← hq];exact Ib r
  have:=KN.1 hk
  rw [← h,hq]
  exact this
theorem dS {r : R} (h : r.cn) : r.wf:=by have:=MV h;exact ⟨by omega,by omega⟩
theorem Xa (a : Q) : JF none a = none:=rfl
theorem Xb (a : Q) : JF a none = none:=by cases a <;> rfl
theorem Xc (a : Q) : PY a none = none:=by cases a <;> rfl
theorem Xd (a : Q) : PZ a none = none:=by cases a <;> rfl
theorem Xe (a : Q) : adx a none = none:=by cases a <;> rfl
theorem ad9 (x : Int) : [[V.int .i64 x]] = aN [x]:=rfl
theorem aku (neg : Bool) (m k : Nat) (h : m = 0 → k = 0) : bi (sg (decide (sg neg m < 0)) k) = bi (sg neg k):=by
 by_cases hm : m = 0
 ·rw [h hm,KJ,KJ]
 ·have e : decide (sg neg m < 0) = neg:=by
   cases neg
   ·simp [sg]
   ·simp [sg];omega
  rw [e]
theorem KP {T : Tb} (h : sD T) {neg : Bool} {m n : Nat} (la : (mk m).length ≤ 60:=by exact dD) (lb : (mk n).length ≤ 60:=by exact dD) :
  PF T 206 [.bool neg,ints (mk m),ints (mk n)] (aU (Q.raw (Kt (sg neg m) n))):=by
 have ct1:=vF h.dF (l:=mk m) (by omega)
 have fC:=vF h.dF (l:=mk n) (by omega)
 rw [PW (lG m)] at ct1
 rw [PW (lG n)] at fC
 by_cases hn : n = 0
 ·subst hn
  have e : Kt (sg neg m) ((0 : Nat) : Int) = none:=rfl
  rw [e]
  have c1 : (((mk 0).length : Nat) : Int) = 0:=by rw [UK];rfl
  refine aK nR h.hT ?_
  simp only [lN,Lz]
  refine ev ?_
  refine ah ct1 ?_
  refine ev ?_
  refine ah fC ?_
  refine ev1 @c1 ?_
  exact jq
 have hd : (n : Int) ≠ 0:=by omega
 rw [UM hd]
 have hpos : ¬ ((n : Int) < 0):=by omega
 have e0 : (decide (sg neg m < 0) != decide ((n : Int) < 0)) = decide (sg neg m < 0):=by simp [hpos]
 rw [e0,EP,Int.natAbs_natCast]
 have hg : 0 < Nat.gcd m n:=Nat.gcd_pos_of_pos_right _ (by omega)
 have c1 : ¬ (((mk n).length : Nat) : Int) = 0:=by have:=@abI n;omega
 have hz : m = 0 → m / Nat.gcd m n = 0:=fun e=>by rw [e];simp
 rw [aku neg m _ hz]
 have fin : ∀ (u v : Nat),u = m / Nat.gcd m n → v = n / Nat.gcd m n → (mk u).length ≤ 60 ∧ (mk v).length ≤ 60:=by
  intro u v hu hv
  have l1:=MR m (Nat.gcd m n)
  have l2:=MR n (Nat.gcd m n)
  rw [hu,hv]
  omega
 have co:=Ii h.lM (n:=n)
 have cg:=WU h.D6 (m:=m) (n:=n) (by omega) (by omega)
 have lg : (mk (Nat.gcd m n)).length ≤ 60:=Nat.le_trans (FY (Nat.le_of_dvd (by omega) (Nat.gcd_dvd_right _ _))) lb
 have co2:=Ii h.lM (n:=Nat.gcd m n)
 have cd1:=Qp h.zx (m:=m) hg (by omega) (by omega)
 have cd2:=Qp h.zx (m:=n) hg (by omega) (by omega)
 obtain ⟨g,hgd⟩ : ∃ g,Nat.gcd m n = g:=⟨_,rfl⟩
 obtain ⟨u,hu⟩ : ∃ u,m / Nat.gcd m n = u:=⟨_,rfl⟩
 obtain ⟨v,hv⟩ : ∃ v,n / Nat.gcd m n = v:=⟨_,rfl⟩
 obtain ⟨lu,lv⟩:=fin u v hu.symm hv.symm
 have cm:=qJ h.dG (neg:=neg) (n:=u) (by omega)
 have ecm : Ie (bi (sg neg u)) = .agg [.bool (bi (sg neg u)).neg,ints (mk u)]:=by
  show V.agg [.bool (bi (sg neg u)).neg,ints (mk (sg neg u).natAbs)] = _
  rw [EP]
 rw [ecm] at cm
 have un : n = 1 → u = m ∧ v = n:=by
  intro e;subst e;rw [Nat.gcd_one_right] at hu hv;simp at hu hv;omega
 have ug : g = 1 → u = m ∧ v = n:=by
  intro e;rw [hgd,e] at hu hv;simp at hu hv;omega
 rw [hu,hv]
 rw [hgd] at cg co2
 rw [hu] at cd1
 rw [hv] at cd2
 rw [hgd] at cd1 cd2
 have fin2 : bQ (aU (if (mk u).length ≤ 24 ∧ (mk v).length ≤ 24 then ⟨(bi (sg neg u)).neg,mk u,mk v⟩ else ⟨false,[],[]⟩))
   (if (mk u).length ≤ 24 ∧ (mk v).length ≤ 24 then aU ⟨(bi (sg neg u)).neg,mk u,mk v⟩ else .agg [.bool false,.ak,.ak]):=by
  split
  ·exact aC _
  ·exact jq
 have v0 : v ≠ 0:=by
  rw [← hv]
  exact Nat.ne_of_gt (Nat.div_pos (Nat.le_of_dvd (by omega) (Nat.gcd_dvd_right _ _)) hg)
 have ne : aN (mk v) ≠ []:=by
  have hp:=Au.2 (Nat.pos_of_ne_zero v0)
  intro e;rw [← Ak,e] at hp;simp at hp
 clear fin hz hg e0 hpos hd hgd hu hv
 by_cases n1 : n = 1
 ·rw [show decide (n = 1) = true from decide_eq_true n1] at co
  obtain ⟨rfl,rfl⟩:=un n1
  refine aK nR h.hT ?_
  simp only [lN,Lz]
  refine ev ?_
  refine ah ct1 ?_
  refine ev ?_
  refine ah fC ?_
  refine ev1 @c1 ?_
  refine ah co ?_
  refine ev ?_
  by_cases k1 : (24 : Int) < ((mk u).length : Nat)
  ·refine ev1 @k1 ?_
   rw [if_neg (by omega)]
   exact jq
  by_cases k2 : (24 : Int) < ((mk v).length : Nat)
  ·refine iW @k1 @k2 ?_
   rw [if_neg (by omega)]
   exact jq
  refine iW @k1 @k2 ?_
  refine ah cm ?_
  refine ev1 @ne ?_
  rw [if_pos (by omega)]
  exact ⟨by omega,aC _⟩
 rw [show decide (n = 1) = false from decide_eq_false n1] at co
 by_cases g1 : g = 1
 ·rw [show decide (g = 1) = true from decide_eq_true g1] at co2
  obtain ⟨rfl,rfl⟩:=ug g1
  refine aK nR h.hT ?_
  simp only [lN,Lz]
  refine ev ?_
  refine ah ct1 ?_
  refine ev ?_
  refine ah fC ?_
  refine ev1 @c1 ?_
  refine ah co ?_
  refine ev ?_
  refine ah cg ?_
  refine ev ?_
  refine ah co2 ?_
  refine ev ?_
  by_cases k1 : (24 : Int) < ((mk u).length : Nat)
  ·refine ev1 @k1 ?_
   rw [if_neg (by omega)]
   exact jq
  by_cases k2 : (24 : Int) < ((mk v).length : Nat)
  ·refine iW @k1 @k2 ?_
   rw [if_neg (by omega)]
   exact jq
  refine iW @k1 @k2 ?_
  refine ah cm ?_
  refine ev1 @ne ?_
  rw [if_pos (by omega)]
  exact ⟨by omega,aC _⟩
 rw [show decide (g = 1) = false from decide_eq_false g1] at co2
 refine aK nR h.hT ?_
 simp only [lN,Lz]
 refine ev ?_
 refine ah ct1 ?_
 refine ev ?_
 refine ah fC ?_
 refine ev1 @c1 ?_
 refine ah co ?_
 refine ev ?_
 refine ah cg ?_
 refine ev ?_
 refine ah co2 ?_
 refine ev ?_
 refine ah cd1 ?_
 refine ev ?_
 refine ah cd2 ?_
 refine ev ?_
 by_cases k1 : (24 : Int) < ((mk u).length : Nat)
 ·refine ev1 @k1 ?_
  rw [if_neg (by omega)]
  exact jq
 by_cases k2 : (24 : Int) < ((mk v).length : Nat)
 ·refine iW @k1 @k2 ?_
  rw [if_neg (by omega)]
  exact jq
 refine iW @k1 @k2 ?_
 refine ah cm ?_
 refine ev1 @ne ?_
 rw [if_pos (by omega)]
 exact ⟨by omega,aC _⟩
def ql : Fn:=⟨1,8,[.tmp 2],(.seq (rf 1 [oN 1 (.box (.t 0)),oK 2 1 (.bZ (cI 0))]) (.seq (sr [oN 3 (lT 3 1),oN 4 (cl 102 [3]),oN 5 (nt 4)] (cd 5 (sr [oN 2 (.bZ (cI 0))] .ret) .skip)) (sr [oN 6 (lT 3 1),oN 7 (cl 124 [6]),oW 2 7] .ret)))⟩
structure vW (T : Tb) : Prop where
 hT : T 101 = some ql
 mX : vU T
 Qr : Cm T
def zN : Fn:=⟨1,9,[.tmp 2],(sr [oN 2 mF] (sr [oW 3 0,oN 4 (bc .geq 3 0),oW 5 4,oG 5 true 6 (oV 0),oG 5 true 7 (bc .lss 6 10),oN 8 (.pick (.t 5) (.t 7) (.c (.bool false))),oW 2 8] .ret))⟩
structure zO (T : Tb) : Prop where
 hT : T 37 = some zN
def vX : Fn:=⟨1,5,[.tmp 2],(sr [oN 2 mF] (sr [oW 3 0,oN 4 (.call 35 [(.t 3),(cI 0),(cI 9)]),oW 2 4] .ret))⟩
structure vY (T : Tb) : Prop where
 hT : T 34 = some vX
 mW : qH T
def mY : Fn:=⟨1,34,[.tmp 2],(.seq (rf 1 [oN 1 (.box (.t 0)),oK 2 1 mF]) (sr [oN 3 (fd 0 1),oN 4 (lF 1 3),oN 5 (cl 37 [4]),oW 6 5,oG 6 true 7 (fd 1 1),oG 6 true 8 (lF 1 7),oG 6 true 9 (cl 37 [8]),oN 10 (.pick (.t 6) (.t 9) (.c (.bool false))),oW 11 10,oG 11 true 12 (fd 0 1),oG 11 true 13 (lF 1 12),oG 11 true 14 (fd 1 1),oG 11 true 15 (lF 1 14),oG 11 true 16 (bt .lss 13 15),oN 17 (.pick (.t 11) (.t 16) (.c (.bool false))),oW 18 17,oG 18 true 19 (fd 2 1),oG 18 true 20 (lT 3 19),oG 18 true 21 (cl 101 [20]),oG 18 true 22 (bc .gtr 21 0),oN 23 (.pick (.t 18) (.t 22) (.c (.bool false))),oW 24 23,oG 24 true 25 (fd 5 1),oG 24 true 26 (lT 3 25),oG 24 true 27 (cl 102 [26]),oN 28 (.pick (.t 24) (.t 27) (.c (.bool false))),oW 29 28,oG 29 true 30 (fd 8 1),oG 29 true 31 (lT 3 30),oG 29 true 32 (cl 102 [31]),oN 33 (.pick (.t 29) (.t 32) (.c (.bool false))),oW 2 33] .ret))⟩
structure mZ (T : Tb) : Prop where
 hT : T 84 = some mY
 zQ : zO T
 vZ : vW T
 mX : vU T
def ni : Fn:=⟨1,34,[.tmp 2],(.seq (rf 1 [oN 1 (.box (.t 0)),oK 2 1 mF]) (sr [oN 3 (fd 0 1),oN 4 (lF 1 3),oN 5 (cl 34 [4]),oW 6 5,oG 6 true 7 (fd 1 1),oG 6 true 8 (lF 1 7),oG 6 true 9 (cl 34 [8]),oN 10 (.pick (.t 6) (.t 9) (.c (.bool false))),oW 11 10,oG 11 true 12 (fd 0 1),oG 11 true 13 (lF 1 12),oG 11 true 14 (fd 1 1),oG 11 true 15 (lF 1 14),oG 11 true 16 (bt .lss 13 15),oN 17 (.pick (.t 11) (.t 16) (.c (.bool false))),oW 18 17,oG 18 true 19 (fd 2 1),oG 18 true 20 (lT 3 19),oG 18 true 21 (cl 99 [20]),oG 18 true 22 (bc .gtr 21 0),oN 23 (.pick (.t 18) (.t 22) (.c (.bool false))),oW 24 23,oG 24 true 25 (fd 5 1),oG 24 true 26 (lT 3 25),oG 24 true 27 (cl 100 [26]),oN 28 (.pick (.t 24) (.t 27) (.c (.bool false))),oW 29 28,oG 29 true 30 (fd 8 1),oG 29 true 31 (lT 3 30),oG 29 true 32 (cl 100 [31]),oN 33 (.pick (.t 29) (.t 32) (.c (.bool false))),oW 2 33] .ret))⟩
structure ku (T : Tb) : Prop where
 hT : T 83 = some ni
 wu : vY T
 wB : vV T
 aW : fQ T
theorem JQ {T : Tb} (h : vV T) {r : R} (hw : r.wf:=by exact dD) : PF T 99 [aU r] (iv (lX r.q)):=by
 have co:=jF h.aW hw
 cases ho : r.ok
 ·rw [ho] at co
  have e : r.q = none:=by unfold R.q;rw [if_neg (by simp [ho])]
  rw [e]
  refine aT nR h.hT ?_
  simp only [qh,Lz]
  refine ev ?_
  refine ah co ?_
  refine ev ?_
  rfl
 ·rw [ho] at co
  obtain ⟨q,hq,rfl⟩:=yx ho
  rw [Cc (q:=some q) hq]
  refine aT nR h.hT ?_
  simp only [qh,Lz]
  refine ev ?_
  refine ah co ?_
  refine ev ?_
  have e : ((((mk q.num.natAbs).length : Nat) : Int) = 0) ↔ q.num = 0:=by have:=@abI q.num.natAbs;omega
  refine aG (fun h1=>?_) fun h1=>?_ <;> (refine ev1 @h1 ?_;try with_reducible exact True.intro)
  ·have:=e.1 h1
   simp [lX,sgn,this]
  ·have h2 : ¬ q.num = 0:=fun k=>h1 (e.2 k)
   by_cases h3 : q.num < 0
   ·have e3 : (Q.raw (some q)).neg = true:=by simp [Q.raw,h3]
    refine ev1 @e3 ?_
    simp [lX,sgn,h3]
   ·have e3 : (Q.raw (some q)).neg = false:=by simp [Q.raw,h3]
    refine ev1 @e3 ?_
    simp [lX,sgn,h3,h2]
theorem JR {T : Tb} (h : vW T) {r : R} (hw : r.wf:=by exact dD) : PF T 101 [aU r] (iv (lX r.q)):=by
 have co:=KO h.mX hw
 cases ho : r.ok
 ·rw [ho] at co
  have e : r.q = none:=by unfold R.q;rw [if_neg (by simp [ho])]
  rw [e]
  refine aT nR h.hT ?_
  simp only [ql,Lz]
  refine ev ?_
  refine ah co ?_
  refine ev ?_
  rfl
 ·rw [ho] at co
  obtain ⟨q,hq,rfl⟩:=yx ho
  rw [Cc (q:=some q) hq]
  have cs:=abJ h.Qr (a:=some q)
  refine aT nR h.hT ?_
  simp only [ql,Lz]
  refine ev ?_
  refine ah co ?_
  refine ev ?_
  refine ah cs ?_
  (refine ev ?_;try with_reducible exact True.intro)
def nd (a : Int) : Bool:=decide (0 ≤ a) && decide (a ≤ 9)
theorem MW {T : Tb} (h : vY T) {a : Int} : PF T 34 [iv a] (.bool (nd a)):=by
 refine aT nR h.hT ?_
 simp only [vX,Lz]
 refine ev ?_
 refine ah (OH h.mW) ?_
 refine ev ?_
 rfl
theorem Qs {T : Tb} (h : zO T) {a : Int} : PF T 37 [iv a] (.bool (nd a)):=by
 unfold nd
 have e : decide (a ≤ 9) = decide (a < 10):=by simp;omega
 rw [e]
 refine aT nR h.hT ?_
 simp only [zN,Lz]
 refine ev ?_
 by_cases h1 : 0 ≤ a
 ·(refine ev1 @h1 ?_;try with_reducible exact True.intro)
 ·(refine ev1 @h1 ?_;try with_reducible exact True.intro)
def jg (l : Lk) : Bool:=nd l.a && nd l.b && decide (l.a < l.b) && decide (0 < lX l.w.q) && l.dx.ok && l.dy.ok
theorem qm {T : Tb} (h : ku T) {l : Lk} (hw : l.wf:=by exact dD) : PF T 83 [IL l] (.bool (jg l)):=by
 have c1:=MW h.wu (a:=l.a)
 have c2:=MW h.wu (a:=l.b)
 have c3:=JQ h.wB hw.1
 have c4:=jF h.aW hw.2.1
 have c5:=jF h.aW hw.2.2
 unfold jg
 refine aT nR h.hT ?_
 simp only [ni,Lz]
 refine ev ?_
 refine ah c1 ?_
 cases nd l.a
 ·(refine ev ?_;try with_reducible exact True.intro)
 refine ev ?_
 refine ah c2 ?_
 cases nd l.b
 ·(refine ev ?_;try with_reducible exact True.intro)
 refine ev ?_
 by_cases h3 : l.a < l.b
 rotate_left
 ·(refine ev1 @h3 ?_;try with_reducible exact True.intro)
 refine ev1 @h3 ?_
 refine ah c3 ?_
 by_cases h6 : 0 < lX l.w.q
 rotate_left
 ·(refine iW @h3 @h6 ?_;try with_reducible exact True.intro)
 refine iW @h3 @h6 ?_
 refine ah c4 ?_
 cases l.dx.ok
 ·(refine iW @h3 @h6 ?_;try with_reducible exact True.intro)
 refine iW @h3 @h6 ?_
 refine ah c5 ?_
 cases l.dy.ok
 ·(refine iW @h3 @h6 ?_;try with_reducible exact True.intro)
 (refine iW @h3 @h6 ?_;try with_reducible exact True.intro)
theorem Ij {T : Tb} (h : mZ T) {l : Lk} (hw : l.wf:=by exact dD) : PF T 84 [IL l] (.bool (jg l)):=by
 have c1:=Qs h.zQ (a:=l.a)
 have c2:=Qs h.zQ (a:=l.b)
 have c3:=JR h.vZ hw.1
 have c4:=KO h.mX hw.2.1
 have c5:=KO h.mX hw.2.2
 unfold jg
 refine aT nR h.hT ?_
 simp only [mY,Lz]
 refine ev ?_
 refine ah c1 ?_
 cases nd l.a
 ·(refine ev ?_;try with_reducible exact True.intro)
 refine ev ?_
 refine ah c2 ?_
 cases nd l.b
 ·(refine ev ?_;try with_reducible exact True.intro)
 refine ev ?_
 by_cases h3 : l.a < l.b
 rotate_left
 ·(refine ev1 @h3 ?_;try with_reducible exact True.intro)
 refine ev1 @h3 ?_
 refine ah c3 ?_
 by_cases h6 : 0 < lX l.w.q
 rotate_left
 ·(refine iW @h3 @h6 ?_;try with_reducible exact True.intro)
 refine iW @h3 @h6 ?_
 refine ah c4 ?_
 cases l.dx.ok
 ·(refine iW @h3 @h6 ?_;try with_reducible exact True.intro)
 refine iW @h3 @h6 ?_
 refine ah c5 ?_
 cases l.dy.ok
 ·(refine iW @h3 @h6 ?_;try with_reducible exact True.intro)
 (refine iW @h3 @h6 ?_;try with_reducible exact True.intro)
def sH : Fn:=⟨1,9,[.cell 2 3 true],(.seq (rf 2 [oN 1 (.box (.t 0)),oK 2 1 (.alloc kK)]) (.seq (sr [oN 3 (lT 3 1),oN 4 (cl 100 [3]),oN 5 (nt 4)] (cd 5 (sr [oN 6 (.build kK []),oS (.store 3 (.t 2) (.t 6))] .ret) .skip)) (sr [oN 7 (lT 3 1),oN 8 (cl 208 [7]),oS (.store 3 (.t 2) (.t 8))] .ret)))⟩
structure Ea (T : Tb) : Prop where
 hT : T 399 = some sH
 aW : fQ T
 D9 : zJ T
theorem abK {n d k : Int} (hk : k ≠ 0) : Kt (n * k) (d * k) = Kt n d:=by
 unfold Kt
 by_cases hd : d = 0
 ·subst hd;simp
 ·have : d * k ≠ 0:=fun e=>by rcases Int.mul_eq_zero.1 e with h | h <;> omega
  rw [if_neg hd,if_neg this,Rat.divInt_mul_right hk]
theorem Y7 (q : Rat) : Q.raw (some q) = ⟨decide (q.num < 0),mk q.num.natAbs,mk q.den⟩:=rfl
theorem aan (x : Int) : sg (decide (x < 0)) x.natAbs = x:=by
 by_cases h : x < 0
 ·simp only [sg,h,decide_true,if_true];omega
 ·simp only [sg,h,decide_false,Bool.false_eq_true,if_false];omega
theorem akv (x : Int) : sg (!decide (x < 0)) x.natAbs = -x:=by
 by_cases h : x < 0
 ·simp only [sg,h,decide_true,Bool.not_true,Bool.false_eq_true,if_false];omega
 ·simp only [sg,h,decide_false,Bool.not_false,if_true];omega
theorem aea {n : Nat} (h : 0 < n) : aN (mk n) ≠ []:=by
 have hp:=Au.2 h
 intro e;rw [← Ak,e] at hp;simp at hp
theorem Xf {T : Tb} (h : zJ T) {q : Rat} (hq : Q.ok (some q)) : PF T 208 [aU (Q.raw (some q))] (aU (Q.raw (negQ (some q)))):=by
 obtain ⟨l1,l2⟩:=ER hq
 have cm:=qJ h.dG (neg:=!decide (q.num < 0)) (n:=q.num.natAbs) (by omega)
 rw [akv] at cm
 have ne:=aea q.den_pos
 rw [Y7]
 have e : Q.raw (negQ (some q)) = ⟨decide (-q.num < 0),mk (-q.num).natAbs,mk q.den⟩:=rfl
 rw [e]
 generalize q.num.natAbs = m at *
 refine aK nR h.hT ?_
 simp only [zI,Lz]
 refine ev ?_
 refine ah cm ?_
 refine ev1 @ne ?_
 refine ⟨by omega,?_⟩
 refine ⟨by unfold jl;decide +kernel,?_⟩
 exact aC _
theorem aeb {T : Tb} (h : D7 T) {a b : Rat} (ha : Q.ok (some a)) (hb : Q.ok (some b)) : PF T 207 [aU (Q.raw (some a)),aU (Q.raw (some b))] (aU (Q.raw (PY (some a) (some b)))):=by
 obtain ⟨l1,l2⟩:=ER ha
 obtain ⟨l3,l4⟩:=ER hb
 have e : PY (some a) (some b) = Kt (a.num * b.num) (a.den * b.den):=(UF a b).symm
 rw [e,Y7,Y7]
 have c1:=vS h.dR (m:=a.num.natAbs) (n:=b.num.natAbs) (by omega) (by omega)
 have c2:=vS h.dR (m:=a.den) (n:=b.den) (by omega) (by omega)
 have t1:=DY a.num.natAbs b.num.natAbs
 have t2:=DY a.den b.den
 have c3:=KP h.og (neg:=decide (a.num < 0) != decide (b.num < 0)) (m:=a.num.natAbs * b.num.natAbs) (n:=a.den * b.den) (by omega) (by omega)
 rw [Qn,Int.natCast_mul,← KL] at c3
 refine aK nR h.hT ?_
 simp only [zG,Lz]
 refine ev ?_
 refine ah c1 ?_
 refine ev ?_
 refine ah c2 ?_
 refine ev ?_
 refine ah c3 ?_
 refine ev ?_
 refine ⟨by unfold jl;decide +kernel,?_⟩
 exact aC _
theorem Xg {T : Tb} (h : zH T) {a b : Rat} (ha : Q.ok (some a)) (hb : Q.ok (some b)) : PF T 198 [aU (Q.raw (some a)),aU (Q.raw (some b))] (aU (Q.raw (JF (some a) (some b)))):=by
 obtain ⟨l1,l2⟩:=ER ha
 obtain ⟨l3,l4⟩:=ER hb
 have e : JF (some a) (some b) = Kt (a.num * b.den + b.num * a.den) (a.den * b.den):=(UE a b).symm
 rw [e,Y7,Y7]
 have o1:=Ii h.lM (n:=a.den)
 have o2:=Ii h.lM (n:=b.den)
 by_cases hd : a.den = 1 ∧ b.den = 1
 ·have m1 : mk 1 = [1]:=mk_one (by omega) (by omega)
  have c1:=WW h.Jj (x:=a.num) (y:=b.num) (by omega) (by omega)
  have t1:=Dx a.num b.num
  have c2:=KP h.og (neg:=decide (a.num + b.num < 0)) (m:=(a.num + b.num).natAbs) (n:=1) (by omega) (by rw [m1];simp)
  rw [aan,m1] at c2
  have e2 : Kt (a.num * b.den + b.num * a.den) (a.den * b.den) = Kt (a.num + b.num) ((1 : Nat) : Int):=by
   rw [hd.1,hd.2];simp
  rw [e2]
  rw [show decide (a.den = 1) = true from decide_eq_true hd.1] at o1
  rw [show decide (b.den = 1) = true from decide_eq_true hd.2] at o2
  refine aK nR h.hT ?_
  simp only [oh,Lz]
  refine ev ?_
  refine ah o1 ?_
  refine ev ?_
  refine ah o2 ?_
  refine ev ?_
  refine ah c1 ?_
  refine ev ?_
  simp only [ad9]
  refine ev ?_
  refine ah c2 ?_
  refine ev ?_
  exact aC _
 ·have c1:=vS h.dR (m:=a.num.natAbs) (n:=b.den) (by omega) (by omega)
  have c2:=vS h.dR (m:=b.num.natAbs) (n:=a.den) (by omega) (by omega)
  have c3:=vS h.dR (m:=a.den) (n:=b.den) (by omega) (by omega)
  have t1:=DY a.num.natAbs b.den
  have t2:=DY b.num.natAbs a.den
  have t3:=DY a.den b.den
  have c4:=qJ h.dG (neg:=decide (a.num < 0)) (n:=a.num.natAbs * b.den) (by omega)
  have c5:=qJ h.dG (neg:=decide (b.num < 0)) (n:=b.num.natAbs * a.den) (by omega)
  have e4 : ∀ (x : Int) (n : Nat),sg (decide (x < 0)) (x.natAbs * n) = x * n:=by
   intro x n
   have:=Qn x n
   rw [show decide ((n : Int) < 0) = false from decide_eq_false (by omega),Bool.bne_false,Int.natAbs_natCast] at this
   exact this
  rw [e4] at c4 c5
  have t4 : (mk (a.num * b.den).natAbs).length ≤ 48:=by rw [Int.natAbs_mul,Int.natAbs_natCast];omega
  have t5 : (mk (b.num * a.den).natAbs).length ≤ 48:=by rw [Int.natAbs_mul,Int.natAbs_natCast];omega
  have c6:=WW h.Jj (x:=a.num * b.den) (y:=b.num * a.den) (by omega) (by omega)
  have t6:=Dx (a.num * b.den) (b.num * a.den)
  have c7:=KP h.og (neg:=decide (a.num * b.den + b.num * a.den < 0)) (m:=(a.num * b.den + b.num * a.den).natAbs) (n:=a.den * b.den) (by omega) (by omega)
  rw [aan,Int.natCast_mul] at c7
  clear t1 t2 t3 t4 t5 t6 e4 e l1 l2 l3 l4
  have fin : ∀ {P : Prop},(a.den = 1 → ¬ b.den = 1 → P) → (¬ a.den = 1 → P) → P:=by
   intro P p1 p2
   by_cases k : a.den = 1
   ·exact p1 k fun k2=>hd ⟨k,k2⟩
   ·exact p2 k
  refine fin (fun k1 k2=>?_) (fun k1=>?_)
  ·rw [show decide (a.den = 1) = true from decide_eq_true k1] at o1
   rw [show decide (b.den = 1) = false from decide_eq_false k2] at o2
   refine aK nR h.hT ?_
   simp only [oh,Lz]
   refine ev ?_
   refine ah o1 ?_
   refine ev ?_
   refine ah o2 ?_
   refine ev ?_
   refine ah c1 ?_
   refine ev ?_
   refine ah c4 ?_
   refine ev ?_
   refine ⟨by unfold jl;decide +kernel,?_⟩
   refine ah c2 ?_
   refine ev ?_
   refine ah c5 ?_
   refine ev ?_
   refine ⟨by unfold jl;decide +kernel,?_⟩
   refine ah c6 ?_
   refine ev ?_
   refine ah c3 ?_
   refine ev ?_
   refine ah c7 ?_
   refine ev ?_
   refine ⟨by unfold jl;decide +kernel,?_⟩
   exact aC _
  ·rw [show decide (a.den = 1) = false from decide_eq_false k1] at o1
   refine aK nR h.hT ?_
   simp only [oh,Lz]
   refine ev ?_
   refine ah o1 ?_
   refine ev ?_
   refine ah c1 ?_
   refine ev ?_
   refine ah c4 ?_
   refine ev ?_
   refine ⟨by unfold jl;decide +kernel,?_⟩
   refine ah c2 ?_
   refine ev ?_
   refine ah c5 ?_
   refine ev ?_
   refine ⟨by unfold jl;decide +kernel,?_⟩
   refine ah c6 ?_
   refine ev ?_
   refine ah c3 ?_
   refine ev ?_
   refine ah c7 ?_
   refine ev ?_
   refine ⟨by unfold jl;decide +kernel,?_⟩
   exact aC _
theorem vH {T : Tb} (h : lQ T) {r s : R} (hr : r.wf:=by exact dD) (hs : s.wf:=by exact dD) : PF T 189 [aU r,aU s] (aU (qj r s)):=by
 have o1:=jF h.aW hr
 have o2:=jF h.aW hs
 cases hro : r.ok
 ·have e : qj r s = R0:=by unfold qj;rw [uo.1 hro];rfl
  rw [e];rw [hro] at o1
  refine aK nR h.hT ?_
  simp only [oq,Lz]
  refine ev ?_
  refine ah o1 ?_
  refine ev ?_
  exact jq
 cases hso : s.ok
 ·have e : qj r s = R0:=by unfold qj;rw [uo.1 hso,Xb];rfl
  rw [e];rw [hro] at o1;rw [hso] at o2
  refine aK nR h.hT ?_
  simp only [oq,Lz]
  refine ev ?_
  refine ah o1 ?_
  refine ev ?_
  refine ah o2 ?_
  refine ev ?_
  exact jq
 rw [hro] at o1;rw [hso] at o2
 obtain ⟨a,ha,rfl⟩:=yx hro
 obtain ⟨b,hb,rfl⟩:=yx hso
 have e : qj (Q.raw (some a)) (Q.raw (some b)) = Q.raw (JF (some a) (some b)):=by unfold qj;rw [Cc (q:=some a) ha,Cc (q:=some b) hb]
 have c:=Xg h.D8 (a:=a) (b:=b) ha hb
 rw [e]
 refine aK nR h.hT ?_
 simp only [oq,Lz]
 refine ev ?_
 refine ah o1 ?_
 refine ev ?_
 refine ah o2 ?_
 refine ev ?_
 refine ah c ?_
 refine ev ?_
 exact aC _
def nT : Fn:=⟨1,16,[.cell 2 2 true],(.seq (rf 1 [oN 2 (.alloc Ro)]) (.seq (sr [oW 3 0,oN 4 (.bin .eql (.t 3) (cI (-9223372036854775808)))] (cd 4 (.seq (rf 1 [oN 5 (.eG 1 FU 3 [(0,(cI 854775808)),(1,(cI 223372036)),(2,(cI 9))]),oK 6 1 (.call 66 [(.c (.bool true)),(.t 5)]),⟨none,none,1,.store 2 (.t 2) (.t 6),[]⟩]) .ret) .skip)) (.seq (sr [oW 7 0,oN 8 (bc .lss 7 0)] (cd 8 (sr [oW 9 0,oN 10 (.un .neg (.t 9)),oN 11 (cl 67 [10]),oN 12 (.call 66 [(.c (.bool true)),(.t 11)]),oS (.store 2 (.t 2) (.t 12))] .ret) .skip)) (sr [oW 13 0,oN 14 (cl 67 [13]),oN 15 (.call 66 [(.c (.bool false)),(.t 14)]),oS (.store 2 (.t 2) (.t 15))] .ret))))⟩
structure AP (T : Tb) : Prop where
 hT : T 53 = some nT
 dG : jY T
 jJ : qG T
def o8 : Fn:=⟨1,7,[.cell 2 3 true],(.seq (rf 1 [oN 2 (.alloc kK)]) (.seq (rf 1 [oK 3 1 (oV 0),oK 4 1 (cl 53 [3]),oN 5 (.eG 1 FU 1 [(0,(cI 1))]),oK 6 1 (.build kK [(0,2,(.t 4)),(2,1,(.t 5))]),⟨none,none,1,.store 3 (.t 2) (.t 6),[]⟩]) .ret))⟩
structure jw (T : Tb) : Prop where
 hT : T 36 = some o8
 Oi : AP T
def jD : Fn:=⟨1,16,[.cell 2 2 true],(.seq (rf 1 [oN 2 (.alloc Ro)]) (.seq (sr [oW 3 0,oN 4 (bc .lss 3 0)] (cd 4 (sr [oW 5 0,oN 6 (bc .add 5 1),oN 7 (.un .neg (.t 6)),oN 8 (.conv .u64 (.t 7)),oN 9 (.bin .add (.t 8) (.c (.int .u64 1))),oN 10 (cl 69 [9]),oN 11 (.call 68 [(.c (.bool true)),(.t 10)]),oS (.store 2 (.t 2) (.t 11))] .ret) .skip)) (sr [oW 12 0,oN 13 (.conv .u64 (.t 12)),oN 14 (cl 69 [13]),oN 15 (.call 68 [(.c (.bool false)),(.t 14)]),oS (.store 2 (.t 2) (.t 15))] .ret)))⟩
structure uq (T : Tb) : Prop where
 hT : T 54 = some jD
 bG : eH T
 cO : jS T
def kV : Fn:=⟨1,7,[.cell 2 3 true],(.seq (rf 1 [oN 2 (.alloc kK)]) (.seq (rf 1 [oK 3 1 (oV 0),oK 4 1 (cl 54 [3]),oN 5 (.eG 1 FU 1 [(0,(cI 1))]),oK 6 1 (.build kK [(0,2,(.t 4)),(2,1,(.t 5))]),⟨none,none,1,.store 3 (.t 2) (.t 6),[]⟩]) .ret))⟩
structure ig (T : Tb) : Prop where
 hT : T 39 = some kV
 GR : uq T
theorem qK {T : Tb} (h : sF T) {r s : R} (hr : r.wf:=by exact dD) (hs : s.wf:=by exact dD) : PF T 201 [aU r,aU s] (aU (mulR r s)):=by
 have o1:=jF h.aW hr
 have o2:=jF h.aW hs
 cases hro : r.ok
 ·have e : mulR r s = R0:=by unfold mulR;rw [uo.1 hro];rfl
  rw [e];rw [hro] at o1
  refine aK nR h.hT ?_
  simp only [oz,Lz]
  refine ev ?_
  refine ah o1 ?_
  refine ev ?_
  exact jq
 cases hso : s.ok
 ·have e : mulR r s = R0:=by unfold mulR;rw [uo.1 hso,Xc];rfl
  rw [e];rw [hro] at o1;rw [hso] at o2
  refine aK nR h.hT ?_
  simp only [oz,Lz]
  refine ev ?_
  refine ah o1 ?_
  refine ev ?_
  refine ah o2 ?_
  refine ev ?_
  exact jq
 rw [hro] at o1;rw [hso] at o2
 obtain ⟨a,ha,rfl⟩:=yx hro
 obtain ⟨b,hb,rfl⟩:=yx hso
 have e : mulR (Q.raw (some a)) (Q.raw (some b)) = Q.raw (PY (some a) (some b)):=by unfold mulR;rw [Cc (q:=some a) ha,Cc (q:=some b) hb]
 rw [e]
 have c:=aeb h.RP (a:=a) (b:=b) ha hb
 refine aK nR h.hT ?_
 simp only [oz,Lz]
 refine ev ?_
 refine ah o1 ?_
 refine ev ?_
 refine ah o2 ?_
 refine ev ?_
 refine ah c ?_
 refine ev ?_
 exact aC _
theorem IX {T : Tb} (h : zK T) {r s : R} (hr : r.wf:=by exact dD) (hs : s.wf:=by exact dD) : PF T 203 [aU r,aU s] (aU (ES r s)):=by
 have o1:=jF h.aW hr
 have o2:=jF h.aW hs
 cases hro : r.ok
 ·have e : ES r s = R0:=by unfold ES;rw [uo.1 hro];rfl
  rw [e];rw [hro] at o1
  refine aK nR h.hT ?_
  simp only [ou,Lz]
  refine ev ?_
  refine ah o1 ?_
  refine ev ?_
  exact jq
 cases hso : s.ok
 ·have e : ES r s = R0:=by unfold ES;rw [uo.1 hso,Xe];rfl
  rw [e];rw [hro] at o1;rw [hso] at o2
  refine aK nR h.hT ?_
  simp only [ou,Lz]
  refine ev ?_
  refine ah o1 ?_
  refine ev ?_
  refine ah o2 ?_
  refine ev ?_
  exact jq
 rw [hro] at o1;rw [hso] at o2
 obtain ⟨a,ha,rfl⟩:=yx hro
 obtain ⟨b,hb,rfl⟩:=yx hso
 have e : ES (Q.raw (some a)) (Q.raw (some b)) = Q.raw (adx (some a) (some b)):=by unfold ES;rw [Cc (q:=some a) ha,Cc (q:=some b) hb]
 rw [e]
 have c:=Xf h.D9 (q:=b) hb
 have c2:=Xg h.D8 (a:=a) (b:=-b) ha (UC (a:=some b) hb)
 refine aK nR h.hT ?_
 simp only [ou,Lz]
 refine ev ?_
 refine ah o1 ?_
 refine ev ?_
 refine ah o2 ?_
 refine ev ?_
 refine ah c ?_
 refine ev ?_
 refine ah c2 ?_
 refine ev ?_
 refine ⟨by unfold jl;decide +kernel,?_⟩
 exact aC _
theorem ET {T : Tb} (h : zM T) {r s : R} (hr : r.wf:=by exact dD) (hs : s.wf:=by exact dD) : PF T 200 [aU r,aU s] (aU (uP r s)):=by
 have o1:=jF h.aW hr
 have o2:=jF h.aW hs
 cases hro : r.ok
 ·have e : uP r s = R0:=by unfold uP;rw [uo.1 hro];rfl
  rw [e];rw [hro] at o1
  refine aK nR h.hT ?_
  simp only [oC,Lz]
  refine ev ?_
  refine ah o1 ?_
  refine ev ?_
  exact jq
 cases hso : s.ok
 ·have e : uP r s = R0:=by unfold uP;rw [uo.1 hso,Xd];rfl
  rw [e];rw [hro] at o1;rw [hso] at o2
  refine aK nR h.hT ?_
  simp only [oC,Lz]
  refine ev ?_
  refine ah o1 ?_
  refine ev ?_
  refine ah o2 ?_
  refine ev ?_
  exact jq
 rw [hro] at o1;rw [hso] at o2
 obtain ⟨a,ha,rfl⟩:=yx hro
 obtain ⟨b,hb,rfl⟩:=yx hso
 have e : uP (Q.raw (some a)) (Q.raw (some b)) = Q.raw (PZ (some a) (some b)):=by unfold uP;rw [Cc (q:=some a) ha,Cc (q:=some b) hb]
 rw [e]
 obtain ⟨l1,l2⟩:=ER (q:=a) ha
 obtain ⟨l3,l4⟩:=ER (q:=b) hb
 have c1:=vS h.dR (m:=a.num.natAbs) (n:=b.den) (by omega) (by omega)
 have c2:=vS h.dR (m:=a.den) (n:=b.num.natAbs) (by omega) (by omega)
 have t1:=DY a.num.natAbs b.den
 have t2:=DY a.den b.num.natAbs
 have c3:=KP h.og (neg:=decide (a.num < 0) != decide (b.num < 0)) (m:=a.num.natAbs * b.den) (n:=a.den * b.num.natAbs) (by omega) (by omega)
 have e3 : Kt (sg (decide (a.num < 0) != decide (b.num < 0)) (a.num.natAbs * b.den)) ((a.den * b.num.natAbs : Nat) : Int) = PZ (some a) (some b):=by
  have e4 : PZ (some a) (some b) = Kt (a.num * b.den) (b.num * a.den):=(UG a b).symm
  rw [e4]
  have hden : 0 < b.den:=b.den_pos
  rcases Int.lt_trichotomy b.num 0 with k | k | k
  ·have e5 : ((a.den * b.num.natAbs : Nat) : Int) = (b.num * a.den) * (-1):=by
    rw [Int.natCast_mul,Int.mul_comm b.num,Int.mul_assoc];congr 1;omega
   have e6 : sg (decide (a.num < 0) != decide (b.num < 0)) (a.num.natAbs * b.den) = (a.num * b.den) * (-1):=by
    have:=Qn a.num (-(b.den : Int))
    rw [show decide (-(b.den : Int) < 0) = true from decide_eq_true (by omega),Int.natAbs_neg,Int.natAbs_natCast] at this
    rw [show decide (b.num < 0) = true from decide_eq_true k,this,Int.mul_neg,Int.mul_neg,Int.mul_one]
   rw [e5,e6,abK (by omega)]
  ·rw [k];simp [Kt]
  ·have e5 : ((a.den * b.num.natAbs : Nat) : Int) = b.num * a.den:=by
    rw [Int.natCast_mul,Int.mul_comm b.num];congr 1;omega
   have e6 : sg (decide (a.num < 0) != decide (b.num < 0)) (a.num.natAbs * b.den) = a.num * b.den:=by
    have:=Qn a.num (b.den : Int)
    rw [show decide ((b.den : Int) < 0) = false from decide_eq_false (by omega),Int.natAbs_natCast] at this
    rw [show decide (b.num < 0) = false from decide_eq_false (by omega),this]
   rw [e5,e6]
 rw [e3,← KL] at c3
 clear e3 l1 l2 l3 l4 t1 t2
 rw [Y7] at *
 rw [Y7] at *
 refine aK nR h.hT ?_
 simp only [oC,Lz]
 refine ev ?_
 refine ah o1 ?_
 refine ev ?_
 refine ah o2 ?_
 refine ev ?_
 refine ah c1 ?_
 refine ev ?_
 refine ah c2 ?_
 refine ev ?_
 refine ah c3 ?_
 refine ev ?_
 refine ⟨by unfold jl;decide +kernel,?_⟩
 exact aC _
theorem Tv {T : Tb} (h : Ea T) {r : R} (hr : r.wf:=by exact dD) : PF T 399 [aU r] (aU (negR r)):=by
 have o1:=jF h.aW hr
 cases hro : r.ok
 ·have e : negR r = R0:=by unfold negR;rw [uo.1 hro];rfl
  rw [e];rw [hro] at o1
  refine aK nR h.hT ?_
  simp only [sH,Lz]
  refine ev ?_
  refine ah o1 ?_
  refine ev ?_
  exact jq
 rw [hro] at o1
 obtain ⟨a,ha,rfl⟩:=yx hro
 have e : negR (Q.raw (some a)) = Q.raw (negQ (some a)):=by unfold negR;rw [Cc (q:=some a) ha]
 rw [e]
 have c:=Xf h.D9 (q:=a) ha
 refine aK nR h.hT ?_
 simp only [sH,Lz]
 refine ev ?_
 refine ah o1 ?_
 refine ev ?_
 refine ah c ?_
 refine ev ?_
 exact aC _
theorem Qu {n : Nat} (h : n < 1000000000000000000) : (mk n).length ≤ 2:=aZ.2 (by simpa using h)
theorem Qv (n : Int) : iU n = ⟨decide (n < 0),mk n.natAbs,[1]⟩:=by
 show (⟨decide ((n : Rat).num < 0),mk (n : Rat).num.natAbs,mk (n : Rat).den⟩ : R) = _
 have m1 : mk 1 = [1]:=mk_one (by omega) (by omega)
 rw [Rat.num_intCast,Rat.den_intCast,m1]
theorem Xh {T : Tb} (h : AP T) {n : Int} (hn : -1000000000000000000 < n ∧ n < 1000000000000000000:=by exact dD) : PF T 53 [iv n] (Ie (bi n)):=by
 have hl : (mk n.natAbs).length ≤ 2:=Qu (by omega)
 by_cases hneg : n < 0
 ·have c1:=IU h.jJ (n:=-n) (by omega)
  have c2:=qJ h.dG (neg:=true) (n:=n.natAbs) (by omega)
  rw [show (-n).toNat = n.natAbs by omega] at c1
  rw [show sg true n.natAbs = n by simp only [sg,if_true];omega] at c2
  have c0 : ¬ n = -9223372036854775808:=by omega
  refine aK nR h.hT ?_
  simp only [nT,Lz]
  refine ev ?_
  refine iW @c0 @hneg ?_
  rw [show (0 : Int) - n = -n by omega]
  refine ah c1 ?_
  refine ev ?_
  refine ah c2 ?_
  refine ev ?_
  exact aC _
 ·have c1:=IU h.jJ (n:=n) (by omega)
  have c2:=qJ h.dG (neg:=false) (n:=n.natAbs) (by omega)
  rw [show n.toNat = n.natAbs by omega] at c1
  rw [show sg false n.natAbs = n by simp only [sg,Bool.false_eq_true,if_false];omega] at c2
  have c0 : ¬ n = -9223372036854775808:=by omega
  refine aK nR h.hT ?_
  simp only [nT,Lz]
  refine ev ?_
  refine iW @c0 @hneg ?_
  refine ah c1 ?_
  refine ev ?_
  refine ah c2 ?_
  refine ev ?_
  exact aC _
theorem Xi {T : Tb} (h : uq T) {n : Int} (hn : -1000000000000000000 < n ∧ n < 1000000000000000000:=by exact dD) : PF T 54 [iv n] (Ie (bi n)):=by
 have hl : (mk n.natAbs).length ≤ 2:=Qu (by omega)
 by_cases hneg : n < 0
 ·have c1:=pX h.cO (n:=-(n + 1) + 1) (by omega)
  have c2:=vG h.bG (neg:=true) (n:=n.natAbs) (by omega)
  rw [show (-(n + 1) + 1).toNat = n.natAbs by omega] at c1
  rw [show sg true n.natAbs = n by simp only [sg,if_true];omega] at c2
  refine aK nR h.hT ?_
  simp only [jD,Lz]
  refine ev ?_
  refine ev1 @hneg ?_
  rw [show (0 : Int) - (n + 1) + 1 = -(n + 1) + 1 by omega]
  refine ah c1 ?_
  refine ev ?_
  refine ah c2 ?_
  refine ev ?_
  exact aC _
 ·have c1:=pX h.cO (n:=n) (by omega)
  have c2:=vG h.bG (neg:=false) (n:=n.natAbs) (by omega)
  rw [show n.toNat = n.natAbs by omega] at c1
  rw [show sg false n.natAbs = n by simp only [sg,Bool.false_eq_true,if_false];omega] at c2
  refine aK nR h.hT ?_
  simp only [jD,Lz]
  refine ev ?_
  refine ev1 @hneg ?_
  refine ah c1 ?_
  refine ev ?_
  refine ah c2 ?_
  refine ev ?_
  exact aC _
theorem lS {T : Tb} (h : jw T) {n : Int} (hn : -1000000000000000000 < n ∧ n < 1000000000000000000:=by exact dD) : PF T 36 [iv n] (aU (iU n)):=by
 have c:=Xh h.Oi hn
 rw [Qv]
 refine aK nR h.hT ?_
 simp only [o8,Lz]
 refine ev ?_
 refine ah c ?_
 refine ev ?_
 simp only [ad9]
 refine ev ?_
 exact aC _
theorem Eb {T : Tb} (h : ig T) {n : Int} (hn : -1000000000000000000 < n ∧ n < 1000000000000000000:=by exact dD) : PF T 39 [iv n] (aU (iU n)):=by
 have c:=Xi h.GR hn
 rw [Qv]
 refine aK nR h.hT ?_
 simp only [kV,Lz]
 refine ev ?_
 refine ah c ?_
 refine ev ?_
 simp only [ad9]
 refine ev ?_
 exact aC _
theorem KQ {r : R} (h : r.cn:=by
 first | with_reducible assumption | with_reducible exact IV _ _ | with_reducible exact OI _ _ | with_reducible exact OJ _ _ | with_reducible exact DC _ _ | with_reducible exact UO _ | with_reducible exact ahm | with_reducible exact IW (by decide)) : r.cn:=h
theorem yD {T : Tb} (h : fH T) {r s : R} (hr : r.cn:=by exact KQ) (hs : s.cn:=by exact KQ) : PF T 131 [aU r,aU s] (aU (qj r s)):=by
 have:=WY h (a:=r.q) (b:=s.q) (Ib r) (Ib s)
 rw [hr,hs] at this;exact this
theorem IY {T : Tb} (h : rZ T) {r s : R} (hr : r.cn:=by exact KQ) (hs : s.cn:=by exact KQ) : PF T 159 [aU r,aU s] (aU (ES r s)):=by
 have:=ad6 h (a:=r.q) (b:=s.q) (Ib r) (Ib s)
 rw [hr,hs] at this;exact this
theorem vI {T : Tb} (h : jQ T) {r s : R} (hr : r.cn:=by exact KQ) (hs : s.cn:=by exact KQ) : PF T 157 [aU r,aU s] (aU (mulR r s)):=by
 have:=ad4 h (a:=r.q) (b:=s.q) (Ib r) (Ib s)
 rw [hr,hs] at this;exact this
theorem Tz {T : Tb} (h : lK T) {r s : R} (hr : r.cn:=by exact KQ) (hs : s.cn:=by exact KQ) : PF T 156 [aU r,aU s] (aU (uP r s)):=by
 have:=ad5 h (a:=r.q) (b:=s.q) (Ib r) (Ib s)
 rw [hr,hs] at this;exact this
theorem TA {T : Tb} (h : rY T) {r : R} (hr : r.cn:=by exact KQ) : PF T 161 [aU r] (aU (negR r)):=by
 have:=WZ h (a:=r.q) (Ib r)
 rw [hr] at this;exact this
theorem KR {T : Tb} (h : gq T) {r : R} (hr : r.cn:=by exact KQ) : PF T 132 [aU r] (.bool r.ok):=by
 have:=UN h (a:=r.q)
 rw [hr,YS] at this;exact this
def iL : Fn:=⟨2,24,[.tmp 4],(.seq (rf 2 [oN 2 (.box (.t 0)),oK 3 1 (.box (.t 1)),oK 4 2 mF]) (sr [oN 5 (fd 0 2),oN 6 (lF 1 5),oN 7 (fd 0 3),oN 8 (lF 1 7),oN 9 (bt .lss 6 8),oW 10 9,oG 10 false 11 (fd 0 2),oG 10 false 12 (lF 1 11),oG 10 false 13 (fd 0 3),oG 10 false 14 (lF 1 13),oG 10 false 15 (bt .eql 12 14),oG 10 false 16 (oV 15),oG 16 true 17 (fd 1 2),oG 16 true 18 (lF 1 17),oG 16 true 19 (fd 1 3),oG 16 true 20 (lF 1 19),oG 16 true 21 (bt .lss 18 20),oG 10 false 22 (.pick (.t 16) (.t 21) (.c (.bool false))),oN 23 (.pick (.t 10) (.c (.bool true)) (.t 22)),oW 4 23] .ret))⟩
structure ny (T : Tb) : Prop where
 hT : T 111 = some iL
def qL : Fn:=⟨1,30,[.tmp 2],(sr [oN 2 mF] (.seq (sr [oW 5 0,oN 6 (ln 5),oN 7 (.bZ (cI 0))] (.block 0 (.loop (sr [oN 8 (bt .lss 7 6)] (.seq (cd 8 .skip (.exit 0)) (.seq (.block 1 (.seq (rf 1 [oK 9 1 (oV 7),oK 10 1 (ix 11 5 7),oK 11 1 (lT 11 10),oN 4 (.alloc xW),oK 3 1 (oV 9),⟨none,none,1,.store 11 (.t 4) (.t 11),[]⟩]) (.seq (rt 0 [oN 12 (lT 11 4),oA 13 0 (cl 84 [12]) [0],oA 14 0 (nt 13) [1],oA 15 0 (oV 14) [2,1],oH 15 false 16 0 (oV 3) [3],oH 15 false 17 0 (bc .gtr 16 0) [4,3],oH 15 false 18 0 (oV 17) [5,3,3],oH 18 true 19 0 (oV 0) [6],oH 18 true 20 0 (oV 3) [6],oH 18 true 21 0 (bc .sub 20 1) [8,6],oH 18 true 22 0 (ix 11 19 21) [7,9,6],oH 18 true 23 0 (lT 11 22) [10,6],oH 18 true 24 0 (lT 11 4) [6],oH 18 true 25 0 (cl 111 [23,24]) [11,12,6,6],oH 18 true 26 0 (nt 25) [13,6],oH 15 false 27 0 (.pick (.t 18) (.t 26) (.c (.bool false))) [6,14,3],oA 28 0 (.pick (.t 15) (.c (.bool true)) (.t 27)) [3,15]]) (cd 28 (sr [oN 2 mF] .ret) .skip)))) (rg [oN 29 (bc .add 7 1),oW 7 29]))))))) (sr [oN 2 mT] .ret)))⟩
structure yE (T : Tb) : Prop where
 hT : T 89 = some qL
 uQ : mZ T
 nC : ny T
def l9 : Fn:=⟨2,24,[.tmp 4],(.seq (rf 2 [oN 2 (.box (.t 0)),oK 3 1 (.box (.t 1)),oK 4 2 mF]) (sr [oN 5 (fd 0 2),oN 6 (lF 1 5),oN 7 (fd 0 3),oN 8 (lF 1 7),oN 9 (bt .lss 6 8),oW 10 9,oG 10 false 11 (fd 0 2),oG 10 false 12 (lF 1 11),oG 10 false 13 (fd 0 3),oG 10 false 14 (lF 1 13),oG 10 false 15 (bt .eql 12 14),oG 10 false 16 (oV 15),oG 16 true 17 (fd 1 2),oG 16 true 18 (lF 1 17),oG 16 true 19 (fd 1 3),oG 16 true 20 (lF 1 19),oG 16 true 21 (bt .lss 18 20),oG 10 false 22 (.pick (.t 16) (.t 21) (.c (.bool false))),oN 23 (.pick (.t 10) (.c (.bool true)) (.t 22)),oW 4 23] .ret))⟩
structure wC (T : Tb) : Prop where
 hT : T 195 = some l9
def qM : Fn:=⟨1,30,[.tmp 2],(sr [oN 2 mF] (.seq (sr [oW 5 0,oN 6 (ln 5),oN 7 (.bZ (cI 0))] (.block 0 (.loop (sr [oN 8 (bt .lss 7 6)] (.seq (cd 8 .skip (.exit 0)) (.seq (.block 1 (.seq (rf 1 [oK 9 1 (oV 7),oK 10 1 (ix 11 5 7),oK 11 1 (lT 11 10),oN 4 (.alloc xW),oK 3 1 (oV 9),⟨none,none,1,.store 11 (.t 4) (.t 11),[]⟩]) (.seq (rt 0 [oN 12 (lT 11 4),oA 13 0 (cl 83 [12]) [0],oA 14 0 (nt 13) [1],oA 15 0 (oV 14) [2,1],oH 15 false 16 0 (oV 3) [3],oH 15 false 17 0 (bc .gtr 16 0) [4,3],oH 15 false 18 0 (oV 17) [5,3,3],oH 18 true 19 0 (oV 0) [6],oH 18 true 20 0 (oV 3) [6],oH 18 true 21 0 (bc .sub 20 1) [8,6],oH 18 true 22 0 (ix 11 19 21) [7,9,6],oH 18 true 23 0 (lT 11 22) [10,6],oH 18 true 24 0 (lT 11 4) [6],oH 18 true 25 0 (cl 195 [23,24]) [11,12,6,6],oH 18 true 26 0 (nt 25) [13,6],oH 15 false 27 0 (.pick (.t 18) (.t 26) (.c (.bool false))) [6,14,3],oA 28 0 (.pick (.t 15) (.c (.bool true)) (.t 27)) [3,15]]) (cd 28 (sr [oN 2 mF] .ret) .skip)))) (rg [oN 29 (bc .add 7 1),oW 7 29]))))))) (sr [oN 2 mT] .ret)))⟩
structure jT (T : Tb) : Prop where
 hT : T 193 = some qM
 fU : ku T
 wE : wC T
def bJ (k l : Lk) : Bool:=decide (k.a < l.a) || (decide (k.a = l.a) && decide (k.b < l.b))
theorem Ec {T : Tb} (h : ny T) {k l : Lk} : PF T 111 [IL k,IL l] (.bool (bJ k l)):=by
 unfold bJ
 by_cases h1 : k.a < l.a
 ·simp only [h1,decide_true,Bool.true_or]
  refine aT nR h.hT ?_
  simp only [iL,Lz]
  refine ev ?_
  (refine ev1 @h1 ?_;try with_reducible exact True.intro)
 ·by_cases h2 : k.a = l.a
  ·simp only [h2,Int.lt_irrefl,decide_true,decide_false,Bool.true_and,Bool.false_or]
   refine aT nR h.hT ?_
   simp only [iL,Lz]
   refine ev ?_
   (refine iW @h2 @Int.lt_irrefl ?_;try with_reducible exact True.intro)
  ·simp only [h1,h2,decide_false,Bool.false_and,Bool.false_or]
   refine aT nR h.hT ?_
   simp only [iL,Lz]
   refine ev ?_
   (refine iW @h1 @h2 ?_;try with_reducible exact True.intro)
theorem MX {T : Tb} (h : wC T) {k l : Lk} : PF T 195 [IL k,IL l] (.bool (bJ k l)):=by
 unfold bJ
 by_cases h1 : k.a < l.a
 ·simp only [h1,decide_true,Bool.true_or]
  refine aT nR h.hT ?_
  simp only [l9,Lz]
  refine ev ?_
  (refine ev1 @h1 ?_;try with_reducible exact True.intro)
 ·by_cases h2 : k.a = l.a
  ·simp only [h2,Int.lt_irrefl,decide_true,decide_false,Bool.true_and,Bool.false_or]
   refine aT nR h.hT ?_
   simp only [l9,Lz]
   refine ev ?_
   (refine iW @h2 @Int.lt_irrefl ?_;try with_reducible exact True.intro)
  ·simp only [h1,h2,decide_false,Bool.false_and,Bool.false_or]
   refine aT nR h.hT ?_
   simp only [l9,Lz]
   refine ev ?_
   (refine iW @h1 @h2 ?_;try with_reducible exact True.intro)
def allB (n : Nat) (p : Nat → Bool) : Bool:=decide (∀ i,i < n → p i = true)
theorem Y8 {n : Nat} {p : Nat → Bool} (h : ∀ i,i < n → p i = true) : allB n p = true:=decide_eq_true h
theorem UQ {n : Nat} {p : Nat → Bool} {i : Nat} (hi : i < n) (h : p i = false) : allB n p = false:=decide_eq_false fun k=>by rw [k i hi] at h;cases h
theorem Xj {n : Nat} {p : Nat → Bool} : allB n p = true ↔ ∀ i,i < n → p i = true:=by simp [allB]
def DF (l : List Lk) (i : Nat) : Bool:=jg (l.getD i default) && (decide (i = 0) || bJ (l.getD (i - 1) default) (l.getD i default))
def bU (l : List Lk) : Bool:=allB l.length (DF l)
theorem UR {T : Tb} (h : yE T) {l : List Lk} (hw : Hl Lk.wf l:=by exact dD) : PF T 89 [bf l] (.bool (bU l)):=by
 have hlen:=hw.1
 refine aT nR h.hT ?_
 simp only [qL,Lz]
 refine ev ?_
 refine aQ (fun _ _=>false) (α:=Nat) (fun i=>⟨bM [bf l,.any,.bool false,.any,.any,bf l,iv (l.length : Nat),iv (i : Nat)],[],0,0,[],[]⟩) (fun i=>i ≤ l.length ∧ ∀ j,j < i → DF l j = true) (fun i=>l.length - i) rfl 0 ?_ ?_ ?_
 ·exact ⟨by omega,by intro j hj;omega⟩
 ·exact JK
 ·rintro i ⟨hi,hj⟩
  refine ev ?_
  refine aG (fun hc=>?_) fun hc=>?_ <;> (refine iW @hc @mg ?_;try with_reducible exact True.intro)
  ·have hil : i < l.length:=by omega
   have cv:=Ij h.uQ (l:=l.getD i default) (hw.at_ hil)
   have cb:=Ec h.nC (k:=l.getD (i - 1) default) (l:=l.getD i default)
   cases hv : jg (l.getD i default)
   ·rw [hv] at cv
    refine ah cv ?_
    refine ev ?_
    have : bU l = false:=UQ hil (by simp only [DF,hv,Bool.false_and])
    rw [this]
   ·rw [hv] at cv
    refine ah cv ?_
    by_cases h0 : i = 0
    ·have h0' : ¬ (0 : Int) < (i : Nat):=by omega
     refine ev1 @h0' ?_
     refine ⟨i + 1,by omega,⟨by omega,fun j hj'=>?_⟩,by exact JK⟩
     have : j = i:=by omega
     subst this;unfold DF;rw [hv,decide_eq_true h0];rfl
    ·have h0' : (0 : Int) < (i : Nat):=by omega
     have e1 : ((i : Int) - 1).toNat = i - 1:=by omega
     cases hb : bJ (l.getD (i - 1) default) (l.getD i default)
     ·rw [hb] at cb
      refine uO @h0' @mg @e1 ?_
      refine ah cb ?_
      refine ev ?_
      have : bU l = false:=UQ hil (by simp only [DF,hv,hb,h0,decide_false,Bool.or_self,Bool.and_false])
      rw [this]
     ·rw [hb] at cb
      refine uO @h0' @mg @e1 ?_
      refine ah cb ?_
      refine ev ?_
      refine ⟨i + 1,by omega,⟨by omega,fun j hj'=>?_⟩,by exact JK⟩
      by_cases e : j = i
      ·subst e;simp only [DF,hv,hb,Bool.or_true,Bool.and_self]
      ·exact hj j (by omega)
  ·have : bU l = true:=Y8 fun j hj'=>hj j (by omega)
   rw [this]
theorem wF {T : Tb} (h : jT T) {l : List Lk} (hw : Hl Lk.wf l:=by exact dD) : PF T 193 [bf l] (.bool (bU l)):=by
 have hlen:=hw.1
 refine aT nR h.hT ?_
 simp only [qM,Lz]
 refine ev ?_
 refine aQ (fun _ _=>false) (α:=Nat) (fun i=>⟨bM [bf l,.any,.bool false,.any,.any,bf l,iv (l.length : Nat),iv (i : Nat)],[],0,0,[],[]⟩) (fun i=>i ≤ l.length ∧ ∀ j,j < i → DF l j = true) (fun i=>l.length - i) rfl 0 ?_ ?_ ?_
 ·exact ⟨by omega,by intro j hj;omega⟩
 ·exact JK
 ·rintro i ⟨hi,hj⟩
  refine ev ?_
  refine aG (fun hc=>?_) fun hc=>?_ <;> (refine iW @hc @mg ?_;try with_reducible exact True.intro)
  ·have hil : i < l.length:=by omega
   have cv:=qm h.fU (l:=l.getD i default) (hw.at_ hil)
   have cb:=MX h.wE (k:=l.getD (i - 1) default) (l:=l.getD i default)
   cases hv : jg (l.getD i default)
   ·rw [hv] at cv
    refine ah cv ?_
    refine ev ?_
    have : bU l = false:=UQ hil (by simp only [DF,hv,Bool.false_and])
    rw [this]
   ·rw [hv] at cv
    refine ah cv ?_
    by_cases h0 : i = 0
    ·have h0' : ¬ (0 : Int) < (i : Nat):=by omega
     refine ev1 @h0' ?_
     refine ⟨i + 1,by omega,⟨by omega,fun j hj'=>?_⟩,by exact JK⟩
     have : j = i:=by omega
     subst this;unfold DF;rw [hv,decide_eq_true h0];rfl
    ·have h0' : (0 : Int) < (i : Nat):=by omega
     have e1 : ((i : Int) - 1).toNat = i - 1:=by omega
     cases hb : bJ (l.getD (i - 1) default) (l.getD i default)
     ·rw [hb] at cb
      refine uO @h0' @mg @e1 ?_
      refine ah cb ?_
      refine ev ?_
      have : bU l = false:=UQ hil (by simp only [DF,hv,hb,h0,decide_false,Bool.or_self,Bool.and_false])
      rw [this]
     ·rw [hb] at cb
      refine uO @h0' @mg @e1 ?_
      refine ah cb ?_
      refine ev ?_
      refine ⟨i + 1,by omega,⟨by omega,fun j hj'=>?_⟩,by exact JK⟩
      by_cases e : j = i
      ·subst e;simp only [DF,hv,hb,Bool.or_true,Bool.and_self]
      ·exact hj j (by omega)
  ·have : bU l = true:=Y8 fun j hj'=>hj j (by omega)
   rw [this]
theorem UU {r : R} (h : 0 < sG r) : r.ok = true:=by
 rw [ad8];intro e;unfold sG at h;rw [e] at h;simp [lX] at h
def inB (a lo hi : Int) : Bool:=decide (lo ≤ a) && decide (a ≤ hi)
def xP (c : Cd) (i : Nat) : Bool :=
 inB (c.ps.getD i default).node 0 9 && !decide ((c.ps.getD i default).node = c.node) && (decide (i = 0) || decide ((c.ps.getD (i - 1) default).node < (c.ps.getD i default).node)) &&
  decide (0 < sG (c.ps.getD i default).share) && (c.ps.getD i default).dx.ok && (c.ps.getD i default).dy.ok
def Dk (l : List Pa) (n : Nat) : R:=(l.take n).foldl (fun s p=>qj s p.share) (iU 0)
theorem Y9 (l : List Pa) : Dk l 0 = iU 0:=by simp [Dk]
theorem Za (l : List Pa) {i : Nat} (h : i < l.length) : Dk l (i + 1) = qj (Dk l i) (l.getD i default).share:=by
 unfold Dk
 rw [List.take_add_one,List.getElem?_eq_getElem h,List.getD_eq_getElem?_getD,List.getElem?_eq_getElem h]
 simp only [Option.toList,Option.getD,List.foldl_append,List.foldl_cons,List.foldl_nil]
theorem Xk {α : Type} {f : α → R} : ∀ (l : List α) (a : R),a.cn → (l.foldl (fun s p=>qj s (f p)) a).cn
 | [],_,h=>h
 | _ :: l,_,_=>Xk l _ (IV _ _)
theorem DI (l : List Pa) (i : Nat) : (Dk l i).cn:=Xk _ _ (IW (by decide))
def akw (c : Cd) : Prop:=∀ i,i < c.ps.length → xP c i = true
instance (c : Cd) : Decidable (akw c):=inferInstanceAs (Decidable (∀ i,i < c.ps.length → xP c i = true))
def kW (c : Cd) : Bool:=decide (akw c) && inB c.node 1 9 && decide (0 < sG c.total) && !c.ps.isEmpty && decide (Dk c.ps c.ps.length = iU 1)
theorem oQ {c : Cd} {i : Nat} (hi : i < c.ps.length) (h : xP c i = false) : kW c = false:=by
 unfold kW
 rw [decide_eq_false (fun k=>by rw [k i hi] at h;cases h)]
 rfl
theorem aec {c : Cd} (h : akw c) : kW c = (inB c.node 1 9 && decide (0 < sG c.total) && !c.ps.isEmpty && decide (Dk c.ps c.ps.length = iU 1)):=by
 unfold kW;rw [decide_eq_true h,Bool.true_and]
def uw : Fn:=⟨2,26,[.tmp 4],(sr [oN 4 mF] (.seq (sr [oW 7 0,oN 8 (ln 7),oW 9 1,oN 10 (ln 9),oN 11 (bt .neq 8 10)] (cd 11 (sr [oN 4 mF] .ret) .skip)) (.seq (sr [oW 12 0,oN 13 (ln 12),oN 14 (.bZ (cI 0))] (.block 0 (.loop (sr [oN 15 (bt .lss 14 13)] (.seq (cd 15 .skip (.exit 0)) (.seq (.block 1 (sr [oW 16 14,oN 17 (ix 1 12 14),oN 18 (lF 1 17),oW 5 16,oW 6 18] (sr [oW 19 6,oW 20 1,oW 21 5,oN 22 (ix 1 20 21),oN 23 (lF 1 22),oN 24 (bt .neq 19 23)] (cd 24 (sr [oN 4 mF] .ret) .skip)))) (rg [oN 25 (bc .add 14 1),oW 14 25]))))))) (sr [oN 4 mT] .ret))))⟩
structure AQ (T : Tb) : Prop where
 hT : T 52 = some uw
def wG : Fn:=⟨2,26,[.tmp 4],(sr [oN 4 mF] (.seq (sr [oW 6 0,oN 7 (ln 6),oW 8 1,oN 9 (ln 8),oN 10 (bt .neq 7 9)] (cd 10 (sr [oN 4 mF] .ret) .skip)) (.seq (sr [oW 11 0,oN 12 (ln 11),oN 13 (.bZ (cI 0))] (.block 0 (.loop (sr [oN 14 (bt .lss 13 12)] (.seq (cd 14 .skip (.exit 0)) (.seq (.block 1 (sr [oW 15 13,oW 5 15] (.seq (rt 0 [oW 16 0,oW 17 5,oA 18 0 (ix 1 16 17) [0,1],oA 19 0 (lF 1 18) [2],oW 20 1,oW 21 5,oA 22 0 (ix 1 20 21) [4,5],oA 23 0 (lF 1 22) [6],oA 24 0 (bt .neq 19 23) [3,7]]) (cd 24 (sr [oN 4 mF] .ret) .skip)))) (rg [oN 25 (bc .add 13 1),oW 13 25]))))))) (sr [oN 4 mT] .ret))))⟩
structure CB (T : Tb) : Prop where
 hT : T 51 = some wG
def uy : Fn:=⟨2,28,[.tmp 4],(.seq (rf 2 [oN 2 (.box (.t 0)),oK 3 1 (.box (.t 1)),oK 4 2 mF]) (sr [oN 5 (fd 0 2),oN 6 (fd 0 5),oN 7 (lF 1 6),oN 8 (fd 0 3),oN 9 (fd 0 8),oN 10 (lF 1 9),oN 11 (.beq false (.t 7) (.t 10)),oW 12 11,oG 12 true 13 (fd 0 2),oG 12 true 14 (fd 1 13),oG 12 true 15 (lF 1 14),oG 12 true 16 (fd 0 3),oG 12 true 17 (fd 1 16),oG 12 true 18 (lF 1 17),oG 12 true 19 (cl 52 [15,18]),oN 20 (.pick (.t 12) (.t 19) (.c (.bool false))),oW 21 20,oG 21 true 22 (fd 2 2),oG 21 true 23 (lF 1 22),oG 21 true 24 (fd 2 3),oG 21 true 25 (lF 1 24),oG 21 true 26 (cl 52 [23,25]),oN 27 (.pick (.t 21) (.t 26) (.c (.bool false))),oW 4 27] .ret))⟩
structure AU (T : Tb) : Prop where
 hT : T 32 = some uy
 Oj : AQ T
def uz : Fn:=⟨2,28,[.tmp 4],(.seq (rf 2 [oN 2 (.box (.t 0)),oK 3 1 (.box (.t 1)),oK 4 2 mF]) (sr [oN 5 (fd 0 2),oN 6 (fd 0 5),oN 7 (lF 1 6),oN 8 (fd 0 3),oN 9 (fd 0 8),oN 10 (lF 1 9),oN 11 (.beq false (.t 7) (.t 10)),oW 12 11,oG 12 true 13 (fd 0 2),oG 12 true 14 (fd 1 13),oG 12 true 15 (lF 1 14),oG 12 true 16 (fd 0 3),oG 12 true 17 (fd 1 16),oG 12 true 18 (lF 1 17),oG 12 true 19 (cl 51 [15,18]),oN 20 (.pick (.t 12) (.t 19) (.c (.bool false))),oW 21 20,oG 21 true 22 (fd 2 2),oG 21 true 23 (lF 1 22),oG 21 true 24 (fd 2 3),oG 21 true 25 (lF 1 24),oG 21 true 26 (cl 51 [23,25]),oN 27 (.pick (.t 21) (.t 26) (.c (.bool false))),oW 4 27] .ret))⟩
structure AV (T : Tb) : Prop where
 hT : T 30 = some uz
 Qw : CB T
theorem Zb {T : Tb} (h : AQ T) {a b : List Int} (hl : a.length ≤ 9223372036854775807:=by exact dD) (hb : b.length ≤ 9223372036854775807:=by exact dD) : PF T 52 [ints a,ints b] (.bool (decide (a = b))):=by
 refine aT nR h.hT ?_
 simp only [uw,Lz]
 refine ev ?_
 refine aG (fun h1=>?_) fun h1=>?_ <;> (refine ev1 @h1 ?_;try with_reducible exact True.intro)
 ·have h1 : a.length = b.length:=by omega
  refine aQ (fun _ _=>false) (α:=Nat) (fun i=>⟨bM [ints a,ints b,.any,.any,.any,.any,.any,.any,.any,.any,.any,.any,ints a,iv (a.length : Nat),iv (i : Nat)],[],0,0,[],[]⟩) (fun i=>i ≤ a.length ∧ ∀ j,j < i → a.getD j 0 = b.getD j 0) (fun i=>a.length - i) rfl 0 ?_ ?_ ?_
  ·exact ⟨by omega,by intro j hj;omega⟩
  ·(refine aI ?_;exact yB)
  ·rintro i ⟨hi,hj⟩
   refine ev ?_
   refine aG (fun h2=>?_) fun h2=>?_ <;> (refine ev1 @h2 ?_;try with_reducible exact True.intro)
   ·refine aG (fun h3=>?_) fun h3=>?_ <;> (refine ev1 @h3 ?_;try with_reducible exact True.intro)
    ·refine ⟨i + 1,by omega,⟨by omega,fun j hj'=>?_⟩,by (refine aI ?_;exact yB)⟩
     by_cases e : j = i
     ·subst e;exact h3
     ·exact hj j (by omega)
    ·have : ¬ a = b:=fun e=>h3 (by rw [e])
     simp [this]
   ·have : a = b:=EJ h1 fun j h=>hj j (by omega)
    simp [this]
 ·have : ¬ a = b:=fun e=>h1 (by rw [e])
  simp [this]
theorem abL {T : Tb} (h : CB T) {a b : List Int} (hl : a.length ≤ 9223372036854775807:=by exact dD) (hb : b.length ≤ 9223372036854775807:=by exact dD) : PF T 51 [ints a,ints b] (.bool (decide (a = b))):=by
 refine aT nR h.hT ?_
 simp only [wG,Lz]
 refine ev ?_
 refine aG (fun h1=>?_) fun h1=>?_ <;> (refine ev1 @h1 ?_;try with_reducible exact True.intro)
 ·have h1 : a.length = b.length:=by omega
  refine aQ (fun _ _=>false) (α:=Nat) (fun i=>⟨bM [ints a,ints b,.any,.any,.any,.any,.any,.any,.any,.any,.any,ints a,iv (a.length : Nat),iv (i : Nat)],[],0,0,[],[]⟩) (fun i=>i ≤ a.length ∧ ∀ j,j < i → a.getD j 0 = b.getD j 0) (fun i=>a.length - i) rfl 0 ?_ ?_ ?_
  ·exact ⟨by omega,by intro j hj;omega⟩
  ·(refine aI ?_;exact yB)
  ·rintro i ⟨hi,hj⟩
   refine ev ?_
   refine aG (fun h2=>?_) fun h2=>?_ <;> (refine ev1 @h2 ?_;try with_reducible exact True.intro)
   ·refine aG (fun h3=>?_) fun h3=>?_ <;> (refine ev1 @h3 ?_;try with_reducible exact True.intro)
    ·refine ⟨i + 1,by omega,⟨by omega,fun j hj'=>?_⟩,by (refine aI ?_;exact yB)⟩
     by_cases e : j = i
     ·subst e;exact h3
     ·exact hj j (by omega)
    ·have : ¬ a = b:=fun e=>h3 (by rw [e])
     simp [this]
   ·have : a = b:=EJ h1 fun j h=>hj j (by omega)
    simp [this]
 ·have : ¬ a = b:=fun e=>h1 (by rw [e])
  simp [this]
theorem Qx {T : Tb} (h : AU T) {y z : R} (hy : y.wf:=by exact dD) (hz : z.wf:=by exact dD) : PF T 32 [aU y,aU z] (.bool (decide (y = z))):=by
 obtain ⟨w1,w2⟩:=hy
 obtain ⟨w3,w4⟩:=hz
 refine aT nR h.hT ?_
 simp only [uy,Lz]
 refine ev ?_
 repeat' (first | ((refine aG (fun hb=>?_) fun hb=>?_) <;> (try (refine ev1 @hb ?_;try with_reducible exact True.intro))) | ((refine ah (Zb h.Oj) ?_) <;> (try (refine ev ?_;try with_reducible exact True.intro))))
 all_goals (cases y;cases z;simp_all)
theorem Qy {T : Tb} (h : AV T) {y z : R} (hy : y.wf:=by exact dD) (hz : z.wf:=by exact dD) : PF T 30 [aU y,aU z] (.bool (decide (y = z))):=by
 obtain ⟨w1,w2⟩:=hy
 obtain ⟨w3,w4⟩:=hz
 refine aT nR h.hT ?_
 simp only [uz,Lz]
 refine ev ?_
 repeat' (first | ((refine aG (fun hb=>?_) fun hb=>?_) <;> (try (refine ev1 @hb ?_;try with_reducible exact True.intro))) | ((refine ah (abL h.Qw) ?_) <;> (try (refine ev ?_;try with_reducible exact True.intro))))
 all_goals (cases y;cases z;simp_all)
def bK : Fn:=⟨1,86,[.tmp 2],(.seq (rf 1 [oN 1 (.box (.t 0)),oK 2 1 mF]) (.seq (sr [oN 6 (fd 0 1),oN 7 (lF 1 6),oN 8 (bc .lss 7 1),oW 9 8,oG 9 false 10 (fd 0 1),oG 9 false 11 (lF 1 10),oG 9 false 12 (bc .geq 11 10),oN 13 (.pick (.t 9) (.c (.bool true)) (.t 12)),oW 14 13,oG 14 false 15 (fd 1 1),oG 14 false 16 (lT 3 15),oG 14 false 17 (cl 101 [16]),oG 14 false 18 (bc .leq 17 0),oN 19 (.pick (.t 14) (.c (.bool true)) (.t 18)),oW 20 19,oG 20 false 21 (fd 4 1),oG 20 false 22 (lF 1 21),oG 20 false 23 (ln 22),oG 20 false 24 (bc .eql 23 0),oN 25 (.pick (.t 20) (.c (.bool true)) (.t 24))] (cd 25 (sr [oN 2 mF] .ret) .skip)) (.seq (rf 1 [oK 26 1 (.call 39 [(cI 0)]),oN 3 (.alloc kK),⟨none,none,1,.store 3 (.t 3) (.t 26),[]⟩]) (.seq (sr [oN 27 (fd 4 1),oN 28 (lF 1 27),oN 29 (ln 28),oN 30 (.bZ (cI 0))] (.block 0 (.loop (sr [oN 31 (bt .lss 30 29)] (.seq (cd 31 .skip (.exit 0)) (.seq (.block 1 (.seq (rf 1 [oK 32 1 (oV 30),oK 33 1 (ix 10 28 30),oK 34 1 (lT 10 33),oN 5 (.alloc Qe),oK 4 1 (oV 32),⟨none,none,1,.store 10 (.t 5) (.t 34),[]⟩]) (.seq (.seq (rt 0 [oN 35 (fd 0 5),oA 36 0 (lF 1 35) [0],oA 37 0 (cl 37 [36]) [1],oA 38 0 (nt 37) [2],oA 39 0 (oV 38) [3,2],oH 39 false 40 0 (fd 0 5) [4],oH 39 false 41 0 (lF 1 40) [5,4],oH 39 false 42 0 (fd 0 1) [4],oH 39 false 43 0 (lF 1 42) [7,4],oH 39 false 44 0 (bt .eql 41 43) [6,8,4],oA 45 0 (.pick (.t 39) (.c (.bool true)) (.t 44)) [4,9],oA 46 0 (oV 45) [10,4],oH 46 false 47 0 (oV 4) [11],oH 46 false 48 0 (bc .gtr 47 0) [12,11],oH 46 false 49 0 (oV 48) [13,11,11],oH 49 true 50 0 (fd 4 1) [14],oH 49 true 51 0 (lF 1 50) [15,14],oH 49 true 52 0 (oV 4) [14],oH 49 true 53 0 (bc .sub 52 1) [17,14],oH 49 true 54 0 (ix 10 51 53) [16,18,14],oH 49 true 55 0 (fd 0 54) [19,14],oH 49 true 56 0 (lF 1 55) [20,14],oH 49 true 57 0 (fd 0 5) [14],oH 49 true 58 0 (lF 1 57) [22,14],oH 49 true 59 0 (bt .geq 56 58) [21,23,14],oH 46 false 60 0 (.pick (.t 49) (.t 59) (.c (.bool false))) [14,24,11],oA 61 0 (.pick (.t 46) (.c (.bool true)) (.t 60)) [11,25]]) (cd 61 (sr [oN 2 mF] .ret) .skip)) (.seq (sr [oN 62 (fd 1 5),oN 63 (lT 3 62),oN 64 (cl 101 [63]),oN 65 (bc .leq 64 0),oW 66 65,oG 66 false 67 (fd 4 5),oG 66 false 68 (lT 3 67),oG 66 false 69 (cl 102 [68]),oG 66 false 70 (nt 69),oN 71 (.pick (.t 66) (.c (.bool true)) (.t 70)),oW 72 71,oG 72 false 73 (fd 7 5),oG 72 false 74 (lT 3 73),oG 72 false 75 (cl 102 [74]),oG 72 false 76 (nt 75),oN 77 (.pick (.t 72) (.c (.bool true)) (.t 76))] (cd 77 (sr [oN 2 mF] .ret) .skip)) (rg [oN 78 (lT 3 3),oN 79 (fd 1 5),oN 80 (lT 3 79),oN 81 (cl 131 [78,80]),oS (.store 3 (.t 3) (.t 81))]))))) (rg [oN 82 (bc .add 30 1),oW 30 82]))))))) (.seq (rt 0 [oN 83 (lT 3 3),oN 84 (.call 39 [(cI 1)]),oA 85 0 (cl 32 [83,84]) [0,1,1],oA 2 0 (oV 85) [2,2,0,1,2]]) .ret)))))⟩
structure kL (T : Tb) : Prop where
 hT : T 185 = some bK
 Ol : AU T
 zQ : zO T
 dw : ig T
 vZ : vW T
 mX : vU T
 dA : fH T
def iG : Fn:=⟨1,85,[.tmp 2],(.seq (rf 1 [oN 1 (.box (.t 0)),oK 2 1 mF]) (.seq (rf 1 [oK 6 1 (.call 36 [(cI 0)]),oN 3 (.alloc kK),⟨none,none,1,.store 3 (.t 3) (.t 6),[]⟩]) (.seq (sr [oN 7 (fd 4 1),oN 8 (lF 1 7),oN 9 (ln 8),oN 10 (.bZ (cI 0))] (.block 0 (.loop (sr [oN 11 (bt .lss 10 9)] (.seq (cd 11 .skip (.exit 0)) (.seq (.block 1 (.seq (rf 1 [oK 12 1 (oV 10),oK 13 1 (ix 10 8 10),oK 14 1 (lT 10 13),oN 5 (.alloc Qe),oK 4 1 (oV 12),⟨none,none,1,.store 10 (.t 5) (.t 14),[]⟩]) (.seq (.seq (rt 0 [oN 15 (fd 0 5),oA 16 0 (lF 1 15) [0],oA 17 0 (cl 34 [16]) [1],oA 18 0 (nt 17) [2],oA 19 0 (oV 18) [3,2],oH 19 false 20 0 (fd 0 5) [4],oH 19 false 21 0 (lF 1 20) [5,4],oH 19 false 22 0 (fd 0 1) [4],oH 19 false 23 0 (lF 1 22) [7,4],oH 19 false 24 0 (bt .eql 21 23) [6,8,4],oA 25 0 (.pick (.t 19) (.c (.bool true)) (.t 24)) [4,9],oA 26 0 (oV 25) [10,4],oH 26 false 27 0 (oV 4) [11],oH 26 false 28 0 (bc .gtr 27 0) [12,11],oH 26 false 29 0 (oV 28) [13,11,11],oH 29 true 30 0 (fd 4 1) [14],oH 29 true 31 0 (lF 1 30) [15,14],oH 29 true 32 0 (oV 4) [14],oH 29 true 33 0 (bc .sub 32 1) [17,14],oH 29 true 34 0 (ix 10 31 33) [16,18,14],oH 29 true 35 0 (fd 0 34) [19,14],oH 29 true 36 0 (lF 1 35) [20,14],oH 29 true 37 0 (fd 0 5) [14],oH 29 true 38 0 (lF 1 37) [22,14],oH 29 true 39 0 (bt .geq 36 38) [21,23,14],oH 26 false 40 0 (.pick (.t 29) (.t 39) (.c (.bool false))) [14,24,11],oA 41 0 (.pick (.t 26) (.c (.bool true)) (.t 40)) [11,25],oA 42 0 (oV 41) [26,14],oH 42 false 43 0 (fd 1 5) [27],oH 42 false 44 0 (lT 3 43) [28,27],oH 42 false 45 0 (cl 99 [44]) [29,27,27],oH 42 false 46 0 (bc .leq 45 0) [30,27],oA 47 0 (.pick (.t 42) (.c (.bool true)) (.t 46)) [27,31],oA 48 0 (oV 47) [32,30],oH 48 false 49 0 (fd 4 5) [33],oH 48 false 50 0 (lT 3 49) [34,33],oH 48 false 51 0 (cl 100 [50]) [35,33,33],oH 48 false 52 0 (nt 51) [36,33],oA 53 0 (.pick (.t 48) (.c (.bool true)) (.t 52)) [33,37],oA 54 0 (oV 53) [38,36],oH 54 false 55 0 (fd 7 5) [39],oH 54 false 56 0 (lT 3 55) [40,39],oH 54 false 57 0 (cl 100 [56]) [41,39,39],oH 54 false 58 0 (nt 57) [42,39],oA 59 0 (.pick (.t 54) (.c (.bool true)) (.t 58)) [39,43]]) (cd 59 (sr [oN 2 mF] .ret) .skip)) (rg [oN 60 (lT 3 3),oN 61 (fd 1 5),oN 62 (lT 3 61),oN 63 (cl 189 [60,62]),oS (.store 3 (.t 3) (.t 63))])))) (rg [oN 64 (bc .add 10 1),oW 10 64]))))))) (.seq (rt 0 [oN 65 (fd 0 1),oA 66 0 (lF 1 65) [0],oA 67 0 (.call 35 [(.t 66),(cI 1),(cI 9)]) [1],oA 68 0 (oV 67) [2,2],oH 68 true 69 0 (fd 1 1) [3],oH 68 true 70 0 (lT 3 69) [4,3],oH 68 true 71 0 (cl 99 [70]) [5,3,3],oH 68 true 72 0 (bc .gtr 71 0) [6,3],oA 73 0 (.pick (.t 68) (.t 72) (.c (.bool false))) [3,7],oA 74 0 (oV 73) [8,6],oH 74 true 75 0 (fd 4 1) [9],oH 74 true 76 0 (lF 1 75) [10,9],oH 74 true 77 0 (ln 76) [11,9],oH 74 true 78 0 (bc .gtr 77 0) [12,9],oA 79 0 (.pick (.t 74) (.t 78) (.c (.bool false))) [9,13],oA 80 0 (oV 79) [14,9],oH 80 true 81 0 (lT 3 3) [15],oH 80 true 82 0 (.call 36 [(cI 1)]) [15,15],oH 80 true 83 0 (cl 30 [81,82]) [16,17,17,15],oA 84 0 (.pick (.t 80) (.t 83) (.c (.bool false))) [15,18],oA 2 0 (oV 84) [19,18,0,1,2,3,4,5,6,7,8,9,10,11,12,13,14,15,16,17,18,19]]) .ret))))⟩
structure kM (T : Tb) : Prop where
 hT : T 294 = some iG
 Om : AV T
 wu : vY T
 mW : qH T
 dI : jw T
 wB : vV T
 aW : fQ T
 eP : lQ T
theorem aiE (a : Int) : nd a = inB a 0 9:=rfl
theorem aed {a b : St} (h : Fg a b:=by
 (refine PU [(0,_),(1,_)] (by simp) (by intro p hp;simp only [List.mem_cons,List.not_mem_nil,or_false] at hp;rcases hp with rfl | rfl <;> refine ⟨rfl,?_⟩ <;> first | exact nN _ | simp [dO,V.still]) rfl ?_) <;> (try (refine ev ?_;try with_reducible exact True.intro)) <;> (repeat' (first | exact True.intro | omega | exact fV rfl (by simp) | refine ⟨?_,?_⟩ | exact of_eq_true (Ag _ _ _) | exact jm rfl (by simp;done) | exact jm rfl rfl | (refine kS rfl ?_ rfl;simp [aN];done) | (refine kS rfl ?_ rfl;simp [aN];omega) | (refine Cb ?_ ?_;(focus ((refine ev ?_;try with_reducible exact True.intro);done));(intro q hq k s0 l0;simp;done))))) : Fg a b:=h
theorem xY {T : Tb} (h : kL T) {c : Cd} (hw : c.wf:=by exact dD) : PF T 185 [Hg c] (.bool (kW c)):=by
 obtain ⟨w1,w2⟩:=hw
 have hlen:=w2.1
 have cs:=JR h.vZ (r:=c.total) w1
 have c0:=Eb h.dw (n:=0) (by omega)
 have c1:=Eb h.dw (n:=1) (by omega)
 have ceq:=Qx h.Ol (y:=Dk c.ps c.ps.length) (z:=iU 1) (dS (DI _ _)) (dS (IW (by decide)))
 by_cases k1 : c.node < 1
 ·have : kW c = false:=by unfold kW inB;rw [decide_eq_false (show ¬ 1 ≤ c.node by omega)];simp
  rw [this]
  refine aT nR h.hT ?_
  simp only [bK,Lz]
  refine ev ?_
  (refine ev1 @k1 ?_;try with_reducible exact True.intro)
 by_cases k2 : 10 ≤ c.node
 ·have : kW c = false:=by unfold kW inB;rw [decide_eq_false (show ¬ c.node ≤ 9 by omega)];simp
  rw [this]
  refine aT nR h.hT ?_
  simp only [bK,Lz]
  refine ev ?_
  (refine iW @k1 @k2 ?_;try with_reducible exact True.intro)
 have e1 : inB c.node 1 9 = true:=by unfold inB;rw [decide_eq_true (show 1 ≤ c.node by omega),decide_eq_true (show c.node ≤ 9 by omega)];rfl
 by_cases k3 : lX c.total.q ≤ 0
 ·have : kW c = false:=by unfold kW sG;rw [decide_eq_false (show ¬ 0 < lX c.total.q by omega)];simp
  rw [this]
  refine aT nR h.hT ?_
  simp only [bK,Lz]
  refine ev ?_
  refine iW @k1 @k2 ?_
  refine ah cs ?_
  (refine ev1 @k3 ?_;try with_reducible exact True.intro)
 have e2 : decide (0 < sG c.total) = true:=decide_eq_true (by unfold sG;omega)
 by_cases k4 : ((c.ps.length : Nat) : Int) = 0
 ·have e : c.ps = []:=List.eq_nil_of_length_eq_zero (by omega)
  have : kW c = false:=by unfold kW;rw [e];simp
  rw [this]
  refine aT nR h.hT ?_
  simp only [bK,Lz]
  refine ev ?_
  refine iW @k1 @k2 ?_
  refine ah cs ?_
  (refine iW @k3 @k4 ?_;try with_reducible exact True.intro)
 have e3 : c.ps.isEmpty = false:=by cases hp : c.ps with
  | nil=>rw [hp] at k4;simp at k4
  | cons x l=>rfl
 refine aT nR h.hT ?_
 simp only [bK,Lz]
 refine ev ?_
 refine iW @k1 @k2 ?_
 refine ah cs ?_
 refine iW @k3 @k4 ?_
 refine ah c0 ?_
 refine ev ?_
 refine aQ (fun _ _=>false) (α:=Nat) (fun i=>⟨bM [.any,.ptr 0 0 0,.bool false,.ptr 1 0 0,.any,.any,.any,.any,.any,.any,.any,.any,.any,.any,.any,.any,.any,.any,.any,.any,.any,.any,.any,.any,.any,.any,.any,.any,dZ c.ps,iv (c.ps.length : Nat),iv (i : Nat)],[some ⟨5,[c.cells]⟩,some ⟨3,[(Dk c.ps i).cells]⟩],0,0,[],[]⟩) (fun i=>i ≤ c.ps.length ∧ ∀ j,j < i → xP c j = true) (fun i=>c.ps.length - i) rfl 0 ?_ ?_ ?_
 ·exact ⟨by omega,by intro j hj;omega⟩
 ·(refine aI ?_) <;> (try (refine ev1 @Y9 ?_;try with_reducible exact True.intro)) <;> (repeat' (first | refine ⟨?_,?_⟩ | exact kE (by omega) | exact mV (by simp) | exact kF _))
 ·rintro i ⟨hi,hj⟩
  refine ev ?_
  refine aG (fun hc=>?_) fun hc=>?_ <;> (refine iW @hc @mg ?_;try with_reducible exact True.intro)
  ·have hil : i < c.ps.length:=by omega
   have hwp:=w2.at_ hil
   have es:=(Za c.ps hil).symm
   obtain ⟨p,hp⟩ : ∃ p,c.ps.getD i default = p:=⟨_,rfl⟩
   obtain ⟨q,hq⟩ : ∃ q,c.ps.getD (i - 1) default = q:=⟨_,rfl⟩
   rw [hp] at hwp es ⊢
   have cn:=Qs h.zQ (a:=p.node)
   rw [aiE] at cn
   have csh:=JR h.vZ (r:=p.share) hwp.1
   have cdx:=KO h.mX (r:=p.dx) hwp.2.1
   have cdy:=KO h.mX (r:=p.dy) hwp.2.2
   refine ah cn ?_
   cases b1 : inB p.node 0 9
   ·refine ev ?_
    rw [show kW c = false from oQ hil (by unfold xP;rw [hp,b1];simp)]
   refine ev ?_
   by_cases b2 : p.node = c.node
   ·refine ev1 @b2 ?_
    rw [show kW c = false from oQ hil (by unfold xP;rw [hp,decide_eq_true b2];simp)]
   have q2 : decide (p.node = c.node) = false:=decide_eq_false b2
   by_cases h0 : i = 0
   ·have h0' : ¬ (0 : Int) < (i : Nat):=by omega
    have q3 : (decide (i = 0) || decide ((c.ps.getD (i - 1) default).node < p.node)) = true:=by rw [decide_eq_true h0];rfl
    refine iW @b2 @h0' ?_
    refine ah csh ?_
    by_cases b4 : lX p.share.q ≤ 0
    ·refine ev1 @b4 ?_
     rw [show kW c = false from oQ hil (by unfold xP;rw [hp,decide_eq_false (show ¬ 0 < sG p.share by unfold sG;omega)];simp)]
    have q4 : decide (0 < sG p.share) = true:=decide_eq_true (by unfold sG;omega)
    have KT:=yD h.dA (r:=Dk c.ps i) (s:=p.share) (DI _ _) (xX (UU (of_decide_eq_true q4)))
    rw [es] at KT
    refine ev1 @b4 ?_
    refine ah cdx ?_
    cases b5 : p.dx.ok
    ·refine ev1 @b4 ?_
     rw [show kW c = false from oQ hil (by unfold xP;rw [hp,b5];simp)]
    refine ev1 @b4 ?_
    refine ah cdy ?_
    cases b6 : p.dy.ok
    ·refine ev1 @b4 ?_
     rw [show kW c = false from oQ hil (by unfold xP;rw [hp,b6];simp)]
    refine ev1 @b4 ?_
    refine ah KT ?_
    refine ev ?_
    refine ⟨i + 1,by omega,⟨by omega,fun j hj'=>?_⟩,by exact aed⟩
    by_cases e : j = i
    ·subst e;unfold xP;rw [hp,b1,b5,b6,q4,q2,q3];rfl
    ·exact hj j (by omega)
   ·have h0' : (0 : Int) < (i : Nat):=by omega
    have e1 : ((i : Int) - 1).toNat = i - 1:=by omega
    by_cases b3 : p.node ≤ q.node
    ·refine ev6 @b2 @h0' @mg @e1 @hq @b3 ?_
     rw [show kW c = false from oQ hil (by unfold xP;rw [hp,hq,decide_eq_false h0,decide_eq_false (show ¬ q.node < p.node by omega)];simp)]
    ·have q3 : (decide (i = 0) || decide ((c.ps.getD (i - 1) default).node < p.node)) = true:=by rw [hq,decide_eq_false h0,decide_eq_true (show q.node < p.node by omega)];rfl
     refine ev6 @b2 @h0' @mg @e1 @hq @b3 ?_
     refine ah csh ?_
     by_cases b4 : lX p.share.q ≤ 0
     ·refine ev1 @b4 ?_
      rw [show kW c = false from oQ hil (by unfold xP;rw [hp,decide_eq_false (show ¬ 0 < sG p.share by unfold sG;omega)];simp)]
     have q4 : decide (0 < sG p.share) = true:=decide_eq_true (by unfold sG;omega)
     have KT:=yD h.dA (r:=Dk c.ps i) (s:=p.share) (DI _ _) (xX (UU (of_decide_eq_true q4)))
     rw [es] at KT
     refine ev1 @b4 ?_
     refine ah cdx ?_
     cases b5 : p.dx.ok
     ·refine ev1 @b4 ?_
      rw [show kW c = false from oQ hil (by unfold xP;rw [hp,b5];simp)]
     refine ev1 @b4 ?_
     refine ah cdy ?_
     cases b6 : p.dy.ok
     ·refine ev1 @b4 ?_
      rw [show kW c = false from oQ hil (by unfold xP;rw [hp,b6];simp)]
     refine ev1 @b4 ?_
     refine ah KT ?_
     refine ev ?_
     refine ⟨i + 1,by omega,⟨by omega,fun j hj'=>?_⟩,by exact aed⟩
     by_cases e : j = i
     ·subst e;unfold xP;rw [hp,b1,b5,b6,q4,q2,q3];rfl
     ·exact hj j (by omega)
  ·have ei : i = c.ps.length:=by omega
   subst ei
   rw [aec fun j hj'=>hj j hj',e1,e2,e3]
   refine ev ?_
   refine ah c1 ?_
   refine ev ?_
   refine ah ceq ?_
   (refine ev ?_;try with_reducible exact True.intro)
theorem G8 {T : Tb} (h : kM T) {c : Cd} (hw : c.wf:=by exact dD) : PF T 294 [Hg c] (.bool (kW c)):=by
 obtain ⟨w1,w2⟩:=hw
 have hlen:=w2.1
 have cs:=JQ h.wB (r:=c.total) w1
 have c0:=lS h.dI (n:=0) (by omega)
 have c1:=lS h.dI (n:=1) (by omega)
 have cin:=OH h.mW (a:=c.node) (b:=1) (c:=9)
 have ceq:=Qy h.Om (y:=Dk c.ps c.ps.length) (z:=iU 1) (dS (DI _ _)) (dS (IW (by decide)))
 refine aT nR h.hT ?_
 simp only [iG,Lz]
 refine ev ?_
 refine ah c0 ?_
 refine ev ?_
 refine aQ (fun _ _=>false) (α:=Nat) (fun i=>⟨bM [.any,.ptr 0 0 0,.bool false,.ptr 1 0 0,.any,.any,.any,.any,dZ c.ps,iv (c.ps.length : Nat),iv (i : Nat)],[some ⟨5,[c.cells]⟩,some ⟨3,[(Dk c.ps i).cells]⟩],0,0,[],[]⟩) (fun i=>i ≤ c.ps.length ∧ ∀ j,j < i → xP c j = true) (fun i=>c.ps.length - i) rfl 0 ?_ ?_ ?_
 ·exact ⟨by omega,by intro j hj;omega⟩
 ·(refine aI ?_) <;> (try (refine ev1 @Y9 ?_;try with_reducible exact True.intro)) <;> (repeat' (first | refine ⟨?_,?_⟩ | exact kE (by omega) | exact mV (by simp) | exact kF _))
 ·rintro i ⟨hi,hj⟩
  refine ev ?_
  refine aG (fun hc=>?_) fun hc=>?_ <;> (refine iW @hc @mg ?_;try with_reducible exact True.intro)
  ·have hil : i < c.ps.length:=by omega
   have hwp:=w2.at_ hil
   have es:=(Za c.ps hil).symm
   obtain ⟨p,hp⟩ : ∃ p,c.ps.getD i default = p:=⟨_,rfl⟩
   obtain ⟨q,hq⟩ : ∃ q,c.ps.getD (i - 1) default = q:=⟨_,rfl⟩
   rw [hp] at hwp es ⊢
   have cn:=MW h.wu (a:=p.node)
   rw [aiE] at cn
   have csh:=JQ h.wB (r:=p.share) hwp.1
   have cdx:=jF h.aW (r:=p.dx) hwp.2.1
   have cdy:=jF h.aW (r:=p.dy) hwp.2.2
   refine ah cn ?_
   cases b1 : inB p.node 0 9
   ·refine ev ?_
    rw [show kW c = false from oQ hil (by unfold xP;rw [hp,b1];simp)]
   refine ev ?_
   by_cases b2 : p.node = c.node
   ·refine ev1 @b2 ?_
    rw [show kW c = false from oQ hil (by unfold xP;rw [hp,decide_eq_true b2];simp)]
   have q2 : decide (p.node = c.node) = false:=decide_eq_false b2
   by_cases h0 : i = 0
   ·have h0' : ¬ (0 : Int) < (i : Nat):=by omega
    have q3 : (decide (i = 0) || decide ((c.ps.getD (i - 1) default).node < p.node)) = true:=by rw [decide_eq_true h0];rfl
    refine iW @b2 @h0' ?_
    refine ah csh ?_
    by_cases b4 : lX p.share.q ≤ 0
    ·refine ev1 @b4 ?_
     rw [show kW c = false from oQ hil (by unfold xP;rw [hp,decide_eq_false (show ¬ 0 < sG p.share by unfold sG;omega)];simp)]
    have q4 : decide (0 < sG p.share) = true:=decide_eq_true (by unfold sG;omega)
    have KT:=vH h.eP (r:=Dk c.ps i) (s:=p.share) (dS (DI _ _)) hwp.1
    rw [es] at KT
    refine ev1 @b4 ?_
    refine ah cdx ?_
    cases b5 : p.dx.ok
    ·refine ev1 @b4 ?_
     rw [show kW c = false from oQ hil (by unfold xP;rw [hp,b5];simp)]
    refine ev1 @b4 ?_
    refine ah cdy ?_
    cases b6 : p.dy.ok
    ·refine ev1 @b4 ?_
     rw [show kW c = false from oQ hil (by unfold xP;rw [hp,b6];simp)]
    refine ev1 @b4 ?_
    refine ah KT ?_
    refine ev ?_
    refine ⟨i + 1,by omega,⟨by omega,fun j hj'=>?_⟩,by exact aed⟩
    by_cases e : j = i
    ·subst e;unfold xP;rw [hp,b1,b5,b6,q4,q2,q3];rfl
    ·exact hj j (by omega)
   ·have h0' : (0 : Int) < (i : Nat):=by omega
    have e1 : ((i : Int) - 1).toNat = i - 1:=by omega
    by_cases b3 : p.node ≤ q.node
    ·refine ev6 @b2 @h0' @mg @e1 @hq @b3 ?_
     rw [show kW c = false from oQ hil (by unfold xP;rw [hp,hq,decide_eq_false h0,decide_eq_false (show ¬ q.node < p.node by omega)];simp)]
    ·have q3 : (decide (i = 0) || decide ((c.ps.getD (i - 1) default).node < p.node)) = true:=by rw [hq,decide_eq_false h0,decide_eq_true (show q.node < p.node by omega)];rfl
     refine ev6 @b2 @h0' @mg @e1 @hq @b3 ?_
     refine ah csh ?_
     by_cases b4 : lX p.share.q ≤ 0
     ·refine ev1 @b4 ?_
      rw [show kW c = false from oQ hil (by unfold xP;rw [hp,decide_eq_false (show ¬ 0 < sG p.share by unfold sG;omega)];simp)]
     have q4 : decide (0 < sG p.share) = true:=decide_eq_true (by unfold sG;omega)
     have KT:=vH h.eP (r:=Dk c.ps i) (s:=p.share) (dS (DI _ _)) hwp.1
     rw [es] at KT
     refine ev1 @b4 ?_
     refine ah cdx ?_
     cases b5 : p.dx.ok
     ·refine ev1 @b4 ?_
      rw [show kW c = false from oQ hil (by unfold xP;rw [hp,b5];simp)]
     refine ev1 @b4 ?_
     refine ah cdy ?_
     cases b6 : p.dy.ok
     ·refine ev1 @b4 ?_
      rw [show kW c = false from oQ hil (by unfold xP;rw [hp,b6];simp)]
     refine ev1 @b4 ?_
     refine ah KT ?_
     refine ev ?_
     refine ⟨i + 1,by omega,⟨by omega,fun j hj'=>?_⟩,by exact aed⟩
     by_cases e : j = i
     ·subst e;unfold xP;rw [hp,b1,b5,b6,q4,q2,q3];rfl
     ·exact hj j (by omega)
  ·have ei : i = c.ps.length:=by omega
   subst ei
   rw [aec fun j hj'=>hj j hj']
   have ein : (decide (1 ≤ c.node) && decide (c.node ≤ 9)) = inB c.node 1 9:=rfl
   rw [ein] at cin
   refine ev ?_
   refine ah cin ?_
   cases inB c.node 1 9
   ·(refine ev ?_;try with_reducible exact True.intro)
   refine ev ?_
   refine ah cs ?_
   by_cases b4 : 0 < lX c.total.q
   rotate_left
   ·rw [show decide (0 < sG c.total) = false from decide_eq_false b4]
    (refine ev1 @b4 ?_;try with_reducible exact True.intro)
   rw [show decide (0 < sG c.total) = true from decide_eq_true b4]
   by_cases b5 : (0 : Int) < ((c.ps.length : Nat) : Int)
   rotate_left
   ·have e3 : c.ps.isEmpty = true:=by cases hp : c.ps with
     | nil=>rfl
     | cons x l=>rw [hp] at b5;simp at b5
    rw [e3]
    (refine iW @b4 @b5 ?_;try with_reducible exact True.intro)
   have e3 : c.ps.isEmpty = false:=by cases hp : c.ps with
    | nil=>rw [hp] at b5;simp at b5
    | cons x l=>rfl
   rw [e3]
   refine iW @b4 @b5 ?_
   refine ah c1 ?_
   refine ev ?_
   refine ah ceq ?_
   (refine iW @b4 @b5 ?_;try with_reducible exact True.intro)
mutual
def bD (σ : Store) : V → V → List Nat → Prop
 | v,.sl sz rows,os=>(rows = [] ∧ v = .sl sz [] ∧ os = []) ∨ ∃ o rows' os',v = .bC o 0 rows.length ∧ aj σ o = some ⟨sz,rows'⟩ ∧ os = o :: os' ∧ kG σ rows' rows os'
 | v,.agg cs,os=>∃ cs',v = .agg cs' ∧ dY σ cs' cs os
 | v,.eF cs,os=>∃ cs',v = .eF cs' ∧ dY σ cs' cs os
 | v,.any,os=>False
 | v,.one,os=>False
 | v,.int k n,os=>v = .int k n ∧ os = []
 | v,.bool b,os=>v = .bool b ∧ os = []
 | v,.str s,os=>v = .str s ∧ os = []
 | v,.ak,os=>False
 | v,.bC _ _ _,os=>False
 | v,.ptr _ _ _,os=>False
 | v,.fB _ _,os=>False
def dY (σ : Store) : List V → List V → List Nat → Prop
 | vs,[],os=>vs = [] ∧ os = []
 | vs,t :: ts,os=>∃ v vs' o1 o2,vs = v :: vs' ∧ os = o1 ++ o2 ∧ bD σ v t o1 ∧ dY σ vs' ts o2
def kG (σ : Store) : List (List V) → List (List V) → List Nat → Prop
 | vs,[],os=>vs = [] ∧ os = []
 | vs,t :: ts,os=>∃ v vs' o1 o2,vs = v :: vs' ∧ os = o1 ++ o2 ∧ dY σ v t o1 ∧ kG σ vs' ts o2
end
section
variable {σ σ' : Store}
theorem aJ {o : Nat} {ob : Obj} (h : aj σ o = some ob) : o < σ.length:=by
 rcases Nat.lt_or_ge o σ.length with k | k
 ·exact k
 ·rw [aj,List.getElem?_eq_none k] at h;cases h
mutual
theorem bD.lt : ∀ {t v : V} {os : List Nat},bD σ v t os → ∀ o ∈ os,o < σ.length
 |
  .sl sz rows,v,os,h=>by
  simp only [bD] at h
  rcases h with ⟨_,_,rfl⟩ | ⟨o,rows',os',_,h2,rfl,h3⟩
  ·intro o ho;cases ho
  ·intro q hq
   rcases List.mem_cons.1 hq with rfl | hq
   ·exact aJ h2
   ·exact kG.lt h3 q hq
 | .agg cs,v,os,h=>by simp only [bD] at h;obtain ⟨cs',_,h⟩:=h;exact dY.lt h
 | .eF cs,v,os,h=>by simp only [bD] at h;obtain ⟨cs',_,h⟩:=h;exact dY.lt h
 | .any,v,os,h=>by simp [bD] at h
 | .one,v,os,h=>by simp [bD] at h
 | .int ..,v,os,h=>by simp only [bD] at h;rw [h.2];intro o ho;cases ho
 | .bool _,v,os,h=>by simp only [bD] at h;rw [h.2];intro o ho;cases ho
 | .str _,v,os,h=>by simp only [bD] at h;rw [h.2];intro o ho;cases ho
 | .ak,v,os,h=>by simp [bD] at h
 | .bC ..,v,os,h=>by simp [bD] at h
 | .ptr ..,v,os,h=>by simp [bD] at h
 | .fB ..,v,os,h=>by simp [bD] at h
theorem dY.lt : ∀ {ts vs : List V} {os : List Nat},dY σ vs ts os → ∀ o ∈ os,o < σ.length
 | [],vs,os,h=>by simp only [dY] at h;rw [h.2];intro o ho;cases ho
 |
  t :: ts,vs,os,h=>by
  simp only [dY] at h
  obtain ⟨v,vs',o1,o2,_,rfl,h1,h2⟩:=h
  intro o ho
  rcases List.mem_append.1 ho with ho | ho
  ·exact bD.lt h1 o ho
  ·exact dY.lt h2 o ho
theorem kG.lt : ∀ {ts vs : List (List V)} {os : List Nat},kG σ vs ts os → ∀ o ∈ os,o < σ.length
 | [],vs,os,h=>by simp only [kG] at h;rw [h.2];intro o ho;cases ho
 |
  t :: ts,vs,os,h=>by
  simp only [kG] at h
  obtain ⟨v,vs',o1,o2,_,rfl,h1,h2⟩:=h
  intro o ho
  rcases List.mem_append.1 ho with ho | ho
  ·exact dY.lt h1 o ho
  ·exact kG.lt h2 o ho
end
mutual
theorem bD.frame : ∀ {t v : V} {os : List Nat},bD σ v t os → (∀ o ∈ os,aj σ' o = aj σ o) → bD σ' v t os
 |
  .sl sz rows,v,os,h,hf=>by
  simp only [bD] at h ⊢
  rcases h with h | ⟨o,rows',os',h1,h2,rfl,h3⟩
  ·exact .inl h
  ·exact .inr ⟨o,rows',os',h1,by rw [hf o (by simp)];exact h2,rfl,kG.frame h3 fun q hq=>hf q (by simp [hq])⟩
 | .agg cs,v,os,h,hf=>by simp only [bD] at h ⊢;obtain ⟨cs',e,h⟩:=h;exact ⟨cs',e,dY.frame h hf⟩
 | .eF cs,v,os,h,hf=>by simp only [bD] at h ⊢;obtain ⟨cs',e,h⟩:=h;exact ⟨cs',e,dY.frame h hf⟩
 | .any,v,os,h,_=>by simp [bD] at h
 | .one,v,os,h,_=>by simp [bD] at h
 | .int ..,v,os,h,_=>by simpa only [bD] using h
 | .bool _,v,os,h,_=>by simpa only [bD] using h
 | .str _,v,os,h,_=>by simpa only [bD] using h
 | .ak,v,os,h,_=>by simp [bD] at h
 | .bC ..,v,os,h,_=>by simp [bD] at h
 | .ptr ..,v,os,h,_=>by simp [bD] at h
 | .fB ..,v,os,h,_=>by simp [bD] at h
theorem dY.frame : ∀ {ts vs : List V} {os : List Nat},dY σ vs ts os → (∀ o ∈ os,aj σ' o = aj σ o) → dY σ' vs ts os
 | [],vs,os,h,_=>by simpa only [dY] using h
 |
  t :: ts,vs,os,h,hf=>by
  simp only [dY] at h ⊢
  obtain ⟨v,vs',o1,o2,e,rfl,h1,h2⟩:=h
  exact ⟨v,vs',o1,o2,e,rfl,bD.frame h1 fun q hq=>hf q (by simp [hq]),dY.frame h2 fun q hq=>hf q (by simp [hq])⟩
theorem kG.frame : ∀ {ts vs : List (List V)} {os : List Nat},kG σ vs ts os → (∀ o ∈ os,aj σ' o = aj σ o) → kG σ' vs ts os
 | [],vs,os,h,_=>by simpa only [kG] using h
 |
  t :: ts,vs,os,h,hf=>by
  simp only [kG] at h ⊢
  obtain ⟨v,vs',o1,o2,e,rfl,h1,h2⟩:=h
  exact ⟨v,vs',o1,o2,e,rfl,dY.frame h1 fun q hq=>hf q (by simp [hq]),kG.frame h2 fun q hq=>hf q (by simp [hq])⟩
end
theorem bD.leaf {t v : V} {os : List Nat} (h : bD σ v t os) (hl : t.leaf = true) : v.leaf = true:=by
 cases t <;> simp only [V.leaf] at hl <;> first | (cases hl;done) | skip
 all_goals simp only [bD] at h
 all_goals first | (cases h;done) | skip
 case int=>rw [h.1];rfl
 case bool=>rw [h.1];rfl
 case str=>rw [h.1];rfl
 case sl=>rcases h with ⟨_,rfl,_⟩ | ⟨_,_,_,rfl,_⟩ <;> rfl
theorem kG.len : ∀ {ts vs : List (List V)} {os : List Nat},kG σ vs ts os → vs.length = ts.length
 | [],vs,os,h=>by simp only [kG] at h;simp [h.1]
 |
  t :: ts,vs,os,h=>by
  simp only [kG] at h
  obtain ⟨v,vs',o1,o2,rfl,_,_,h2⟩:=h
  simp [kG.len h2]
mutual
theorem bD.shift {n : Nat} (hn : ∀ o,aj σ' (n + o) = (aj σ o).map (iH (bT n))) : ∀ {t v : V} {os : List Nat},bD σ v t os → bD σ' (aY (bT n) v) t (os.map (n + ·))
 |
  .sl sz rows,v,os,h=>by
  simp only [bD] at h ⊢
  rcases h with ⟨h1,rfl,rfl⟩ | ⟨o,rows',os',rfl,h2,rfl,h3⟩
  ·exact .inl ⟨h1,rfl,rfl⟩
  ·exact .inr ⟨n + o,_,os'.map (n + ·),rfl,by rw [hn,h2];rfl,rfl,kG.shift hn h3⟩
 | .agg cs,v,os,h=>by simp only [bD] at h ⊢;obtain ⟨cs',rfl,h⟩:=h;exact ⟨_,rfl,dY.shift hn h⟩
 | .eF cs,v,os,h=>by simp only [bD] at h ⊢;obtain ⟨cs',rfl,h⟩:=h;exact ⟨_,rfl,dY.shift hn h⟩
 | .any,v,os,h=>by simp [bD] at h
 | .one,v,os,h=>by simp [bD] at h
 | .int ..,v,os,h=>by simp only [bD] at h ⊢;obtain ⟨rfl,rfl⟩:=h;exact ⟨rfl,rfl⟩
 | .bool _,v,os,h=>by simp only [bD] at h ⊢;obtain ⟨rfl,rfl⟩:=h;exact ⟨rfl,rfl⟩
 | .str _,v,os,h=>by simp only [bD] at h ⊢;obtain ⟨rfl,rfl⟩:=h;exact ⟨rfl,rfl⟩
 | .ak,v,os,h=>by simp [bD] at h
 | .bC ..,v,os,h=>by simp [bD] at h
 | .ptr ..,v,os,h=>by simp [bD] at h
 | .fB ..,v,os,h=>by simp [bD] at h
theorem dY.shift {n : Nat} (hn : ∀ o,aj σ' (n + o) = (aj σ o).map (iH (bT n))) : ∀ {ts vs : List V} {os : List Nat},dY σ vs ts os → dY σ' (aY.DT (bT n) vs) ts (os.map (n + ·))
 | [],vs,os,h=>by simp only [dY] at h ⊢;obtain ⟨rfl,rfl⟩:=h;exact ⟨rfl,rfl⟩
 |
  t :: ts,vs,os,h=>by
  simp only [dY] at h ⊢
  obtain ⟨v,vs',o1,o2,rfl,rfl,h1,h2⟩:=h
  exact ⟨_,_,_,_,rfl,by rw [List.map_append],bD.shift hn h1,dY.shift hn h2⟩
theorem kG.shift {n : Nat} (hn : ∀ o,aj σ' (n + o) = (aj σ o).map (iH (bT n))) : ∀ {ts vs : List (List V)} {os : List Nat},kG σ vs ts os → kG σ' (vs.map fun r=>r.map (aY (bT n))) ts (os.map (n + ·))
 | [],vs,os,h=>by simp only [kG] at h ⊢;obtain ⟨rfl,rfl⟩:=h;exact ⟨rfl,rfl⟩
 |
  t :: ts,vs,os,h=>by
  simp only [kG] at h ⊢
  obtain ⟨v,vs',o1,o2,rfl,rfl,h1,h2⟩:=h
  have hm : ∀ l : List V,aY.DT (bT n) l = l.map (aY (bT n)):=by
   intro l
   induction l with
   | nil=>rfl
   | cons x l ih=>simp only [aY.DT,List.map_cons,ih]
  exact ⟨_,_,_,_,rfl,by rw [List.map_append],by rw [show (fun r=>List.map (aY (bT n)) r) v = aY.DT (bT n) v from (hm v).symm];exact dY.shift hn h1,kG.shift hn h2⟩
end
def eU : Nat → V → Prop
 | 0,_=>False
 | n + 1,.sl _ rows=>∀ r ∈ rows,∀ c ∈ r,eU n c
 | n + 1,.agg cs=>∀ c ∈ cs,eU n c
 | n + 1,.eF cs=>∀ c ∈ cs,eU n c
 | _ + 1,_=>True
theorem JU : ∀ (n : Nat) {t v : V} {os : List Nat},bD σ v t os → eU n t → resolve σ n v = some t
 | 0,t,v,os,_,hd=>by simp [eU] at hd
 |
  n + 1,t,v,os,h,hd=>by
  have hl : ∀ (ts vs : List V) (os : List Nat),dY σ vs ts os → (∀ c ∈ ts,eU n c) → vs.mapM (resolve σ n) = some ts:=by
   intro ts
   induction ts with
   | nil=>intro vs os h _;simp only [dY] at h;rw [h.1];rfl
   |
    cons t ts ih =>
    intro vs os h hd
    simp only [dY] at h
    obtain ⟨v,vs',o1,o2,rfl,rfl,h1,h2⟩:=h
    rw [List.mapM_cons,JU n h1 (hd t (by simp)),ih vs' o2 h2 fun c hc=>hd c (by simp [hc])]
    rfl
  have hr : ∀ (ts vs : List (List V)) (os : List Nat),kG σ vs ts os → (∀ r ∈ ts,∀ c ∈ r,eU n c) → (vs.mapM fun (r : List V)=>r.mapM (resolve σ n)) = some ts:=by
   intro ts
   induction ts with
   | nil=>intro vs os h _;simp only [kG] at h;rw [h.1];rfl
   |
    cons t ts ih =>
    intro vs os h hd
    simp only [kG] at h
    obtain ⟨v,vs',o1,o2,rfl,rfl,h1,h2⟩:=h
    rw [List.mapM_cons,hl t v o1 h1 (hd t (by simp)),ih vs' o2 h2 fun c hc=>hd c (by simp [hc])]
    rfl
  cases t with
  |
   sl sz rows =>
   simp only [bD] at h
   simp only [eU] at hd
   rcases h with ⟨rfl,rfl,_⟩ | ⟨o,rows',os',rfl,h2,_,h3⟩
   ·rfl
   ·rw [resolve]
    simp only [h2]
    have:=h3.len
    rw [if_pos (by omega),List.drop_zero,List.take_of_length_le (by omega),hr rows rows' os' h3 hd];rfl
  |
   agg cs =>
   simp only [bD] at h
   obtain ⟨cs',rfl,h⟩:=h
   rw [resolve]
   rw [hl cs cs' os h hd];rfl
  |
   eF cs =>
   simp only [bD] at h
   obtain ⟨cs',rfl,h⟩:=h
   rw [resolve]
   rw [hl cs cs' os h hd];rfl
  | any=>simp [bD] at h
  | one=>simp [bD] at h
  | int k i=>simp only [bD] at h;rw [h.1];rfl
  | bool b=>simp only [bD] at h;rw [h.1];rfl
  | str s=>simp only [bD] at h;rw [h.1];rfl
  | ak=>simp [bD] at h
  | bC=>simp [bD] at h
  | ptr=>simp [bD] at h
  | fB=>simp [bD] at h
mutual
theorem bD.dH : ∀ {t v : V} {os : List Nat},bD σ v t os → dH v = true
 |
  .sl sz rows,v,os,h=>by
  simp only [bD] at h
  rcases h with ⟨rfl,rfl,_⟩ | ⟨o,rows',os',rfl,_⟩ <;> rfl
 | .agg cs,v,os,h=>by simp only [bD] at h;obtain ⟨cs',rfl,h⟩:=h;simp only [Ml.dH];exact dY.dH h
 | .eF cs,v,os,h=>by simp only [bD] at h;obtain ⟨cs',rfl,h⟩:=h;simp only [Ml.dH];exact dY.dH h
 | .any,v,os,h=>by simp [bD] at h
 | .one,v,os,h=>by simp [bD] at h
 | .int ..,v,os,h=>by simp only [bD] at h;rw [h.1];rfl
 | .bool _,v,os,h=>by simp only [bD] at h;rw [h.1];rfl
 | .str _,v,os,h=>by simp only [bD] at h;rw [h.1];rfl
 | .ak,v,os,h=>by simp [bD] at h
 | .bC ..,v,os,h=>by simp [bD] at h
 | .ptr ..,v,os,h=>by simp [bD] at h
 | .fB ..,v,os,h=>by simp [bD] at h
theorem dY.dH : ∀ {ts vs : List V} {os : List Nat},dY σ vs ts os → dH.lV vs = true
 | [],vs,os,h=>by simp only [dY] at h;rw [h.1];rfl
 |
  t :: ts,vs,os,h=>by
  simp only [dY] at h
  obtain ⟨v,vs',o1,o2,rfl,rfl,h1,h2⟩:=h
  simp only [dH.lV,bD.dH h1,dY.dH h2,Bool.and_self]
end
end
end Go.Ml
end
section
namespace Go.Ml
mutual
theorem Xl {w : World} {D : DM} {X X' : Nat → Prop} : ∀ (x : V) (v : Value),dH x = true → rd w D X x v → rd w D X' x v
 |
  .sl sz rows,v,h,hr=>by
  simp only [dH,List.isEmpty_iff] at h
  subst h
  simp only [rd] at hr ⊢
  obtain ⟨a,cap,h1,h2,_⟩:=hr
  exact ⟨a,cap,h1,h2,.inl (by trivial)⟩
 |
  .agg cs,v,h,hr=>by
  simp only [dH] at h
  simp only [rd] at hr ⊢
  obtain ⟨a,rfl,hr⟩:=hr
  exact ⟨a,rfl,MZ cs _ h hr⟩
 |
  .eF cs,v,h,hr=>by
  simp only [dH] at h
  simp only [rd] at hr ⊢
  obtain ⟨a,rfl,hr⟩:=hr
  exact ⟨a,rfl,MZ cs _ h hr⟩
 | .fB ..,v,h,hr=>by simp [dH] at h
 | .any,_,_,_=>by simp [rd]
 | .one,v,h,hr=>by simpa only [rd] using hr
 | .int ..,v,h,hr=>by simpa only [rd] using hr
 | .bool _,v,h,hr=>by simpa only [rd] using hr
 | .str _,v,h,hr=>by simpa only [rd] using hr
 | .ak,v,h,hr=>by simpa only [rd] using hr
 | .bC ..,v,h,hr=>by simpa only [rd] using hr
 | .ptr ..,v,h,hr=>by simpa only [rd] using hr
theorem MZ {w : World} {D : DM} {X X' : Nat → Prop} : ∀ (xs : List V) (vs : List Value),dH.lV xs = true → fG w D X xs vs → fG w D X' xs vs
 | [],vs,_,hr=>by simpa only [fG] using hr
 |
  x :: xs,vs,h,hr=>by
  simp only [dH.lV,Bool.and_eq_true] at h
  simp only [fG] at hr ⊢
  obtain ⟨v,vs',rfl,k1,k2⟩:=hr
  exact ⟨v,vs',rfl,Xl x v h.1 k1,MZ xs vs' h.2 k2⟩
end
mutual
theorem Na {g : Nat → Option Nat} : ∀ (x : V),dH x = true → dH (aY g x) = true
 | .sl sz rows,h=>by simpa only [aY] using h
 | .agg cs,h=>by simp only [dH,aY] at h ⊢;exact F7 cs h
 | .eF cs,h=>by simp only [dH,aY] at h ⊢;exact F7 cs h
 | .fB ..,h=>by simp [dH] at h
 | .bC o s l,_=>by simp only [aY];split <;> rfl
 | .ptr o s l,_=>by simp only [aY];split <;> rfl
 | .any,_=>rfl
 | .one,_=>rfl
 | .int ..,_=>rfl
 | .bool _,_=>rfl
 | .str _,_=>rfl
 | .ak,_=>rfl
theorem F7 {g : Nat → Option Nat} : ∀ (xs : List V),dH.lV xs = true → dH.lV (aY.DT g xs) = true
 | [],_=>rfl
 |
  x :: xs,h=>by
  simp only [dH.lV,Bool.and_eq_true,aY.DT] at h ⊢
  exact ⟨Na x h.1,F7 xs h.2⟩
end
theorem iM {σ σ' : Store} {o : Nat} : aj (ru σ σ') o = if o < σ.length then aj σ o else (aj σ' (o - σ.length)).map (iH (bT σ.length)):=by
 unfold ru aj
 by_cases h : o < σ.length
 ·rw [if_pos h,List.getElem?_append_left h]
 ·rw [if_neg h,List.getElem?_append_right (by omega),List.getElem?_map]
  cases σ'[o - σ.length]? <;> rfl
section
variable {P : Program} {ν : Nat → Option Nat} {nt : Nat} {M : Nat → Prop} {w0 : World} {D0 : DM} {st : St} {D : DM} {a : Act} {w : World}
theorem Zc {x : fP} {f : Nat} {as : List Src} {as' : List V} {r : V} {σ' : Store} {R : List Nat} (hg : ∀ g want,x.g = some (g,want) → st.env g = .bool want) (hi : x.i = .call f as)
  (ha : as.mapM (fun s=>resolve st.objs FD (s.ev st.env)) = some as') (ih : Jw P ν f as' [] r σ')
  (hR : R = if dH r && xZ σ' then [] else as.flatMap fun s=>reach st.objs FD (s.ev st.env)) :
  V6 P ν x st { st with env:=dV st.env x.dst (aY (bT st.objs.length) r),objs:=ru (cZ st.objs R) σ' }:=by
 have hlk : (cZ st.objs R).length = st.objs.length:=BU R _
 refine ⟨rfl,rfl,by simp [ru,hlk],?_⟩
 intro ops dr nt m k o htr M w0 D0 D a w hs _ K Q hK
 obtain ⟨t1,t2,t3,t4⟩:=BL htr
 rw [if_pos ((yj hs t4).1 hg)]
 rw [hi] at t1
 obtain ⟨fid,xs,c1,c2,c3⟩:=Dt t1
 have hrd:=MB hs.store hs.env xs c2 ha (R:=as.flatMap fun s=>reach st.objs FD (s.ev st.env)) (fun o h=>h)
 let X' : Nat → Prop:=fun b=>M b ∨ ∃ o d,D o = .live d ∧ d.blk = b ∧ o ∉ as.flatMap fun s=>reach st.objs FD (s.ev st.env)
 have hX : ∀ b,XS X' DM.none b → X' b:=by
  rintro b (h | ⟨o,d,h,_⟩)
  ·exact h
  ·simp [DM.none] at h
 have hlt : ∀ b,X' b → b < w.heap.size:=by
  rintro b (h | ⟨o,d,h,rfl,_⟩)
  ·exact hs.store.mlt b h
  ·obtain ⟨_,_,_,_,_,_,_,_,h6,_⟩:=hs.store.live o d h
   exact h6
 have hcall:=ih fid c1 w X' DM.none (xs.map a.eval).toArray (by simpa using MC hrd hX)
  ⟨fun o d h=>by simp [DM.none] at h,fun o ob h=>by simp [aj] at h,fun o o' d d' h=>by simp [DM.none] at h,fun _ _=>rfl,hlt⟩
 refine KA (c3 a w) (R:=fun v w'=>∃ Dc,rd w' Dc (XS X' Dc) r v ∧ jI w' Dc X' σ' ∧ Gr (Own DM.none) w w' ∧ ∀ o d,Dc o = .live d → w.heap.size ≤ d.blk) (hcall.mono ?_) ?_
 ·rintro e w' ⟨v,D',rfl,h1,h2,h3,h4,_⟩
  refine ⟨v,rfl,D',h1,h2,h3,fun o d ho=>?_⟩
  rcases h4 o d ho with ⟨_,_,h,_⟩ | h
  ·simp [DM.none] at h
  ·exact h
 ·rintro v w' ⟨Dc,h1,h2,h3,h4⟩
  have hsame : ∀ b,b < w.heap.size → w'.heap[b]? = w.heap[b]?:=fun b hb=>h3.block b hb (by rintro ⟨o,d,h,_⟩;simp [DM.none] at h)
  let n:=st.objs.length
  let D' : DM:=fun o=>if o < n then D.kill R o else Dc (o - n)
  have RD : ∀ o,o < n → D' o = D.kill R o:=fun o h=>by simp only [D',if_pos h]
  have dNew : ∀ j,D' (n + j) = Dc j:=fun j=>by simp only [D'];rw [if_neg (by omega)];congr 1;omega
  have Gz : ∀ o d,D' o = .live d → (o < n ∧ o ∉ R ∧ D o = .live d) ∨ (n ≤ o ∧ Dc (o - n) = .live d):=by
   intro o d ho
   by_cases hon : o < n
   ·rw [RD o hon] at ho
    obtain ⟨k1,k2⟩:=yw ho
    exact .inl ⟨hon,k2,k1⟩
   ·simp only [D',if_neg hon] at ho
    exact .inr ⟨by omega,ho⟩
  have E : Ext w D (XS M D) w' D' (XS M D'):=by
   refine ⟨h3.size,fun b hb _=>hsame b hb,?_,?_⟩
   ·rintro b hb (h | ⟨o,d,ho,rfl⟩)
    ·exact .inl h
    ·rcases Gz o d ho with ⟨_,_,k⟩ | ⟨_,k⟩
     ·exact .inr ⟨o,d,k,rfl⟩
     ·have:=h4 _ d k;omega
   ·intro o
    by_cases hon : o < n
    ·rw [RD o hon];exact Ul D R o
    ·rw [hs.store.far o (by omega)];trivial
  have V7 : ∀ {x : V} {v : Value},((dH r && xZ σ') = true → dH x = true) → rd w' Dc (XS X' Dc) x v → rd w' D' (XS M D') (aY (bT n) x) v:=by
   intro x v hx hr
   have h:=Md (D':=D') (g:=bT n) (fun j j' hj=>by simp only [bT,Option.some.injEq] at hj;subst hj;rw [dNew];exact jV.refl _) x v hr
   by_cases hf : (dH r && xZ σ') = true
   ·exact Xl _ _ (Na _ (hx hf)) h
   ·rw [if_neg hf] at hR
    refine dL _ _ ⟨Nat.le_refl _,fun _ _ _=>rfl,fun b _ hb=>?_,fun _=>jV.refl _⟩ h
    rcases hb with hb | ⟨o,d,ho,rfl⟩
    ·exact .inl (.inl hb)
    ·rcases Gz o d ho with ⟨_,k2,k⟩ | ⟨_,k⟩
     ·exact .inl (.inr ⟨o,d,k,rfl,by rw [← hR];exact k2⟩)
     ·exact .inr ⟨_,d,k,rfl⟩
  have hcell : ∀ {j : Nat} {ob : Obj},aj σ' j = some ob → ∀ x ∈ ob.rows.flatten,((dH r && xZ σ') = true → dH x = true):=by
   intro j ob hj x hx hf
   simp only [Bool.and_eq_true,xZ,List.all_eq_true] at hf
   have hmem : some ob ∈ σ':=by
    unfold aj at hj
    cases hc : σ'[j]? with
    | none=>rw [hc] at hj;cases hj
    | some z=>rw [hc] at hj;simp at hj;subst hj;exact List.mem_of_getElem? hc
   obtain ⟨rw',hr1,hr2⟩:=List.mem_flatten.1 hx
   have:=hf.2 _ hmem
   simp only [List.all_eq_true] at this
   exact this rw' hr1 x hr2
  have hst : jI w' D' M (ru (cZ st.objs R) σ'):=by
   refine ⟨?_,?_,?_,?_,fun b hb=>Nat.lt_of_lt_of_le (hs.store.mlt b hb) h3.size⟩
   ·intro o d ho
    rcases Gz o d ho with ⟨k1,k2,k⟩ | ⟨k1,k⟩
    ·obtain ⟨ob,c,e,g1,g2,g3,g4,g5,g6,g7,g8,g9,g10,g11⟩:=hs.store.live o d k
     refine ⟨ob,c,e,by rw [iM,hlk,if_pos k1,yu,if_neg k2];exact g1,g2,g3,g4,g5,Nat.lt_of_lt_of_le g6 h3.size,by rw [hsame _ g6];exact g7,g8,g9,g10,fun i x hi=>?_⟩
     obtain ⟨k0,y,j1,j2⟩:=g11 i x hi
     exact ⟨k0,y,j1,dL _ _ E j2⟩
    ·obtain ⟨ob,c,e,g1,g2,g3,g4,g5,g6,g7,g8,g9,g10,g11⟩:=h2.live _ d k
     refine ⟨iH (bT n) ob,c,e,by rw [iM,hlk,if_neg (by omega),g1];rfl,g2,by simp [iH,g3],g4,fun hm=>g5 (.inl hm),g6,g7,g8,g9,?_,fun i x hi=>?_⟩
     ·intro rr hrr
      simp only [iH,List.mem_map] at hrr
      obtain ⟨r0,hr0,rfl⟩:=hrr
      simpa [iH] using g10 r0 hr0
     ·rw [FK,List.getElem?_map,Option.map_eq_some_iff] at hi
      obtain ⟨x0,hx0,rfl⟩:=hi
      obtain ⟨k0,y,j1,j2⟩:=g11 i x0 hx0
      exact ⟨Pq k0,y,j1,V7 (hcell g1 x0 (List.mem_of_getElem? hx0)) j2⟩
   ·intro o ob ho
    rw [iM,hlk] at ho
    split at ho
    ·rename_i hon
     rw [yu] at ho
     split at ho
     ·cases ho
     ·rename_i hR'
      obtain ⟨d,hd⟩:=hs.store.alive o ob ho
      exact ⟨d,by rw [RD o hon];simp only [DM.kill,if_neg hR'];exact hd⟩
    ·rename_i hon
     simp only [Option.map_eq_some_iff] at ho
     obtain ⟨ob0,ho,_⟩:=ho
     obtain ⟨d,hd⟩:=h2.alive _ ob0 ho
     refine ⟨d,?_⟩
     show (if o < n then _ else _) = _
     rw [if_neg hon];exact hd
   ·intro o o' d d' ho ho' hb
    rcases Gz o d ho with ⟨a1,a2,a3⟩ | ⟨a1,a3⟩ <;> rcases Gz o' d' ho' with ⟨b1,b2,b3⟩ | ⟨b1,b3⟩
    ·exact hs.store.inj o o' d d' a3 b3 hb
    ·obtain ⟨_,_,_,_,_,_,_,_,g6,_⟩:=hs.store.live o d a3
     have:=h4 _ d' b3;omega
    ·obtain ⟨_,_,_,_,_,_,_,_,g6,_⟩:=hs.store.live o' d' b3
     have:=h4 _ d a3;omega
    ·have:=h2.inj _ _ d d' a3 b3 hb
     omega
   ·intro o ho
    have hlo : n + σ'.length ≤ o:=by simpa [ru,hlk] using ho
    simp only [D']
    rw [if_neg (by omega)]
    exact h2.far _ (by omega)
  rw [t2]
  refine hK D' _ w' ⟨L9 (fun t=>dL _ _ E (hs.env t)) (fun d hd=>by rw [hs.tm];exact t3 d (t2.trans hd)) (V7 (fun hf=>by simp only [Bool.and_eq_true] at hf;exact hf.1) h1),?_,?_,hst,?_,?_,fun o ho=>(hs.kp o ho).trans (E.ds o)⟩ ?_
  ·rw [← hs.tm];cases x.dst <;> simp [Act.put]
  ·rw [← hs.df];cases x.dst <;> rfl
  ·exact hs.gr.trans (h3.mono fun b _ ⟨o,d,h,_⟩=>by simp [DM.none] at h)
  ·intro o d ho
   rcases Gz o d ho with ⟨_,_,k⟩ | ⟨_,k⟩
   ·exact hs.fr o d k
   ·exact .inr (Nat.le_trans hs.gr.size (h4 _ d k))
  ·intro o _ ho hu _
   rw [RD o ho]
   simp only [DM.kill,hu];split <;> rfl
theorem TB {X : Nat → Prop} {env : Nat → V} (he : ∀ t,rd w D X (env t) (a.tmps.getD t undef)) :
  ∀ (xs : List Operand) {as : List Src},Aj xs = some as → fG w D X (as.map fun s=>s.ev env) (xs.map a.eval)
 | [],as,h=>by simp only [Aj,Option.some.injEq] at h;subst h;simp [fG]
 |
  x :: xs,as,h=>by
  simp only [Aj] at h
  split at h <;> first | (cases h;done) | skip
  rename_i s r h1 h2
  simp only [Option.some.injEq] at h;subst h
  simp only [List.map_cons,fG]
  exact ⟨_,_,rfl,dM he h1,TB he xs h2⟩
theorem Zd {x : fP} {f : Nat} {as : List Src} {r : V} {σ' : Store} (hg : ∀ g want,x.g = some (g,want) → st.env g = .bool want) (hi : x.i = .call f as)
  (ih : Jw P ν f (as.map fun s=>s.ev st.env) st.objs r σ') (hl : st.objs.length ≤ σ'.length) (hb : st.objs.length ≤ st.base) :
  V6 P ν x st { st with env:=dV st.env x.dst r,objs:=σ' }:=by
 refine ⟨rfl,rfl,hl,?_⟩
 intro ops dr nt m k o htr M w0 D0 D a w hs _ K Q hK
 obtain ⟨t1,t2,t3,t4⟩:=BL htr
 rw [if_pos ((yj hs t4).1 hg)]
 rw [hi] at t1
 obtain ⟨fid,xs,c1,c2,c3⟩:=Dt t1
 have hcall:=ih fid c1 w M D (xs.map a.eval).toArray (by simpa using TB hs.env xs c2) hs.store
 refine KA (c3 a w) (R:=fun v w'=>∃ D',rd w' D' (XS M D') r v ∧ jI w' D' M σ' ∧ Gr (Own D) w w' ∧ (∀ o d,D' o = .live d → Own D d.blk ∨ w.heap.size ≤ d.blk) ∧ ∀ j,j < st.objs.length → jV (D j) (D' j)) (hcall.mono ?_) ?_
 ·rintro e w' ⟨v,D',rfl,h1,h2,h3,h4,h5⟩
  exact ⟨v,rfl,D',h1,h2,h3,h4,h5⟩
 ·rintro v w' ⟨D',h1,h2,h3,h4,h5⟩
  have E : Ext w D (XS M D) w' D' (XS M D'):=by
   refine ⟨h3.size,fun b hb hx=>h3.block b hb (fun ho=>hx (.inr ho)),?_,?_⟩
   ·rintro b hb (h | ⟨o,d,ho,rfl⟩)
    ·exact .inl h
    ·rcases h4 o d ho with h | h
     ·exact .inr h
     ·omega
   ·intro o
    rcases Nat.lt_or_ge o st.objs.length with h | h
    ·exact h5 o h
    ·rw [hs.store.far o h];trivial
  rw [t2]
  refine hK D' _ w' ⟨L9 (fun t=>dL _ _ E (hs.env t)) (fun d hd=>by rw [hs.tm];exact t3 d (t2.trans hd)) h1,?_,?_,h2,?_,?_,fun o ho=>(hs.kp o ho).trans (E.ds o)⟩ ?_
  ·rw [← hs.tm];cases x.dst <;> simp [Act.put]
  ·rw [← hs.df];cases x.dst <;> rfl
  ·exact hs.gr.trans (h3.mono fun b _ ho=>by obtain ⟨o,d,h,hb⟩:=ho;rw [← hb];exact hs.fr o d h)
  ·intro o d ho
   rcases h4 o d ho with ⟨q,d',hq,hb⟩ | h
   ·rw [← hb];exact hs.fr q d' hq
   ·exact .inr (Nat.le_trans hs.gr.size h)
  ·intro o h1 h2 _ _
   omega
theorem aee {W : Jb} {f : Nat} {args args2 : List V} {σ' σ2 : Store} {r r2 : V} (ha : oJ args args2) (hs : ReS W σ' σ2) (hr : pJ W σ' r r2) (ih : Jw P ν f args [] r σ') : Jw P ν f args2 [] r2 σ2:=by
 intro fid hf w M D vals h1 h2
 refine (ih fid hf w M D vals (KE _ _ _ _ _ ha h1) h2).mono ?_
 rintro e w' ⟨v,D',rfl,k1,k2,k3,k4,k5⟩
 refine ⟨v,D'.win W 0,rfl,Uw k2 hs.some _ _ _ hr k1,k2.re hs (Nat.zero_le _),k3,?_,fun o ho=>by simp at ho⟩
 intro k d hk
 obtain ⟨o,s,l,d0,_,e2,rfl⟩:=BX hk
 exact k4 o d0 e2
theorem abM {f : Nat} {args args2 : List V} {σ σ' : Store} {r r2 : V} (ha : oJ args args2) (hr : bQ r2 r) (ih : Jw P ν f args σ r σ') : Jw P ν f args2 σ r2 σ':=by
 intro fid hf w M D vals h1 h2
 refine (ih fid hf w M D vals (KE _ _ _ _ _ ha h1) h2).mono ?_
 rintro e w' ⟨v,D',rfl,k1,k2⟩
 exact ⟨v,D',rfl,MN _ _ _ _ _ hr k1,k2⟩
end
end Go.Ml
end
section
namespace Go.Ml
section
variable {σ : Store} {ρ : List Nat}
mutual
theorem bD.gc {g : Nat → Nat} : ∀ {t v : V} {os : List Nat},bD σ v t os → (∀ o ∈ os,place ρ o = some (g o) ∧ o ∈ ρ) → bD (Eu ρ σ) (aY (place ρ) v) t (os.map g)
 |
  .sl sz rows,v,os,h,hg=>by
  simp only [bD] at h ⊢
  rcases h with ⟨h1,rfl,rfl⟩ | ⟨o,rows',os',rfl,h2,rfl,h3⟩
  ·exact .inl ⟨h1,rfl,rfl⟩
  ·obtain ⟨g1,g2⟩:=hg o (by simp)
   refine .inr ⟨g o,rows'.map fun r=>r.map (aY (place ρ)),os'.map g,by simp only [aY,g1],?_,rfl,kG.gc h3 fun q hq=>hg q (by simp [hq])⟩
   rw [Ez,iK g1]
   simp only [h2,Option.map_some];rfl
 | .agg cs,v,os,h,hg=>by simp only [bD] at h ⊢;obtain ⟨cs',rfl,h⟩:=h;exact ⟨_,rfl,dY.gc h hg⟩
 | .eF cs,v,os,h,hg=>by simp only [bD] at h ⊢;obtain ⟨cs',rfl,h⟩:=h;exact ⟨_,rfl,dY.gc h hg⟩
 | .any,v,os,h,_=>by simp [bD] at h
 | .one,v,os,h,_=>by simp [bD] at h
 | .int ..,v,os,h,_=>by simp only [bD] at h ⊢;obtain ⟨rfl,rfl⟩:=h;exact ⟨rfl,rfl⟩
 | .bool _,v,os,h,_=>by simp only [bD] at h ⊢;obtain ⟨rfl,rfl⟩:=h;exact ⟨rfl,rfl⟩
 | .str _,v,os,h,_=>by simp only [bD] at h ⊢;obtain ⟨rfl,rfl⟩:=h;exact ⟨rfl,rfl⟩
 | .ak,v,os,h,_=>by simp [bD] at h
 | .bC ..,v,os,h,_=>by simp [bD] at h
 | .ptr ..,v,os,h,_=>by simp [bD] at h
 | .fB ..,v,os,h,_=>by simp [bD] at h
theorem dY.gc {g : Nat → Nat} : ∀ {ts vs : List V} {os : List Nat},dY σ vs ts os → (∀ o ∈ os,place ρ o = some (g o) ∧ o ∈ ρ) → dY (Eu ρ σ) (aY.DT (place ρ) vs) ts (os.map g)
 | [],vs,os,h,_=>by simp only [dY] at h ⊢;obtain ⟨rfl,rfl⟩:=h;exact ⟨rfl,rfl⟩
 |
  t :: ts,vs,os,h,hg=>by
  simp only [dY] at h ⊢
  obtain ⟨v,vs',o1,o2,rfl,rfl,h1,h2⟩:=h
  exact ⟨_,_,_,_,rfl,by rw [List.map_append],bD.gc h1 fun q hq=>hg q (by simp [hq]),dY.gc h2 fun q hq=>hg q (by simp [hq])⟩
theorem kG.gc {g : Nat → Nat} : ∀ {ts vs : List (List V)} {os : List Nat},kG σ vs ts os → (∀ o ∈ os,place ρ o = some (g o) ∧ o ∈ ρ) → kG (Eu ρ σ) (vs.map fun r=>r.map (aY (place ρ))) ts (os.map g)
 | [],vs,os,h,_=>by simp only [kG] at h ⊢;obtain ⟨rfl,rfl⟩:=h;exact ⟨rfl,rfl⟩
 |
  t :: ts,vs,os,h,hg=>by
  simp only [kG] at h ⊢
  obtain ⟨v,vs',o1,o2,rfl,rfl,h1,h2⟩:=h
  have hm : ∀ l : List V,aY.DT (place ρ) l = l.map (aY (place ρ)):=by
   intro l
   induction l with
   | nil=>rfl
   | cons x l ih=>simp only [aY.DT,List.map_cons,ih]
  exact ⟨_,_,_,_,rfl,by rw [List.map_append],by rw [show (fun r=>List.map (aY (place ρ)) r) v = aY.DT (place ρ) v from (hm v).symm];exact dY.gc h1 fun q hq=>hg q (by simp [hq]),kG.gc h2 fun q hq=>hg q (by simp [hq])⟩
end
theorem UW {cs : List V} : dH.lV cs = true ↔ ∀ c ∈ cs,dH c = true:=by
 induction cs with
 | nil=>simp [dH.lV]
 | cons c cs ih=>simp [dH.lV,ih]
mutual
theorem bD.objs : ∀ {t v : V} {os : List Nat},bD σ v t os → ∀ o ∈ os,∃ ob,aj σ o = some ob ∧ ∀ r ∈ ob.rows,∀ c ∈ r,dH c = true
 |
  .sl sz rows,v,os,h=>by
  simp only [bD] at h
  rcases h with ⟨_,_,rfl⟩ | ⟨o,rows',os',_,h2,rfl,h3⟩
  ·intro o ho;cases ho
  ·intro q hq
   rcases List.mem_cons.1 hq with rfl | hq
   ·exact ⟨_,h2,kG.dH h3⟩
   ·exact kG.objs h3 q hq
 | .agg cs,v,os,h=>by simp only [bD] at h;obtain ⟨cs',_,h⟩:=h;exact dY.objs h
 | .eF cs,v,os,h=>by simp only [bD] at h;obtain ⟨cs',_,h⟩:=h;exact dY.objs h
 | .any,v,os,h=>by simp [bD] at h
 | .one,v,os,h=>by simp [bD] at h
 | .int ..,v,os,h=>by simp only [bD] at h;rw [h.2];intro o ho;cases ho
 | .bool _,v,os,h=>by simp only [bD] at h;rw [h.2];intro o ho;cases ho
 | .str _,v,os,h=>by simp only [bD] at h;rw [h.2];intro o ho;cases ho
 | .ak,v,os,h=>by simp [bD] at h
 | .bC ..,v,os,h=>by simp [bD] at h
 | .ptr ..,v,os,h=>by simp [bD] at h
 | .fB ..,v,os,h=>by simp [bD] at h
theorem dY.objs : ∀ {ts vs : List V} {os : List Nat},dY σ vs ts os → ∀ o ∈ os,∃ ob,aj σ o = some ob ∧ ∀ r ∈ ob.rows,∀ c ∈ r,dH c = true
 | [],vs,os,h=>by simp only [dY] at h;rw [h.2];intro o ho;cases ho
 |
  t :: ts,vs,os,h=>by
  simp only [dY] at h
  obtain ⟨v,vs',o1,o2,_,rfl,h1,h2⟩:=h
  intro o ho
  rcases List.mem_append.1 ho with ho | ho
  ·exact bD.objs h1 o ho
  ·exact dY.objs h2 o ho
theorem kG.objs : ∀ {ts vs : List (List V)} {os : List Nat},kG σ vs ts os → ∀ o ∈ os,∃ ob,aj σ o = some ob ∧ ∀ r ∈ ob.rows,∀ c ∈ r,dH c = true
 | [],vs,os,h=>by simp only [kG] at h;rw [h.2];intro o ho;cases ho
 |
  t :: ts,vs,os,h=>by
  simp only [kG] at h
  obtain ⟨v,vs',o1,o2,_,rfl,h1,h2⟩:=h
  intro o ho
  rcases List.mem_append.1 ho with ho | ho
  ·exact dY.objs h1 o ho
  ·exact kG.objs h2 o ho
theorem kG.dH : ∀ {ts vs : List (List V)} {os : List Nat},kG σ vs ts os → ∀ r ∈ vs,∀ c ∈ r,Ml.dH c = true
 | [],vs,os,h=>by simp only [kG] at h;rw [h.1];intro r hr;cases hr
 |
  t :: ts,vs,os,h=>by
  simp only [kG] at h
  obtain ⟨v,vs',o1,o2,rfl,_,h1,h2⟩:=h
  intro r hr
  rcases List.mem_cons.1 hr with rfl | hr
  ·exact UW.1 (dY.dH h1)
  ·exact kG.dH h2 r hr
end
def PO (T : Tb) (f : Nat) (args : List V) (t : V) : Prop :=
 ∃ r σ' os,Run T (.fn f args []) (.fn r σ') ∧ bD σ' r t os ∧ os.Nodup ∧ xZ σ' = true
theorem PO.of {T : Tb} {f : Nat} {args : List V} {t r : V} {σ' : Store} {os : List Nat} (h : Run T (.fn f args []) (.fn r σ')) (ho : bD σ' r t os) (hn : os.Nodup) : PO T f args t:=by
 have hg : ∀ o ∈ os,place os o = some ((place os o).getD 0) ∧ o ∈ os:=by
  intro o hm
  refine ⟨?_,hm⟩
  cases hp : place os o with
  | none=>exact absurd hm (uK hp)
  | some j=>rfl
 refine ⟨_,_,_,.gcF os hn (fun i hi=>by simp at hi) h,ho.gc hg,?_,?_⟩
 ·refine (List.pairwise_map.2 ?_)
  refine List.Pairwise.imp_of_mem (fun {a b} ha hb hne e=>hne ?_) hn
  have e1:=iK (hg a ha).1
  have e2:=iK (hg b hb).1
  rw [e,e2] at e1
  exact (Option.some.inj e1).symm
 ·simp only [xZ,List.all_eq_true]
  intro x hx
  obtain ⟨o,hm,rfl⟩:=List.mem_map.1 hx
  obtain ⟨ob,h1,h2⟩:=ho.objs o hm
  rw [h1]
  simp only [Option.map_some,iH,List.all_eq_true]
  intro r hr c hc
  obtain ⟨r0,hr0,rfl⟩:=List.mem_map.1 hr
  obtain ⟨c0,hc0,rfl⟩:=List.mem_map.1 hc
  exact Na _ (h2 r0 hr0 c0 hc0)
theorem PO.frz {T : Tb} {f : Nat} {args : List V} {t : V} (h : PO T f args t) (hd : eU FD t) : PF T f args t:=by
 obtain ⟨r,σ',os,h1,h2,_,_⟩:=h
 exact .frz h1 (JU FD h2 hd)
theorem aef {T : Tb} {f : Nat} {as : List Src} {dst : Option Nat} {env : Nat → V} {σ : Store} {kp bs : Nat} {rs ms : List Nat} {k : St → Prop} {as' : List V} {t : V} (h : PO T f as' t)
  (ha : EC env σ as (· = as'))
  (hk : ∀ r σ2 os,bD σ2 r t os → os.Nodup → (∀ o ∈ os,σ.length ≤ o) → (∀ o,o < σ.length → aj σ2 o = aj σ o) → σ.length ≤ σ2.length → k ⟨dV env dst r,σ2,kp,bs,rs,ms⟩) :
  Jz T f as dst ⟨env,σ,kp,bs,rs,ms⟩ k:=by
 obtain ⟨r,σ',os,h1,h2,h3,h4⟩:=h
 obtain ⟨vs,e,rfl⟩:=qE ha
 refine ⟨_,.own e h1 (R:=[]) (by rw [if_pos];simp [h2.dH,h4]),?_⟩
 have key : ∀ o,aj (ru (cZ σ []) σ') (σ.length + o) = (aj σ' o).map (iH (bT σ.length)):=by
  intro o
  show aj (ru σ σ') _ = _
  rw [iM,if_neg (by omega)]
  congr 2;omega
 refine hk _ _ (os.map (σ.length + ·)) (h2.shift key) ?_ ?_ ?_ ?_
 ·exact List.pairwise_map.2 (h3.imp fun hne e=>hne (by omega))
 ·intro o ho
  obtain ⟨q,_,rfl⟩:=List.mem_map.1 ho
  omega
 ·intro o ho
  show aj (ru σ σ') _ = _
  rw [iM,if_pos ho]
 ·simp [ru,cZ]
theorem aeg {T : Tb} {f : Nat} {as : List Src} {dst : Option Nat} {env : Nat → V} {σ σ' : Store} {kp bs : Nat} {rs ms : List Nat} {k : St → Prop} {r : V}
  (h : Run T (.fn f (as.map fun s=>s.ev env) σ) (.fn r σ')) (hl : σ.length ≤ σ'.length) (hb : σ.length ≤ bs) (hk : k ⟨dV env dst r,σ',kp,bs,rs,ms⟩) : Jz T f as dst ⟨env,σ,kp,bs,rs,ms⟩ k :=
 ⟨_,.idn h hl hb,hk⟩
def outW : List GZ → List V → St → (V → Store → Prop) → Prop
 | [],acc,st,k=>xU (jH acc.reverse) fun v=>k v st.objs
 | r :: rs,acc,st,k=>dJ (r.get st) fun v=>xU v fun v=>outW rs (v :: acc) st k
theorem TF {st : St} {k : V → Store → Prop} : ∀ (rs : List GZ) (acc : List V),outW rs acc st k → dJ (rs.mapM (GZ.get st)) fun vs=>k (jH (acc.reverse ++ vs)) st.objs
 | [],acc,h=>by simpa [dJ,outW,xU] using h
 |
  r :: rs,acc,h=>by
  obtain ⟨v,e,h⟩:=bF h
  have:=TF rs (v :: acc) h
  obtain ⟨vs,e2,h⟩:=bF this
  simp only [List.mapM_cons,e,e2]
  simpa [dJ,wr] using h
def endW (rs : List GZ) (e : Ex) (k : V → Store → Prop) (st : St) : Prop:=match e with
 | .normal=>outW rs [] st k
 | .ret=>outW rs [] st k
 | .exit _=>False
theorem akx (rs : List GZ) (k : V → Store → Prop) (st : St) : endW rs .normal k st = outW rs [] st k:=nr rfl
theorem aky (rs : List GZ) (k : V → Store → Prop) (st : St) : endW rs .ret k st = outW rs [] st k:=nr rfl
theorem akz (acc : List V) (st : St) (k : V → Store → Prop) : outW [] acc st k = xU (jH acc.reverse) fun v=>k v st.objs:=nr rfl
theorem akA (t : Nat) (rs : List GZ) (acc : List V) (st : St) (k : V → Store → Prop) : outW (.tmp t :: rs) acc st k = xU (st.env t) fun v=>outW rs (v :: acc) st k:=nr rfl
theorem aho (t n : Nat) (rs : List GZ) (acc : List V) (st : St) (k : V → Store → Prop) : outW (.cell t n false :: rs) acc st k = dJ (rowAt st.objs (st.env t)) fun p=>dJ p.1[p.2]? fun v=>xU v fun v=>outW rs (v :: acc) st k:=by
 simp only [outW,GZ.get]
 cases rowAt st.objs (st.env t) <;> rfl
theorem ahp (t n : Nat) (rs : List GZ) (acc : List V) (st : St) (k : V → Store → Prop) : outW (.cell t n true :: rs) acc st k = dJ (rowAt st.objs (st.env t)) fun p=>if p.2 + n ≤ p.1.length then xU (.agg ((p.1.drop p.2).take n)) fun v=>outW rs (v :: acc) st k else False:=by
 simp only [outW,GZ.get]
 cases e : rowAt st.objs (st.env t) with
 | none=>rfl
 |
  some p =>
  by_cases h : p.2 + n ≤ p.1.length
  ·simp only [dJ,if_true,xU,gV,if_pos h]
  ·simp only [dJ,if_true,xU,gV,if_neg h]
theorem run_end {T : Tb} {f : Nat} {F : Fn} {args : List V} {σ : Store} {k : V → Store → Prop} (rf : Nat → Nat → Bool) (hT : T f = some F)
  (h : wp T rf F.body (fun e st=>endW F.res e k st) (St.enter args σ)) (hl : args.length = F.nargs:=by rfl) (hk : F.body.VJ = true:=by rfl) : ∃ r σ',Run T (.fn f args σ) (.fn r σ') ∧ k r σ':=by
 obtain ⟨e,st',h1,h2⟩:=rH hk h
 have h3 : (e = .normal ∨ e = .ret) ∧ outW F.res [] st' k:=by
  cases e with
  | normal=>exact ⟨.inl rfl,h2⟩
  | ret=>exact ⟨.inr rfl,h2⟩
  | exit id=>exact h2.elim
 obtain ⟨he,h3⟩:=h3
 obtain ⟨rs,e1,h4⟩:=bF (TF _ _ h3)
 exact ⟨_,_,.fn hT hl h1 he e1,h4⟩
end
end Go.Ml
end
section
namespace Go.Ml
section
variable {σ : Store}
theorem dY.len : ∀ {ts vs : List V} {os : List Nat},dY σ vs ts os → vs.length = ts.length
 | [],vs,os,h=>by simp only [dY] at h;simp [h.1]
 |
  t :: ts,vs,os,h=>by
  simp only [dY] at h
  obtain ⟨v,vs',o1,o2,rfl,_,_,h2⟩:=h
  simp [dY.len h2]
theorem dY.focus : ∀ {ts vs : List V} {os : List Nat} (c : Nat) (t : V),dY σ vs ts os → os.Nodup → ts[c]? = some t →
  ∃
   vc oc,vs[c]? = some vc ∧ bD σ vc t oc ∧ oc.Nodup ∧ (∀ q ∈ oc,q ∈ os) ∧
   ∀ σ' vc' Yl,bD σ' vc' Yl oc → (∀ q ∈ os,q ∉ oc → aj σ' q = aj σ q) → dY σ' (vs.set c vc') (ts.set c Yl) os
 | [],vs,os,c,t,_,_,hc=>by simp at hc
 |
  x :: ts,vs,os,0,t,h,hn,hc=>by
  simp only [dY] at h
  obtain ⟨v,vs',o1,o2,rfl,rfl,h1,h2⟩:=h
  simp at hc;subst hc
  rw [List.nodup_append] at hn
  refine ⟨v,o1,rfl,h1,hn.1,fun q hq=>by simp [hq],fun σ' vc' Yl hv hf=>?_⟩
  simp only [List.set_cons_zero,dY]
  exact ⟨vc',vs',o1,o2,rfl,rfl,hv,h2.frame fun q hq=>hf q (by simp [hq]) fun h=>hn.2.2 q h q hq rfl⟩
 |
  x :: ts,vs,os,c + 1,t,h,hn,hc=>by
  simp only [dY] at h
  obtain ⟨v,vs',o1,o2,rfl,rfl,h1,h2⟩:=h
  rw [List.nodup_append] at hn
  obtain ⟨vc,oc,k1,k2,k3,k4,k5⟩:=dY.focus c t h2 hn.2.1 (by simpa using hc)
  refine ⟨vc,oc,by simpa using k1,k2,k3,fun q hq=>by simp [k4 q hq],fun σ' vc' Yl hv hf=>?_⟩
  simp only [List.set_cons_succ,dY]
  exact ⟨v,_,o1,o2,rfl,rfl,h1.frame fun q hq=>hf q (by simp [hq]) fun h=>hn.2.2 q hq q (k4 q h) rfl,k5 σ' vc' Yl hv fun q hq hnq=>hf q (by simp [hq]) hnq⟩
theorem kG.focus : ∀ {ts vs : List (List V)} {os : List Nat} (c : Nat) (t : List V),kG σ vs ts os → os.Nodup → ts[c]? = some t →
  ∃
   vc oc,vs[c]? = some vc ∧ dY σ vc t oc ∧ oc.Nodup ∧ (∀ q ∈ oc,q ∈ os) ∧
   ∀ σ' vc' Yl,dY σ' vc' Yl oc → (∀ q ∈ os,q ∉ oc → aj σ' q = aj σ q) → kG σ' (vs.set c vc') (ts.set c Yl) os
 | [],vs,os,c,t,_,_,hc=>by simp at hc
 |
  x :: ts,vs,os,0,t,h,hn,hc=>by
  simp only [kG] at h
  obtain ⟨v,vs',o1,o2,rfl,rfl,h1,h2⟩:=h
  simp at hc;subst hc
  rw [List.nodup_append] at hn
  refine ⟨v,o1,rfl,h1,hn.1,fun q hq=>by simp [hq],fun σ' vc' Yl hv hf=>?_⟩
  simp only [List.set_cons_zero,kG]
  exact ⟨vc',vs',o1,o2,rfl,rfl,hv,h2.frame fun q hq=>hf q (by simp [hq]) fun h=>hn.2.2 q h q hq rfl⟩
 |
  x :: ts,vs,os,c + 1,t,h,hn,hc=>by
  simp only [kG] at h
  obtain ⟨v,vs',o1,o2,rfl,rfl,h1,h2⟩:=h
  rw [List.nodup_append] at hn
  obtain ⟨vc,oc,k1,k2,k3,k4,k5⟩:=kG.focus c t h2 hn.2.1 (by simpa using hc)
  refine ⟨vc,oc,by simpa using k1,k2,k3,fun q hq=>by simp [k4 q hq],fun σ' vc' Yl hv hf=>?_⟩
  simp only [List.set_cons_succ,kG]
  exact ⟨v,_,o1,o2,rfl,rfl,h1.frame fun q hq=>hf q (by simp [hq]) fun h=>hn.2.2 q hq q (k4 q h) rfl,k5 σ' vc' Yl hv fun q hq hnq=>hf q (by simp [hq]) hnq⟩
theorem bD.focus {v : V} {sz : Nat} {rows : List (List V)} {os : List Nat} {i c : Nat} {row : List V} {t : V} (h : bD σ v (.sl sz rows) os) (hn : os.Nodup) (hi : rows[i]? = some row) (hc : row[c]? = some t) :
  ∃
   o rows' row' vc oc,v = .bC o 0 rows.length ∧ aj σ o = some ⟨sz,rows'⟩ ∧ rows'.length = rows.length ∧ rows'[i]? = some row' ∧ row'.length = row.length ∧ row'[c]? = some vc ∧ bD σ vc t oc ∧ oc.Nodup ∧ (∀ q ∈ oc,q ∈ os) ∧ o ∈ os ∧ o ∉ oc ∧
   (∀ σ' Yl,bD σ' vc Yl oc → (∀ q ∈ os,q ∉ oc → aj σ' q = aj σ q) → bD σ' v (.sl sz (rows.set i (row.set c Yl))) os) ∧
   (∀ x,oc = [] → (x.leaf = true) → (∃ k n,x = .int k n) ∨ (∃ b,x = .bool b) → bD (σ.set o (some ⟨sz,rows'.set i (row'.set c x)⟩)) v (.sl sz (rows.set i (row.set c x))) os):=by
 simp only [bD] at h
 rcases h with ⟨rfl,_,_⟩ | ⟨o,rows',os',rfl,h2,rfl,h3⟩
 ·simp at hi
 rw [List.nodup_cons] at hn
 obtain ⟨row',oi,k1,k2,k3,k4,k5⟩:=h3.focus i row hn.2 hi
 obtain ⟨vc,oc,j1,j2,j3,j4,j5⟩:=k2.focus c t k3 hc
 have hno : o ∉ oc:=fun h=>hn.1 (k4 o (j4 o h))
 have hset : rows'.set i (row'.set c vc) = rows':=by
  have : row'.set c vc = row':=by
   apply List.ext_getElem?
   intro n
   rw [List.getElem?_set]
   split
   ·subst_vars
    split
    ·exact j1.symm
    ·rename_i hlt
     rw [List.getElem?_eq_none (by omega)]
   ·rfl
  rw [this]
  apply List.ext_getElem?
  intro n
  rw [List.getElem?_set]
  split
  ·subst_vars
   split
   ·exact k1.symm
   ·rename_i hlt
    rw [List.getElem?_eq_none (by omega)]
  ·rfl
 refine ⟨o,rows',row',vc,oc,rfl,h2,h3.len,k1,k2.len,j1,j2,j3,fun q hq=>by simp [k4 q (j4 q hq)],by simp,hno,?_,?_⟩
 ·intro σ' Yl hv hf
  simp only [bD]
  refine .inr ⟨o,rows',os',by simp,by rw [hf o (by simp) hno];exact h2,rfl,?_⟩
  have h6:=j5 σ' vc Yl hv fun q hq hnq=>hf q (by simp [k4 q hq]) hnq
  have h7:=k5 σ' _ _ h6 fun q hq hnq=>hf q (by simp [hq]) fun h=>hnq (j4 q h)
  rwa [hset] at h7
 ·intro x hoc hl hx
  have hlt:=aJ h2
  have hf : ∀ q,q ≠ o → aj (σ.set o (some ⟨sz,rows'.set i (row'.set c x)⟩)) q = aj σ q:=fun q hq=>by
   rw [jR hlt,if_neg (fun e=>hq e.symm)]
  simp only [bD]
  refine .inr ⟨o,rows'.set i (row'.set c x),os',by simp,by rw [jR hlt,if_pos rfl],rfl,?_⟩
  have hno' : ∀ q ∈ os',q ≠ o:=fun q hq e=>hn.1 (e ▸ hq)
  have hx' : bD (σ.set o (some ⟨sz,rows'.set i (row'.set c x)⟩)) x x oc:=by
   rw [hoc]
   rcases hx with ⟨k,n,rfl⟩ | ⟨b,rfl⟩ <;> simp [bD]
  have h6:=j5 (σ.set o (some ⟨sz,rows'.set i (row'.set c x)⟩)) x x hx' fun q hq _=>hf q (hno' q (k4 q hq))
  exact k5 _ _ _ h6 fun q hq _=>hf q (hno' q hq)
def Qz (σ : Store) (vs ts : List V) : Prop:=∃ os,dY σ vs ts os ∧ os.Nodup
theorem dB : ∀ {ts vs ts' vs' : List V} {os os' : List Nat},dY σ vs ts os → dY σ vs' ts' os' → dY σ (vs ++ vs') (ts ++ ts') (os ++ os')
 | [],vs,ts',vs',os,os',h,h'=>by simp only [dY] at h;obtain ⟨rfl,rfl⟩:=h;simpa using h'
 |
  t :: ts,vs,ts',vs',os,os',h,h'=>by
  simp only [dY] at h
  obtain ⟨v,vs1,o1,o2,rfl,rfl,h1,h2⟩:=h
  simp only [List.cons_append,dY]
  exact ⟨v,vs1 ++ vs',o1,o2 ++ os',rfl,by simp,h1,dB h2 h'⟩
theorem Qz.push {σ2 : Store} {vs ts : List V} {r t : V} {os : List Nat} (h : Qz σ vs ts) (h1 : bD σ2 r t os) (h2 : os.Nodup) (h3 : ∀ o ∈ os,σ.length ≤ o) (h4 : ∀ o,o < σ.length → aj σ2 o = aj σ o) :
  Qz σ2 (vs ++ [r]) (ts ++ [t]):=by
 obtain ⟨os0,k1,k2⟩:=h
 refine ⟨os0 ++ os,dB (k1.frame fun o ho=>h4 o (dY.lt k1 o ho)) ?_,?_⟩
 ·simp only [dY];exact ⟨r,[],os,[],rfl,by simp,h1,rfl,rfl⟩
 ·rw [List.nodup_append]
  refine ⟨k2,h2,fun a ha b hb e=>?_⟩
  have:=dY.lt k1 a ha
  have:=h3 b hb
  omega
theorem Qz.frame {σ2 : Store} {vs ts : List V} (h : Qz σ vs ts) (h4 : ∀ o,o < σ.length → aj σ2 o = aj σ o) : Qz σ2 vs ts:=by
 obtain ⟨os0,k1,k2⟩:=h
 exact ⟨os0,k1.frame fun o ho=>h4 o (dY.lt k1 o ho),k2⟩
theorem Qz.res {vs ts : List V} (h : Qz σ vs ts) {i : Nat} {v t : V} (hv : vs[i]? = some v) (ht : ts[i]? = some t) (hd : eU FD t) : resolve σ FD v = some t:=by
 obtain ⟨os,k1,k2⟩:=h
 obtain ⟨vc,oc,j1,j2,_⟩:=k1.focus i t k2 ht
 rw [hv] at j1
 cases j1
 exact JU FD j2 hd
def Mk (T : Tb) (f : Nat) (t : V) (k : Int) (t' : V) (k' : Int) : Prop :=
 ∀ σ v os,bD σ v t os → os.Nodup → ∃ σ',Run T (.fn f [v,.int .i64 k] σ) (.fn (.int .i64 k') σ') ∧ bD σ' v t' os ∧ (∀ o,o < σ.length → o ∉ os → aj σ' o = aj σ o) ∧ σ.length ≤ σ'.length
end
end Go.Ml
end
section
namespace Go.Ml
theorem EVw : (∀ (rs : List GZ) (k : V → Store → Prop) (st : St),endW rs .normal k st = outW rs [] st k) ∧ (∀ (rs : List GZ) (k : V → Store → Prop) (st : St),endW rs .ret k st = outW rs [] st k) ∧
  (∀ (acc : List V) (st : St) (k : V → Store → Prop),outW [] acc st k = xU (jH acc.reverse) fun v=>k v st.objs) ∧
  (∀ (t : Nat) (rs : List GZ) (acc : List V) (st : St) (k : V → Store → Prop),outW (.tmp t :: rs) acc st k = xU (st.env t) fun v=>outW rs (v :: acc) st k) ∧
  (∀ (t n : Nat) (rs : List GZ) (acc : List V) (st : St) (k : V → Store → Prop),outW (.cell t n false :: rs) acc st k = dJ (rowAt st.objs (st.env t)) fun p=>dJ p.1[p.2]? fun v=>xU v fun v=>outW rs (v :: acc) st k) ∧
  (∀ (t n : Nat) (rs : List GZ) (acc : List V) (st : St) (k : V → Store → Prop),outW (.cell t n true :: rs) acc st k = dJ (rowAt st.objs (st.env t)) fun p=>if p.2 + n ≤ p.1.length then xU (.agg ((p.1.drop p.2).take n)) fun v=>outW rs (v :: acc) st k else False) :=
 ⟨akx,aky,akz,akA,aho,ahp⟩
theorem nD (σ : Store) (a : Option Obj) : aj (σ ++ [a]) σ.length = a:=by simp [aj]
theorem UY (σ : Store) (o : Nat) : aj (σ ++ [none]) o = aj σ o:=by
 unfold aj
 rcases Nat.lt_trichotomy o σ.length with h | h | h
 ·rw [List.getElem?_append_left h]
 ·subst h;simp
 ·rw [List.getElem?_eq_none (by simp;omega),List.getElem?_eq_none (by omega)]
theorem aO {σ : Store} {a : Option Obj} {o : Nat} (h : o < σ.length) : aj (σ ++ [a]) o = aj σ o:=by
 unfold aj;rw [List.getElem?_append_left h]
theorem Xm (σ : Store) (a b : Option Obj) : (σ ++ [a]).set σ.length b = σ ++ [b]:=by
 rw [List.set_append_right _ _ (Nat.le_refl _)];simp
theorem Xn {σ : Store} {a b : Option Obj} {o : Nat} (h : o < σ.length) : (σ ++ [a]).set o b = σ.set o b ++ [a]:=List.set_append_left _ _ h
theorem aX {σ : Store} {o : Nat} {x : Option Obj} (h : o < σ.length) : aj (σ.set o x) o = x:=by
 rw [jR h,if_pos rfl]
theorem aH {σ : Store} {o p : Nat} {x : Option Obj} (h : o ≠ p) : aj (σ.set p x) o = aj σ o:=by
 unfold aj
 rw [List.getElem?_set,if_neg (fun e=>h e.symm)]
theorem aeh (σ : Store) (k : Store → Prop) : MJ σ k = k σ:=nr rfl
theorem EU : (∀ (σ : Store) (k : Store → Prop),MJ σ k = k σ) ∧ (∀ (σ : Store) (a : Option Obj),aj (σ ++ [a]) σ.length = a) ∧ (∀ (σ : Store) (o : Nat),aj (σ ++ [none]) o = aj σ o) ∧
  (∀ {σ : Store} {a : Option Obj} {o : Nat},o < σ.length → aj (σ ++ [a]) o = aj σ o) ∧ (∀ (σ : Store) (a b : Option Obj),(σ ++ [a]).set σ.length b = σ ++ [b]) ∧
  (∀ {σ : Store} {a b : Option Obj} {o : Nat},o < σ.length → (σ ++ [a]).set o b = σ.set o b ++ [a]) ∧ (∀ {σ : Store} {o : Nat} {x : Option Obj},o < σ.length → aj (σ.set o x) o = x) ∧
  (∀ {σ : Store} {o p : Nat} {x : Option Obj},o ≠ p → aj (σ.set p x) o = aj σ o) ∧ (∀ (σ : Store) (a : Option Obj),(σ ++ [a]).length = σ.length + 1) ∧ (∀ (σ : Store) (o : Nat) (x : Option Obj),(σ.set o x).length = σ.length) :=
 ⟨aeh,nD,UY,fun h=>aO h,Xm,fun h=>Xn h,fun h=>aX h,fun h=>aH h,fun σ a=>by simp,fun σ o x=>by simp⟩
structure Got (σ σ2 : Store) (r t : V) (os : List Nat) : Prop where
 ow : bD σ2 r t os
 nd : os.Nodup
 fresh : ∀ o ∈ os,σ.length ≤ o
 old : ∀ o,o < σ.length → aj σ2 o = aj σ o
 len : σ.length ≤ σ2.length
theorem fJ {T : Tb} {f : Nat} {as : List Src} {dst : Option Nat} {env : Nat → V} {σ : Store} {kp bs : Nat} {rs ms : List Nat} {k : St → Prop} {as' : List V} {t : V} (h : PO T f as' t)
  (ha : EC env σ as (· = as')) (hk : ∀ r σ2 os,Got σ σ2 r t os → k ⟨dV env dst r,σ2,kp,bs,rs,ms⟩) : Jz T f as dst ⟨env,σ,kp,bs,rs,ms⟩ k :=
 aef h ha fun r σ2 os h1 h2 h3 h4 h5=>hk r σ2 os ⟨h1,h2,h3,h4,h5⟩
theorem KU {T : Tb} {f : Nat} {as : List Src} {dst : Option Nat} {env : Nat → V} {σ : Store} {kp bs : Nat} {rs ms : List Nat} {k : List Nat → List Nat → Bool → St → Prop} {as' : List V} {t : V} (h : PO T f as' t)
  (ha : EC env σ as (· = as')) (hk : ∀ r σ2 os,Got σ σ2 r t os → k (dh env σ as) [] true ⟨dV env dst r,σ2,kp,bs,rs,ms⟩) : YE T f as dst ⟨env,σ,kp,bs,rs,ms⟩ k:=by
 obtain ⟨r,σ',os,h1,h2,h3,h4⟩:=h
 obtain ⟨vs,e,rfl⟩:=qE ha
 refine .inl ⟨_,r,σ',e,h1,by simp [h2.dH,h4],?_⟩
 have key : ∀ o,aj (ru σ σ') (σ.length + o) = (aj σ' o).map (iH (bT σ.length)):=by
  intro o
  rw [iM,if_neg (by omega)]
  congr 2;omega
 refine hk _ _ (os.map (σ.length + ·)) ⟨h2.shift key,?_,?_,?_,?_⟩
 ·exact List.pairwise_map.2 (h3.imp fun hne e=>hne (by omega))
 ·intro o ho
  obtain ⟨q,_,rfl⟩:=List.mem_map.1 ho
  omega
 ·intro o ho
  rw [iM,if_pos ho]
 ·simp [ru]
theorem Qz.got {σ σ2 : Store} {vs ts : List V} {r t : V} {os : List Nat} (h : Qz σ vs ts) (g : Got σ σ2 r t os) : Qz σ2 (vs ++ [r]) (ts ++ [t]):=h.push g.ow g.nd g.fresh g.old
theorem BD {σ : Store} {q : IntKind} {n : Int} {vs ts : List V} {os : List Nat} (h : dY σ vs ts os) : dY σ (.int q n :: vs) (.int q n :: ts) os:=by
 simp only [dY];exact ⟨_,vs,[],os,rfl,rfl,by simp [bD],h⟩
theorem jG {σ : Store} {b : Bool} {vs ts : List V} {os : List Nat} (h : dY σ vs ts os) : dY σ (.bool b :: vs) (.bool b :: ts) os:=by
 simp only [dY];exact ⟨_,vs,[],os,rfl,rfl,by simp [bD],h⟩
theorem jh {σ : Store} {v t : V} {vs ts : List V} {o1 o2 : List Nat} (h1 : bD σ v t o1) (h : dY σ vs ts o2) : dY σ (v :: vs) (t :: ts) (o1 ++ o2):=by
 simp only [dY];exact ⟨v,vs,o1,o2,rfl,rfl,h1,h⟩
theorem iq {σ : Store} : dY σ [] [] []:=by simp [dY]
theorem fD {σ : Store} {cs ts : List V} {os : List Nat} (h : dY σ cs ts os) : bD σ (.agg cs) (.agg ts) os:=by simp only [bD];exact ⟨cs,rfl,h⟩
theorem OL {σ : Store} {cs ts : List V} {os : List Nat} (h : dY σ cs ts os) : bD σ (.eF cs) (.eF ts) os:=by simp only [bD];exact ⟨cs,rfl,h⟩
theorem Ik {σ : Store} {o : Nat} {l : List Int} (h : aj σ o = some ⟨1,aN l⟩) : bD σ (.bC o 0 l.length) (ints l) [o]:=by
 simp only [bD]
 refine .inr ⟨o,aN l,[],by rw [Ak],h,rfl,?_⟩
 have : ∀ (l : List Int),kG σ (aN l) (aN l) []:=by
  intro l
  induction l with
  | nil=>simp [aN,kG]
  | cons x l ih=>simp only [Qg,kG];exact ⟨_,_,[],[],rfl,rfl,BD iq,ih⟩
 exact this _
theorem eX {σ : Store} : bD σ (.sl 1 []) (ints []) []:=by simp [bD,aN]
theorem bD.wH {σ : Store} {v : V} {l : List Int} {os : List Nat} (h : bD σ v (ints l) os) : (l = [] ∧ v = .sl 1 [] ∧ os = []) ∨ ∃ o,v = .bC o 0 l.length ∧ aj σ o = some ⟨1,aN l⟩ ∧ os = [o]:=by
 simp only [bD] at h
 rcases h with ⟨h1,h2,h3⟩ | ⟨o,rows',os',h1,h2,h3,h4⟩
 ·left;exact ⟨by simpa [aN] using h1,h2,h3⟩
 ·right
  have key : ∀ (l : List Int) (rows' : List (List V)) (os' : List Nat),kG σ rows' (aN l) os' → rows' = aN l ∧ os' = []:=by
   intro l
   induction l with
   | nil=>intro rows' os' h;simp only [abG,kG] at h;exact h
   |
    cons x l ih =>
    intro rows' os' h
    simp only [Qg,kG] at h
    obtain ⟨v,vs',o1,o2,rfl,rfl,h1,h2⟩:=h
    obtain ⟨rfl,rfl⟩:=ih _ _ h2
    simp only [dY,bD] at h1
    obtain ⟨v1,vs1,a1,a2,rfl,rfl,⟨rfl,rfl⟩,rfl,rfl⟩:=h1
    exact ⟨rfl,rfl⟩
  obtain ⟨rfl,rfl⟩:=key l rows' os' h4
  exact ⟨o,by rw [h1,Ak],h2,h3⟩
structure Fr (os : List Nat) (σ σ' : Store) : Prop where
 old : ∀ o,o < σ.length → o ∉ os → aj σ' o = aj σ o
 len : σ.length ≤ σ'.length
theorem Fr.refl (os : List Nat) (σ : Store) : Fr os σ σ:=⟨fun _ _ _=>rfl,Nat.le_refl _⟩
theorem Fr.trans {os : List Nat} {a b c : Store} (h : Fr os a b) (k : Fr os b c) : Fr os a c:=⟨fun o hl ho=>(k.old o (Nat.lt_of_lt_of_le hl h.len) ho).trans (h.old o hl ho),Nat.le_trans h.len k.len⟩
theorem Fr.mono {os os' : List Nat} {a b : Store} (h : Fr os a b) (hs : ∀ o ∈ os,o ∈ os') : Fr os' a b:=⟨fun o hl ho=>h.old o hl fun k=>ho (hs o k),h.len⟩
theorem JV {os : List Nat} {σ : Store} {o : Nat} {x : Option Obj} (h : o ∈ os) : Fr os σ (σ.set o x):=⟨fun p _ hp=>aH fun e=>hp (e ▸ h),by simp⟩
theorem UZ {os : List Nat} {σ : Store} {x : Option Obj} : Fr os σ (σ ++ [x]):=⟨fun p hl _=>aO hl,by simp⟩
theorem mk_iff {T : Tb} {f : Nat} {t t' : V} {k k' : Int} (h : ∀ σ v os,bD σ v t os → os.Nodup → ∃ σ',Run T (.fn f [v,.int .i64 k] σ) (.fn (.int .i64 k') σ') ∧ bD σ' v t' os ∧ Fr os σ σ') : Mk T f t k t' k':=by
 intro σ v os h1 h2
 obtain ⟨σ',a,b,c⟩:=h σ v os h1 h2
 exact ⟨σ',a,b,c.old,c.len⟩
def Fin (σ : Store) (r t : V) : Prop:=∃ r' os,bQ r' r ∧ bD σ r' t os ∧ os.Nodup
theorem rF {σ : Store} {r t : V} {os : List Nat} (h : bD σ r t os) (hn : os.Nodup) : Fin σ r t:=⟨r,os,aC _,h,hn⟩
theorem U0 {σ : Store} {sz : Nat} : Fin σ .ak (.sl sz []):=⟨.sl sz [],[],by simp [bQ],by simp [bD],.nil⟩
theorem QA {σ : Store} {o : Nat} {l : List Int} (h : aj σ o = some ⟨1,aN l⟩) : Fin σ (.bC o 0 l.length) (ints l):=rF (Ik h) (by simp)
theorem abO {σ : Store} {l : List Int} (h : aN l = []) : Fin σ .ak (ints l):=by
 have : l = []:=FV.1 h
 subst this;exact U0
theorem dX {T : Tb} {f : Nat} {F : Fn} {args : List V} {t : V} (rf : Nat → Nat → Bool) (hT : T f = some F)
  (h : wp T rf F.body (fun e st=>endW F.res e (fun r σ=>Fin σ r t) st) (St.enter args [])) (hl : args.length = F.nargs:=by rfl) (hk : F.body.VJ = true:=by rfl) : PO T f args t:=by
 obtain ⟨r,σ',h1,r',os,h2,h3,h4⟩:=run_end rf hT h hl hk
 exact .of (.Yq (qF _) h1 h2) h3 h4
theorem KW {v : V} (h : v.leaf = true) (k : List V → Prop) : iZ v k = k [v]:=by
 cases v <;> first | rfl | (simp [V.leaf] at h)
theorem Got.lf {σ σ2 : Store} {r t : V} {os : List Nat} (g : Got σ σ2 r t os) (h : t.leaf = true) (k : List V → Prop) : iZ r k = k [r]:=KW (g.ow.leaf h) k
theorem Got.at {σ σ2 : Store} {r t : V} {os : List Nat} (g : Got σ σ2 r t os) (o : Nat) {x : Option Obj} (h : o < σ.length) (hx : aj σ o = x) : aj σ2 o = x:=(g.old o h).trans hx
theorem EVl : V.leaf .one = true ∧ (∀ k n,V.leaf (.int k n) = true) ∧ (∀ b,V.leaf (.bool b) = true) ∧ (∀ b,V.leaf (.str b) = true) ∧ V.leaf .ak = true ∧ (∀ a b,V.leaf (.sl a b) = true) ∧ (∀ a b c,V.leaf (.bC a b c) = true) ∧
  (∀ a b c,V.leaf (.ptr a b c) = true) ∧ (∀ a b,V.leaf (.fB a b) = true) ∧ (∀ a,V.leaf (.agg a) = false) ∧ (∀ a,V.leaf (.eF a) = false) ∧ V.leaf .any = false :=
 ⟨rfl,fun _ _=>rfl,fun _=>rfl,fun _=>rfl,rfl,fun _ _=>rfl,fun _ _ _=>rfl,fun _ _ _=>rfl,fun _ _=>rfl,fun _=>rfl,fun _=>rfl,rfl⟩
theorem Got.lfb {σ σ2 : Store} {r t : V} {os : List Nat} (g : Got σ σ2 r t os) (h : t.leaf = true) : r.leaf = true:=g.ow.leaf h
theorem bD.bP {σ : Store} {r : V} {ts : List V} {os : List Nat} (h : bD σ r (.agg ts) os) : ∃ cs,r = .agg cs ∧ dY σ cs ts os:=by simpa only [bD] using h
theorem bD.aao {σ : Store} {r : V} {ts : List V} {os : List Nat} (h : bD σ r (.eF ts) os) : ∃ cs,r = .eF cs ∧ dY σ cs ts os:=by simpa only [bD] using h
theorem dY.U1 {σ : Store} {vs ts : List V} {q : IntKind} {n : Int} {os : List Nat} (h : dY σ vs (.int q n :: ts) os) : ∃ vs',vs = .int q n :: vs' ∧ dY σ vs' ts os:=by
 simp only [dY,bD] at h
 obtain ⟨v,vs',o1,o2,rfl,rfl,⟨rfl,rfl⟩,h⟩:=h
 exact ⟨vs',rfl,h⟩
theorem dY.sJ {σ : Store} {vs ts : List V} {b : Bool} {os : List Nat} (h : dY σ vs (.bool b :: ts) os) : ∃ vs',vs = .bool b :: vs' ∧ dY σ vs' ts os:=by
 simp only [dY,bD] at h
 obtain ⟨v,vs',o1,o2,rfl,rfl,⟨rfl,rfl⟩,h⟩:=h
 exact ⟨vs',rfl,h⟩
theorem dY.inv {σ : Store} {vs ts : List V} {t : V} {os : List Nat} (h : dY σ vs (t :: ts) os) : ∃ v vs' o1 o2,vs = v :: vs' ∧ os = o1 ++ o2 ∧ bD σ v t o1 ∧ dY σ vs' ts o2:=by
 simpa only [dY] using h
theorem dY.DJ {σ : Store} {vs : List V} {os : List Nat} (h : dY σ vs [] os) : vs = [] ∧ os = []:=by simpa only [dY] using h
theorem dY.leaf : ∀ {σ : Store} {ts vs : List V} {os : List Nat},dY σ vs ts os → ts.all V.leaf = true → vs.all V.leaf = true
 | _,[],vs,os,h,_=>by obtain ⟨rfl,_⟩:=h.DJ;rfl
 |
  σ,t :: ts,vs,os,h,hl=>by
  obtain ⟨v,vs',o1,o2,rfl,rfl,h1,h2⟩:=h.inv
  simp only [List.all_cons,Bool.and_eq_true] at hl ⊢
  exact ⟨h1.leaf hl.1,h2.leaf hl.2⟩
theorem iC {cs : List V} (h : cs.all V.leaf = true) (k : List V → Prop) : iZ (.agg cs) k = k cs:=by
 unfold iZ
 simp only [V.cells?]
 rw [if_pos h];rfl
theorem bD.aei {σ : Store} {v : V} {n : Bool} {l : List Int} {os : List Nat} (h : bD σ v (.agg [.bool n,ints l]) os) : ∃ v1,v = .agg [.bool n,v1] ∧ bD σ v1 (ints l) os:=by
 obtain ⟨cs,rfl,a⟩:=h.bP
 obtain ⟨cs,rfl,b⟩:=a.sJ
 obtain ⟨v1,cs,o1,o2,rfl,rfl,c,d⟩:=b.inv
 obtain ⟨rfl,rfl⟩:=d.DJ
 exact ⟨v1,rfl,by simpa using c⟩
theorem bD.BF {σ : Store} {v : V} {n : Bool} {l m : List Int} {os : List Nat} (h : bD σ v (.agg [.bool n,ints l,ints m]) os) :
  ∃ v1 v2 o1 o2,v = .agg [.bool n,v1,v2] ∧ os = o1 ++ o2 ∧ bD σ v1 (ints l) o1 ∧ bD σ v2 (ints m) o2:=by
 obtain ⟨cs,rfl,a⟩:=h.bP
 obtain ⟨cs,rfl,b⟩:=a.sJ
 obtain ⟨v1,cs,o1,o2,rfl,rfl,c,d⟩:=b.inv
 obtain ⟨v2,cs,o3,o4,rfl,rfl,e,f⟩:=d.inv
 obtain ⟨rfl,rfl⟩:=f.DJ
 exact ⟨v1,v2,o1,o3,rfl,by simp,c,e⟩
structure Ow (n : Nat) (σ : Store) (vs ts : List V) : Prop where
 ex : ∃ os,dY σ vs ts os ∧ os.Nodup ∧ ∀ o ∈ os,n ≤ o
theorem Ze {n : Nat} {σ : Store} : Ow n σ [] []:=⟨[],iq,.nil,by simp⟩
theorem Ow.set {n : Nat} {σ : Store} {vs ts : List V} (h : Ow n σ vs ts) {o : Nat} {x : Option Obj} (ho : o < n) : Ow n (σ.set o x) vs ts:=by
 obtain ⟨os,a,b,c⟩:=h.ex
 exact ⟨os,a.frame fun q hq=>aH (by have:=c q hq;omega),b,c⟩
theorem Ow.snoc {n : Nat} {σ : Store} {vs ts : List V} (h : Ow n σ vs ts) {x : Option Obj} : Ow n (σ ++ [x]) vs ts:=by
 obtain ⟨os,a,b,c⟩:=h.ex
 exact ⟨os,a.frame fun q hq=>aO (a.lt q hq),b,c⟩
theorem Ow.got {n : Nat} {σ σ2 : Store} {vs ts : List V} {r t : V} {os : List Nat} (h : Ow n σ vs ts) (g : Got σ σ2 r t os) (hn : n ≤ σ.length) : Ow n σ2 (vs ++ [r]) (ts ++ [t]):=by
 obtain ⟨os0,a,b,c⟩:=h.ex
 refine ⟨os0 ++ os,dB (a.frame fun o ho=>g.old o (a.lt o ho)) ?_,?_,fun o ho=>?_⟩
 ·simpa using jh g.ow iq
 ·rw [List.nodup_append]
  refine ⟨b,g.nd,fun x hx y hy e=>?_⟩
  have:=a.lt x hx
  have:=g.fresh y hy
  omega
 ·rcases List.mem_append.1 ho with ho | ho
  ·exact c o ho
  ·have:=g.fresh o ho;omega
theorem Ow.int {n : Nat} {σ : Store} {vs ts : List V} (h : Ow n σ vs ts) (q : IntKind) (k : Int) : Ow n σ (vs ++ [.int q k]) (ts ++ [.int q k]):=by
 obtain ⟨os0,a,b,c⟩:=h.ex
 exact ⟨os0,by simpa using dB a (BD (q:=q) (n:=k) iq),b,c⟩
theorem Ow.bool {n : Nat} {σ : Store} {vs ts : List V} (h : Ow n σ vs ts) (k : Bool) : Ow n σ (vs ++ [.bool k]) (ts ++ [.bool k]):=by
 obtain ⟨os0,a,b,c⟩:=h.ex
 exact ⟨os0,by simpa using dB a (jG (b:=k) iq),b,c⟩
theorem gu : ∀ {σ : Store} {ts ts' vs : List V} {os : List Nat},dY σ vs (ts ++ ts') os → ∃ v1 v2 o1 o2,vs = v1 ++ v2 ∧ os = o1 ++ o2 ∧ dY σ v1 ts o1 ∧ dY σ v2 ts' o2
 | σ,[],ts',vs,os,h=>⟨[],vs,[],os,rfl,rfl,iq,h⟩
 |
  σ,t :: ts,ts',vs,os,h=>by
  obtain ⟨v,vs',o1,o2,rfl,rfl,h1,h2⟩:=dY.inv h
  obtain ⟨a,b,c,d,rfl,rfl,h3,h4⟩:=gu h2
  exact ⟨v :: a,b,o1 ++ c,d,rfl,by simp,jh h1 h3,h4⟩
theorem Ow.flat {n : Nat} {σ : Store} {vs ts cs tcs : List V} (h : Ow n σ (vs ++ [.agg cs]) (ts ++ [.agg tcs])) (hl : vs.length = ts.length) : Ow n σ (vs ++ cs) (ts ++ tcs):=by
 obtain ⟨os0,a,b,c⟩:=h.ex
 obtain ⟨v1,v2,o1,o2,e,rfl,h1,h2⟩:=gu a
 have hl1:=h1.len
 obtain ⟨rfl,rfl⟩:=List.append_inj e (by omega)
 obtain ⟨v,vs',o3,o4,e2,rfl,h3,h4⟩:=h2.inv
 simp only [List.cons.injEq] at e2
 obtain ⟨rfl,rfl⟩:=e2
 obtain ⟨_,rfl⟩:=h4.DJ
 obtain ⟨cs',e3,h5⟩:=h3.bP
 cases e3
 exact ⟨o1 ++ o3,dB h1 h5,by simpa using b,fun o ho=>c o (by simpa using ho)⟩
theorem Ow.fin {n : Nat} {σ : Store} {vs ts : List V} (h : Ow n σ vs ts) : Fin σ (.agg vs) (.agg ts):=by
 obtain ⟨os0,a,b,c⟩:=h.ex
 exact rF (fD a) b
theorem CG : ∀ {σ : Store} {ts vs ts' vs' : List (List V)} {os os' : List Nat},kG σ vs ts os → kG σ vs' ts' os' → kG σ (vs ++ vs') (ts ++ ts') (os ++ os')
 | σ,[],vs,ts',vs',os,os',h,h'=>by simp only [kG] at h;obtain ⟨rfl,rfl⟩:=h;simpa using h'
 |
  σ,t :: ts,vs,ts',vs',os,os',h,h'=>by
  simp only [kG] at h
  obtain ⟨v,vs1,o1,o2,rfl,rfl,h1,h2⟩:=h
  simp only [List.cons_append,kG]
  exact ⟨v,vs1 ++ vs',o1,o2 ++ os',rfl,by simp,h1,CG h2 h'⟩
theorem aaq {σ : Store} {v t : List V} {os : List Nat} (h : dY σ v t os) : kG σ [v] [t] os:=by
 simp only [kG];exact ⟨v,[],os,[],rfl,by simp,h,rfl,rfl⟩
structure RQ (n : Nat) (σ : Store) (vs ts : List (List V)) : Prop where
 ex : ∃ os,kG σ vs ts os ∧ os.Nodup ∧ ∀ o ∈ os,n ≤ o
theorem aej {n : Nat} {σ : Store} : RQ n σ [] []:=⟨[],by simp [kG],.nil,by simp⟩
theorem RQ.set {n : Nat} {σ : Store} {vs ts : List (List V)} (h : RQ n σ vs ts) {o : Nat} {x : Option Obj} (ho : o < n) : RQ n (σ.set o x) vs ts:=by
 obtain ⟨os,a,b,c⟩:=h.ex
 exact ⟨os,a.frame fun q hq=>aH (by have:=c q hq;omega),b,c⟩
theorem RQ.got {n : Nat} {σ σ2 : Store} {vs ts : List (List V)} {cs tcs : List V} {os : List Nat} (h : RQ n σ vs ts) (g : Got σ σ2 (.agg cs) (.agg tcs) os) (hn : n ≤ σ.length) : RQ n σ2 (vs ++ [cs]) (ts ++ [tcs]):=by
 obtain ⟨os0,a,b,c⟩:=h.ex
 obtain ⟨cs',e,h5⟩:=g.ow.bP
 cases e
 refine ⟨os0 ++ os,CG (a.frame fun o ho=>g.old o (a.lt o ho)) (aaq h5),?_,fun o ho=>?_⟩
 ·rw [List.nodup_append]
  refine ⟨b,g.nd,fun x hx y hy e=>?_⟩
  have:=a.lt x hx
  have:=g.fresh y hy
  omega
 ·rcases List.mem_append.1 ho with ho | ho
  ·exact c o ho
  ·have:=g.fresh o ho;omega
theorem RQ.fin {n o sz : Nat} {σ : Store} {vs ts : List (List V)} (h : RQ n σ vs ts) (ho : aj σ o = some ⟨sz,vs⟩) (hn : o < n) : Fin σ (.bC o 0 ts.length) (.sl sz ts):=by
 obtain ⟨os0,a,b,c⟩:=h.ex
 refine rF (os:=o :: os0) ?_ (List.nodup_cons.2 ⟨fun k=>by have:=c o k;omega,b⟩)
 simp only [bD]
 exact .inr ⟨o,vs,os0,rfl,ho,rfl,a⟩
theorem ew {P Q : Prop} (h : Q) (e : P = Q:=by conv=>lhs;simp (maxSteps:=1000000) (disch:=first | omega | assumption | (simp;done) | (simp;omega)) only [↓WJ,↓EVw,EU,EVl,WL,splice,Nat.reduceAdd,Nat.reduceEqDiff,Nat.reduceMul,Nat.reduceLT,Nat.reduceLeDiff,Nat.reduceBEq,reduceIte,EF,FM,H8,Bool.true_and,Bool.false_and,Bool.or_false,Bool.false_or,Bool.true_or,reduceCtorEq]) : P:=Eq.mpr (e) h
theorem CJ {P Q A1 : Prop} (x1 : A1) (h : Q) (e : A1 → P = Q:=by intro x1;conv=>lhs;simp (maxSteps:=1000000) (disch:=first | omega | assumption | (simp;done) | (simp;omega)) only [↓WJ,↓EVw,EU,EVl,WL,splice,Nat.reduceAdd,Nat.reduceEqDiff,Nat.reduceMul,Nat.reduceLT,Nat.reduceLeDiff,Nat.reduceBEq,reduceIte,EF,FM,H8,Bool.true_and,Bool.false_and,Bool.or_false,Bool.false_or,Bool.true_or,reduceCtorEq,x1]) : P:=Eq.mpr (e x1) h
theorem sK {P Q A1 A2 : Prop} (x1 : A1) (x2 : A2) (h : Q) (e : A1 → A2 → P = Q:=by intro x1 x2;conv=>lhs;simp (maxSteps:=1000000) (disch:=first | omega | assumption | (simp;done) | (simp;omega)) only [↓WJ,↓EVw,EU,EVl,WL,splice,Nat.reduceAdd,Nat.reduceEqDiff,Nat.reduceMul,Nat.reduceLT,Nat.reduceLeDiff,Nat.reduceBEq,reduceIte,EF,FM,H8,Bool.true_and,Bool.false_and,Bool.or_false,Bool.false_or,Bool.true_or,reduceCtorEq,x1,x2]) : P:=Eq.mpr (e x1 x2) h
theorem CO {P Q A1 A2 A3 : Prop} (x1 : A1) (x2 : A2) (x3 : A3) (h : Q) (e : A1 → A2 → A3 → P = Q:=by intro x1 x2 x3;conv=>lhs;simp (maxSteps:=1000000) (disch:=first | omega | assumption | (simp;done) | (simp;omega)) only [↓WJ,↓EVw,EU,EVl,WL,splice,Nat.reduceAdd,Nat.reduceEqDiff,Nat.reduceMul,Nat.reduceLT,Nat.reduceLeDiff,Nat.reduceBEq,reduceIte,EF,FM,H8,Bool.true_and,Bool.false_and,Bool.or_false,Bool.false_or,Bool.true_or,reduceCtorEq,x1,x2,x3]) : P:=Eq.mpr (e x1 x2 x3) h
theorem yF {P Q A1 A2 A3 A4 : Prop} (x1 : A1) (x2 : A2) (x3 : A3) (x4 : A4) (h : Q) (e : A1 → A2 → A3 → A4 → P = Q:=by intro x1 x2 x3 x4;conv=>lhs;simp (maxSteps:=1000000) (disch:=first | omega | assumption | (simp;done) | (simp;omega)) only [↓WJ,↓EVw,EU,EVl,WL,splice,Nat.reduceAdd,Nat.reduceEqDiff,Nat.reduceMul,Nat.reduceLT,Nat.reduceLeDiff,Nat.reduceBEq,reduceIte,EF,FM,H8,Bool.true_and,Bool.false_and,Bool.or_false,Bool.false_or,Bool.true_or,reduceCtorEq,x1,x2,x3,x4]) : P:=Eq.mpr (e x1 x2 x3 x4) h
theorem vJ {P Q A1 A2 A3 A4 A5 : Prop} (x1 : A1) (x2 : A2) (x3 : A3) (x4 : A4) (x5 : A5) (h : Q) (e : A1 → A2 → A3 → A4 → A5 → P = Q:=by intro x1 x2 x3 x4 x5;conv=>lhs;simp (maxSteps:=1000000) (disch:=first | omega | assumption | (simp;done) | (simp;omega)) only [↓WJ,↓EVw,EU,EVl,WL,splice,Nat.reduceAdd,Nat.reduceEqDiff,Nat.reduceMul,Nat.reduceLT,Nat.reduceLeDiff,Nat.reduceBEq,reduceIte,EF,FM,H8,Bool.true_and,Bool.false_and,Bool.or_false,Bool.false_or,Bool.true_or,reduceCtorEq,x1,x2,x3,x4,x5]) : P:=Eq.mpr (e x1 x2 x3 x4 x5) h
theorem xQ {P Q A1 A2 A3 A4 A5 A6 : Prop} (x1 : A1) (x2 : A2) (x3 : A3) (x4 : A4) (x5 : A5) (x6 : A6) (h : Q) (e : A1 → A2 → A3 → A4 → A5 → A6 → P = Q:=by intro x1 x2 x3 x4 x5 x6;conv=>lhs;simp (maxSteps:=1000000) (disch:=first | omega | assumption | (simp;done) | (simp;omega)) only [↓WJ,↓EVw,EU,EVl,WL,splice,Nat.reduceAdd,Nat.reduceEqDiff,Nat.reduceMul,Nat.reduceLT,Nat.reduceLeDiff,Nat.reduceBEq,reduceIte,EF,FM,H8,Bool.true_and,Bool.false_and,Bool.or_false,Bool.false_or,Bool.true_or,reduceCtorEq,x1,x2,x3,x4,x5,x6]) : P:=Eq.mpr (e x1 x2 x3 x4 x5 x6) h
theorem ew7 {P Q A1 A2 A3 A4 A5 A6 A7 : Prop} (x1 : A1) (x2 : A2) (x3 : A3) (x4 : A4) (x5 : A5) (x6 : A6) (x7 : A7) (h : Q) (e : A1 → A2 → A3 → A4 → A5 → A6 → A7 → P = Q:=by intro x1 x2 x3 x4 x5 x6 x7;conv=>lhs;simp (maxSteps:=1000000) (disch:=first | omega | assumption | (simp;done) | (simp;omega)) only [↓WJ,↓EVw,EU,EVl,WL,splice,Nat.reduceAdd,Nat.reduceEqDiff,Nat.reduceMul,Nat.reduceLT,Nat.reduceLeDiff,Nat.reduceBEq,reduceIte,EF,FM,H8,Bool.true_and,Bool.false_and,Bool.or_false,Bool.false_or,Bool.true_or,reduceCtorEq,x1,x2,x3,x4,x5,x6,x7]) : P:=Eq.mpr (e x1 x2 x3 x4 x5 x6 x7) h
theorem ew8 {P Q A1 A2 A3 A4 A5 A6 A7 A8 : Prop} (x1 : A1) (x2 : A2) (x3 : A3) (x4 : A4) (x5 : A5) (x6 : A6) (x7 : A7) (x8 : A8) (h : Q) (e : A1 → A2 → A3 → A4 → A5 → A6 → A7 → A8 → P = Q:=by intro x1 x2 x3 x4 x5 x6 x7 x8;conv=>lhs;simp (maxSteps:=1000000) (disch:=first | omega | assumption | (simp;done) | (simp;omega)) only [↓WJ,↓EVw,EU,EVl,WL,splice,Nat.reduceAdd,Nat.reduceEqDiff,Nat.reduceMul,Nat.reduceLT,Nat.reduceLeDiff,Nat.reduceBEq,reduceIte,EF,FM,H8,Bool.true_and,Bool.false_and,Bool.or_false,Bool.false_or,Bool.true_or,reduceCtorEq,x1,x2,x3,x4,x5,x6,x7,x8]) : P:=Eq.mpr (e x1 x2 x3 x4 x5 x6 x7 x8) h
end Go.Ml
end
namespace Go.Ml
theorem wI {l : List V} {env : Nat → V} (h : EG l 0 env:=by (try (refine ew ?_;try with_reducible exact True.intro)) <;> (repeat' (first | refine ⟨?_,?_⟩ | exact kE (by omega) | exact mV (by simp) | exact kF _))) : EG l 0 env:=h
end Go.Ml
namespace Go.Ml
theorem xO {a b : Option Obj} (h : a = b:=by simp (disch:=first | omega | (simp only [List.length_append,List.length_set,List.length_cons,List.length_nil];omega)) only [EU]) : a = b:=h
end Go.Ml
section
namespace Go.Ml
theorem Mk.go {T : Tb} {f : Nat} {t t' : V} {k k' : Int} (h : Mk T f t k t' k') {σ : Store} {v : V} {os : List Nat} (ho : bD σ v t os) (hn : os.Nodup) :
  ∃ σ',Run T (.fn f [v,.int .i64 k] σ) (.fn (.int .i64 k') σ') ∧ bD σ' v t' os ∧ Fr os σ σ':=by
 obtain ⟨σ',a,b,c,d⟩:=h σ v os ho hn
 exact ⟨σ',a,b,⟨c,d⟩⟩
def V.Ym : V → Bool
 | .int _ _=>true
 | .bool _=>true
 | _=>false
theorem ahs {σ : Store} {x : V} (h : x.Ym = true) : bD σ x x []:=by cases x <;> simp_all [V.Ym,bD]
theorem bD.aht {σ : Store} {v x : V} {os : List Nat} (h : bD σ v x os) (hx : x.Ym = true) : v = x ∧ os = []:=by
 cases x <;> simp_all [V.Ym,bD]
structure Cs (σ : Store) (cs ts : List V) (os : List Nat) : Prop where
 ow : dY σ cs ts os
 nd : os.Nodup
theorem akB {α : Type} {l : List α} {i : Nat} {x : α} (h : l[i]? = some x) : l.set i x = l:=by
 apply List.ext_getElem?
 intro n
 rw [List.getElem?_set]
 split
 ·subst_vars
  split
  ·exact h.symm
  ·rename_i hlt;rw [List.getElem?_eq_none (by omega)]
 ·rfl
section
variable {σ σ' : Store} {cs ts : List V} {os : List Nat}
theorem Cs.lt (h : Cs σ cs ts os) : ∀ q ∈ os,q < σ.length:=h.ow.lt
theorem Cs.frame (h : Cs σ cs ts os) (f : ∀ q ∈ os,aj σ' q = aj σ q) : Cs σ' cs ts os:=⟨h.ow.frame f,h.nd⟩
theorem Cs.fr {os' : List Nat} (h : Cs σ cs ts os) (f : Fr os' σ σ') (hd : ∀ q ∈ os,q ∉ os') : Cs σ' cs ts os:=h.frame fun q hq=>f.old q (h.lt q hq) (hd q hq)
theorem Cs.snoc (h : Cs σ cs ts os) {x : Option Obj} : Cs (σ ++ [x]) cs ts os:=h.frame fun q hq=>aO (h.lt q hq)
theorem Cs.set (h : Cs σ cs ts os) {o : Nat} {x : Option Obj} (ho : o ∉ os) : Cs (σ.set o x) cs ts os:=h.frame fun q hq=>aH fun e=>ho (e ▸ hq)
theorem Cs.Ym (h : Cs σ cs ts os) (c : Nat) (x : V) {t : V} (ht : ts[c]? = some t) (hs : t.Ym = true:=by rfl) (hx : x.Ym = true:=by rfl) : Cs σ (cs.set c x) (ts.set c x) os:=by
 obtain ⟨vc,oc,j1,j2,j3,j4,j5⟩:=h.ow.focus c t h.nd ht
 obtain ⟨rfl,rfl⟩:=j2.aht hs
 exact ⟨j5 σ x x (ahs hx) fun _ _ _=>rfl,h.nd⟩
theorem Cs.call {T : Tb} {f : Nat} {t t' v : V} {k k' : Int} (h : Cs σ cs ts os) (c : Nat) (hm : Mk T f t k t' k') (hv : cs[c]? = some v) (ht : ts[c]? = some t) :
  ∃ σ',Run T (.fn f [v,.int .i64 k] σ) (.fn (.int .i64 k') σ') ∧ Cs σ' cs (ts.set c t') os ∧ Fr os σ σ':=by
 obtain ⟨vc,oc,j1,j2,j3,j4,j5⟩:=h.ow.focus c t h.nd ht
 rw [hv] at j1
 cases j1
 obtain ⟨σ',m1,m2,m3⟩:=hm.go j2 j3
 refine ⟨σ',m1,⟨?_,h.nd⟩,m3.mono j4⟩
 have:=j5 σ' v t' m2 fun q hq' hq=>m3.old q (h.lt q hq') hq
 rwa [akB hv] at this
theorem Cs.part {T : Tb} {f : Nat} {t2 t2' : List V} {k k' : Int} (h : Cs σ cs ts os) (n m : Nat) (hm : Mk T f (.agg t2) k (.agg t2') k') (ht : (ts.drop n).take m = t2) (hn : n + m ≤ ts.length) :
  ∃ σ',Run T (.fn f [.agg ((cs.drop n).take m),.int .i64 k] σ) (.fn (.int .i64 k') σ') ∧ Cs σ' cs (ts.take n ++ t2' ++ ts.drop (n + m)) os ∧ Fr os σ σ':=by
 have e : ts = ts.take n ++ (t2 ++ ts.drop (n + m)):=by
  rw [← ht]
  conv=>lhs;rw [← List.take_append_drop n ts,← List.take_append_drop m (ts.drop n),List.drop_drop]
 have lt2 : t2.length = m:=by rw [← ht];simp;omega
 have h1:=h.ow
 rw [e] at h1
 obtain ⟨c1,c2,o1,o2,rfl,rfl,a1,a2⟩:=gu h1
 have l1:=a1.len
 obtain ⟨c3,c4,o3,o4,rfl,rfl,a3,a4⟩:=gu a2
 have l2:=a3.len
 have nd:=h.nd
 have l1' : c1.length = n:=by rw [l1];simp;omega
 have e2 : ((c1 ++ (c3 ++ c4)).drop n).take m = c3:=by
  rw [← l1',List.drop_left,← lt2,← l2,List.take_left]
 rw [e2]
 simp only [List.nodup_append,List.mem_append] at nd
 obtain ⟨nd1,⟨nd3,nd4,d34⟩,d1⟩:=nd
 obtain ⟨σ',m1,m2,m3⟩:=hm.go (fD a3) nd3
 obtain ⟨cs',e3,m4⟩:=m2.bP
 cases e3
 have lt:=h.lt
 refine ⟨σ',m1,⟨?_,h.nd⟩,m3.mono (by simp +contextual)⟩
 rw [List.append_assoc]
 refine dB (a1.frame fun q hq=>m3.old q (lt q (by simp [hq])) fun hk=>d1 q hq q (.inl hk) rfl) (dB m4 (a4.frame fun q hq=>m3.old q (lt q (by simp [hq])) fun hk=>d34 q hk q hq rfl))
theorem Cs.got {σ2 : Store} {r t : V} {os2 : List Nat} (h : Cs σ cs ts os) (g : Got σ σ2 r t os2) : Cs σ2 (cs ++ [r]) (ts ++ [t]) (os ++ os2):=by
 refine ⟨dB (h.ow.frame fun q hq=>g.old q (h.lt q hq)) (by simpa using jh g.ow iq),?_⟩
 rw [List.nodup_append]
 refine ⟨h.nd,g.nd,fun x hx y hy e=>?_⟩
 have:=h.lt x hx
 have:=g.fresh y hy
 omega
theorem U2 : Cs σ [] [] []:=⟨iq,.nil⟩
theorem Cs.res (h : Cs σ cs ts os) (c : Nat) {v t : V} (hv : cs[c]? = some v) (ht : ts[c]? = some t) (hd : eU FD t) : resolve σ FD v = some t:=by
 obtain ⟨vc,oc,j1,j2,_⟩:=h.ow.focus c t h.nd ht
 rw [hv] at j1
 cases j1
 exact JU FD j2 hd
end
theorem bD.aar {σ : Store} {v : V} {sz : Nat} {rows : List (List V)} {os : List Nat} {i : Nat} {row : List V} (h : bD σ v (.sl sz rows) os) (hn : os.Nodup) (hi : rows[i]? = some row) :
  ∃
   o R cs oc,v = .bC o 0 rows.length ∧ aj σ o = some ⟨sz,R⟩ ∧ R.length = rows.length ∧ R[i]? = some cs ∧ Cs σ cs row oc ∧ (∀ q ∈ oc,q ∈ os) ∧ o ∈ os ∧ o ∉ oc ∧
   (∀ σ' cs' row',Cs σ' cs' row' oc → aj σ' o = some ⟨sz,R.set i cs'⟩ → Fr (o :: oc) σ σ' → bD σ' v (.sl sz (rows.set i row')) os):=by
 simp only [bD] at h
 rcases h with ⟨rfl,_,_⟩ | ⟨o,R,os',rfl,h2,rfl,h3⟩
 ·simp at hi
 rw [List.nodup_cons] at hn
 have hlt:=h3.lt
 obtain ⟨cs,oc,k1,k2,k3,k4,k5⟩:=h3.focus i row hn.2 hi
 refine ⟨o,R,cs,oc,rfl,h2,h3.len,k1,⟨k2,k3⟩,fun q hq=>by simp [k4 q hq],by simp,fun k=>hn.1 (k4 o k),?_⟩
 intro σ' cs' row' hc ho hf
 simp only [bD]
 refine .inr ⟨o,_,os',by simp,ho,rfl,k5 σ' cs' row' hc.ow fun q hq hnq=>hf.old q (hlt q hq) fun hk=>?_⟩
 rcases List.mem_cons.1 hk with rfl | hk
 ·exact hn.1 hq
 ·exact hnq hk
theorem bD.Zf {σ : Store} {v : V} {sz : Nat} {rows : List (List V)} {os : List Nat} (h : bD σ v (.sl sz rows) os) :
  (rows = [] ∧ v = .sl sz [] ∧ os = []) ∨ ∃ o R os',v = .bC o 0 rows.length ∧ aj σ o = some ⟨sz,R⟩ ∧ R.length = rows.length ∧ os = o :: os' ∧ kG σ R rows os':=by
 simp only [bD] at h
 rcases h with ⟨rfl,h1,h2⟩ | ⟨o,R,os',rfl,h2,rfl,h3⟩
 ·exact .inl ⟨rfl,h1,h2⟩
 ·exact .inr ⟨o,R,os',rfl,h2,h3.len,rfl,h3⟩
theorem bD.obj {σ : Store} {o n : Nat} {sz : Nat} {rows : List (List V)} {os : List Nat} (h : bD σ (.bC o 0 n) (.sl sz rows) os) : ∃ R,aj σ o = some ⟨sz,R⟩ ∧ R.length = n:=by
 rcases h.Zf with ⟨_,e,_⟩ | ⟨o,R,os',e,h2,h3,_,_⟩
 ·cases e
 ·cases e;exact ⟨R,h2,h3⟩
theorem U3 {α : Type} [Inhabited α] (f : α → Nat) {l : List α} {i : Nat} (h : i < l.length) : l.length + f (l.getD i default) ≤ Aq f l:=by
 have h1:=JH f h
 have h2:=sumTo_le f l (i + 1)
 unfold Aq
 omega
theorem gQ {T : Tb} {f : Nat} {as : List Src} {dst : Option Nat} {env : Nat → V} {σ σ' : Store} {kp bs : Nat} {rs ms : List Nat} {k : St → Prop} {as' : List V} {r : V}
  (h : Run T (.fn f as' σ) (.fn r σ')) (ha : (as.map fun s=>s.ev env) = as') (hl : σ.length ≤ σ'.length) (hb : σ.length ≤ bs) (hk : k ⟨dV env dst r,σ',kp,bs,rs,ms⟩) : Jz T f as dst ⟨env,σ,kp,bs,rs,ms⟩ k:=by
 subst ha
 exact aeg h hl hb hk
def Il {α : Type} (f : Int → α → α) (c : α → Nat) : Int → List α → List α
 | _,[]=>[]
 | k,x :: l=>f k x :: Il f c (k + c x) l
def uS {α : Type} (c : α → Nat) (l : List α) (i : Nat) : Nat:=((l.take i).map c).sum
theorem TG {α : Type} (c : α → Nat) (l : List α) : uS c l 0 = 0:=by simp [uS]
theorem aas {α : Type} [Inhabited α] (c : α → Nat) (l : List α) {i : Nat} (h : i < l.length) : uS c l (i + 1) = uS c l i + c (l.getD i default):=by
 unfold uS
 have e : l.take (i + 1) = l.take i ++ [l.getD i default]:=by
  rw [List.take_add_one,List.getElem?_eq_getElem h,List.getD_eq_getElem?_getD,List.getElem?_eq_getElem h];rfl
 rw [e,List.map_append,List.sum_append]
 simp
theorem QB {α : Type} (c : α → Nat) (x : α) (l : List α) (i : Nat) : uS c (x :: l) (i + 1) = c x + uS c l i:=by simp [uS]
theorem QC {α : Type} (c : α → Nat) : ∀ (l : List α) {i : Nat},i ≤ l.length → uS c l i ≤ uS c l l.length
 | [],i,h=>by simp at h;subst h;exact Nat.le_refl _
 | x :: l,0,h=>by simp [TG]
 |
  x :: l,i + 1,h=>by
  rw [QB,List.length_cons,QB]
  have:=QC c l (i:=i) (by simpa using h)
  omega
theorem DK {α : Type} (f : Int → α → α) (c : α → Nat) : ∀ (k : Int) (l : List α),(Il f c k l).length = l.length
 | _,[]=>rfl
 | k,x :: l=>by simp [Il,DK f c _ l]
theorem U4 {α : Type} [Inhabited α] (f : Int → α → α) (c : α → Nat) : ∀ (k : Int) (l : List α) (i : Nat),i < l.length → (Il f c k l).getD i default = f (k + uS c l i) (l.getD i default)
 | _,[],i,h=>by simp at h
 | k,x :: l,0,h=>by simp [Il,TG]
 |
  k,x :: l,i + 1,h=>by
  rw [QB,Il,List.getD_cons_succ,List.getD_cons_succ,U4 f c _ l i (by simpa using h)]
  congr 1
  omega
def JW {α : Type} (f : Int → α → α) (c : α → Nat) (k : Int) (l : List α) (i : Nat) : List α:=(Il f c k l).take i ++ l.drop i
theorem aek {α : Type} (f : Int → α → α) (c : α → Nat) (k : Int) (l : List α) : JW f c k l 0 = l:=by simp [JW]
theorem Xo {α : Type} (f : Int → α → α) (c : α → Nat) (k : Int) (l : List α) : JW f c k l l.length = Il f c k l:=by
 unfold JW
 rw [List.drop_length,List.append_nil,List.take_of_length_le (by rw [DK];exact Nat.le_refl _)]
theorem KX {α : Type} (f : Int → α → α) (c : α → Nat) (k : Int) (l : List α) {i : Nat} (h : i ≤ l.length) : (JW f c k l i).length = l.length:=by
 simp [JW,DK];omega
theorem aat {α : Type} [Inhabited α] (f : Int → α → α) (c : α → Nat) (k : Int) (l : List α) {i : Nat} (h : i < l.length) : (JW f c k l i).getD i default = l.getD i default:=by
 have e : ((Il f c k l).take i).length = i:=by simp [DK];omega
 unfold JW
 rw [List.getD_eq_getElem?_getD,List.getElem?_append_right (by omega),e,Nat.sub_self,List.getElem?_drop,Nat.add_zero,← List.getD_eq_getElem?_getD]
theorem Xp {α : Type} [Inhabited α] (f : Int → α → α) (c : α → Nat) (k : Int) (l : List α) {i : Nat} (h : i < l.length) : (JW f c k l i).set i (f (k + uS c l i) (l.getD i default)) = JW f c k l (i + 1):=by
 have e : ((Il f c k l).take i).length = i:=by simp [DK];omega
 have h2:=U4 f c k l i h
 have h3 : i < (Il f c k l).length:=by rw [DK];exact h
 rw [List.getD_eq_getElem?_getD,List.getElem?_eq_getElem h3] at h2
 unfold JW
 rw [List.set_append_right _ _ (by omega),e,Nat.sub_self,List.drop_eq_getElem_cons h,List.set_cons_zero,← h2]
 have e2 : (Il f c k l).take (i + 1) = (Il f c k l).take i ++ [(Il f c k l)[i]]:=by
  rw [List.take_add_one,List.getElem?_eq_getElem h3];rfl
 rw [e2,List.append_assoc]
 rfl
end Go.Ml
end
section
namespace Go.Ml
theorem KY (g : Nat → Option Nat) : ∀ l : List V,aY.DT g l = l.map (aY g)
 | []=>rfl
 | x :: l=>by simp only [aY.DT,List.map_cons,KY g l]
section
variable {σ σ2 : Store} {m : Nat}
theorem CP {n : Nat} (ih : ∀ v t : V,resolve σ n v = some t → resolve σ2 n (aY (bT m) v) = some t) : ∀ (l l' : List V),l.mapM (resolve σ n) = some l' → (l.map (aY (bT m))).mapM (resolve σ2 n) = some l'
 | [],l',h=>by simpa using h
 |
  x :: l,l',h=>by
  simp only [List.mapM_cons,Option.pure_def,Option.bind_eq_bind,Option.bind_eq_some_iff,List.map_cons] at h ⊢
  obtain ⟨a,ha,b,hb,e⟩:=h
  exact ⟨a,ih x a ha,b,CP ih l b hb,e⟩
theorem NV {n : Nat} (ih : ∀ v t : V,resolve σ n v = some t → resolve σ2 n (aY (bT m) v) = some t) : ∀ (l : List (List V)) (l' : List (List V)),(l.mapM fun (r : List V)=>r.mapM (resolve σ n)) = some l' →
  ((l.map fun r=>r.map (aY (bT m))).mapM fun (r : List V)=>r.mapM (resolve σ2 n)) = some l'
 | [],l',h=>by simpa using h
 |
  x :: l,l',h=>by
  simp only [List.mapM_cons,Option.pure_def,Option.bind_eq_bind,Option.bind_eq_some_iff,List.map_cons] at h ⊢
  obtain ⟨a,ha,b,hb,e⟩:=h
  exact ⟨a,CP ih x a ha,b,NV ih l b hb,e⟩
theorem TI (hs : ∀ o,aj σ2 (m + o) = (aj σ o).map (iH (bT m))) : ∀ (n : Nat) (v t : V),resolve σ n v = some t → resolve σ2 n (aY (bT m) v) = some t
 | 0,_,_,h=>by simp [resolve] at h
 |
  n + 1,v,t,h=>by
  have ih:=TI hs n
  cases v with
  |
   bC o s l =>
   simp only [aY,bT,resolve,hs] at h ⊢
   cases ho : aj σ o with
   | none=>rw [ho] at h;cases h
   |
    some ob =>
    rw [ho] at h
    simp only [Option.map_some,iH,List.length_map] at h ⊢
    split at h
    ·rename_i hl
     rw [if_pos hl]
     obtain ⟨rows,h1,rfl⟩:=Option.map_eq_some_iff.1 h
     rw [Option.map_eq_some_iff]
     refine ⟨rows,?_,rfl⟩
     rw [← List.map_drop,← List.map_take]
     exact NV ih _ _ h1
    ·cases h
  |
   ptr o r off =>
   simp only [aY,bT,resolve,hs] at h ⊢
   cases ho : aj σ o with
   | none=>rw [ho] at h;cases h
   |
    some ob =>
    rw [ho] at h
    simp only [Option.map_some,iH,List.getElem?_map] at h ⊢
    cases hr : ob.rows[r]? with
    | none=>rw [hr] at h;cases h
    |
     some row =>
     rw [hr] at h
     simp only [Option.map_some] at h ⊢
     obtain ⟨row',h1,rfl⟩:=Option.map_eq_some_iff.1 h
     rw [Option.map_eq_some_iff]
     exact ⟨row',CP ih _ _ h1,rfl⟩
  |
   agg cs =>
   simp only [aY,resolve] at h ⊢
   obtain ⟨cs',h1,rfl⟩:=Option.map_eq_some_iff.1 h
   rw [Option.map_eq_some_iff,KY]
   exact ⟨cs',CP ih _ _ h1,rfl⟩
  |
   eF cs =>
   simp only [aY,resolve] at h ⊢
   obtain ⟨cs',h1,rfl⟩:=Option.map_eq_some_iff.1 h
   rw [Option.map_eq_some_iff,KY]
   exact ⟨cs',CP ih _ _ h1,rfl⟩
  | any=>simp [resolve] at h
  | one=>simpa only [aY,resolve] using h
  | int k n=>simpa only [aY,resolve] using h
  | bool b=>simpa only [aY,resolve] using h
  | str b=>simpa only [aY,resolve] using h
  | ak=>simpa only [aY,resolve] using h
  | sl a b=>simpa only [aY,resolve] using h
  | fB a b=>simpa only [aY,resolve] using h
end
def Oo (σ : Store) : List V → List (Bool × V) → List Nat → Prop
 | vs,[],os=>vs = [] ∧ os = []
 | vs,(b,t) :: ts,os=>∃ v vs' o1 o2,vs = v :: vs' ∧ os = o1 ++ o2 ∧ (if b = true then bD σ v t o1 else resolve σ FD v = some t ∧ o1 = []) ∧ Oo σ vs' ts o2
theorem Oo.shift {σ σ2 : Store} {n : Nat} (hs : ∀ o,aj σ2 (n + o) = (aj σ o).map (iH (bT n))) : ∀ {ts : List (Bool × V)} {vs : List V} {os : List Nat},Oo σ vs ts os → Oo σ2 (vs.map (aY (bT n))) ts (os.map (n + ·))
 | [],vs,os,h=>by simp only [Oo] at h ⊢;obtain ⟨rfl,rfl⟩:=h;exact ⟨rfl,rfl⟩
 |
  (b,t) :: ts,vs,os,h=>by
  simp only [Oo] at h ⊢
  obtain ⟨v,vs',o1,o2,rfl,rfl,h1,h2⟩:=h
  refine ⟨_,_,o1.map (n + ·),o2.map (n + ·),rfl,by rw [List.map_append],?_,Oo.shift hs h2⟩
  cases b with
  | true=>simp only [if_true] at h1 ⊢;exact bD.shift hs h1
  |
   false =>
   simp only [Bool.false_eq_true,if_false] at h1 ⊢
   exact ⟨TI hs _ _ _ h1.1,by rw [h1.2];rfl⟩
def PX (T : Tb) (f : Nat) (args : List V) (ts : List (Bool × V)) : Prop:=∃ vs σ' os,Run T (.fn f args []) (.fn (.eF vs) σ') ∧ Oo σ' vs ts os ∧ os.Nodup
structure U5 (σ σ2 : Store) (vs : List V) (ts : List (Bool × V)) (os : List Nat) : Prop where
 ow : Oo σ2 vs ts os
 nd : os.Nodup
 fresh : ∀ o ∈ os,σ.length ≤ o
 old : ∀ o,o < σ.length → aj σ2 o = aj σ o
 len : σ.length ≤ σ2.length
theorem Nb {T : Tb} {f : Nat} {as : List Src} {dst : Option Nat} {env : Nat → V} {σ : Store} {kp bs : Nat} {rs ms : List Nat} {k : St → Prop} {as' : List V} {ts : List (Bool × V)} (h : PX T f as' ts)
  (ha : EC env σ as (· = as')) (hr : dh env σ as = []) (hk : ∀ vs σ2 os,U5 σ σ2 vs ts os → k ⟨dV env dst (.eF vs),σ2,kp,bs,rs,ms⟩) : Jz T f as dst ⟨env,σ,kp,bs,rs,ms⟩ k:=by
 obtain ⟨vs,σ',os,h1,h2,h3⟩:=h
 obtain ⟨as2,e,rfl⟩:=qE ha
 refine ⟨_,.own e h1 (R:=[]) (by split;rfl;exact hr.symm),?_⟩
 have key : ∀ o,aj (ru (cZ σ []) σ') (σ.length + o) = (aj σ' o).map (iH (bT σ.length)):=by
  intro o
  show aj (ru σ σ') _ = _
  rw [iM,if_neg (by omega)]
  congr 2;omega
 have:=hk (vs.map (aY (bT σ.length))) (ru (cZ σ []) σ') (os.map (σ.length + ·)) ⟨h2.shift key,?_,?_,?_,?_⟩
 ·simpa only [aY,KY] using this
 ·exact List.pairwise_map.2 (h3.imp fun hne e=>hne (by omega))
 ·intro o ho
  obtain ⟨q,_,rfl⟩:=List.mem_map.1 ho
  omega
 ·intro o ho
  show aj (ru σ σ') _ = _
  rw [iM,if_pos ho]
 ·simp [ru,cZ]
theorem U5.of1 {σ σ2 : Store} {vs : List V} {t u : V} {os : List Nat} (g : U5 σ σ2 vs [(true,t),(false,u)] os) : ∃ v w,vs = [v,w] ∧ resolve σ2 FD w = some u ∧ Got σ σ2 v t os:=by
 obtain ⟨v,vs',o1,o2,rfl,rfl,h1,h2⟩:=(by simpa only [Oo] using g.ow : ∃ v vs' o1 o2,_)
 obtain ⟨w,vs2,o3,o4,rfl,rfl,h3,h4⟩:=h2
 obtain ⟨rfl,rfl⟩:=h4
 simp only [if_true,Bool.false_eq_true,if_false] at h1 h3
 obtain ⟨h3,rfl⟩:=h3
 refine ⟨v,w,rfl,h3,⟨by simpa using h1,g.nd,g.fresh,g.old,g.len⟩⟩
theorem U5.fo {σ σ2 : Store} {vs : List V} {t u b : V} {os : List Nat} (g : U5 σ σ2 vs [(false,u),(true,t),(false,b)] os) : ∃ w v z,vs = [w,v,z] ∧ resolve σ2 FD w = some u ∧ resolve σ2 FD z = some b ∧ Got σ σ2 v t os:=by
 obtain ⟨w,vs',o1,o2,rfl,rfl,h1,h2⟩:=(by simpa only [Oo] using g.ow : ∃ v vs' o1 o2,_)
 obtain ⟨v,vs2,o3,o4,rfl,rfl,h3,h4⟩:=h2
 obtain ⟨z,vs3,o5,o6,rfl,rfl,h5,h6⟩:=h4
 obtain ⟨rfl,rfl⟩:=h6
 simp only [if_true,Bool.false_eq_true,if_false] at h1 h3 h5
 obtain ⟨h1,rfl⟩:=h1
 obtain ⟨h5,rfl⟩:=h5
 refine ⟨w,v,z,rfl,h1,h5,⟨by simpa using h3,g.nd,g.fresh,g.old,g.len⟩⟩
theorem wJ {σ : Store} {z : V} {b : Bool} (h : resolve σ FD z = some (.bool b)) : z = .bool b:=by
 rw [show FD = 11 + 1 from rfl] at h
 cases z with
 | bool c=>simpa [resolve] using h
 |
  bC o s l =>
  rw [resolve] at h
  cases ho : aj σ o with
  | none=>simp only [ho] at h;cases h
  |
   some ob =>
   simp only [ho] at h
   by_cases hl : s + l ≤ ob.rows.length
   ·rw [if_pos hl] at h
    obtain ⟨_,_,e⟩:=Option.map_eq_some_iff.1 h
    cases e
   ·rw [if_neg hl] at h;cases h
 |
  ptr o r off =>
  rw [resolve] at h
  cases ho : aj σ o with
  | none=>simp only [ho] at h;cases h
  |
   some ob =>
   simp only [ho] at h
   cases hr : ob.rows[r]? with
   | none=>simp only [hr] at h;cases h
   |
    some row =>
    simp only [hr] at h
    obtain ⟨_,_,e⟩:=Option.map_eq_some_iff.1 h
    cases e
 |
  agg cs =>
  rw [resolve] at h
  obtain ⟨_,_,e⟩:=Option.map_eq_some_iff.1 h
  cases e
 |
  eF cs =>
  rw [resolve] at h
  obtain ⟨_,_,e⟩:=Option.map_eq_some_iff.1 h
  cases e
 | any=>rw [resolve] at h;cases h
 | one=>rw [resolve] at h <;> simp_all
 | int k n=>rw [resolve] at h <;> simp_all
 | str n=>rw [resolve] at h <;> simp_all
 | ak=>rw [resolve] at h <;> simp_all
 | sl k n=>rw [resolve] at h <;> simp_all
 | fB k n=>rw [resolve] at h <;> simp_all
def Zg (σ : Store) (r : V) (ts : List (Bool × V)) : Prop:=∃ vs os,bQ (.eF vs) r ∧ Oo σ vs ts os ∧ os.Nodup
theorem iO {T : Tb} {f : Nat} {as : List Src} {dst : Option Nat} {env : Nat → V} {σ : Store} {kp bs : Nat} {rs ms : List Nat} {k : List Nat → List Nat → Bool → St → Prop} {as' : List V} {t : V} (h : PO T f as' t)
  (ha : EC env σ as (· = as')) (hr : dh env σ as = []) (hk : ∀ r σ2 os,Got σ σ2 r t os → k [] [] true ⟨dV env dst r,σ2,kp,bs,rs,ms⟩) : YE T f as dst ⟨env,σ,kp,bs,rs,ms⟩ k :=
 KU h ha fun r σ2 os g=>by rw [hr];exact hk r σ2 os g
theorem Got.as9 {σ σ2 : Store} {r t u : V} {b : Bool} {os : List Nat} (g : Got σ σ2 r (.eF [t,u,.bool b]) os) : ∃ v w,r = .eF [v,w,.bool b] ∧ Got σ σ2 (.agg [v,w]) (.agg [t,u]) os:=by
 obtain ⟨cs,rfl,h⟩:=g.ow.aao
 obtain ⟨v,vs,o1,o2,rfl,rfl,h1,h2⟩:=h.inv
 obtain ⟨w,vs,o3,o4,rfl,rfl,h3,h4⟩:=h2.inv
 obtain ⟨vs,rfl,h5⟩:=h4.sJ
 obtain ⟨rfl,rfl⟩:=h5.DJ
 exact ⟨v,w,rfl,fD (jh h1 (by simpa using jh h3 iq)),g.nd,g.fresh,g.old,g.len⟩
theorem Xq {σ : Store} {b : Bool} : Fin σ (.bool b) (.bool b):=rF (os:=[]) (by simp [bD]) .nil
end Go.Ml
end
section
namespace Go.Ml
theorem OM (n : Nat) (q : IntKind) (k : Int) : eU (n + 1) (.int q k):=by simp [eU]
theorem sN (n : Nat) (b : Bool) : eU (n + 1) (.bool b):=by simp [eU]
theorem au (n : Nat) (l : List Int) : eU (n + 2) (ints l):=by
 simp only [eU]
 intro r hr c hc
 simp only [aN,List.mem_map] at hr
 obtain ⟨x,_,rfl⟩:=hr
 simp only [List.mem_cons,List.not_mem_nil,or_false] at hc
 subst hc;simp [eU]
theorem ael {α : Type} {f : α → List V} {n k : Nat} {l : List α} (h : ∀ x,∀ c ∈ f x,eU n c) : eU (n + 1) (.sl k (l.map f)):=by
 simp only [eU]
 intro r hr c hc
 obtain ⟨x,_,rfl⟩:=List.mem_map.1 hr
 exact h x c hc
theorem U6 {n : Nat} {cs : List V} (h : ∀ c ∈ cs,eU n c) : eU (n + 1) (.agg cs):=by simpa only [eU] using h
theorem akC (n : Nat) (x : R) : ∀ c ∈ x.cells,eU (n + 2) c:=by
 simp only [List.forall_mem_cons];exact ⟨sN _ _,au _ _,au _ _,by simp⟩
theorem aiF (n : Nat) (x : Lk) : ∀ c ∈ x.cells,eU (n + 2) c:=by
 simp only [List.forall_mem_cons];exact ⟨OM _ _ _,OM _ _ _,sN _ _,au _ _,au _ _,sN _ _,au _ _,au _ _,sN _ _,au _ _,au _ _,by simp⟩
theorem aon (n : Nat) (x : Pa) : ∀ c ∈ x.cells,eU (n + 2) c:=by
 simp only [List.forall_mem_cons];exact ⟨OM _ _ _,sN _ _,au _ _,au _ _,sN _ _,au _ _,au _ _,sN _ _,au _ _,au _ _,by simp⟩
theorem bI (n : Nat) (l : List Lk) : eU (n + 3) (bf l):=ael fun x=>aiF n x
theorem jy (n : Nat) (l : List Pa) : eU (n + 3) (dZ l):=ael fun x=>aon n x
theorem ahu (n : Nat) (x : R) : eU (n + 3) (aU x):=U6 (akC n x)
theorem akD (n : Nat) (x : Lk) : eU (n + 3) (IL x):=U6 (aiF n x)
theorem aoo (n : Nat) (x : Cd) : ∀ c ∈ x.cells,eU (n + 3) c:=by
 simp only [List.forall_mem_cons];exact ⟨OM _ _ _,sN _ _,au _ _,au _ _,jy _ _,by simp⟩
theorem akE (n : Nat) (x : Cd) : eU (n + 4) (Hg x):=U6 (aoo n x)
theorem aem {n : Nat} {a b c d : V} (h1 : eU n a) (h2 : eU n b) (h3 : eU n c) (h4 : eU n d) : eU (n + 1) (.eF [a,b,c,d]):=by
 simp only [eU,List.forall_mem_cons];exact ⟨h1,h2,h3,h4,by simp⟩
structure Grow (s : Store) (v : V) (sz : Nat) (A ts : List (List V)) : Prop where
 ex : ∃ os,kG s A ts os ∧ os.Nodup ∧ ((A = [] ∧ v = .ak) ∨ ∃ o,v = .bC o 0 A.length ∧ aj s o = some ⟨sz,A⟩ ∧ o ∉ os)
section
variable {s s1 σ2 S : Store} {v : V} {sz : Nat} {A ts : List (List V)}
theorem aen : Grow s .ak sz [] []:=⟨[],by simp [kG],.nil,.inl ⟨rfl,rfl⟩⟩
theorem Grow.len (h : Grow s v sz A ts) : A.length = ts.length:=by obtain ⟨os,a,_⟩:=h.ex;exact a.len
theorem Grow.cases (h : Grow s v sz A ts) : (A = [] ∧ ts = [] ∧ v = .ak) ∨ ∃ o,v = .bC o 0 A.length ∧ aj s o = some ⟨sz,A⟩ ∧ o < s.length:=by
 have hl:=h.len
 obtain ⟨os,a,b,c⟩:=h.ex
 rcases c with ⟨rfl,rfl⟩ | ⟨o,rfl,h1,h2⟩
 ·exact .inl ⟨rfl,List.eq_nil_of_length_eq_zero (by simpa using hl.symm),rfl⟩
 ·exact .inr ⟨o,rfl,h1,aJ h1⟩
theorem Grow.frame (h : Grow s v sz A ts) (f : ∀ o,o < s.length → aj S o = aj s o) : Grow S v sz A ts:=by
 obtain ⟨os,a,b,c⟩:=h.ex
 refine ⟨os,a.frame fun q hq=>f q (a.lt q hq),b,?_⟩
 rcases c with c | ⟨o,rfl,h1,h2⟩
 ·exact .inl c
 ·exact .inr ⟨o,rfl,(f o (aJ h1)).trans h1,h2⟩
theorem Grow.fin (h : Grow s v sz A ts) : Fin s v (.sl sz ts):=by
 have hl:=h.len
 obtain ⟨os,a,b,c⟩:=h.ex
 rcases c with ⟨rfl,rfl⟩ | ⟨o,rfl,h1,h2⟩
 ·have : ts = []:=List.eq_nil_of_length_eq_zero (by simpa using hl.symm)
  subst this;exact U0
 ·rw [hl]
  refine rF (os:=o :: os) ?_ (List.nodup_cons.2 ⟨h2,b⟩)
  simp only [bD]
  exact .inr ⟨o,A,os,rfl,h1,rfl,a⟩
theorem Grow.app {cs tcs : List V} {os2 : List Nat} {id2 : Nat} (h : Grow s v sz A ts) (hs : ∀ o,o < s.length → aj s1 o = aj s o) (hl : s.length ≤ s1.length) (g : Got s1 σ2 (.agg cs) (.agg tcs) os2)
  (h0 : s.length ≤ id2) (hid : id2 < s1.length) (h2 : aj S id2 = some ⟨sz,A ++ [cs]⟩)
  (hf : ∀ q,q ≠ id2 → (q < s.length ∨ s1.length ≤ q) → (∀ n,v ≠ .bC q 0 n) → aj S q = aj σ2 q) : Grow S (.bC id2 0 (A.length + 1)) sz (A ++ [cs]) (ts ++ [tcs]):=by
 obtain ⟨os,a,b,c⟩:=h.ex
 have a':=a.frame (σ':=σ2) fun q hq=>by
  have:=a.lt q hq
  rw [g.old q (by omega),hs q this]
 obtain ⟨cs',e,hc⟩:=g.ow.bP
 cases e
 have hlt:=a.lt
 have hv : ∀ q ∈ os ++ os2,∀ n,v ≠ .bC q 0 n:=by
  intro q hq n
  rcases c with ⟨_,rfl⟩ | ⟨o,rfl,h1,h2⟩
  ·simp
  ·intro e
   have e2 : o = q:=by injection e
   rw [e2] at h1 h2
   rcases List.mem_append.1 hq with hq | hq
   ·exact h2 hq
   ·have:=g.fresh q hq
    have:=aJ h1
    omega
 have hne : ∀ q ∈ os ++ os2,q ≠ id2 ∧ (q < s.length ∨ s1.length ≤ q):=by
  intro q hq
  rcases List.mem_append.1 hq with hq | hq
  ·have:=hlt q hq;exact ⟨by omega,by omega⟩
  ·have:=g.fresh q hq;exact ⟨by omega,by omega⟩
 have fr : ∀ q ∈ os ++ os2,aj S q = aj σ2 q:=fun q hq=>hf q (hne q hq).1 (hne q hq).2 (hv q hq)
 refine ⟨os ++ os2,CG (a'.frame fun q hq=>fr q (List.mem_append_left _ hq)) (aaq (hc.frame fun q hq=>fr q (List.mem_append_right _ hq))),?_,.inr ⟨id2,by simp,h2,fun hm=>(hne id2 hm).1 rfl⟩⟩
 rw [List.nodup_append]
 refine ⟨b,g.nd,fun x hx y hy e=>?_⟩
 have:=hlt x hx
 have:=g.fresh y hy
 omega
theorem eY {s t : Store} {o : Nat} (h : o < s.length) : aj (s ++ t) o = aj s o:=by
 unfold aj;rw [List.getElem?_append_left h]
theorem Grow.ata {cs tcs : List V} {os2 : List Nat} {id1 id2 : Nat} {x : Option Obj} (h : Grow s .ak sz [] ts) (hs : ∀ o,o < s.length → aj s1 o = aj s o) (hl : s.length ≤ s1.length) (g : Got s1 σ2 (.agg cs) (.agg tcs) os2)
  (h0 : s.length ≤ id1) (h1 : id1 < s1.length) (h2 : s.length ≤ id2) (h3 : id2 < s1.length) (hne : id1 ≠ id2) : Grow ((σ2.set id1 x).set id2 (some ⟨sz,[cs]⟩)) (.bC id2 0 1) sz [cs] (ts ++ [tcs]):=by
 have hlen:=g.len
 refine h.app hs hl g h2 h3 (aX (by simp;omega)) fun q hq hr _=>?_
 rw [aH hq,aH (by omega)]
theorem Grow.atb {cs tcs : List V} {os2 : List Nat} {id1 id2 o : Nat} {x : Option Obj} (h : Grow s (.bC o 0 A.length) sz A ts) (hs : ∀ o,o < s.length → aj s1 o = aj s o) (hl : s.length ≤ s1.length) (g : Got s1 σ2 (.agg cs) (.agg tcs) os2)
  (h0 : s.length ≤ id1) (h1 : id1 < s1.length) (h2 : s.length ≤ id2) (h3 : id2 < s1.length) (hne : id1 ≠ id2) :
  Grow (((σ2.set id1 x).set o none).set id2 (some ⟨sz,A ++ [cs]⟩)) (.bC id2 0 (A.length + 1)) sz (A ++ [cs]) (ts ++ [tcs]):=by
 have hlen:=g.len
 refine h.app hs hl g h2 h3 (aX (by simp;omega)) fun q hq hr hv=>?_
 rw [aH hq,aH (fun e=>hv A.length (by rw [e])),aH (by omega)]
end
theorem Got.Zh {s σ2 : Store} {r t : V} {os : List Nat} (g : Got s σ2 r t os) {o : Nat} {x : Option Obj} (h : o < s.length) : Fin (σ2.set o x) r t :=
 rF (g.ow.frame fun q hq=>aH (by have:=g.fresh q hq;omega)) g.nd
theorem aeo {c : Prop} [Decidable c] {a b : Prop} (h1 : c = True → a) (h2 : c = False → b) : Yj (decide c) a b:=aG (fun h=>h1 (eq_true h)) fun h=>h2 (eq_false h)
theorem OO : dO []:=fun r hr=>by cases hr
theorem KZ {r : List V} {rs : List (List V)} : dO (r :: rs) ↔ (∀ v ∈ r,v.still = true) ∧ dO rs:=by simp [dO]
theorem OQ {a b : List (List V)} : dO (a ++ b) ↔ dO a ∧ dO b:=by
 unfold dO
 constructor
 ·exact fun h=>⟨fun r hr=>h r (List.mem_append_left _ hr),fun r hr=>h r (List.mem_append_right _ hr)⟩
 ·intro h r hr
  rcases List.mem_append.1 hr with k | k
  ·exact h.1 r k
  ·exact h.2 r k
theorem aep (x : Lk) : ∀ v ∈ x.cells,v.still = true:=fun v hv=>vw [x] _ (by simp) v hv
theorem aer (x : Pa) : ∀ v ∈ x.cells,v.still = true:=fun v hv=>Ig [x] _ (by simp) v hv
end Go.Ml
end
section
namespace Go.Ml
structure Ep (s : Store) (cs ts : List V) (os : List Nat) (L : List (Nat × Obj)) : Prop where
 c : Cs s cs ts os
 l : ∀ q ∈ L,aj s q.1 = some q.2 ∧ q.1 ∉ os
section
variable {s σ2 : Store} {cs ts : List V} {os os2 : List Nat} {L : List (Nat × Obj)}
theorem Ep.lt (E : Ep s cs ts os L) : ∀ q ∈ L,q.1 < s.length:=fun q hq=>aJ (E.l q hq).1
theorem Ep.snoc (E : Ep s cs ts os L) {x : Option Obj} : Ep (s ++ [x]) cs ts os L:=⟨E.c.snoc,fun q hq=>⟨(aO (E.lt q hq)).trans (E.l q hq).1,(E.l q hq).2⟩⟩
theorem Ep.res (E : Ep s cs ts os L) (c : Nat) {v t : V} (hv : cs[c]? = some v) (ht : ts[c]? = some t) (hd : eU FD t) : resolve s FD v = some t:=E.c.res c hv ht hd
theorem Ep.res1 (E : Ep s cs ts os L) (c : Nat) {v t : V} (hv : cs[c]? = some v) (ht : ts[c]? = some t) (hd : eU 11 t) : resolve s 11 v = some t:=by
 obtain ⟨vc,oc,j1,j2,_⟩:=E.c.ow.focus c t E.c.nd ht
 rw [hv] at j1
 cases j1
 exact JU 11 j2 hd
theorem Ep.leaf (E : Ep s cs ts os L) (c : Nat) {v t : V} (hv : cs[c]? = some v) (ht : ts[c]? = some t) (hl : t.leaf = true:=by rfl) : v.leaf = true:=by
 obtain ⟨vc,oc,j1,j2,_⟩:=E.c.ow.focus c t E.c.nd ht
 rw [hv] at j1
 cases j1
 exact j2.leaf hl
theorem Ep.got {s1 : Store} {rs trs : List V} (E : Ep s cs ts os L) (h1 : ∀ o,o < s.length → aj s1 o = aj s o) (hl : s.length ≤ s1.length) (ho : dY σ2 rs trs os2) (hn : os2.Nodup) (hf : ∀ o ∈ os2,s1.length ≤ o)
  (old : ∀ o,o < s1.length → aj σ2 o = aj s1 o) : Ep σ2 (cs ++ rs) (ts ++ trs) (os ++ os2) L:=by
 have hlt:=E.c.lt
 refine ⟨⟨dB (E.c.ow.frame fun q hq=>?_) ho,?_⟩,fun q hq=>⟨?_,?_⟩⟩
 ·have:=hlt q hq
  rw [old q (by omega),h1 q this]
 ·rw [List.nodup_append]
  refine ⟨E.c.nd,hn,fun x hx y hy e=>?_⟩
  have:=hlt x hx
  have:=hf y hy
  omega
 ·have:=E.lt q hq
  rw [old _ (by omega),h1 _ this];exact (E.l q hq).1
 ·intro hm
  have:=E.lt q hq
  rcases List.mem_append.1 hm with hm | hm
  ·exact (E.l q hq).2 hm
  ·have:=hf _ hm;omega
theorem Ep.free {s1 : Store} (E : Ep s cs ts os L) {p : Nat} (hf : ∀ o ∈ os2,s1.length ≤ o) (h0 : s.length ≤ p) (h1 : p < s1.length) : p ∉ os ++ os2:=by
 intro hm
 rcases List.mem_append.1 hm with hm | hm
 ·have:=E.c.lt p hm;omega
 ·have:=hf p hm;omega
theorem Ep.call {T : Tb} {f : Nat} {t t' v : V} {k k' : Int} (E : Ep s cs ts os L) (c : Nat) (hm : Mk T f t k t' k') (hv : cs[c]? = some v) (ht : ts[c]? = some t) :
  ∃ s',Run T (.fn f [v,.int .i64 k] s) (.fn (.int .i64 k') s') ∧ Ep s' cs (ts.set c t') os L ∧ s.length ≤ s'.length:=by
 obtain ⟨s',h1,h2,h3⟩:=E.c.call c hm hv ht
 exact ⟨s',h1,⟨h2,fun q hq=>⟨(h3.old _ (E.lt q hq) (E.l q hq).2).trans (E.l q hq).1,(E.l q hq).2⟩⟩,h3.len⟩
theorem Ep.part {T : Tb} {f : Nat} {t2 t2' r2 : List V} {k k' : Int} (E : Ep s cs ts os L) (n m : Nat) (hm : Mk T f (.agg t2) k (.agg t2') k') (hr : (cs.drop n).take m = r2) (ht : (ts.drop n).take m = t2) (hn : n + m ≤ ts.length) :
  ∃ s',Run T (.fn f [.agg r2,.int .i64 k] s) (.fn (.int .i64 k') s') ∧ Ep s' cs (ts.take n ++ t2' ++ ts.drop (n + m)) os L ∧ s.length ≤ s'.length:=by
 obtain ⟨s',h1,h2,h3⟩:=E.c.part n m hm ht hn
 rw [hr] at h1
 exact ⟨s',h1,⟨h2,fun q hq=>⟨(h3.old _ (E.lt q hq) (E.l q hq).2).trans (E.l q hq).1,(E.l q hq).2⟩⟩,h3.len⟩
theorem Ep.at0 {p : Nat} {ob : Obj} (E : Ep s cs ts os L) (h : (p,ob) ∈ L) : aj s p = some ob ∧ p < s.length:=⟨(E.l _ h).1,E.lt _ h⟩
end
section
variable {σ : Store} {os : List Nat}
theorem dY.rat {cs : List V} {x : R} (h : dY σ cs x.cells os) : ∃ c1 c2,cs = [.bool x.neg,c1,c2]:=by
 obtain ⟨cs,rfl,h1⟩:=h.sJ
 match cs,h1.len with
 | [a,b],_=>exact ⟨a,b,rfl⟩
theorem dY.lk {cs : List V} {x : Lk} (h : dY σ cs x.cells os) : ∃ c3 c4 c6 c7 c9 c10,cs = [iv x.a,iv x.b,.bool x.w.neg,c3,c4,.bool x.dx.neg,c6,c7,.bool x.dy.neg,c9,c10]:=by
 obtain ⟨cs,rfl,h1⟩:=h.U1
 obtain ⟨cs,rfl,h2⟩:=h1.U1
 obtain ⟨cs,rfl,h3⟩:=h2.sJ
 obtain ⟨a,cs,_,_,rfl,rfl,_,h4⟩:=h3.inv
 obtain ⟨b,cs,_,_,rfl,rfl,_,h5⟩:=h4.inv
 obtain ⟨cs,rfl,h6⟩:=h5.sJ
 obtain ⟨c,cs,_,_,rfl,rfl,_,h7⟩:=h6.inv
 obtain ⟨d,cs,_,_,rfl,rfl,_,h8⟩:=h7.inv
 obtain ⟨cs,rfl,h9⟩:=h8.sJ
 match cs,h9.len with
 | [e,f],_=>exact ⟨a,b,c,d,e,f,rfl⟩
theorem dY.cd {cs : List V} {x : Cd} (h : dY σ cs x.cells os) : ∃ c2 c3 c4,cs = [iv x.node,.bool x.total.neg,c2,c3,c4]:=by
 obtain ⟨cs,rfl,h1⟩:=h.U1
 obtain ⟨cs,rfl,h2⟩:=h1.sJ
 match cs,h2.len with
 | [a,b,c],_=>exact ⟨a,b,c,rfl⟩
theorem dY.tr {cs : List V} {x : List Tn} (h : dY σ cs [asX x] os) : ∃ c0,cs = [c0]:=by
 match cs,h.len with
 | [a],_=>exact ⟨a,rfl⟩
theorem TJ {v t : V} (h : bD σ v t os) : dY σ [v] [t] os:=by simpa using jh h iq
end
end Go.Ml
namespace Go.Ml
theorem aB (l : List Nat) (k : List Nat → Prop) : KD l k = k l:=nr rfl
theorem aS (p : Prop) : (p ∨ True) = True:=by simp
theorem Ep.EW {s : Store} {cs ts : List V} {os : List Nat} {L L' : List (Nat × Obj)} {p : Nat} {ob : Obj} (E : Ep s cs ts os L) (hp : p ∉ os) (hl : p < s.length) (h : ∀ q ∈ L',(q.1 ≠ p ∧ q ∈ L) ∨ q = (p,ob)) :
  Ep (s.set p (some ob)) cs ts os L':=by
 refine ⟨E.c.set hp,fun q hq=>?_⟩
 rcases h q hq with ⟨h1,h2⟩ | rfl
 ·exact ⟨(aH h1).trans (E.l q h2).1,(E.l q h2).2⟩
 ·exact ⟨aX hl,hp⟩
end Go.Ml
namespace Go.Ml
def sh (n0 n x : Nat) : Nat:=if x < n0 then x else x + (n - n0)
theorem aop {n0 n x y : Nat} : sh n0 n x < sh n0 n y ↔ x < y:=by
 unfold sh;split <;> split <;> omega
theorem aiG {n0 n x y : Nat} : sh n0 n x = sh n0 n y ↔ x = y:=by
 unfold sh;split <;> split <;> omega
def Rq (n0 n : Nat) (a : Acc) : Acc:=⟨a.i,a.R.map (sh n0 n),a.W.map (sh n0 n),a.n⟩
theorem Xr {n0 n : Nat} (l : List Nat) (p : Nat) : (l.map (sh n0 n)).contains (sh n0 n p) = l.contains p:=by
 rw [Bool.eq_iff_iff,List.contains_iff_mem,List.contains_iff_mem,List.mem_map]
 constructor
 ·rintro ⟨q,h1,h2⟩
  rw [aiG.1 h2] at h1;exact h1
 ·exact fun h=>⟨p,h,rfl⟩
theorem Xt {n0 n L : Nat} (a b : Acc) : rC (sh n0 n L) (Rq n0 n a) (Rq n0 n b) = rC L a b:=by
 unfold rC Rq
 simp only [List.all_map,Function.comp_def]
 simp only [aop]
theorem aeu {n0 n L : Nat} (d e : fP) (a b : Acc) : lD (sh n0 n L) d e (Rq n0 n a) (Rq n0 n b) = lD L d e a b:=by
 unfold lD
 rw [Xt,Xt]
 simp only [Rq,List.all_map,Function.comp_def]
 simp only [Xr]
 congr 6
 ·congr 1
  funext p
  congr 2
  funext q
  rw [bne,bne]
  congr 1
  rw [Bool.eq_iff_iff,beq_iff_eq,beq_iff_eq];exact aiG
theorem aev {n0 n L : Nat} {B : Nat → List Nat} {ops : List fP} : ∀ l : List Acc,okA (sh n0 n L) B ops (l.map (Rq n0 n)) = okA L B ops l
 | []=>rfl
 |
  a :: l=>by
  simp only [List.map_cons,okA,List.all_map,Function.comp_def]
  rw [aev l]
  congr 2
  funext b
  have h1 : (Rq n0 n a).i = a.i:=rfl
  have h2 : (Rq n0 n b).i = b.i:=rfl
  rw [aeu,h1,h2]
theorem abP {ops : List fP} {LF : Nat → Nat} {aF : Nat → List Acc} (n0 n : Nat) (hL : LF n = sh n0 n (LF n0)) (ha : aF n = (aF n0).map (Rq n0 n)) (hk : jl (LF n0) ops (aF n0)) : jl (LF n) ops (aF n):=by
 unfold jl at hk ⊢
 rw [hL,ha,← List.map_reverse,aev]
 exact hk
end Go.Ml
namespace Go.Ml
theorem qo {ops : List fP} (LF : Nat → Nat) (aF : Nat → List Acc) (n0 : Nat) (hL : ∀ n,n0 ≤ n → LF n = sh n0 n (LF n0)) (ha : ∀ n,n0 ≤ n → aF n = (aF n0).map (Rq n0 n)) (hk : jl (LF n0) ops (aF n0)) :
  ∀ n,n0 ≤ n → jl (LF n) ops (aF n):=fun n h=>abP n0 n (hL n h) (ha n h) hk
end Go.Ml
end
